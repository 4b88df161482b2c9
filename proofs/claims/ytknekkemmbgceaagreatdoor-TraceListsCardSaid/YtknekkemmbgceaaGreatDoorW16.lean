/- Contracts of functions of the program, walked: c_runes_escaped, c_unicode_utf8_decodeRuneInStringSlow. By an AI agent. -/
import Derived.Test.YtknekkemmbgceaaGreatDoorW15
import Derived.Test.YtknekkemmbgceaaGreatDoorSp
set_option linter.all false
/-! W16 -/
namespace Go.Aw
open Go.RowKit Go.Proofs
private theorem ar119 : arrF Pr 119 = some (256, 5, 1) := by kernel_rfl
private theorem ar122 : arrF Pr 122 = some (16, 121, 2) := by kernel_rfl
private theorem f121_0 : fldF Pr 121 0 = some (0, 1, false) := by kernel_rfl
private theorem f121_1 : fldF Pr 121 1 = some (1, 1, false) := by kernel_rfl
private theorem i21 : Pr.underlying 21 = some (.int .i32) := by kernel_rfl
private theorem i3 : Pr.underlying 3 = some (.int .i64) := by kernel_rfl
private theorem i5 : Pr.underlying 5 = some (.int .u8) := by kernel_rfl
private theorem s9 : Pr.underlying 9 = some .string := by kernel_rfl
private theorem t121 : tyF Pr 121 = some (2, true) := by kernel_rfl
private theorem t5 : tyF Pr 5 = some (1, false) := by kernel_rfl
private theorem zo121 : ZeroOk Pr 121 [.d (.int .u8 0), .d (.int .u8 0)] := ⟨.agg #[.int .u8 0, .int .u8 0], fun _ => by kernel_rfl, fun μ ρ => (rcc zi (rcc zi rcn)), by simp [Value.cells, Value.oneCell']⟩
theorem glb : Glb Pr = [(0, firstTab.map (Value.int .u8)), (1, acceptTab.map (Value.int .u8))] := by kernel_rfl
theorem gin0 : (0, firstTab.map (Value.int .u8)) ∈ [(0, firstTab.map (Value.int .u8)), (1, acceptTab.map (Value.int .u8))] := List.mem_cons_self
theorem gin1 : (1, acceptTab.map (Value.int .u8)) ∈ [(0, firstTab.map (Value.int .u8)), (1, acceptTab.map (Value.int .u8))] := List.mem_cons_of_mem _ List.mem_cons_self

set_option maxRecDepth 20000 in
theorem c_runes_escaped (b : Nat) (hb : b < 256) : Pure Pr 40 [.int .u8 (b : Nat)] (.str (escS b)) := by
  have h1 := hiV hb
  have h2 := incU (q := b / 16) (by omega)
  have h3 := loVb hb
  have h4 := incU (q := b % 16) (by omega)
  have hf : figs.size = 16 := rfl
  refine pure_of Tryz.func40 (by kernel_rfl) rfl Tryz.ntmps40 (by simp) fun w μ => ?_
  refine ok_seq ?_
  refine ok_region rfl ?_
  refine k (asg gs) ?_
  refine ok_end (ok_then ?_)
  refine ok_seq ?_
  refine ok_draw [3, 4, 5, 6, 7, 8, 9, 10, 11, 12, 13, 14, 15, 16, 2] rfl (by kernel_rfl) ?_
  refine dr (mv (g rfl)) ?_
  refine dr (sh (g rfl) gi (by decide)) ?_
  refine dr (mv (g rfl)) ?_
  refine dr (sh (g rfl) gi (by decide)) ?_
  refine dr (bn (g rfl) gi rfl) ?_
  refine dr (sst gs s9 (sb1 (g rfl) h1) (sb1 (g rfl) ((congrArg (fun z => IntKind.u8.wrap (z + 1)) h1).trans h2)) (show b / 16 ≤ b / 16 + 1 by omega) (show b / 16 + 1 ≤ figs.size by omega)) ?_
  refine dr (ct gs (g rfl) (esz1 _)) ?_
  refine dr (mv (g rfl)) ?_
  refine dr (bt (g rfl) gi rfl) ?_
  refine dr (mv (g rfl)) ?_
  refine dr (bt (g rfl) gi rfl) ?_
  refine dr (bn (g rfl) gi rfl) ?_
  refine dr (sst gs s9 (sb1 (g rfl) h3) (sb1 (g rfl) ((congrArg (fun z => IntKind.u8.wrap (z + 1)) h3).trans h4)) (show b % 16 ≤ b % 16 + 1 by omega) (show b % 16 + 1 ≤ figs.size by omega)) ?_
  refine dr (ct (g rfl) (g rfl) (esz2 _ _)) ?_
  refine dr (asg (g rfl)) ?_
  refine draw_end mixed (ok_then ?_)
  exact ok_ret (ret_tmp rfl rfl rfl)

set_option maxRecDepth 20000 in
theorem c_unicode_utf8_decodeRuneInStringSlow (s : ByteArray) : Pure Pr 69 [.str s] (.tup [.int .i32 (slowR s).1, I (slowR s).2]) := by
  have hb := byt_lt s 0
  obtain ⟨hf0, hf1, hf2⟩ := fT_okb hb
  have hq : (fT (byt s 0)).toNat / 16 < 16 := by omega
  have hx : (fT (byt s 0)).fdiv (2 ^ (min (4 : Int).toNat IntKind.u8.bits)) = (((fT (byt s 0)).toNat / 16 : Nat) : Int) := by
    have h := hiV (b := (fT (byt s 0)).toNat) (by omega)
    rw [Int.toNat_of_nonneg hf0] at h; exact h
  refine pure_of Tryz.func69 (by kernel_rfl) rfl Tryz.ntmps69 (by simp) fun w μ => ?_
  refine ok_seq ?_
  refine ok_region rfl ?_
  refine k (asg gi) ?_
  refine k (asg gi) ?_
  refine ok_end (ok_then ?_)
  refine ok_seq ?_
  refine ok_region rfl ?_
  refine k (mv (g rfl)) ?_
  refine k (ls (g rfl) s9) ?_
  refine k (asg (g rfl)) ?_
  refine ok_end (ok_then ?_)
  refine ok_seq ?_
  refine ok_seq ?_
  refine ok_region rfl ?_
  refine k (mv (g rfl)) ?_
  refine k (bn (g rfl) gi rfl) ?_
  refine ok_end (ok_then ?_)
  refine ok_cond (g rfl) (fun h1 => ?_) (fun h1 => ?_)
  · refine ok_seq ?_
    refine ok_region rfl ?_
    refine k (asg gi) ?_
    refine k (asg gi) ?_
    refine ok_end (ok_then ?_)
    exact ok_ret (ok_then_ret (ret_2 rfl (.tmp rfl) (.tmp rfl) (by rw [slowR, h1]; rfl)))
  · have hs0 : 0 < s.size := by simp at h1; omega
    refine ok_skip (ok_then ?_)
    refine ok_seq ?_
    refine ok_region rfl ?_
    refine k (mv (g rfl)) ?_
    refine k (ixsB (g rfl) gi s9 rfl hs0) ?_
    refine k (asg (g rfl)) ?_
    refine ok_end (ok_then ?_)
    refine ok_seq ?_
    refine ok_region rfl ?_
    refine k (mv (g rfl)) ?_
    refine k (ixg glb gin0 (g rfl) ar119 rfl hb) ?_
    refine k (lr (g rfl) t5 (f_at hb)) ?_
    refine k (asg (g rfl)) ?_
    refine ok_end (ok_then ?_)
    refine ok_seq ?_
    refine ok_seq ?_
    refine ok_region rfl ?_
    refine k (mv (g rfl)) ?_
    refine k (bn (g rfl) gi rfl) ?_
    refine ok_end (ok_then ?_)
    refine ok_cond (g rfl) (fun h2 => ?_) (fun h2 => ?_)
    · refine ok_seq ?_
      refine ok_region rfl ?_
      refine k (mv (g rfl)) ?_
      refine k (cvi (g rfl) i5 i21) ?_
      refine k (shL (g rfl) gi (by decide)) ?_
      refine k (sh (g rfl) gi (by decide)) ?_
      refine k (asg (g rfl)) ?_
      refine ok_end (ok_then ?_)
      refine ok_seq ?_
      refine ok_region rfl ?_
      refine k (mv (g rfl)) ?_
      refine k (ixsB (g rfl) gi s9 rfl hs0) ?_
      refine k (cvi (g rfl) i5 i21) ?_
      refine k (mv (g rfl)) ?_
      refine k (bt (g rfl) (g rfl) rfl) ?_
      refine k (mv (g rfl)) ?_
      refine k (bt gi (g rfl) rfl) ?_
      refine k (bt (g rfl) (g rfl) rfl) ?_
      refine k (asg (g rfl)) ?_
      refine k (asg gi) ?_
      refine ok_end (ok_then ?_)
      exact ok_ret (ok_then_ret (ret_2 rfl (.tmp rfl) (.tmp rfl) (by rw [slowR, h1, h2]; rfl)))
    · have h240 : fT (byt s 0) < 240 := by simp at h2; exact h2
      obtain ⟨hs2, hs4⟩ := hf2 h240
      have hcv : bitI .and .u8 (fT (byt s 0)) 7 = bitI .and .u8 (fT (byt s 0)) 7 := rfl
      refine ok_skip (ok_then ?_)
      refine ok_seq ?_
      refine ok_region rfl ?_
      refine k (mv (g rfl)) ?_
      refine k (bt (g rfl) gi rfl) ?_
      refine k (cvi (g rfl) i5 i3) ?_
      refine k (asg (g rfl)) ?_
      refine ok_end (ok_then ?_)
      refine ok_seq ?_
      refine ok_region rfl ?_
      refine k (mv (g rfl)) ?_
      refine k (sh (g rfl) gi (by decide)) ?_
      refine k (ixg glb gin1 (g rfl) ar122 hx hq) ?_
      refine k (lRn (g rfl) t121 (a_len hq) (a_at hq)) ?_
      refine kal (n := 0) zo121 rfl ?_
      refine kst (g rfl) (g rfl) t121 rfl rfl rfl rfl ?_
      refine ok_end (ok_then ?_)
      refine ok_seq ?_
      refine ok_seq ?_
      refine ok_region rfl ?_
      refine k (mv (g rfl)) ?_
      refine k (mv (g rfl)) ?_
      refine k (bn (g rfl) (g rfl) rfl) ?_
      refine ok_end (ok_then ?_)
      refine ok_cond (g rfl) (fun h3 => ?_) (fun h3 => ?_)
      · refine ok_seq ?_
        refine ok_region rfl ?_
        refine k (asg gi) ?_
        refine k (asg gi) ?_
        refine ok_end (ok_then ?_)
        exact ok_ret (ok_then_ret (ret_2 rfl (.tmp rfl) (.tmp rfl) (by rw [slowR, h1, h2, h3]; rfl)))
      · have hn : (IntKind.i64.wrap (bitI .and .u8 (fT (byt s 0)) 7)) ≤ (s.size : Int) := by simpa using h3
        have hn2 : (2 : Int) ≤ (s.size : Int) := Int.le_trans hs2 hn
        refine ok_skip (ok_then ?_)
        refine ok_seq ?_
        refine ok_region rfl ?_
        refine k (mv (g rfl)) ?_
        refine k (ixsB (g rfl) gi s9 rfl (show 1 < s.size by omega)) ?_
        refine k (asg (g rfl)) ?_
        refine ok_end (ok_then ?_)
        refine ok_seq ?_
        refine ok_seq ?_
        refine ok_region rfl ?_
        refine k (mv (g rfl)) ?_
        refine k (fb (g rfl) f121_0) ?_
        refine k (lb (g rfl) t5 rfl rfl) ?_
        refine k (bn (g rfl) (g rfl) rfl) ?_
        refine k (mv (g rfl)) ?_
        refine kg rfl rfl rfl (fun hg => fb (g rfl) f121_1) ?_
        refine kg rfl rfl rfl (fun hg => lb (go rfl hg) t5 rfl rfl) ?_
        refine kg rfl rfl rfl (fun hg => mv (g rfl)) ?_
        refine kg rfl rfl rfl (fun hg => bn (go rfl hg) (go rfl hg) rfl) ?_
        refine k (orr (g rfl) (fun h => (go rfl (by rw [h]; rfl)))) ?_
        refine ok_end (ok_then ?_)
        refine ok_cond (g rfl) (fun h4 => ?_) (fun h4 => ?_)
        · refine ok_seq ?_
          refine ok_region rfl ?_
          refine k (asg gi) ?_
          refine k (asg gi) ?_
          refine ok_end (ok_then ?_)
          exact ok_ret (ok_then_ret (ret_2 rfl (.tmp rfl) (.tmp rfl) (by rw [slowR, h1, h2, h3, h4]; rfl)))
        · refine ok_skip (ok_then ?_)
          refine ok_seq ?_
          refine ok_seq ?_
          refine ok_region rfl ?_
          refine k (mv (g rfl)) ?_
          refine k (bn (g rfl) gi rfl) ?_
          refine ok_end (ok_then ?_)
          refine ok_cond (g rfl) (fun h5 => ?_) (fun h5 => ?_)
          · refine ok_seq ?_
            refine ok_region rfl ?_
            refine k (mv (g rfl)) ?_
            refine k (bt (g rfl) gi rfl) ?_
            refine k (cvi (g rfl) i5 i21) ?_
            refine k (shL (g rfl) gi (by decide)) ?_
            refine k (mv (g rfl)) ?_
            refine k (bt (g rfl) gi rfl) ?_
            refine k (cvi (g rfl) i5 i21) ?_
            refine k (bt (g rfl) (g rfl) rfl) ?_
            refine k (asg (g rfl)) ?_
            refine k (asg gi) ?_
            refine ok_end (ok_then ?_)
            exact ok_ret (ok_then_ret (ret_2 rfl (.tmp rfl) (.tmp rfl) (by rw [slowR, h1, h2, h3, h4, h5]; rfl)))
          · have h3s : (3 : Int) ≤ (s.size : Int) := le3 (by simpa using h5) hn
            refine ok_skip (ok_then ?_)
            refine ok_seq ?_
            refine ok_region rfl ?_
            refine k (mv (g rfl)) ?_
            refine k (ixsB (g rfl) gi s9 rfl (show 2 < s.size by omega)) ?_
            refine k (asg (g rfl)) ?_
            refine ok_end (ok_then ?_)
            refine ok_seq ?_
            refine ok_seq ?_
            refine ok_region rfl ?_
            refine k (mv (g rfl)) ?_
            refine k (bn (g rfl) gi rfl) ?_
            refine k (mv (g rfl)) ?_
            refine kg rfl rfl rfl (fun hg => mv (g rfl)) ?_
            refine kg rfl rfl rfl (fun hg => bn gi (go rfl hg) rfl) ?_
            refine k (orr (g rfl) (fun h => (go rfl (by rw [h]; rfl)))) ?_
            refine ok_end (ok_then ?_)
            refine ok_cond (g rfl) (fun h6 => ?_) (fun h6 => ?_)
            · refine ok_seq ?_
              refine ok_region rfl ?_
              refine k (asg gi) ?_
              refine k (asg gi) ?_
              refine ok_end (ok_then ?_)
              exact ok_ret (ok_then_ret (ret_2 rfl (.tmp rfl) (.tmp rfl) (by rw [slowR, h1, h2, h3, h4, h5, h6]; rfl)))
            · refine ok_skip (ok_then ?_)
              refine ok_seq ?_
              refine ok_seq ?_
              refine ok_region rfl ?_
              refine k (mv (g rfl)) ?_
              refine k (bn (g rfl) gi rfl) ?_
              refine ok_end (ok_then ?_)
              refine ok_cond (g rfl) (fun h7 => ?_) (fun h7 => ?_)
              · refine ok_seq ?_
                refine ok_region rfl ?_
                refine k (mv (g rfl)) ?_
                refine k (bt (g rfl) gi rfl) ?_
                refine k (cvi (g rfl) i5 i21) ?_
                refine k (shL (g rfl) gi (by decide)) ?_
                refine k (mv (g rfl)) ?_
                refine k (bt (g rfl) gi rfl) ?_
                refine k (cvi (g rfl) i5 i21) ?_
                refine k (shL (g rfl) gi (by decide)) ?_
                refine k (bt (g rfl) (g rfl) rfl) ?_
                refine k (mv (g rfl)) ?_
                refine k (bt (g rfl) gi rfl) ?_
                refine k (cvi (g rfl) i5 i21) ?_
                refine k (bt (g rfl) (g rfl) rfl) ?_
                refine k (asg (g rfl)) ?_
                refine k (asg gi) ?_
                refine ok_end (ok_then ?_)
                exact ok_ret (ok_then_ret (ret_2 rfl (.tmp rfl) (.tmp rfl) (by rw [slowR, h1, h2, h3, h4, h5, h6, h7]; rfl)))
              · have h4s : (4 : Int) ≤ (s.size : Int) := le4 (by simpa using h7) hn
                refine ok_skip (ok_then ?_)
                refine ok_seq ?_
                refine ok_region rfl ?_
                refine k (mv (g rfl)) ?_
                refine k (ixsB (g rfl) gi s9 rfl (show 3 < s.size by omega)) ?_
                refine k (asg (g rfl)) ?_
                refine ok_end (ok_then ?_)
                refine ok_seq ?_
                refine ok_seq ?_
                refine ok_region rfl ?_
                refine k (mv (g rfl)) ?_
                refine k (bn (g rfl) gi rfl) ?_
                refine k (mv (g rfl)) ?_
                refine kg rfl rfl rfl (fun hg => mv (g rfl)) ?_
                refine kg rfl rfl rfl (fun hg => bn gi (go rfl hg) rfl) ?_
                refine k (orr (g rfl) (fun h => (go rfl (by rw [h]; rfl)))) ?_
                refine ok_end (ok_then ?_)
                refine ok_cond (g rfl) (fun h8 => ?_) (fun h8 => ?_)
                · refine ok_seq ?_
                  refine ok_region rfl ?_
                  refine k (asg gi) ?_
                  refine k (asg gi) ?_
                  refine ok_end (ok_then ?_)
                  exact ok_ret (ok_then_ret (ret_2 rfl (.tmp rfl) (.tmp rfl) (by rw [slowR, h1, h2, h3, h4, h5, h6, h7, h8]; rfl)))
                · refine ok_skip (ok_then ?_)
                  refine ok_seq ?_
                  refine ok_region rfl ?_
                  refine k (mv (g rfl)) ?_
                  refine k (bt (g rfl) gi rfl) ?_
                  refine k (cvi (g rfl) i5 i21) ?_
                  refine k (shL (g rfl) gi (by decide)) ?_
                  refine k (mv (g rfl)) ?_
                  refine k (bt (g rfl) gi rfl) ?_
                  refine k (cvi (g rfl) i5 i21) ?_
                  refine k (shL (g rfl) gi (by decide)) ?_
                  refine k (bt (g rfl) (g rfl) rfl) ?_
                  refine k (mv (g rfl)) ?_
                  refine k (bt (g rfl) gi rfl) ?_
                  refine k (cvi (g rfl) i5 i21) ?_
                  refine k (shL (g rfl) gi (by decide)) ?_
                  refine k (bt (g rfl) (g rfl) rfl) ?_
                  refine k (mv (g rfl)) ?_
                  refine k (bt (g rfl) gi rfl) ?_
                  refine k (cvi (g rfl) i5 i21) ?_
                  refine k (bt (g rfl) (g rfl) rfl) ?_
                  refine k (asg (g rfl)) ?_
                  refine k (asg gi) ?_
                  refine ok_end (ok_then ?_)
                  exact ok_ret (ret_2 rfl (.tmp rfl) (.tmp rfl) (by rw [slowR, h1, h2, h3, h4, h5, h6, h7, h8]; rfl))
end Go.Aw
