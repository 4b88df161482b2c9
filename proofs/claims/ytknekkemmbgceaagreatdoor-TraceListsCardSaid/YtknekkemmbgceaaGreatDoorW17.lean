/- Contracts of functions of the program, walked: c_unicode_utf8_DecodeRuneInString, c_runes_bad, c_runes_Key, c_runes_Val, c_runes_Quote. By an AI agent. -/
import Derived.Test.YtknekkemmbgceaaGreatDoorW16
set_option linter.all false
/-! W17 -/
namespace Go.Aw
open Go.RowKit Go.Proofs
private theorem i21 : Pr.underlying 21 = some (.int .i32) := by kernel_rfl
private theorem i5 : Pr.underlying 5 = some (.int .u8) := by kernel_rfl
private theorem s9 : Pr.underlying 9 = some .string := by kernel_rfl
private theorem sm21 : (Pr.underlying 21).isSome = true := by kernel_rfl
theorem rnext {s : ByteArray} {p : Nat × Int → Bool} {l r : List (Nat × Int)} {x : Nat × Int} (hz : (runesOf s).any p = l.any p) (he : l = x :: r) (h : p x = false) : (runesOf s).any p = r.any p := by
  rw [hz, he]; simp [h]
theorem anyT {s : ByteArray} {p : Nat × Int → Bool} {l r : List (Nat × Int)} {x : Nat × Int} (hz : (runesOf s).any p = l.any p) (he : l = x :: r) (h : p x = true) : (runesOf s).any p = true := by
  rw [hz, he]; simp [h]
theorem q1 {s out : ByteArray} {i : Nat} {r : Int} (h : ((badR s i r || decide (r < 32)) || r == 127) = true) : quoteR s out (i, r) = out ++ escS (byt s i) := by rw [quoteR, h]; rfl
theorem q2 {s out : ByteArray} {i : Nat} {r : Int} (h : ((badR s i r || decide (r < 32)) || r == 127) = false) (h2 : (r == 34 || r == 92) = true) : quoteR s out (i, r) = out ++ ((⟨#[92]⟩ : ByteArray) ++ Utf8.encode r) := by rw [quoteR, h, h2]; rfl
theorem q3 {s out : ByteArray} {i : Nat} {r : Int} (h : ((badR s i r || decide (r < 32)) || r == 127) = false) (h2 : (r == 34 || r == 92) = false) : quoteR s out (i, r) = out ++ Utf8.encode r := by rw [quoteR, h, h2]; rfl
theorem qnext {s : ByteArray} {l r : List (Nat × Int)} {x : Nat × Int} {out R : ByteArray} (hz : l.foldl (quoteR s) out = R) (he : l = x :: r) : r.foldl (quoteR s) (quoteR s out x) = R := by
  rw [← hz, he]; rfl
theorem qsz {s out : ByteArray} {f f' : Nat} {x : Nat × Int} (h : out.size + 5 * f ≤ 1 + 5 * s.size) (hf : f = f' + 1) : (quoteR s out x).size + 5 * f' ≤ 1 + 5 * s.size := by
  have := quoteR_size s out x; omega

set_option maxRecDepth 20000 in
theorem c_unicode_utf8_DecodeRuneInString (s : ByteArray) : Pure Pr 46 [.str s] (.tup [.int .i32 (decR s).1, I (decR s).2]) := by
  refine pure_of Tryz.func46 (by kernel_rfl) rfl Tryz.ntmps46 (by simp) fun w μ => ?_
  refine ok_seq ?_
  refine ok_region rfl ?_
  refine k (asg gi) ?_
  refine k (asg gi) ?_
  refine ok_end (ok_then ?_)
  refine ok_seq ?_
  refine ok_seq ?_
  refine ok_region rfl ?_
  refine k (mv (g rfl)) ?_
  refine k (bn (g rfl) gs rfl) ?_
  refine k (mv (g rfl)) ?_
  refine kg rfl rfl rfl (fun hg => mv (g rfl)) ?_
  refine kg rfl rfl rfl (fun hg => ixsB (go rfl hg) gi s9 rfl (ne_nil (by simpa using hg))) ?_
  refine kg rfl rfl rfl (fun hg => bn (go rfl hg) gi rfl) ?_
  refine k (an (g rfl) (fun h => (go rfl (by rw [h]; rfl)))) ?_
  refine ok_end (ok_then ?_)
  refine ok_cond (g rfl) (fun h1 => ?_) (fun h1 => ?_)
  · refine ok_seq ?_
    refine ok_region rfl ?_
    refine k (mv (g rfl)) ?_
    refine k (ixsB (g rfl) gi s9 rfl (ne_nil (Bool.and_eq_true_iff.1 h1).1)) ?_
    refine k (cvi (g rfl) i5 i21) ?_
    refine k (asg (g rfl)) ?_
    refine k (asg gi) ?_
    refine ok_end (ok_then ?_)
    exact ok_ret (ok_then_ret (ret_2 rfl (.tmp rfl) (.tmp rfl) (by rw [decR, h1]; rfl)))
  · refine ok_region rfl ?_
    refine k (mv (g rfl)) ?_
    refine k (cl (a1 (g rfl) rfl a0) (c_unicode_utf8_decodeRuneInStringSlow _)) ?_
    refine k (mv (g rfl)) ?_
    refine k (ex (g rfl) rfl) ?_
    refine k (ex (g rfl) rfl) ?_
    refine k (asg (g rfl)) ?_
    refine k (asg (g rfl)) ?_
    refine ok_end (ok_then ?_)
    exact ok_ret (ret_2 rfl (.tmp rfl) (.tmp rfl) (by rw [decR, h1]; rfl))

set_option maxRecDepth 20000 in
theorem c_runes_bad (s : ByteArray) (i : Nat) (r : Int) (hi : i ≤ s.size) : Pure Pr 39 [.str s, I (i : Nat), .int .i32 r] (.bool (badR s i r)) := by
  refine pure_of Tryz.func39 (by kernel_rfl) rfl Tryz.ntmps39 (by simp) fun w μ => ?_
  refine ok_seq ?_
  refine ok_region rfl ?_
  refine k (asg gb) ?_
  refine ok_end (ok_then ?_)
  refine ok_seq ?_
  refine ok_seq ?_
  refine ok_region rfl ?_
  refine k (mv (g rfl)) ?_
  refine k (bn (g rfl) gi rfl) ?_
  refine ok_end (ok_then ?_)
  refine ok_cond (g rfl) (fun h1 => ?_) (fun h1 => ?_)
  · refine ok_seq ?_
    refine ok_region rfl ?_
    refine k (asg gb) ?_
    refine ok_end (ok_then ?_)
    exact ok_ret (ok_then_ret (ret_tmp rfl rfl (by rw [badR, h1]; rfl)))
  · refine ok_skip (ok_then ?_)
    refine ok_seq ?_
    refine ok_region rfl ?_
    refine k (mv (g rfl)) ?_
    refine k (mv (g rfl)) ?_
    refine k (sst (g rfl) s9 (sb1 (g rfl) rfl) sb0 hi (Nat.le_refl _)) ?_
    refine k (cl (a1 (g rfl) rfl a0) (c_unicode_utf8_DecodeRuneInString (s.extract i s.size))) ?_
    refine k (mv (g rfl)) ?_
    refine k (ex (g rfl) rfl) ?_
    refine k (ex (g rfl) rfl) ?_
    refine k (asg (g rfl)) ?_
    refine k (asg (g rfl)) ?_
    refine ok_end (ok_then ?_)
    refine ok_seq ?_
    refine ok_region rfl ?_
    refine k (mv (g rfl)) ?_
    refine k (bn (g rfl) gi rfl) ?_
    refine k (asg (g rfl)) ?_
    refine ok_end (ok_then ?_)
    exact ok_ret (ret_tmp rfl rfl (by rw [badR, h1]; rfl))

set_option maxRecDepth 20000 in
theorem c_runes_Key (s : ByteArray) : Pure Pr 48 [.str s] (.bool (keyOk s)) := by
  refine pure_of Tryz.func48 (by kernel_rfl) rfl Tryz.ntmps48 (by simp) fun w μ => ?_
  refine ok_seq ?_
  refine ok_region rfl ?_
  refine k (asg gb) ?_
  refine ok_end (ok_then ?_)
  refine ok_seq ?_
  refine ok_seq ?_
  refine ok_region rfl ?_
  refine k (mv (g rfl)) ?_
  refine k (bn (g rfl) gs rfl) ?_
  refine k (mv (g rfl)) ?_
  refine kg rfl rfl rfl (fun hg => mv (g rfl)) ?_
  refine kg rfl rfl rfl (fun hg => ls (go rfl hg) s9) ?_
  refine kg rfl rfl rfl (fun hg => bn (go rfl hg) gi rfl) ?_
  refine k (orr (g rfl) (fun h => (go rfl (by rw [h]; rfl)))) ?_
  refine ok_end (ok_then ?_)
  refine ok_cond (g rfl) (fun h1 => ?_) (fun h1 => ?_)
  · refine ok_seq ?_
    refine ok_region rfl ?_
    refine k (asg gb) ?_
    refine ok_end (ok_then ?_)
    exact ok_ret (ok_then_ret (ret_tmp rfl rfl (by rw [keyOk, h1]; rfl)))
  · refine ok_skip (ok_then ?_)
    refine ok_seq ?_
    refine ok_seq ?_
    refine ok_region rfl ?_
    refine k (mv (g rfl)) ?_
    refine ke (rng (n := 0) (g rfl) s9 rfl) ?_
    refine ok_end (ok_then ?_)
    refine ok_block ?_
    refine ok_loop (ι := { x : Nat × Nat // s.size ≤ x.2 + x.1 ∧ (runesOf s).any (fun x => badR s x.1 x.2 || !partR x.2 ((x.1 : Int) == 0)) = (runesFrom s x.1 x.2).any (fun x => badR s x.1 x.2 || !partR x.2 ((x.1 : Int) == 0)) }) 1 (fun i => i.1.1) (fun i => (keepB 1 [0, 13] _)) (fun i => [.raw none (.stringIter s i.1.2)]) ⟨(s.size, 0), Nat.le_add_left _ _, rfl⟩ le_keep_self eb_keep rfl rfl rfl ?_
    rintro ⟨⟨f, pos⟩, hf, hz⟩
    have hf : s.size ≤ pos + f := hf
    have hz : (runesOf s).any (fun x => badR s x.1 x.2 || !partR x.2 ((x.1 : Int) == 0)) = (runesFrom s f pos).any (fun x => badR s x.1 x.2 || !partR x.2 ((x.1 : Int) == 0)) := hz
    refine ok_seq ?_
    refine ok_region rfl ?_
    refine ke (nxt (g rfl) rfl) ?_
    refine k (ex (g rfl) nx0) ?_
    refine ok_end (ok_then ?_)
    refine ok_seq ?_
    refine ok_cond (g rfl) (fun h2 => ?_) (fun h2 => ?_)
    · obtain ⟨f', hff, he, hf'⟩ := runes_step (s := s) (f := f) (pos := pos) h2 hf
      have hpos : pos < s.size := of_decide_eq_true h2
      refine ok_skip (ok_then ?_)
      refine ok_block ?_
      refine ok_seq ?_
      refine ok_region rfl ?_
      refine k (ex (g rfl) (nx1 h2)) ?_
      refine k (ex (g rfl) (nx2 h2)) ?_
      refine k (asg (g rfl)) ?_
      refine k (asg (g rfl)) ?_
      refine ok_end (ok_then ?_)
      refine ok_seq ?_
      refine ok_region rfl ?_
      refine k (mv (g rfl)) ?_
      refine k (mv (g rfl)) ?_
      refine k (mv (g rfl)) ?_
      refine k (cl (a1 (g rfl) rfl (a1 (g rfl) rfl (a1 (g rfl) rfl a0))) (c_runes_bad s pos _ (Nat.le_of_lt hpos))) ?_
      refine k (mv (g rfl)) ?_
      refine kg rfl rfl rfl (fun hg => mv (g rfl)) ?_
      refine kg rfl rfl rfl (fun hg => mv (g rfl)) ?_
      refine kg rfl rfl rfl (fun hg => bn (go rfl hg) gi rfl) ?_
      refine kg rfl rfl rfl (fun hg => cl (a1 (go rfl hg) rfl (a1 (go rfl hg) rfl a0)) (c_runes_part _ _)) ?_
      refine kg rfl rfl rfl (fun hg => nt (go rfl hg)) ?_
      refine k (orr (g rfl) (fun h => (go rfl (by rw [h]; rfl)))) ?_
      refine ok_end (ok_then ?_)
      refine ok_cond (g rfl) (fun h3 => ?_) (fun h3 => ?_)
      · refine ok_seq ?_
        refine ok_region rfl ?_
        refine k (asg gb) ?_
        refine ok_end (ok_then ?_)
        exact ok_ret (ok_inBlock_ret (ok_then_ret (ok_inBlock_ret (ok_then_ret (ret_tmp rfl rfl (by rw [keyOk, h1, anyT hz he h3]; rfl))))))
      · exact ok_skip (ok_inBlock_normal (ok_round 1 ⟨(f', pos + (Utf8.decode s pos).2), hf', rnext hz he h3⟩ (by show f' < f; omega) (le_keep ⟨rfl, rfl, trivial⟩) eb_keep (congrArg (fun z => [AO.raw none (.stringIter s z)]) (if_pos hpos)) rfl rfl))
    · rw [runes_end (s := s) (f := f) (pos := pos) h2] at hz
      refine ok_exit (ok_then_exit (ok_then_exit (ok_inBlock_exit (ok_then ?_))))
      refine ok_seq ?_
      refine ok_region rfl ?_
      refine k (asg gb) ?_
      refine ok_end (ok_then ?_)
      exact ok_ret (ret_tmp rfl rfl (by rw [keyOk, h1, hz]; rfl))

set_option maxRecDepth 20000 in
theorem c_runes_Val (s : ByteArray) : Pure Pr 50 [.str s] (.bool (valOk s)) := by
  refine pure_of Tryz.func50 (by kernel_rfl) rfl Tryz.ntmps50 (by simp) fun w μ => ?_
  refine ok_seq ?_
  refine ok_region rfl ?_
  refine k (asg gb) ?_
  refine ok_end (ok_then ?_)
  refine ok_seq ?_
  refine ok_seq ?_
  refine ok_region rfl ?_
  refine k (mv (g rfl)) ?_
  refine k (ls (g rfl) s9) ?_
  refine k (bn (g rfl) gi rfl) ?_
  refine ok_end (ok_then ?_)
  refine ok_cond (g rfl) (fun h1 => ?_) (fun h1 => ?_)
  · refine ok_seq ?_
    refine ok_region rfl ?_
    refine k (asg gb) ?_
    refine ok_end (ok_then ?_)
    exact ok_ret (ok_then_ret (ret_tmp rfl rfl (by rw [valOk, h1]; rfl)))
  · refine ok_skip (ok_then ?_)
    refine ok_seq ?_
    refine ok_seq ?_
    refine ok_region rfl ?_
    refine k (mv (g rfl)) ?_
    refine ke (rng (n := 0) (g rfl) s9 rfl) ?_
    refine ok_end (ok_then ?_)
    refine ok_block ?_
    refine ok_loop (ι := { x : Nat × Nat // s.size ≤ x.2 + x.1 ∧ (runesOf s).any (fun x => badR s x.1 x.2) = (runesFrom s x.1 x.2).any (fun x => badR s x.1 x.2) }) 1 (fun i => i.1.1) (fun i => (keepB 1 [0, 9] _)) (fun i => [.raw none (.stringIter s i.1.2)]) ⟨(s.size, 0), Nat.le_add_left _ _, rfl⟩ le_keep_self eb_keep rfl rfl rfl ?_
    rintro ⟨⟨f, pos⟩, hf, hz⟩
    have hf : s.size ≤ pos + f := hf
    have hz : (runesOf s).any (fun x => badR s x.1 x.2) = (runesFrom s f pos).any (fun x => badR s x.1 x.2) := hz
    refine ok_seq ?_
    refine ok_region rfl ?_
    refine ke (nxt (g rfl) rfl) ?_
    refine k (ex (g rfl) nx0) ?_
    refine ok_end (ok_then ?_)
    refine ok_seq ?_
    refine ok_cond (g rfl) (fun h2 => ?_) (fun h2 => ?_)
    · obtain ⟨f', hff, he, hf'⟩ := runes_step (s := s) (f := f) (pos := pos) h2 hf
      have hpos : pos < s.size := of_decide_eq_true h2
      refine ok_skip (ok_then ?_)
      refine ok_block ?_
      refine ok_seq ?_
      refine ok_region rfl ?_
      refine k (ex (g rfl) (nx1 h2)) ?_
      refine k (ex (g rfl) (nx2 h2)) ?_
      refine k (asg (g rfl)) ?_
      refine k (asg (g rfl)) ?_
      refine ok_end (ok_then ?_)
      refine ok_seq ?_
      refine ok_region rfl ?_
      refine k (mv (g rfl)) ?_
      refine k (mv (g rfl)) ?_
      refine k (mv (g rfl)) ?_
      refine k (cl (a1 (g rfl) rfl (a1 (g rfl) rfl (a1 (g rfl) rfl a0))) (c_runes_bad s pos _ (Nat.le_of_lt hpos))) ?_
      refine ok_end (ok_then ?_)
      refine ok_cond (g rfl) (fun h3 => ?_) (fun h3 => ?_)
      · refine ok_seq ?_
        refine ok_region rfl ?_
        refine k (asg gb) ?_
        refine ok_end (ok_then ?_)
        exact ok_ret (ok_inBlock_ret (ok_then_ret (ok_inBlock_ret (ok_then_ret (ret_tmp rfl rfl (by rw [valOk, h1, anyT hz he h3]; rfl))))))
      · exact ok_skip (ok_inBlock_normal (ok_round 1 ⟨(f', pos + (Utf8.decode s pos).2), hf', rnext hz he h3⟩ (by show f' < f; omega) (le_keep ⟨rfl, rfl, trivial⟩) eb_keep (congrArg (fun z => [AO.raw none (.stringIter s z)]) (if_pos hpos)) rfl rfl))
    · rw [runes_end (s := s) (f := f) (pos := pos) h2] at hz
      refine ok_exit (ok_then_exit (ok_then_exit (ok_inBlock_exit (ok_then ?_))))
      refine ok_seq ?_
      refine ok_region rfl ?_
      refine k (asg gb) ?_
      refine ok_end (ok_then ?_)
      exact ok_ret (ret_tmp rfl rfl (by rw [valOk, h1, hz]; rfl))

set_option maxRecDepth 20000 in
theorem c_runes_Quote (s : ByteArray) (hs : s.size ≤ 1000000000000) : Pure Pr 25 [.str s] (.str (quoteS s)) := by
  refine pure_of Tryz.func25 (by kernel_rfl) rfl Tryz.ntmps25 (by simp) fun w μ => ?_
  refine ok_seq ?_
  refine ok_region rfl ?_
  refine k (asg gs) ?_
  refine ok_end (ok_then ?_)
  refine ok_seq ?_
  refine ok_region rfl ?_
  refine k (asg gs) ?_
  refine ok_end (ok_then ?_)
  refine ok_seq ?_
  refine ok_seq ?_
  refine ok_region rfl ?_
  refine k (mv (g rfl)) ?_
  refine ke (rng (n := 0) (g rfl) s9 rfl) ?_
  refine ok_end (ok_then ?_)
  refine ok_block ?_
  refine ok_loop (ι := { x : (Nat × Nat) × ByteArray // s.size ≤ x.1.2 + x.1.1 ∧ (runesFrom s x.1.1 x.1.2).foldl (quoteR s) x.2 = (runesOf s).foldl (quoteR s) ⟨#[34]⟩ ∧ x.2.size + 5 * x.1.1 ≤ 1 + 5 * s.size }) 1 (fun i => i.1.1.1) (fun i => (upd 3 (.d (.str i.1.2)) (keepB 1 [0, 7] _))) (fun i => [.raw none (.stringIter s i.1.1.2)]) ⟨((s.size, 0), ⟨#[34]⟩), Nat.le_add_left _ _, rfl, Nat.le_refl _⟩ (le_upd rfl le_keep_self) (eb_upd rfl eb_keep) rfl rfl rfl ?_
  rintro ⟨⟨⟨f, pos⟩, out⟩, hf, hz, hsz⟩
  have hf : s.size ≤ pos + f := hf
  have hz : (runesFrom s f pos).foldl (quoteR s) out = (runesOf s).foldl (quoteR s) ⟨#[34]⟩ := hz
  have hsz : out.size + 5 * f ≤ 1 + 5 * s.size := hsz
  refine ok_seq ?_
  refine ok_region rfl ?_
  refine ke (nxt (g rfl) rfl) ?_
  refine k (ex (g rfl) nx0) ?_
  refine ok_end (ok_then ?_)
  refine ok_seq ?_
  refine ok_cond (g rfl) (fun h1 => ?_) (fun h1 => ?_)
  · obtain ⟨f', hff, he, hf'⟩ := runes_step (s := s) (f := f) (pos := pos) h1 hf
    have hpos : pos < s.size := of_decide_eq_true h1
    have hso : out.size ≤ 5000000000001 := by omega
    have hen := enc_size ((Utf8.decode s pos).1 : Int)
    have hes := escS_size (byt s pos)
    have h92 : (⟨#[92]⟩ : ByteArray).size = 1 := rfl
    refine ok_skip (ok_then ?_)
    refine ok_block ?_
    refine ok_seq ?_
    refine ok_region rfl ?_
    refine k (ex (g rfl) (nx1 h1)) ?_
    refine k (ex (g rfl) (nx2 h1)) ?_
    refine k (asg (g rfl)) ?_
    refine k (asg (g rfl)) ?_
    refine ok_end (ok_then ?_)
    refine ok_block ?_
    refine ok_seq ?_
    refine ok_region rfl ?_
    refine k (mv (g rfl)) ?_
    refine k (mv (g rfl)) ?_
    refine k (mv (g rfl)) ?_
    refine k (cl (a1 (g rfl) rfl (a1 (g rfl) rfl (a1 (g rfl) rfl a0))) (c_runes_bad s pos _ (Nat.le_of_lt hpos))) ?_
    refine k (mv (g rfl)) ?_
    refine kg rfl rfl rfl (fun hg => mv (g rfl)) ?_
    refine kg rfl rfl rfl (fun hg => bn (go rfl hg) gi rfl) ?_
    refine k (orr (g rfl) (fun h => (go rfl (by rw [h]; rfl)))) ?_
    refine k (mv (g rfl)) ?_
    refine kg rfl rfl rfl (fun hg => mv (g rfl)) ?_
    refine kg rfl rfl rfl (fun hg => bn (go rfl hg) gi rfl) ?_
    refine k (orr (g rfl) (fun h => (go rfl (by rw [h]; rfl)))) ?_
    refine k (asg (g rfl)) ?_
    refine ok_end (ok_then ?_)
    refine ok_cond (g rfl) (fun h2 => ?_) (fun h2 => ?_)
    · refine ok_region rfl ?_
      refine k (mv (g rfl)) ?_
      refine k (mv (g rfl)) ?_
      refine k (mv (g rfl)) ?_
      refine k (ixsB (g rfl) (g rfl) s9 rfl hpos) ?_
      refine k (cl (a1 (g rfl) rfl a0) (c_runes_escaped (byt s pos) (byt_lt s pos))) ?_
      refine k (ct (g rfl) (g rfl) (show out.size + (escS (byt s pos)).size ≤ _ by omega)) ?_
      refine k (asg (g rfl)) ?_
      exact ok_end (ok_inBlock_normal (ok_inBlock_normal (ok_round 1 ⟨((f', pos + (Utf8.decode s pos).2), quoteR s out (pos, ((Utf8.decode s pos).1 : Int))), hf', qnext hz he, qsz hsz hff⟩ (by show f' < f; omega) (le_upd (congrArg (fun z => some (AV.d (D.str z))) (q1 (s := s) (out := out) (i := pos) h2).symm) (le_keep ⟨by kernel_rfl, by kernel_rfl, trivial⟩)) (eb_upd rfl eb_keep) (congrArg (fun z => [AO.raw none (.stringIter s z)]) (if_pos hpos)) rfl rfl)))
    · have h2 : ((badR s pos ((Utf8.decode s pos).1 : Int) || decide (((Utf8.decode s pos).1 : Int) < 32)) || ((Utf8.decode s pos).1 : Int) == 127) = false := h2
      refine ok_seq ?_
      refine ok_region rfl ?_
      refine k (mv (g rfl)) ?_
      refine k (bn (g rfl) gi rfl) ?_
      refine k (mv (g rfl)) ?_
      refine kg rfl rfl rfl (fun hg => mv (g rfl)) ?_
      refine kg rfl rfl rfl (fun hg => bn (go rfl hg) gi rfl) ?_
      refine k (orr (g rfl) (fun h => (go rfl (by rw [h]; rfl)))) ?_
      refine k (asg (g rfl)) ?_
      refine ok_end (ok_then ?_)
      refine ok_cond (g rfl) (fun h3 => ?_) (fun h3 => ?_)
      · have h3 : (((Utf8.decode s pos).1 : Int) == 34 || ((Utf8.decode s pos).1 : Int) == 92) = true := h3
        refine ok_region rfl ?_
        refine k (mv (g rfl)) ?_
        refine k (mv (g rfl)) ?_
        refine k (cvr (g rfl) sm21 s9) ?_
        refine k (ct gs (g rfl) (show (⟨#[92]⟩ : ByteArray).size + (Utf8.encode ((Utf8.decode s pos).1 : Int)).size ≤ _ by omega)) ?_
        refine k (ct (g rfl) (g rfl) (show out.size + ((⟨#[92]⟩ : ByteArray) ++ Utf8.encode ((Utf8.decode s pos).1 : Int)).size ≤ _ by rw [ByteArray.size_append]; omega)) ?_
        refine k (asg (g rfl)) ?_
        exact ok_end (ok_inBlock_normal (ok_inBlock_normal (ok_round 1 ⟨((f', pos + (Utf8.decode s pos).2), quoteR s out (pos, ((Utf8.decode s pos).1 : Int))), hf', qnext hz he, qsz hsz hff⟩ (by show f' < f; omega) (le_upd (congrArg (fun z => some (AV.d (D.str z))) (q2 (s := s) (out := out) (i := pos) h2 h3).symm) (le_keep ⟨by kernel_rfl, by kernel_rfl, trivial⟩)) (eb_upd rfl eb_keep) (congrArg (fun z => [AO.raw none (.stringIter s z)]) (if_pos hpos)) rfl rfl)))
      · have h3 : (((Utf8.decode s pos).1 : Int) == 34 || ((Utf8.decode s pos).1 : Int) == 92) = false := h3
        refine ok_region rfl ?_
        refine k (mv (g rfl)) ?_
        refine k (mv (g rfl)) ?_
        refine k (cvr (g rfl) sm21 s9) ?_
        refine k (ct (g rfl) (g rfl) (show out.size + (Utf8.encode ((Utf8.decode s pos).1 : Int)).size ≤ _ by omega)) ?_
        refine k (asg (g rfl)) ?_
        exact ok_end (ok_inBlock_normal (ok_inBlock_normal (ok_round 1 ⟨((f', pos + (Utf8.decode s pos).2), quoteR s out (pos, ((Utf8.decode s pos).1 : Int))), hf', qnext hz he, qsz hsz hff⟩ (by show f' < f; omega) (le_upd (congrArg (fun z => some (AV.d (D.str z))) (q3 (s := s) (out := out) (i := pos) h2 h3).symm) (le_keep ⟨by kernel_rfl, by kernel_rfl, trivial⟩)) (eb_upd rfl eb_keep) (congrArg (fun z => [AO.raw none (.stringIter s z)]) (if_pos hpos)) rfl rfl)))
  · rw [runes_end (s := s) (f := f) (pos := pos) h1] at hz
    have hz : out = _ := hz
    have h34 : (⟨#[34]⟩ : ByteArray).size = 1 := rfl
    refine ok_exit (ok_then_exit (ok_then_exit (ok_inBlock_exit (ok_then ?_))))
    refine ok_seq ?_
    refine ok_region rfl ?_
    refine k (mv (g rfl)) ?_
    refine k (ct (g rfl) gs (show out.size + (⟨#[34]⟩ : ByteArray).size ≤ _ by omega)) ?_
    refine k (asg (g rfl)) ?_
    refine ok_end (ok_then ?_)
    exact ok_ret (ret_tmp rfl rfl (congrArg (fun z : ByteArray => some (D.str (z ++ (⟨#[34]⟩ : ByteArray)))) hz))
end Go.Aw
