/- What the functions compute, in plain terms; that a content built anew out of its parts is the same content; ranges over functions; what a reading gives. By an AI agent. -/
import Derived.Test.YtknekkemmbgceaaGreatDoorAwB
import Derived.Test.YtknekkemmbgceaaGreatDoorProg
import Derived.KernelRfl
import Derived.Laws.Bits64
import Derived.Laws.BytesArg
import Derived.Laws.Small
import Derived.Laws.Runes
import Derived.Lib.OthersKept
import Derived.Shelf.SlLaysF0
import Derived.RangeFuncSeq
import Derived.ChangeArms
import Derived.OpenShut
import Derived.DataElems
import GoSem.ClaimJoined
set_option linter.all false
/-! Sp -/
namespace Go.Aw
/-! ### The data -/
structure St where
  phys : Int
  logic : Int
  who : Int
  deriving DecidableEq
def I (n : Int) : D := .int .i64 n
def St.d (s : St) : D := .agg [.int .i64 s.phys, .int .i64 s.logic, .int .i64 s.who]
structure Mu where
  table : Int
  kind : Int
  key : ByteArray
  end_ : ByteArray
  val : ByteArray
  expiry : Int
  at_ : St
  over : List St
def Mu.d (m : Mu) : D := .agg [.int .i64 m.table, .int .i64 m.kind, .str m.key, .str m.end_, .str m.val, .int .i64 m.expiry, .int .i64 m.at_.phys, .int .i64 m.at_.logic, .int .i64 m.at_.who, .list 3 (m.over.map St.d)]
def mus (l : List Mu) : D := .list 10 (l.map Mu.d)
structure Ct where
  cells : List Mu
  wipes : List Mu
  sibs : List Mu
def Ct.d (c : Ct) : D := .agg [mus c.cells, mus c.wipes, mus c.sibs]
structure Ro where
  key : ByteArray
  val : ByteArray
  at_ : St
def Ro.d (r : Ro) : D := .agg [.str r.key, .str r.val, .int .i64 r.at_.phys, .int .i64 r.at_.logic, .int .i64 r.at_.who]

/-! ### cmp -/
def cmpI (a b : Int) : Int := if a < b then -1 else if b < a then 1 else 0
def cmpS (a b : ByteArray) : Int := if sLt a b then -1 else if (!(sLt a b || sEq a b)) then 1 else 0
def orI : List Int → Int
  | [] => 0
  | x :: xs => if x ≠ 0 then x else orI xs
theorem sEq_refl (a : ByteArray) : sEq a a = true := by simp [sEq]
def St.cmp (a b : St) : Int := orI [cmpI a.phys b.phys, cmpI a.logic b.logic, cmpI a.who b.who]
def St.lt (a b : St) : Bool := decide (St.cmp a b < 0)
theorem orI_drop {l : List Int} {k : Nat} (h : k < l.length) (h0 : ∀ j, j < k → l[j]? = some 0) : orI l = orI (l.drop k) := by
  induction k with
  | zero => simp
  | succ k ih =>
    rw [ih (by omega) (fun j hj => h0 j (by omega))]
    have := h0 k (by omega)
    rw [List.drop_eq_getElem_cons (by omega)]
    have e : l[k] = 0 := by simpa [List.getElem?_eq_getElem (show k < l.length by omega)] using this
    simp [orI, e]
end Go.Aw

/-! Pg -/
namespace Go.Aw
open Go.Proofs
noncomputable abbrev Pr := Tryz.prog
theorem mixed : Pr.follows .mixedOrders = true := by kernel_rfl
end Go.Aw

/-! AwO2 -/
namespace Go.Aw
open Go.RowKit

/-- slices.overlaps is the model's own. -/
structure OvF (P : Program) (f T R : Nat) : Prop where
  run : ∀ args w, (callFunc f args).run P w = ((Extern.SlicesOverlaps.overlaps #[T, T] #[R] args).run P w).andThen fun v w' => .ok (.value v) w'
theorem ovf {P : Program} {f T R : Nat} {fn : Func} (hf : P.funcs[f]? = some fn) (h1 : (fn.name == "runtime.NumGoroutine") = false) (hb : fn.body.isNone = true) (hn : Extern.findNext fn = none) (he : Extern.find fn = some (Extern.SlicesOverlaps.overlaps #[T, T] #[R])) : OvF P f T R :=
  ⟨fun args w => run_callFunc_extern hf h1 hb hn he args w⟩
theorem run_overlaps_nil {P : Program} (w : World) (tS tR e : TypeId) (ht : P.underlying tS = some (.slice e)) (size : Nat) (hz : ∀ w, (Go.sizeOf e).run P w = .ok size w) (a : Option Addr) (la ca lb cb : Nat) :
    (Extern.SlicesOverlaps.overlaps #[tS, tS] #[tR] #[.slice a la ca, .slice none lb cb]).run P w = .ok (.bool false) w := by
  change Sem.run P (α := Value) (do
    let some t := (#[tS, tS] : Array TypeId)[0]? | stuck "slices.overlaps: no parameter types"
    let .slice elem ← underlying t | stuck "slices.overlaps: slice type expected"
    let size ← sizeOf elem
    match (a : Option Addr), (none : Option Addr) with
    | some a, some b =>
      if la = 0 ∨ lb = 0 ∨ size = 0 then pure (Value.bool false)
      else if a.block != b.block && (← frozen a) && (← frozen b) then unsupported .addressObserved
      else do
        if a.block != b.block then do
          noView a; noView b
          if ← mayBeOne a b then return Value.bool ((← choose (.extern "sameAddr.stringBytes" 2)) == 1)
        pure (Value.bool (a.block == b.block && a.off < b.off + lb * size && b.off < a.off + la * size))
    | _, _ => pure (Value.bool false)) w = _
  cases a <;> simp [run_underlying ht, hz]
section
variable {C : Ctx} {E : Env} {L : List AO} {d : Option Tmp} {ty : TypeId} {p : String} {af : Array Edge} {gd : Option (Nat × Bool)}
theorem ovl {f T R e sz i U off len cap : Nat} {x y : Operand} {ts : Array TypeId} {ys : List D} {zs : List (Option D)} (hF : OvF C.P f T R) (hf : elemF C.P T = some (e, sz)) (hx : Get E x (.d (.list sz ys))) (hy : Get E y (.sl i sz off len cap)) (hL : L[i]? = some (.arr U sz zs)) (hne : ys ≠ []) (hzs : zs ≠ []) (hsz : 0 < sz) :
    MStep C ⟨d, .call ⟨.value (.func f), #[x, y], ts⟩, ty, p, af, gd⟩ E L (.d (.bool false)) := by
  intro a w μ ρ K Q hh he hk
  obtain ⟨hu, g', ht⟩ := elemF_out hf
  have h1 := hx μ ρ a he
  have h2 := hy μ ρ a he
  simp only [ARep, Rep] at h1 h2
  obtain ⟨sa, c, hv, hc, hcm, hnil, hr0⟩ := h1
  obtain ⟨b, o, rfl, hr⟩ := hr0.resolve_left hne
  clear hr0
  have run : (execOp a.eval ⟨d, .call ⟨.value (.func f), #[x, y], ts⟩, ty, p, af, gd⟩).run C.P w = .ok (.value (.bool false)) w := by
    have e1 : execOp a.eval ⟨d, .call ⟨.value (.func f), #[x, y], ts⟩, ty, p, af, gd⟩ = (do let d ← resolve a.eval { callee := .value (.func f), args := #[x, y], argTypes := ts } ty; invoke d.target d.args) := by simp only [execOp]
    rw [e1]
    have e2 : a.eval (.func f) = .func (.func f) #[] #[] := by simp [Act.eval]
    simp only [resolve, e2, Deferred.ofValue, Sem.run_bind, Sem.run_pure, Result.andThen, invoke]
    have e3 : (#[] ++ (#[x, y].map a.eval) ++ #[] : Array Value) = #[a.eval x, a.eval y] := by simp
    have key : ∀ v2, a.eval y = v2 → (Extern.SlicesOverlaps.overlaps #[T, T] #[R] #[a.eval x, v2]).run C.P w = .ok (.bool false) w := by
      intro v2 hv2
      obtain ⟨u, hu', ⟨g, o', hg, hv', ho⟩ | ⟨hn0, hv', _, _, _⟩⟩ := h2
      · rcases hh.rep i _ _ hL hu' with ⟨g'', cur, h4, h5, h6⟩ | ⟨h4, _⟩
        · rw [hg] at h4; cases h4
          cases ys with
          | nil => exact absurd rfl hne
          | cons y0 ys0 =>
            simp only [Row] at hr
            obtain ⟨⟨v0, r1, r2, ⟨cs, T0, fz, r3, r4⟩, r5⟩, _⟩ := hr
            have hheap := hh.holds _ _ r3
            have hne' : b ≠ g := fun e => by
              rw [← e] at hg
              have := (hh.own i _ u b hL rfl hu' hg).1
              rw [r3] at this; cases this
            have hv0 : v0.cells.toList.length = sz := by simpa using r2
            have hcs : cs.size ≠ 0 := by
              have := r4 0 v0.cells.toList[0] (by simp)
              intro h0
              have hcs0 : cs = #[] := Array.eq_empty_of_size_eq_zero h0
              rw [hcs0] at this; simp at this
            have hl := h6.length
            have hcur : cur.size ≠ 0 := by
              have : 0 < zs.length := List.length_pos_iff.2 hzs
              have : 0 < zs.length * sz := Nat.mul_pos this hsz
              simp at hl; omega
            rw [hv, ← hv2, hv']
            exact run_overlaps' w T R e hu sz (fun w => run_sizeT ht) ⟨b, o, none⟩ ⟨g, o', none⟩ _ _ _ _ hne' T0 U cs.size cur.size (by simp [World.shape?, hheap]) (by simp [World.shape?, h5]) hcur hcs (by simp [World.frozen?, h5]) (by simp [World.frozen?, h5])
        · rw [hg] at h4; cases h4
      · rw [hv, ← hv2, hv']
        exact run_overlaps_nil w T R e hu sz (fun w => run_sizeT ht) _ _ _ _ _
    have e4 := hF.run #[a.eval x, a.eval y] w
    rw [key _ rfl] at e4
    have e5 : ((#[x, y].map a.eval) : Array Value) = #[a.eval x, a.eval y] := by simp
    simp only [e5]
    simpa [Result.andThen] using e4
  refine owp_value run ?_
  exact hk _ w μ (Grow.refl hh) (by simp only [ARep, Rep])
end
/-! ### copy, of what is known of the source -/
def SrcP (P : Program) (w : World) (μ : Mem) (sz slen : Nat) (ys : List D) (v : Value) : Prop :=
  ∃ sa c news, v = .slice sa slen c ∧ RowVals μ sz ys news ∧ (∀ y ∈ ys, y.plain = true) ∧ (Builtin.firstCells sz ys.length v).run P w = .ok news.toArray w
def IsSrcP (C : Ctx) (E : Env) (L : List AO) (x : Operand) (sz slen : Nat) (ys : List D) : Prop := ∀ a w μ ρ, HeapOk C w μ ρ L → EnvOk μ ρ E a → SrcP C.P w μ sz slen ys (a.eval x)
section
variable {C : Ctx} {E : Env} {L : List AO} {d : Option Tmp} {ty : TypeId} {p : String} {af : Array Edge}
theorem IsSrc.toP {x : Operand} {sz : Nat} {ys : List D} (h : IsSrc C E L x sz ys) : IsSrcP C E L x sz ys.length ys := fun a w μ ρ hh he => by
  obtain ⟨sa, c, news, h1, h2, h3, h4⟩ := h a w μ ρ hh he
  have := h4 ys.length (Nat.le_refl _) w rfl
  rw [List.take_of_length_le (by rw [h2.length]; exact Nat.le_refl _)] at this
  exact ⟨sa, c, news, h1, h2, h3, this⟩
theorem src_slP {x : Operand} {i T sz off len cap : Nat} {zs : List (Option D)} {ys : List D} (hx : Get E x (.sl i sz off len cap)) (hL : L[i]? = some (.arr T sz zs)) (hz : (zs.drop off).take ys.length = ys.map some) (hlen : ys.length ≤ len) (hlc : len ≤ cap) (hp : ∀ y ∈ ys, y.plain = true) : IsSrcP C E L x sz len ys := fun a w μ ρ hh he => by
  have h1 := hx μ ρ a he
  simp only [ARep] at h1
  obtain ⟨u, hu, ⟨g, o, hg, hv, ho⟩ | ⟨hn, hv, rfl, rfl, rfl⟩⟩ := h1
  · rcases hh.rep i _ _ hL hu with ⟨g', cur, h2, h3, h4⟩ | ⟨h2, _⟩
    · rw [hg] at h2; cases h2
      have hd := (h4.drop off).take ys.length
      rw [hz] at hd
      have hdl := hd.length
      simp only [List.length_map] at hdl
      refine ⟨some ⟨g, o, none⟩, cap, (cur.toList.drop (off * sz)).take (ys.length * sz), hv, hd.toRow, hp, ?_⟩
      rw [hv]
      have := first_at (P := C.P) (w' := w) (sz := sz) (n := ys.length) (b := g) (o := o) (len := len) (cap := cap) (m := ys.length) hdl (Nat.le_refl _) (fun j u' hj => by
        have hjl : j < ys.length * sz := by
          have := (List.getElem?_eq_some_iff.1 hj).1
          rw [hdl] at this; exact this
        have ho' : o = off * sz := by
          rcases ho with ho | ⟨h5, _⟩
          · exact ho
          · have : ys.length = 0 := by omega
            rw [this] at hjl; simp at hjl
        simp only [World.cell?, h3]
        rw [List.getElem?_take, if_pos hjl, List.getElem?_drop, Array.getElem?_toList] at hj
        rw [ho']; exact hj)
      rw [List.take_of_length_le (by rw [hdl]; exact Nat.le_refl _)] at this
      exact this
    · rw [hg] at h2; cases h2
  · have hys : ys = [] := List.eq_nil_of_length_eq_zero (by omega)
    subst hys
    refine ⟨none, 0, [], hv, rfl, hp, ?_⟩
    rw [hv]; simpa using run_firstCells_none (P := C.P) w sz 0 0 0
/-- 'copy(s, src)': just what is known of src goes over. -/
theorem cpyP {T T' e i U sz off len cap slen : Nat} {x y : Operand} {zs : List (Option D)} {ys : List D} (hx : Get E x (.sl i sz off len cap)) (hy : IsSrcP C E L y sz slen ys) (hf : elemF C.P T = some (e, sz)) (hL : L[i]? = some (.arr U sz zs)) (hn : ys.length = min slen len) (hlc : len ≤ cap) (hle : off + cap ≤ zs.length) :
    EStep C ⟨d, .call ⟨.builtin .copy, #[x, y], #[T, T']⟩, ty, p, af, none⟩ E L (.d (.int .i64 (ys.length : Int))) (L.set i (.arr U sz (zs.take off ++ ys.map some ++ zs.drop (ys.length + off)))) := estep_of_run fun a w μ ρ hh he => by
  have h1 := hx μ ρ a he
  simp only [ARep] at h1
  obtain ⟨sa, c, news, hv2, hr, hpl, hfc⟩ := hy a w μ ρ hh he
  obtain ⟨hu, g', ht⟩ := elemF_out hf
  have hsz := run_sizeT (P := C.P) (w := w) ht
  have hcopy : ∀ (base : Option Addr) (w' : World), (∀ ad, base = some ad → (storeCells ad news 0).run C.P w = .ok () w') → (base = none → w' = w) → (Builtin.copy_ #[T, T'] ty #[.slice base len cap, a.eval y]).run C.P w = .ok (goInt ys.length) w' := by
    intro base w' hst hno
    have hn' : Nat.min slen len = ys.length := by rw [hn]
    have hlen : ∀ w0 : World, (Builtin.lenOf (a.eval y)).run C.P w0 = .ok slen w0 := fun w0 => by rw [hv2]; rfl
    cases base with
    | none => have := hno rfl; subst this; simp [Builtin.copy_, run_underlying hu, hlen, hn', hsz, hfc]
    | some ad => have := hst ad rfl; simp [Builtin.copy_, run_underlying hu, hlen, hn', hsz, hfc, this]
  by_cases h0 : ys.length = 0
  · have hys : ys = [] := List.eq_nil_of_length_eq_zero h0
    subst hys
    have hnews : news = [] := hr
    subst hnews
    have hsame : zs.take off ++ ([] : List D).map some ++ zs.drop (([] : List D).length + off) = zs := by simp
    rw [hsame, set_same hL]
    obtain ⟨u, hu', ⟨g, o, hg, hv, ho⟩ | ⟨hn0, hv, rfl, rfl, rfl⟩⟩ := h1
    · exact ⟨_, w, μ, ρ, run_copy_call rfl (by rw [hv]; exact hcopy _ _ (fun ad _ => by simp [storeCells]) (fun h => by cases h)), hh, MemLe.refl μ, RhoLe.refl ρ, by simp only [ARep, Rep, goInt]⟩
    · exact ⟨_, w, μ, ρ, run_copy_call rfl (by rw [hv]; exact hcopy _ _ (fun ad h => by cases h) (fun _ => rfl)), hh, MemLe.refl μ, RhoLe.refl ρ, by simp only [ARep, Rep, goInt]⟩
  · obtain ⟨u, hu', ⟨g, o, hg, hv, ho⟩ | ⟨hn0, hv, rfl, rfl, rfl⟩⟩ := h1
    · have ho' : o = off * sz := by
        rcases ho with ho | ⟨h5, _⟩
        · exact ho
        · omega
      subst ho'
      obtain ⟨w', hw1, hw2⟩ := hh.putArr (off := off) hL hu' hg hr hpl (by omega)
      rw [Nat.add_comm off] at hw2
      exact ⟨_, w', μ, ρ, run_copy_call rfl (by rw [hv]; exact hcopy _ _ (fun ad h => by cases h; exact hw1) (fun h => by cases h)), hw2, MemLe.refl μ, RhoLe.refl ρ, by simp only [ARep, Rep, goInt]⟩
    · omega
end
/-! ### slices.Insert -/
section
variable {β : Type}
theorem ins_T (X R Y B Z0 Z1 : List β) {i b e : Nat} (hi : i ≤ X.length) (hb : b = i + Y.length) (he : e = i + Y.length + B.length) :
    ((((X.take i ++ R).take i ++ Y ++ Z0).take b ++ B ++ Z1).take e) = X.take i ++ Y ++ B := by
  have hx : (X.take i).length = i := by simp; omega
  have h1 : (X.take i ++ R).take i = X.take i := List.take_left' hx
  rw [h1]
  have h2 : (X.take i ++ Y).length = b := by simp only [List.length_append, hx]; omega
  rw [List.take_left' (l₁ := X.take i ++ Y) h2]
  exact List.take_left' (by simp only [List.length_append, hx]; omega)
theorem ins_F (X Y B Z1 : List β) {i b c e : Nat} (hi : i ≤ b) (hb : b ≤ X.length) (hc : c = b) (he : e = i + Y.length + B.length) :
    (((X.take b ++ B ++ Z1).take i ++ Y ++ (X.take b ++ B ++ Z1).drop c).take e) = X.take i ++ Y ++ B := by
  have h1 : (X.take b).length = b := by simp; omega
  have hx : (X.take i).length = i := by simp; omega
  have h2 : (X.take b ++ B ++ Z1).take i = X.take i := by
    rw [List.append_assoc, List.take_append_of_le_length (by omega), List.take_take, Nat.min_eq_left hi]
  have h3 : (X.take b ++ B ++ Z1).drop c = B ++ Z1 := by
    rw [List.append_assoc, hc]; exact List.drop_left' h1
  rw [h2, h3, ← List.append_assoc]
  exact List.take_left' (by simp only [List.length_append, hx]; omega)
end
end Go.Aw

/-! AwN -/
namespace Go.Aw
open Go.RowKit
section
variable {C : Ctx} {E : Env} {L : List AO} {d : Option Tmp} {ty : TypeId} {p : String} {af : Array Edge} {gd : Option (Nat × Bool)}
/-- 'x >> y' -/
theorem sh {T U : TypeId} {x y : Operand} {k k' : IntKind} {a b : Int} (hx : Get E x (.d (.int k a))) (hy : Get E y (.d (.int k' b))) (hb : 0 ≤ b) : MStep C ⟨d, .binOp .shr T x y U, ty, p, af, gd⟩ E L (.d (.int k (a.fdiv (2 ^ (min b.toNat k.bits))))) :=
  mstep_pure fun a' w μ ρ hh he => by
    have h1 := hx μ ρ a' he
    have h2 := hy μ ρ a' he
    simp only [ARep, Rep] at h1 h2 ⊢
    refine ⟨_, run_bin rfl (eqGuard_run (by rw [h1]; simp) (by rw [h1]; simp)) (v := .int k (a.fdiv (2 ^ (min b.toNat k.bits)))) ?_, rfl⟩
    rw [h1, h2]
    have : ¬ b < 0 := by omega
    simp [binOp, Op.shift, this]
end
/-- int(uint(i + j) >> 1) -/
theorem mid {i j : Nat} (h : i + j < 9223372036854775808) : IntKind.i64.wrap ((IntKind.u64.wrap (IntKind.i64.wrap ((i : Int) + (j : Int)))).fdiv (2 ^ (min (1 : Int).toNat IntKind.u64.bits))) = (((i + j) / 2 : Nat) : Int) := by
  have h1 : IntKind.i64.wrap ((i : Int) + (j : Int)) = ((i + j : Nat) : Int) := by rw [wrap_i64 (by omega) (by omega)]; omega
  have h2 : IntKind.u64.wrap ((i + j : Nat) : Int) = ((i + j : Nat) : Int) := by rw [IntKind.wrap_u64]; omega
  rw [h1, h2]
  have h3 : min (1 : Int).toNat IntKind.u64.bits = 1 := by decide
  rw [h3]
  have h4 : (((i + j : Nat) : Int).fdiv (2 ^ 1)) = (((i + j) / 2 : Nat) : Int) := by
    rw [Int.fdiv_eq_ediv_of_nonneg _ (by decide)]; omega
  rw [h4, wrap_i64 (by omega) (by omega)]
section
variable {C : Ctx} {E : Env} {L : List AO} {d : Option Tmp} {ty : TypeId} {p : String} {af : Array Edge}
theorem ekE {args : List Operand} {ts : Array TypeId} {f : FuncId} {xs : List AV} {Lp Lq L' : List AO} {r r' : AV} (σ : List Nat) (ha : GetAs σ L.length E args xs) (hS : Spec C.P f xs Lp r Lq) (hsub : subOk σ L.length L Lp) (hσ : σ.Nodup) (hup : Lp.all (AO.upto σ.length) = true) (haup : AV.uptos σ.length xs = true)
    (hr : AV.ren σ L.length r = r') (hq : updL σ L.length 0 Lq L ++ (Lq.drop σ.length).map (AO.ren σ L.length) = L') : EStep C ⟨d, .call ⟨.value (.func f), args.toArray, ts⟩, ty, p, af, none⟩ E L r' L' := by
  subst hq; subst hr; exact ek σ ha hS hsub hσ hup haup
theorem stbE {T j off n U : Nat} {g : Bool} {x y : Operand} {r : AV} {cs : List AV} {L' : List AO} (hx : Get E x (.box j off)) (hy : Get E y r) (ht : tyF C.P T = some (n, g)) (hL : L[j]? = some (.box U cs)) (hpl : r.plain = true) (hn : r.cells.length = n) (hoff : Nat.ble (off + n) cs.length = true) (hq : L.set j (.box U (setL off cs r.cells)) = L') :
    EStep C ⟨none, .store T x y, ty, p, af, none⟩ E L NOR L' := by subst hq; exact stb hx hy ht hL hpl hn hoff
end
end Go.Aw

/-! Sp2 -/
namespace Go.Aw
/-- The place of the first element that is so; -1: there is none. -/
def idxI {α : Type} (p : α → Bool) (l : List α) : Int := match l.findIdx? p with | some k => (k : Int) | none => -1
theorem idxI_at {α : Type} {p : α → Bool} {l : List α} {k : Nat} (hk : k < l.length) (hz : ∀ j m, j < k → l[j]? = some m → p m = false) (h : p l[k] = true) : idxI p l = (k : Int) := by
  have : l.findIdx? p = some k := by
    rw [List.findIdx?_eq_some_iff_getElem]
    exact ⟨hk, h, fun j hj => by simp [hz j l[j] hj (by simp [Nat.lt_trans hj hk])]⟩
  simp [idxI, this]
theorem idxI_no {α : Type} {p : α → Bool} {l : List α} (hz : ∀ j m, j < l.length → l[j]? = some m → p m = false) : idxI p l = -1 := by
  have : l.findIdx? p = none := by
    rw [List.findIdx?_eq_none_iff]
    intro x hx
    obtain ⟨j, hj, e⟩ := List.mem_iff_getElem.1 hx
    exact hz j x hj (by simp [hj, e])
  simp [idxI, this]
theorem zstep {α : Type} {p : α → Bool} {l : List α} {k : Nat} (hz : ∀ j m, j < k → l[j]? = some m → p m = false) (hk : k < l.length) (h : p l[k] = false) : ∀ j m, j < k + 1 → l[j]? = some m → p m = false := fun j m hj hm => by
  rcases Nat.lt_or_ge j k with h' | h'
  · exact hz j m h' hm
  · have : j = k := by omega
    subst this
    rw [List.getElem?_eq_getElem hk] at hm; cases hm; exact h
theorem lss_len {k n : Nat} (h : decide ((k : Int) < (n : Int)) = true) : k < n := by simpa using h
theorem nlss_len {k n : Nat} (h : decide ((k : Int) < (n : Int)) = false) : n ≤ k := by simpa using h
theorem mus_plain (l : List Mu) : ∀ y ∈ l.map Mu.d, y.plain = true := fun y hy => by
  obtain ⟨m, _, rfl⟩ := List.mem_map.1 hy; rfl
/-! ### slices.DeleteFunc -/
section
variable {α : Type} (f : α → D) (l : List α) (q : α → Bool)
/-- What is kept of the first s. -/
def kept (s : Nat) : List α := (l.take s).filter q
def cnt (s : Nat) : Nat := (kept l q s).length
def delA (s : Nat) : List (Option D) := (kept l q s ++ l.drop (cnt l q s)).map fun x => some (f x)
theorem kept_succ {s : Nat} (h : s < l.length) : kept l q (s + 1) = kept l q s ++ (if q l[s] then [l[s]] else []) := by
  unfold kept
  rw [List.take_add_one, List.filter_append, List.getElem?_eq_getElem h]
  simp [List.filter_cons]
theorem cnt_le (s : Nat) : cnt l q s ≤ s := Nat.le_trans (List.length_filter_le _ _) (by simp; omega)
theorem cnt_le' (s : Nat) : cnt l q s ≤ l.length := Nat.le_trans (List.length_filter_le _ _) (by simp; omega)
theorem cnt_keep {s : Nat} (h : s < l.length) (hq : q l[s] = true) : cnt l q (s + 1) = cnt l q s + 1 := by simp [cnt, kept_succ l q h, hq]
theorem cnt_drop {s : Nat} (h : s < l.length) (hq : q l[s] = false) : cnt l q (s + 1) = cnt l q s := by simp [cnt, kept_succ l q h, hq]
theorem delA_len (s : Nat) : (delA f l q s).length = l.length := by
  have := cnt_le' l q s
  simp only [delA, List.length_map, List.length_append, List.length_drop]
  show cnt l q s + _ = _
  omega
theorem delA_at {s : Nat} (h : s < l.length) (J : List (Option D)) : (delA f l q s ++ J)[s]? = some (some (f l[s])) := by
  have hc := cnt_le l q s
  rw [List.getElem?_append_left (by rw [delA_len]; exact h)]
  simp only [delA, List.getElem?_map]
  rw [List.getElem?_append_right hc, List.getElem?_drop]
  have : cnt l q s + (s - (kept l q s).length) = s := by show cnt l q s + (s - cnt l q s) = s; omega
  rw [this, List.getElem?_eq_getElem h]; rfl
theorem delA_el {T sz : Nat} {s : Nat} (h : s < l.length) (J : List (Option D)) : (AO.arr T sz (delA f l q s ++ J)).elem s = some (f l[s]) := by
  simp only [AO.elem, delA_at f l q h J, Option.join]
  rfl
theorem delA_keep {s : Nat} (h : s < l.length) (hq : q l[s] = true) (J : List (Option D)) : (delA f l q s ++ J).set (cnt l q s) (some (f l[s])) = delA f l q (s + 1) ++ J := by
  have hc := cnt_le l q s
  have hl : cnt l q s < (delA f l q s).length := by rw [delA_len]; omega
  rw [List.set_append_left _ _ hl]
  congr 1
  unfold delA
  rw [cnt_keep l q h hq, kept_succ l q h, hq]
  rw [List.map_append, List.set_append_right _ _ (by simp [cnt])]
  simp only [List.length_map, if_true, List.map_append, List.append_assoc]
  congr 1
  rw [show cnt l q s - (kept l q s).length = 0 by simp [cnt]]
  rw [List.drop_eq_getElem_cons (by omega : cnt l q s < l.length)]
  rfl
theorem delA_drop {s : Nat} (h : s < l.length) (hq : q l[s] = false) : delA f l q s = delA f l q (s + 1) := by
  unfold delA; rw [cnt_drop l q h hq, kept_succ l q h, hq]; simp
theorem delA_start {p : α → Bool} {k : Nat} (hk : k < l.length) (hz : ∀ j m, j < k → l[j]? = some m → p m = false) (hp : p l[k] = true) : delA f l (fun m => !p m) (k + 1) = (l.map f).map some := by
  have h1 : kept l (fun m => !p m) k = l.take k := by
    refine List.filter_eq_self.2 fun x hx => ?_
    obtain ⟨j, hj, e⟩ := List.mem_iff_getElem.1 hx
    simp at hj
    rw [hz j x (by omega) (by rw [← e]; simp [List.getElem_take])]; rfl
  unfold delA
  rw [cnt_drop l _ hk (by simp [hp]), kept_succ l _ hk]
  simp only [hp, Bool.not_true, Bool.false_eq_true, if_false, List.append_nil]
  rw [h1, show cnt l (fun m => !p m) k = k by rw [cnt, h1, List.length_take]; omega, List.take_append_drop]
  simp
theorem cnt_start {p : α → Bool} {k : Nat} (hk : k < l.length) (hz : ∀ j m, j < k → l[j]? = some m → p m = false) (hp : p l[k] = true) : cnt l (fun m => !p m) (k + 1) = k := by
  have h1 : kept l (fun m => !p m) k = l.take k := by
    refine List.filter_eq_self.2 fun x hx => ?_
    obtain ⟨j, hj, e⟩ := List.mem_iff_getElem.1 hx
    simp at hj
    rw [hz j x (by omega) (by rw [← e]; simp [List.getElem_take])]; rfl
  rw [cnt_drop l _ hk (by simp [hp])]
  rw [cnt, h1, List.length_take]; omega
theorem delJ_len {cap : Nat} (h : l.length ≤ cap) (s : Nat) : (delA f l q s ++ List.replicate (cap - l.length) none).length = cap := by rw [List.length_append, delA_len, List.length_replicate]; omega
theorem clr_len {zs : List (Option D)} {a b c : Nat} (h : a + b ≤ zs.length) (hc : zs.length = c) : (zs.take a ++ List.replicate b none ++ zs.drop (b + a)).length = c := by simp; omega
theorem delA_end {A B J : List (Option D)} (hA : A = (delA f l q l.length ++ J).take (cnt l q l.length)) : (A ++ B).take (cnt l q l.length) = ((l.filter q).map f).map some := by
  have hl : A.length = cnt l q l.length := by rw [hA]; have := delA_len f l q l.length; have := cnt_le l q l.length; simp; omega
  rw [List.take_left' hl, hA]
  have hc := cnt_le l q l.length
  rw [List.take_append_of_le_length (by rw [delA_len]; exact hc)]
  unfold delA
  rw [List.map_append, List.take_left' (by simp [cnt])]
  simp [kept]
end
theorem idx_none {α : Type} {p : α → Bool} {l : List α} (h : decide (idxI p l = -1) = true) : l.filter (fun m => !p m) = l := by
  have h := of_decide_eq_true h
  unfold idxI at h
  split at h
  · omega
  · rename_i h1
    rw [List.findIdx?_eq_none_iff] at h1
    exact List.filter_eq_self.2 fun x hx => by simp [h1 x hx]
theorem idx_some {α : Type} {p : α → Bool} {l : List α} (h : decide (idxI p l = -1) = false) : ∃ k : Nat, ∃ hk : k < l.length, (∀ j m, j < k → l[j]? = some m → p m = false) ∧ p l[k] = true ∧ idxI p l = (k : Int) := by
  have h := of_decide_eq_false h
  unfold idxI at h ⊢
  split at h
  · rename_i k h1
    rw [List.findIdx?_eq_some_iff_getElem] at h1
    obtain ⟨hk, h2, h3⟩ := h1
    exact ⟨k, hk, fun j m hj hm => by
      have := h3 j hj
      rw [List.getElem?_eq_getElem (by omega)] at hm; cases hm
      simpa using this, h2, rfl⟩
  · exact absurd rfl h
theorem upd_len {zs : List (Option D)} {ys : List (Option D)} {a b c : Nat} (ha : a ≤ zs.length) (hb : b = ys.length + a) (h : b ≤ zs.length) (hc : zs.length = c) : (zs.take a ++ ys ++ zs.drop b).length = c := by simp; omega
section
variable {α : Type} (f : α → D) (l ys : List α) (i : Nat)
theorem insR {cap : Nat} (hi : i ≤ l.length) : ((l.take i ++ ys ++ l.drop i).map f).map some = (((l.map f).map some ++ List.replicate (cap - l.length) none).take i) ++ (ys.map f).map some ++ ((l.drop i).map f).map some := by
  rw [List.take_append_of_le_length (by simpa using hi)]
  simp [List.map_take, List.map_drop]
theorem opn_len {cap : Nat} (h : l.length ≤ cap) : ((l.map f).map some ++ List.replicate (cap - l.length) (none : Option D)).length = cap := by simp; omega
theorem opn_ne {cap : Nat} (h : l.length ≤ cap) (h0 : 0 < cap) : ((l.map f).map some ++ List.replicate (cap - l.length) (none : Option D)) ≠ [] := fun e => by
  have := congrArg List.length e; rw [opn_len f l h] at this; simp at this; omega
theorem map_ne (h : ys ≠ []) : ys.map f ≠ [] := by simpa using h
theorem opn_take {cap : Nat} : ((l.map f).map some ++ List.replicate (cap - l.length) (none : Option D)).take l.length = (l.map f).map some := List.take_left' (by simp)
theorem opn_drop {cap : Nat} (hi : i ≤ l.length) : (((l.map f).map some ++ List.replicate (cap - l.length) (none : Option D)).drop i).take ((l.drop i).map f).length = ((l.drop i).map f).map some := by
  rw [List.drop_append_of_le_length (by simpa using hi), List.take_left' (by simp)]
  simp [List.map_drop]
end
/-! ### cmp.Or -/
theorem orI_at {l : List Int} {k : Nat} (hk : k < l.length) (hz : ∀ j, j < k → l[j]? = some 0) (h : l[k] ≠ 0) : orI l = l[k] := by
  rw [orI_drop hk hz, List.drop_eq_getElem_cons hk]; simp [orI, h]
theorem orI_zero {l : List Int} (hz : ∀ j, j < l.length → l[j]? = some 0) : orI l = 0 := by
  induction l with
  | nil => rfl
  | cons x l ih =>
    have h0 := hz 0 (by simp)
    simp at h0
    simp only [orI, h0, ne_eq, not_true_eq_false, if_false]
    exact ih fun j hj => by simpa using hz (j + 1) (by simpa using hj)
theorem ostep {l : List Int} {k : Nat} (hz : ∀ j, j < k → l[j]? = some 0) (hk : k < l.length) (h : l[k] = 0) : ∀ j, j < k + 1 → l[j]? = some 0 := fun j hj => by
  rcases Nat.lt_or_ge j k with h' | h'
  · exact hz j h'
  · have : j = k := by omega
    subst this
    rw [List.getElem?_eq_getElem hk, h]
end Go.Aw

/-! Sp3 -/
namespace Go.Aw
theorem idx_ge {α : Type} (p : α → Bool) (l : List α) : decide (0 ≤ idxI p l) = l.any p := by
  unfold idxI
  split
  · rename_i k h
    rw [List.findIdx?_eq_some_iff_getElem] at h
    obtain ⟨hk, h1, _⟩ := h
    rw [decide_eq_true (by omega)]
    exact (List.any_eq_true.2 ⟨_, List.getElem_mem hk, h1⟩).symm
  · rename_i h
    rw [List.findIdx?_eq_none_iff] at h
    rw [decide_eq_false (by omega)]
    exact (List.any_eq_false.2 (fun x hx => by simp [h x hx])).symm
def Mu.covers (w : Mu) (k : ByteArray) : Bool := (w.kind == 3 && (sLt w.key k || sEq w.key k)) && sLt k w.end_
def St.right (s : St) : Bool := (((((decide (0 ≤ s.phys) && decide (0 ≤ s.logic)) && decide (0 ≤ s.who)) && decide (s.phys ≤ 1099511627776)) && decide (s.logic ≤ 1099511627776)) && decide (s.who ≤ 1099511627776)) && !(s.phys == 0 && (s.logic == 0 && s.who == 0))
theorem sts_plain (l : List St) : ∀ y ∈ l.map St.d, y.plain = true := fun y hy => by
  obtain ⟨m, _, rfl⟩ := List.mem_map.1 hy; rfl
end Go.Aw

/-! Sp4 -/
namespace Go.Aw
/-! ### slices.CompareFunc -/
def cmpF {α : Type} (c : α → α → Int) : List α → List α → Int
  | [], [] => 0
  | [], _ :: _ => -1
  | _ :: _, [] => 1
  | x :: xs, y :: ys => if c x y ≠ 0 then c x y else cmpF c xs ys
section
variable {α : Type} {c : α → α → Int} {a b : List α} {k : Nat}
theorem cmpF_long (ha : k < a.length) (hb : b.length ≤ k) (he : cmpF c a b = cmpF c (a.drop k) (b.drop k)) : cmpF c a b = 1 := by
  rw [he, List.drop_eq_getElem_cons ha, List.drop_of_length_le hb]; rfl
theorem cmpF_ne (ha : k < a.length) (hb : k < b.length) (he : cmpF c a b = cmpF c (a.drop k) (b.drop k)) (h : c a[k] b[k] ≠ 0) : cmpF c a b = c a[k] b[k] := by
  rw [he, List.drop_eq_getElem_cons ha, List.drop_eq_getElem_cons hb]; simp [cmpF, h]
theorem cmpF_eq (ha : k < a.length) (hb : k < b.length) (he : cmpF c a b = cmpF c (a.drop k) (b.drop k)) (h : c a[k] b[k] = 0) : cmpF c a b = cmpF c (a.drop (k + 1)) (b.drop (k + 1)) := by
  rw [he, List.drop_eq_getElem_cons ha, List.drop_eq_getElem_cons hb]; simp [cmpF, h]
theorem cmpF_less (ha : a.length ≤ k) (hb : k < b.length) (he : cmpF c a b = cmpF c (a.drop k) (b.drop k)) : cmpF c a b = -1 := by
  rw [he, List.drop_eq_getElem_cons hb, List.drop_of_length_le ha]; rfl
theorem cmpF_same (ha : a.length ≤ k) (hb : b.length ≤ k) (he : cmpF c a b = cmpF c (a.drop k) (b.drop k)) : cmpF c a b = 0 := by
  rw [he, List.drop_of_length_le hb, List.drop_of_length_le ha]; rfl
end
def Mu.cmp (a b : Mu) : Int := orI [St.cmp a.at_ b.at_, cmpI a.table b.table, cmpI a.kind b.kind, cmpS a.key b.key, cmpS a.end_ b.end_, cmpS a.val b.val, cmpI a.expiry b.expiry, cmpF St.cmp a.over b.over]
end Go.Aw

/-! Sp5 -/
namespace Go.Aw
def Mu.sib (a b : Mu) : Int := orI [cmpS a.key b.key, Mu.cmp a b]
def Mu.within (big small : Mu) : Bool := ((sLt big.key small.key || sEq big.key small.key) && (sLt small.end_ big.end_ || sEq small.end_ big.end_)) && !(St.lt big.at_ small.at_)
/-- w hides what has this key and this stamp. -/
def Mu.hides (w : Mu) (key : ByteArray) (at_ : St) : Bool := w.covers key && St.lt at_ w.at_
def Ct.covered (c : Ct) (key : ByteArray) (at_ : St) : Bool := c.wipes.any fun w => w.hides key at_
end Go.Aw

/-! Sp6 -/
namespace Go.Aw
/-- slices.BinarySearchFunc: the place. -/
def bs (g : Nat → Int) : Nat → Nat → Nat → Nat
  | 0, i, _ => i
  | f + 1, i, j => if i < j then (if g ((i + j) / 2) < 0 then bs g f ((i + j) / 2 + 1) j else bs g f i ((i + j) / 2)) else i
def at_ {α : Type} (c : α → Int) (l : List α) (k : Nat) : Int := match l[k]? with | some m => c m | none => 0
theorem at_get {α : Type} {c : α → Int} {l : List α} {k : Nat} (h : k < l.length) : at_ c l k = c l[k] := by simp [at_, h]
def bsP {α : Type} (c : α → Int) (l : List α) : Nat := bs (at_ c l) l.length 0 l.length
def bsF {α : Type} (c : α → Int) (l : List α) : Bool := decide (bsP c l < l.length) && at_ c l (bsP c l) == 0
theorem bs_lo {g : Nat → Int} {f i j n : Nat} {r : Nat} (hij : i < j) (hf : j - i ≤ f) (h : bs g f i j = r) (hg : g ((i + j) / 2) < 0) : bs g (f - 1) ((i + j) / 2 + 1) j = r := by
  obtain ⟨f, rfl⟩ : ∃ f', f = f' + 1 := ⟨f - 1, by omega⟩
  simpa [bs, hij, hg] using h
theorem bs_hi {g : Nat → Int} {f i j n : Nat} {r : Nat} (hij : i < j) (hf : j - i ≤ f) (h : bs g f i j = r) (hg : ¬ g ((i + j) / 2) < 0) : bs g (f - 1) i ((i + j) / 2) = r := by
  obtain ⟨f, rfl⟩ : ∃ f', f = f' + 1 := ⟨f - 1, by omega⟩
  simpa [bs, hij, hg] using h
theorem bs_end {g : Nat → Int} {f i j : Nat} {r : Nat} (hij : ¬ i < j) (h : bs g f i j = r) : i = r := by
  cases f <;> simpa [bs, hij] using h
def mu0 : Mu := ⟨0, 0, ⟨#[]⟩, ⟨#[]⟩, ⟨#[]⟩, 0, ⟨0, 0, 0⟩, []⟩
theorem getD_mem' {α : Type} {l : List α} {k : Nat} {d : α} (h : k < l.length) : l.getD k d ∈ l := by
  rw [List.getD_eq_getElem?_getD, List.getElem?_eq_getElem h]; exact List.getElem_mem h
theorem bsF_of {α : Type} {c : α → Int} {l : List α} {i : Nat} {f : α → D} {d : α} (h : i = bsP c l) : bsF c l = (decide ((i : Int) < ((l.map f).length : Int)) && (c (l.getD i d) == 0)) := by
  unfold bsF
  rw [← h]
  by_cases hi : i < l.length
  · have h1 : decide ((i : Int) < ((l.map f).length : Int)) = true := by simpa using hi
    rw [h1, decide_eq_true hi, at_get hi, List.getD_eq_getElem?_getD, List.getElem?_eq_getElem hi]; rfl
  · have h1 : decide ((i : Int) < ((l.map f).length : Int)) = false := by simpa using hi
    rw [h1, decide_eq_false hi]; rfl
theorem bsRes {α : Type} {c : α → Int} {l : List α} {i : Nat} {f : α → D} {d : α} (h : i = bsP c l) : some (D.tup [.int .i64 (i : Int), .bool (decide ((i : Int) < ((l.map f).length : Int)) && (c (l.getD i d) == 0))]) = some (D.tup [I (bsP c l : Nat), .bool (bsF c l)]) := by
  rw [bsF_of (f := f) (d := d) h, ← h]; rfl
section
open Go.RowKit
variable {C : Ctx} {E : Env} {L : List AO} {d : Option Tmp} {ty : TypeId} {p : String} {af : Array Edge} {gd : Option (Nat × Bool)}
theorem ixn {T e sz : Nat} {x i : Operand} {α : Type} {l : List α} {f : α → D} {kk : IntKind} {n : Int} {k : Nat} (hx : Get E x (.d (.list sz (l.map f)))) (hi : Get E i (.d (.int kk n))) (hf : elemF C.P T = some (e, sz)) (hn : n = (k : Int)) (hk : k < l.length) : MStep C ⟨d, .indexAddr T x i, ty, p, af, gd⟩ E L (.d (.ref (f l[k]).cells)) := by
  subst hn; exact ixm hx hi hf hk
theorem ixd {α : Type} (d0 : α) {T e sz : Nat} {x i : Operand} {l : List α} {f : α → D} {kk : IntKind} {n : Int} {k : Nat} (hx : Get E x (.d (.list sz (l.map f)))) (hi : Get E i (.d (.int kk n))) (hf : elemF C.P T = some (e, sz)) (hn : n = (k : Int)) (hk : k < l.length) : MStep C ⟨d, .indexAddr T x i, ty, p, af, gd⟩ E L (.d (.ref (f (l.getD k d0)).cells)) := by
  rw [List.getD_eq_getElem?_getD, List.getElem?_eq_getElem hk]; exact ixn hx hi hf hn hk
end
end Go.Aw

/-! Sp7 -/
namespace Go.Aw
theorem bs_le {g : Nat → Int} : ∀ (f i j : Nat), i ≤ j → bs g f i j ≤ j
  | 0, i, j, h => h
  | f + 1, i, j, h => by
    simp only [bs]
    split
    · split
      · exact bs_le f _ _ (by omega)
      · exact Nat.le_trans (bs_le f _ _ (by omega)) (by omega)
    · exact h
theorem bsP_le {α : Type} (c : α → Int) (l : List α) : bsP c l ≤ l.length := bs_le _ _ _ (Nat.zero_le _)
/-- m, into its place. -/
def ins (c : Mu → Int) (l : List Mu) (m : Mu) : List Mu := l.take (bsP c l) ++ [m] ++ l.drop (bsP c l)
def Ct.sib (c : Ct) (m : Mu) : Ct := if bsF (fun x => Mu.sib x m) c.sibs then c else ⟨c.cells, c.wipes, ins (fun x => Mu.sib x m) c.sibs m⟩
end Go.Aw

/-! Sp8 -/
namespace Go.Aw
theorem bsF_lt {α : Type} {c : α → Int} {l : List α} (h : bsF c l = true) : bsP c l < l.length := by
  unfold bsF at h
  simp only [Bool.and_eq_true, decide_eq_true_eq] at h
  exact h.1
def Ct.cell (c : Ct) (m : Mu) : Ct :=
  if c.covered m.key m.at_ then c
  else if bsF (fun x : Mu => cmpS x.key m.key) c.cells then
    (if Mu.cmp (c.cells.getD (bsP (fun x : Mu => cmpS x.key m.key) c.cells) mu0) m < 0 then ⟨c.cells.set (bsP (fun x : Mu => cmpS x.key m.key) c.cells) m, c.wipes, c.sibs⟩ else c)
  else ⟨ins (fun x : Mu => cmpS x.key m.key) c.cells m, c.wipes, c.sibs⟩
end Go.Aw

/-! AwU -/
namespace Go.Aw
open Go.RowKit

/-! ### Bits -/
def bitI (op : BinOp) (k : IntKind) (x y : Int) : Int :=
  let a := BitVec.ofInt k.bits x
  let b := BitVec.ofInt k.bits y
  match op with
  | .and => k.wrap (a &&& b).toNat
  | .or => k.wrap (a ||| b).toNat
  | .xor => k.wrap (a ^^^ b).toNat
  | .andNot => k.wrap (a &&& ~~~b).toNat
  | _ => 0
def isBit : BinOp → Bool
  | .and | .or | .xor | .andNot => true
  | _ => false
section
variable {C : Ctx} {E : Env} {L : List AO} {d : Option Tmp} {ty : TypeId} {p : String} {af : Array Edge} {gd : Option (Nat × Bool)}
/-- 'x & y', 'x | y', 'x ^ y', 'x &^ y' -/
theorem bt {op : BinOp} {T U : TypeId} {x y : Operand} {k : IntKind} {a b : Int} (hx : Get E x (.d (.int k a))) (hy : Get E y (.d (.int k b))) (ho : isBit op = true) : MStep C ⟨d, .binOp op T x y U, ty, p, af, gd⟩ E L (.d (.int k (bitI op k a b))) :=
  mstep_pure fun a' w μ ρ hh he => by
    have h1 := hx μ ρ a' he
    have h2 := hy μ ρ a' he
    simp only [ARep, Rep] at h1 h2 ⊢
    refine ⟨_, run_bin rfl (eqGuard_run (by rw [h1]; simp) (by rw [h1]; simp)) (v := .int k (bitI op k a b)) ?_, rfl⟩
    rw [h1, h2]
    cases op <;> first | (cases ho; done) | simp [binOp, Op.intBits, bitI]
/-- 'x << y' -/
theorem shL {T U : TypeId} {x y : Operand} {k k' : IntKind} {a b : Int} (hx : Get E x (.d (.int k a))) (hy : Get E y (.d (.int k' b))) (hb : 0 ≤ b) : MStep C ⟨d, .binOp .shl T x y U, ty, p, af, gd⟩ E L (.d (.int k (k.wrap (a * 2 ^ (min b.toNat k.bits))))) :=
  mstep_pure fun a' w μ ρ hh he => by
    have h1 := hx μ ρ a' he
    have h2 := hy μ ρ a' he
    simp only [ARep, Rep] at h1 h2 ⊢
    refine ⟨_, run_bin rfl (eqGuard_run (by rw [h1]; simp) (by rw [h1]; simp)) (v := .int k (k.wrap (a * 2 ^ (min b.toNat k.bits)))) ?_, rfl⟩
    rw [h1, h2]
    have : ¬ b < 0 := by omega
    simp [binOp, Op.shift, this]
/-- '==' of bools -/
theorem bb {T U : TypeId} {x y : Operand} {a b : Bool} (ht : C.P.underlying T = some .bool) (hx : Get E x (.d (.bool a))) (hy : Get E y (.d (.bool b))) : MStep C ⟨d, .binOp .eql T x y U, ty, p, af, gd⟩ E L (.d (.bool (a == b))) :=
  mstep_pure fun a' w μ ρ hh he => by
    have h1 := hx μ ρ a' he
    have h2 := hy μ ρ a' he
    simp only [ARep, Rep] at h1 h2 ⊢
    refine ⟨_, run_bin rfl (eqGuard_run (by rw [h1]; simp) (by rw [h1]; simp)) (v := .bool (a == b)) ?_, rfl⟩
    rw [h1, h2]
    simp [binOp, run_equal_bool w T a b ht]
theorem bbn {T U : TypeId} {x y : Operand} {a b : Bool} (ht : C.P.underlying T = some .bool) (hx : Get E x (.d (.bool a))) (hy : Get E y (.d (.bool b))) : MStep C ⟨d, .binOp .neq T x y U, ty, p, af, gd⟩ E L (.d (.bool (a != b))) :=
  mstep_pure fun a' w μ ρ hh he => by
    have h1 := hx μ ρ a' he
    have h2 := hy μ ρ a' he
    simp only [ARep, Rep] at h1 h2 ⊢
    refine ⟨_, run_bin rfl (eqGuard_run (by rw [h1]; simp) (by rw [h1]; simp)) (v := .bool (a != b)) ?_, rfl⟩
    rw [h1, h2]
    simp [binOp, run_equal_bool w T a b ht]
    cases a <;> cases b <;> rfl
end

/-! ### Arrays in boxes -/
/-- An array type's length, element type, and that one's size. -/
def arrF (P : Program) (T : TypeId) : Option (Nat × TypeId × Nat) :=
  match P.underlying T with
  | some (.array n e) => match tyF P e with
    | some (m, _) => some (n, e, m)
    | none => none
  | _ => none
theorem arrF_out {P : Program} {T n e m : Nat} (h : arrF P T = some (n, e, m)) : P.underlying T = some (.array n e) ∧ ∃ g, tyF P e = some (m, g) := by
  unfold arrF at h
  split at h
  · rename_i n' e' h1
    split at h
    · rename_i m' g h2
      simp only [Option.some.injEq, Prod.mk.injEq] at h
      obtain ⟨rfl, rfl, rfl⟩ := h
      exact ⟨h1, g, h2⟩
    · cases h
  · cases h
section run
variable {P : Program} {w : World} {o : Oper} {f : Operand → Value}
theorem run_indexArr {T n e sz b q : Nat} {x ix : Operand} {k : IntKind} {i : Int} (ho : o.op = .indexAddr T x ix) (hf : arrF P T = some (n, e, sz)) (hx : f x = .pointer (some ⟨b, q, none⟩)) (hi : f ix = .int k i) (h0 : 0 ≤ i) (h1 : i < n) : (execOp f o).run P w = .ok (.value (.pointer (some ⟨b, q + i.toNat * sz, none⟩))) w := by
  obtain ⟨hu, g, ht⟩ := arrF_out hf
  have e1 : execOp f o = (do let z ← Instr.indexAt T (f x) (f ix); pure (.value z)) := by simp only [execOp, ho]
  rw [e1, hx, hi]
  simp only [Instr.indexAt, Instr.sureAddr, asIntOf, Sem.run_bind, Sem.run_pure, Result.andThen, run_underlying hu, h0, h1, and_self, if_true, run_sizeT ht, addr_add]
theorem run_sliceArr {T n e sz b q l h : Nat} {x : Operand} {lo hi : Option Operand} (ho : o.op = .slice T x lo hi none) (hf : arrF P T = some (n, e, sz)) (hx : f x = .pointer (some ⟨b, q, none⟩)) (hlo : SlV f lo 0 l) (hhi : SlV f hi n h) (hlh : l ≤ h) (hhc : h ≤ n) :
    ∃ o', (execOp f o).run P w = .ok (.value (.slice (some ⟨b, o', none⟩) (h - l) (n - l))) w ∧ (o' = q + l * sz ∨ (n = l ∧ o' = q)) := by
  obtain ⟨hu, g, ht⟩ := arrF_out hf
  have e1 : execOp f o = (do let z ← Instr.sliceAt T (f x) (lo.map f) (hi.map f) none; pure (.value z)) := by simp only [execOp, ho, Option.map_none]
  have hs := run_sizeT (P := P) (w := w) ht
  have hlh' : (l : Int) ≤ (h : Int) := by omega
  have hhc' : (h : Int) ≤ (n : Int) := by omega
  refine ⟨if n = l then q else q + l * sz, ?_, ?_⟩
  · rw [e1, hx]
    rcases hlo with ⟨rfl, rfl⟩ | ⟨y, k, rfl, hy⟩ <;> rcases hhi with ⟨rfl, rfl⟩ | ⟨y', k', rfl, hy'⟩ <;>
      simp_all [Instr.sliceAt, Instr.sureAddr, Instr.sliceBounds, Instr.sliceBound, asIntOf, run_underlying hu, Result.andThen, addr_add] <;> split <;> simp_all
  · by_cases hc : n = l
    · right; exact ⟨hc, by simp [hc]⟩
    · left; simp [hc]
end run
section
variable {C : Ctx} {E : Env} {L : List AO} {r : AV} {d : Option Tmp} {ty : TypeId} {p : String} {af : Array Edge} {gd : Option (Nat × Bool)}
/-- '&a[k]' -/
theorem ixb {T n e sz i off : Nat} {x y : Operand} {kk : IntKind} {m : Int} {q : Nat} (hx : Get E x (.box i off)) (hy : Get E y (.d (.int kk m))) (hf : arrF C.P T = some (n, e, sz)) (hm : m = (q : Int)) (hq : q < n) : MStep C ⟨d, .indexAddr T x y, ty, p, af, gd⟩ E L (.box i (off + q * sz)) :=
  mstep_pure fun a w μ ρ hh he => by
    have h1 := hx μ ρ a he
    have h2 := hy μ ρ a he
    simp only [ARep, Rep] at h1 h2 ⊢
    obtain ⟨b, hb, hv⟩ := h1
    exact ⟨_, run_indexArr rfl hf hv h2 (by omega) (by omega), b, hb, by rw [hm]; simp⟩
/-- 'a[l:h]' of an array that is a box of its own -/
theorem slb {T n e sz i l h : Nat} {x : Operand} {lo hi : Option Operand} (hx : Get E x (.box i 0)) (hf : arrF C.P T = some (n, e, sz)) (hlo : SlB E lo 0 l) (hhi : SlB E hi n h) (hlh : l ≤ h) (hhc : h ≤ n) : MStep C ⟨d, .slice T x lo hi none, ty, p, af, gd⟩ E L (.sl i sz l (h - l) (n - l)) :=
  mstep_pure fun a w μ ρ hh he => by
    have h1 := hx μ ρ a he
    simp only [ARep] at h1
    obtain ⟨b, hb, hv⟩ := h1
    obtain ⟨o', h2, h3⟩ := run_sliceArr (P := C.P) (w := w) (o := ⟨d, .slice T x lo hi none, ty, p, af, gd⟩) rfl hf hv (hlo.v he) (hhi.v he) hlh hhc
    refine ⟨_, h2, ?_⟩
    unfold ARep
    refine ⟨_, hb, .inl ⟨b, o', rfl, rfl, ?_⟩⟩
    rcases h3 with h3 | ⟨h3, h4⟩
    · left; simpa using h3
    · by_cases hl : l = 0
      · left; rw [h4, hl]; simp
      · right; exact ⟨by omega, hl⟩
theorem getL {α β : Type} {l : List α} {f : α → β} {k : Nat} (h : k < l.length) : (l.map f)[k]? = some (f l[k]) := by simp [h]
/-- A struct or an array of its parts, in a box. -/
theorem bdA {T n e sz : Nat} {parts : List (Nat × Operand)} {zs : List AV} {ds : List (Nat × AV)} (hz : ZeroOk C.P T zs) (hf : arrF C.P T = some (n, e, sz)) (hg : GetBs E parts ds) (hb : bdOk ((List.range n).map fun i => (i * sz, sz)) zs.length ds = true) (hi : parts.all (fun q => Nat.blt q.1 n) = true) :
    MStep C ⟨d, .build T parts.toArray, ty, p, af, gd⟩ E L (.agg (bdCells ((List.range n).map fun i => (i * sz, sz)) zs ds)) :=
  mstep_pure fun a w μ ρ hh he => by
    obtain ⟨z, hz1, hz2, hz3⟩ := hz
    obtain ⟨hu, g, ht⟩ := arrF_out hf
    have hlz := (hz2 μ ρ).length
    obtain ⟨vs', f1, f2, f3⟩ := fill_bd he ((List.range n).map fun i => (i * sz, sz)) zs.length parts ds zs z.cells.toList hg hb (hz2 μ ρ) hlz hz3
    refine ⟨.agg vs'.toArray, ?_, by simp only [ARep]; exact ⟨vs', rfl, f2, f3⟩⟩
    have e1 : execOp a.eval ⟨d, .build T parts.toArray, ty, p, af, gd⟩ = (do let z ← Instr.build T (parts.toArray.map fun (i, x) => (i, a.eval x)); pure (.value z)) := by simp only [execOp]
    rw [e1]
    have same : ∀ (ps : List (Nat × Value)) (cells : Array Value), (∀ q ∈ ps, q.1 < n) → Instr.fill (((List.range n).map fun i => (i * sz, sz)).toArray[·]?) cells ps = Instr.fill (fun i => some (i * sz, sz)) cells ps := by
      intro ps
      induction ps with
      | nil => intro cells _; rfl
      | cons q ps ih =>
        intro cells h
        obtain ⟨i, v⟩ := q
        have hi := h (i, v) List.mem_cons_self
        simp only [Instr.fill]
        have e2 : (((List.range n).map fun i => (i * sz, sz)).toArray[i]?) = some (i * sz, sz) := by simp [hi]
        rw [e2]
        simp only []
        split
        · rfl
        · exact ih _ (fun q hq => h q (List.mem_cons_of_mem _ hq))
    have hf2 : Instr.fill (fun i => some (i * sz, sz)) z.cells (parts.toArray.map fun (i, x) => (i, a.eval x)).toList = some vs'.toArray := by
      rw [← same]
      · simp only [Array.toArray_toList] at f1
        simpa using f1
      · intro q hq
        simp only [List.map_toArray, List.mem_map] at hq
        obtain ⟨r, hr, rfl⟩ := hq
        have := List.all_eq_true.1 hi r hr
        simpa [Nat.blt_eq] using this
    simp only [Instr.build, Sem.run_bind, hz1, Result.andThen_ok, run_underlying hu, run_sizeT ht]
    rw [hf2]
    simp
/-- string(b) of bytes in a box -/
theorem cvbs {S D e i off len cap U : Nat} {x : Operand} {cs : List AV} {ns : List Int} (hx : Get E x (.sl i 1 off len cap)) (hs : C.P.underlying S = some (.slice e)) (he' : C.P.underlying e = some (.int .u8)) (hd : C.P.underlying D = some .string) (hL : L[i]? = some (.box U cs)) (hcap : 0 < cap) (hn : ns.length = len) (hc : ∀ j, j < len → cs[off + j]? = some (.d (.int .u8 (ns.getD j 0)))) :
    MStep C ⟨d, .convert S D x, ty, p, af, gd⟩ E L (.d (.str (strOfNums ns))) :=
  mstep_pure fun a w μ ρ hh he => by
    have h1 := hx μ ρ a he
    simp only [ARep] at h1
    obtain ⟨u, hu, h1⟩ := h1
    obtain ⟨b, vs, rfl, h2, h3, h4⟩ := hh.rep i _ _ hL hu
    rcases h1 with ⟨g, o, hg, hv, ho⟩ | ⟨hg, _⟩
    · simp only [blk, Option.some.injEq] at hg
      subst hg
      have ho' : o = off := by rcases ho with ho | ⟨h5, _⟩; · simpa using ho
                               · omega
      subst ho'
      refine ⟨.string (strOfNums ns), run_conv rfl ?_, by simp only [ARep, Rep]⟩
      rw [hv]
      refine run_convert_bytes_arg w S e hs he' b o len cap ns hn (fun j hj => ?_) D hd
      obtain ⟨v, h5, h6⟩ := h3.at (o + j) _ (hc j hj)
      simp only [ARep, Rep] at h6
      simp [World.cell?, h2, h5, h6]
    · simp [blk] at hg
/-- string(r) -/
theorem cvr {S D : TypeId} {x : Operand} {k : IntKind} {n : Int} (hx : Get E x (.d (.int k n))) (hs : (C.P.underlying S).isSome = true) (hd : C.P.underlying D = some .string) : MStep C ⟨d, .convert S D x, ty, p, af, gd⟩ E L (.d (.str (Utf8.encode n))) :=
  mstep_pure fun a w μ ρ hh he => by
    have h1 := hx μ ρ a he
    simp only [ARep, Rep] at h1 ⊢
    exact ⟨_, run_conv rfl (by rw [h1]; exact run_convert_int_string w S D k n hs hd), rfl⟩
/-- 's[l:h]' of a string -/
theorem sst {T l h : Nat} {x : Operand} {lo hi : Option Operand} {s : ByteArray} (hx : Get E x (.d (.str s))) (ht : C.P.underlying T = some .string) (hlo : SlB E lo 0 l) (hhi : SlB E hi s.size h) (hlh : l ≤ h) (hhc : h ≤ s.size) : MStep C ⟨d, .slice T x lo hi none, ty, p, af, gd⟩ E L (.d (.str (s.extract l h))) :=
  mstep_pure fun a w μ ρ hh he => by
    have h1 := hx μ ρ a he
    simp only [ARep, Rep] at h1 ⊢
    refine ⟨_, ?_, rfl⟩
    have e1 : execOp a.eval ⟨d, .slice T x lo hi none, ty, p, af, gd⟩ = (do let z ← Instr.sliceAt T (a.eval x) (lo.map a.eval) (hi.map a.eval) none; pure (.value z)) := by simp only [execOp, Option.map_none]
    have hlh' : (l : Int) ≤ (h : Int) := by omega
    have hhc' : (h : Int) ≤ (s.size : Int) := by omega
    rw [e1, h1]
    rcases hlo.v he with ⟨rfl, rfl⟩ | ⟨y, k, rfl, hy⟩ <;> rcases hhi.v he with ⟨rfl, rfl⟩ | ⟨y', k', rfl, hy'⟩ <;>
      simp_all [Instr.sliceAt, Instr.slice, Instr.sliceBounds, Instr.sliceBound, asIntOf, run_underlying ht, Result.andThen]
end

theorem ok_freezeC {C : Ctx} {c : Code} {Q : Exit → Act → World → Prop} {E : Env} {L : List AO} (hF : ∀ b, ¬ C.F b) (i : Nat) {T sz : Nat} {xs : List D} (hL : L[i]? = some (.row T sz xs)) (hpl : ∀ x ∈ xs, x.plain = true)
    (h : CodeOk C c Q (substE i (.list sz xs) E) ((L.map (AO.subst i (.list sz xs))).set i .dead)) : CodeOk C c Q E L := fun a w s => h a w (sim_freeze hF hL hpl s)
theorem ok_sealC {C : Ctx} {c : Code} {Q : Exit → Act → World → Prop} {E : Env} {L : List AO} (hF : ∀ b, ¬ C.F b) (i : Nat) {T : Nat} {cs : List AV} {ds : List D} (hL : L[i]? = some (.box T cs)) (hd : AV.toDs cs = some ds)
    (h : CodeOk C c Q (substBE i ds E) ((L.map (AO.substB i ds)).set i .dead)) : CodeOk C c Q E L := fun a w s => h a w (sim_seal hF hL hd s)
theorem nofoot {P : Program} {N : Nat} {w : World} {μ : Mem} {ρ : List Value} : ∀ b, ¬ (fctx P N w μ ρ []).F b := fun b hb => by
  have : foot ρ [] b := hb
  rw [foot_nil] at this; exact this
/-- A fresh row, whatever else was laid, is a list to who only reads it. -/
theorem pure_of_rowI {P : Program} {f : FuncId} {xs : List D} {i T sz : Nat} {ys : List D} {L' : List AO} (h : Spec P f (xs.map .d) [] (.row i) L') (hi : L'[i]? = some (.row T sz ys)) (hpl : ∀ y ∈ ys, y.plain = true) : Pure P f xs (.list sz ys) := by
  refine ⟨h.1, fun w μ vs hm hG hr => ?_⟩
  have pre : HeapOk (fctx P 0 w μ [] []) w μ [] [] := ⟨rfl, fun i o v h => by simp at h, fun i j o o' v v' b _ h => by simp at h, fun i o v b h => by simp at h, hm, ⟨MemLe.refl μ, hG⟩, fun _ _ => rfl, Fr.refl _ _, Nat.le_refl _, fun i hi => rfl⟩
  refine (h.2 w μ [] vs pre (AReps.ofReps hr)).mono fun e w' ⟨v, μ', ρ', he, hq, hrr⟩ => ?_
  have hs : Sim (fctx P 1 w μ [] []) ⟨#[v], []⟩ w' (upd 0 (.row i) none0) L' := ⟨⟨μ', ρ', hq.ctxN, fun k r hk => by
    simp only [upd] at hk
    cases hb : Nat.beq 0 k with
    | true =>
      rw [hb] at hk
      simp only [cond_true, Option.some.injEq] at hk
      have := Nat.eq_of_beq_eq_true hb
      subst this; subst hk
      exact ⟨v, rfl, hrr⟩
    | false => rw [hb] at hk; simp [none0] at hk⟩, rfl, rfl⟩
  have hfz := sim_freeze (i := i) nofoot hi hpl hs
  obtain ⟨⟨μ2, ρ2, hq2, he2⟩, _, _⟩ := hfz
  obtain ⟨u, hu1, hu2⟩ := he2 0 (.d (.list sz ys)) (by
    show substE i (.list sz ys) (upd 0 (.row i) none0) 0 = _
    simp [substE, upd, AV.subst])
  have : u = v := by simpa using hu1.symm
  subst this
  exact ⟨u, μ2, he, ⟨hq2.le.le, hq2.old, hq2.holds, ⟨hq2.fr.os, hq2.fr.tape, hq2.fr.output, hq2.fr.size, fun k hk => hq2.fr.block k hk (nofoot k)⟩, hq2.fr.dr⟩, by simpa only [ARep] using hu2⟩
theorem ok_cutE {C : Ctx} {x y : Code} {Q : Exit → Act → World → Prop} {E : Env} {L : List AO} (f : Env → Env) (g : List AO → List AO) (h : CodeOk C x (Exit.then (fun a w => Sim C a w (f E) (g L)) Q) E L) (h' : CodeOk C y Q (f E) (g L)) : CodeOk C (.seq x y) Q E L := ok_cut _ _ h h'
/-! ### The bytes of a string -/
def byt (s : ByteArray) (k : Nat) : Nat := if h : k < s.size then (s[k]'h).toNat else 0
theorem byt_lt (s : ByteArray) (k : Nat) : byt s k < 256 := by
  unfold byt
  split
  · exact UInt8.toNat_lt _
  · omega
section
variable {C : Ctx} {E : Env} {L : List AO} {d : Option Tmp} {ty : TypeId} {p : String} {af : Array Edge} {gd : Option (Nat × Bool)}
theorem ixsB {T : TypeId} {x i : Operand} {s : ByteArray} {kk : IntKind} {n : Int} {k : Nat} (hx : Get E x (.d (.str s))) (hi : Get E i (.d (.int kk n))) (ht : C.P.underlying T = some .string) (hn : n = (k : Int)) (hk : k < s.size) : MStep C ⟨d, .index T x i, ty, p, af, gd⟩ E L (.d (.int .u8 (byt s k))) := by
  subst hn
  have := ixs (C := C) (L := L) (d := d) (ty := ty) (p := p) (af := af) (gd := gd) hx hi ht (by omega) (by simpa using hk)
  unfold byt
  rw [dif_pos hk]
  exact this
/-- A load of a struct whose cells are told. -/
theorem lRn {T n : Nat} {x : Operand} {cs ds : List D} (hx : Get E x (.d (.ref cs))) (ht : tyF C.P T = some (n, true)) (hr : n ≤ cs.length) (he : cs.take n = ds) : MStep C ⟨d, .load T x, ty, p, af, gd⟩ E L (.d (.agg ds)) := by
  subst he; exact lR hx ht hr
end
/-! ### min, max -/
section
variable {C : Ctx} {E : Env} {L : List AO} {d : Option Tmp} {ty : TypeId} {p : String} {af : Array Edge} {gd : Option (Nat × Bool)}
theorem max2 {x y : Operand} {k k' : IntKind} {a b : Int} {ts : Array TypeId} (hx : Get E x (.d (.int k a))) (hy : Get E y (.d (.int k' b))) : MStep C ⟨d, .call ⟨.builtin .max, #[x, y], ts⟩, ty, p, af, gd⟩ E L (.d (.int k (if b > a then b else a))) :=
  mstep_pure fun ac w μ ρ hh he => by
    have h1 := hx μ ρ ac he
    have h2 := hy μ ρ ac he
    simp only [ARep, Rep] at h1 h2 ⊢
    refine ⟨_, ?_, rfl⟩
    have e1 : execOp ac.eval ⟨d, .call ⟨.builtin .max, #[x, y], ts⟩, ty, p, af, gd⟩ = (do let d' ← resolve ac.eval ⟨.builtin .max, #[x, y], ts⟩ ty; invoke d'.target d'.args) := by simp only [execOp]
    rw [e1]
    simp [resolve, invoke, builtin, h1, h2, run_max_int2]
theorem min2 {x y : Operand} {k k' : IntKind} {a b : Int} {ts : Array TypeId} (hx : Get E x (.d (.int k a))) (hy : Get E y (.d (.int k' b))) : MStep C ⟨d, .call ⟨.builtin .min, #[x, y], ts⟩, ty, p, af, gd⟩ E L (.d (.int k (if b < a then b else a))) :=
  mstep_pure fun ac w μ ρ hh he => by
    have h1 := hx μ ρ ac he
    have h2 := hy μ ρ ac he
    simp only [ARep, Rep] at h1 h2 ⊢
    refine ⟨_, ?_, rfl⟩
    have e1 : execOp ac.eval ⟨d, .call ⟨.builtin .min, #[x, y], ts⟩, ty, p, af, gd⟩ = (do let d' ← resolve ac.eval ⟨.builtin .min, #[x, y], ts⟩ ty; invoke d'.target d'.args) := by simp only [execOp]
    rw [e1]
    simp [resolve, invoke, builtin, h1, h2, run_min_int2]
end
/-! ### Tables of Go's library -/
section
variable {C : Ctx} {E : Env} {L : List AO} {d : Option Tmp} {ty : TypeId} {p : String} {af : Array Edge} {gd : Option (Nat × Bool)}
/-- '&table[k]', of numbers of one kind, in rows of sz. -/
theorem ixg {T n e sz G : Nat} {y : Operand} {kk k : IntKind} {m : Int} {q : Nat} {Gs : List (Nat × List Value)} {ns : List Int} (hG : Glb C.P = Gs) (hin : (G, ns.map (Value.int k)) ∈ Gs) (hy : Get E y (.d (.int kk m))) (hf : arrF C.P T = some (n, e, sz)) (hm : m = (q : Int)) (hq : q < n) :
    MStep C ⟨d, .indexAddr T (.global G) y, ty, p, af, gd⟩ E L (.d (.ref ((ns.drop (q * sz)).map fun x => .int k x))) :=
  mstep_pure fun a w μ ρ hh he => by
    have h2 := hy μ ρ a he
    simp only [ARep, Rep] at h2 ⊢
    obtain ⟨cs, T', fz, h3, h4⟩ := hh.le.glob _ (by rw [hG]; exact hin)
    refine ⟨_, run_indexArr (b := G) (q := 0) rfl hf rfl h2 (by omega) (by omega), G, q * sz, (ns.drop (q * sz)).map (Value.int k), by rw [hm]; simp, ⟨cs, T', fz, h3, fun j v hj => ?_⟩, ?_, ?_⟩
    · have := h4 (q * sz + j) v (by rw [List.map_drop, List.getElem?_drop] at hj; exact hj)
      simpa using this
    · generalize ns.drop (q * sz) = l
      induction l with
      | nil => simp [Reps]
      | cons x l ih => simp only [List.map_cons, Reps]; exact ⟨_, _, rfl, rfl, ih⟩
    · intro u hu
      obtain ⟨x, _, rfl⟩ := List.mem_map.1 hu
      rfl
end

/-! ### A range over a string -/
theorem Wrote.obj {w : World} {b : Nat} (o : Obj) (h : b < w.heap.size) : Wrote w { w with heap := w.heap.setIfInBounds b o } b o :=
  ⟨rfl, rfl, rfl, by simp, by simp [h], fun k hk => by simp [Ne.symm hk], Nat.le_refl _⟩
section
variable {C : Ctx} {E : Env} {L : List AO} {d : Option Tmp} {ty : TypeId} {p : String} {af : Array Edge}
theorem rng {T n : Nat} {x : Operand} {s : ByteArray} (hx : Get E x (.d (.str s))) (ht : C.P.underlying T = some .string) (hn : L.length = n) : EStep C ⟨d, .range T x, ty, p, af, none⟩ E L (.box n 0) (L ++ [.raw none (.stringIter s 0)]) :=
  estep_of_run fun a w μ ρ hh he => by
    have h1 := hx μ ρ a he
    simp only [ARep, Rep] at h1
    refine ⟨.pointer (some ⟨w.heap.size, 0, none⟩), w.alloc (.stringIter s 0), μ, ρ ++ [.pointer (some ⟨w.heap.size, 0, none⟩)], ?_, hh.pushO rfl ⟨w.heap.size, rfl, heap_push_new w _, fun _ h => by cases h⟩, MemLe.refl μ, RhoLe.snoc ρ _, ?_⟩
    · have e1 : execOp a.eval ⟨d, .range T x, ty, p, af, none⟩ = (do let z ← Instr.range T (a.eval x); pure (.value z)) := by simp only [execOp]
      rw [e1, h1]
      simp [Instr.range, run_underlying ht, newObj, Result.andThen, Sem.run]
    · simp only [ARep]
      exact ⟨w.heap.size, by rw [← hn, ← hh.len]; simp, rfl⟩
/-- The next rune of a string; b: is there one? -/
theorem nxt {i : Nat} {x : Operand} {s : ByteArray} {pos : Nat} (hx : Get E x (.box i 0)) (hL : L[i]? = some (.raw none (.stringIter s pos))) :
    EStep C ⟨d, .next x true, ty, p, af, none⟩ E L (.d (.tup (if pos < s.size then [.bool true, .int .i64 pos, .int .i32 (Utf8.decode s pos).1] else [.bool false]))) (L.set i (.raw none (.stringIter s (if pos < s.size then pos + (Utf8.decode s pos).2 else pos)))) :=
  estep_of_run fun a w μ ρ hh he => by
    have h1 := hx μ ρ a he
    simp only [ARep] at h1
    obtain ⟨b, hb, hv⟩ := h1
    obtain ⟨g, h2, h3, _⟩ := hh.rep i _ _ hL hb
    cases h2
    have e1 : execOp a.eval ⟨d, .next x true, ty, p, af, none⟩ = (do let z ← Instr.next (a.eval x) true ty; pure (.value z)) := by simp only [execOp]
    rw [e1, hv]
    by_cases h : pos < s.size
    · simp only [if_pos h]
      refine ⟨_, w.iterAt b s (pos + (Utf8.decode s pos).2), μ, ρ, by rw [Sem.run_bind, Lib.run_next_any_at w b s pos ty h3 h]; rfl, hh.wroteO (b := b) hL rfl hb rfl (Wrote.obj _ (lt_of_heap h3)) ⟨b, rfl, Lib.iterAt_heap w b s pos _ h3, fun _ h => by cases h⟩, MemLe.refl μ, RhoLe.refl ρ, ?_⟩
      simp only [ARep, Rep, Reps]
      exact ⟨[.bool true, .int .i64 pos, .int .i32 (Utf8.decode s pos).1], rfl, _, _, rfl, rfl, _, _, rfl, rfl, _, _, rfl, rfl, rfl⟩
    · simp only [if_neg h]
      refine ⟨_, w, μ, ρ, by rw [Sem.run_bind, Lib.run_next_end_at w b s pos ty h3 h]; rfl, ?_, MemLe.refl μ, RhoLe.refl ρ, ?_⟩
      · have : L.set i (.raw none (.stringIter s pos)) = L := by
          obtain ⟨hi, hg⟩ := List.getElem?_eq_some_iff.1 hL
          rw [← hg, List.set_getElem_self]
        rw [this]; exact hh
      · simp only [ARep, Rep, Reps]
        exact ⟨[.bool false], rfl, _, _, rfl, rfl, rfl⟩
theorem nx0 {s : ByteArray} {pos : Nat} {x y : D} : (if pos < s.size then [D.bool true, x, y] else [.bool false])[0]? = some (.bool (decide (pos < s.size))) := by
  by_cases h : pos < s.size <;> simp [h]
theorem nx1 {s : ByteArray} {pos : Nat} {x y : D} (h : decide (pos < s.size) = true) : (if pos < s.size then [D.bool true, x, y] else [.bool false])[1]? = some x := by
  rw [if_pos (of_decide_eq_true h)]; rfl
theorem nx2 {s : ByteArray} {pos : Nat} {x y : D} (h : decide (pos < s.size) = true) : (if pos < s.size then [D.bool true, x, y] else [.bool false])[2]? = some y := by
  rw [if_pos (of_decide_eq_true h)]; rfl
end
/-- The runes of a string, with their places. -/
def runesFrom (s : ByteArray) : Nat → Nat → List (Nat × Int)
  | 0, _ => []
  | n + 1, pos => if pos < s.size then (pos, ((Utf8.decode s pos).1 : Int)) :: runesFrom s n (pos + (Utf8.decode s pos).2) else []
def runesOf (s : ByteArray) : List (Nat × Int) := runesFrom s s.size 0
theorem decode_w (s : ByteArray) (pos : Nat) : 1 ≤ (Utf8.decode s pos).2 ∧ (Utf8.decode s pos).2 ≤ 4 := by
  simp only [Utf8.decode]
  repeat' split
  all_goals simp_all
theorem runes_step {s : ByteArray} {f pos : Nat} (h : decide (pos < s.size) = true) (hf : s.size ≤ pos + f) : ∃ f', f = f' + 1 ∧ runesFrom s f pos = (pos, ((Utf8.decode s pos).1 : Int)) :: runesFrom s f' (pos + (Utf8.decode s pos).2) ∧ s.size ≤ pos + (Utf8.decode s pos).2 + f' := by
  have h := of_decide_eq_true h
  have hw := decode_w s pos
  obtain ⟨f', rfl⟩ : ∃ f', f = f' + 1 := ⟨f - 1, by omega⟩
  exact ⟨f', rfl, by simp [runesFrom, h], by omega⟩
theorem runes_end {s : ByteArray} {f pos : Nat} (h : decide (pos < s.size) = false) : runesFrom s f pos = [] := by
  have h := of_decide_eq_false h
  cases f <;> simp [runesFrom, h]
end Go.Aw

/-! Sp9 -/
namespace Go.Aw
structure Ev where
  kind : Int
  node : Int
  rng : Int
  op : Int
  m : Mu
  c : Ct
  s : St
  base : St
  quar : Bool
  why : Int
  q : List Int
  nos : List Int
  no : Int
  table : Int
  key : ByteArray
  end_ : ByteArray
  rows : List Ro
  ctx : List St
def ints (l : List Int) : D := .list 1 (l.map I)
def Ev.d (e : Ev) : D := .agg [I e.kind, I e.node, I e.rng, I e.op,
  I e.m.table, I e.m.kind, .str e.m.key, .str e.m.end_, .str e.m.val, I e.m.expiry, I e.m.at_.phys, I e.m.at_.logic, I e.m.at_.who, .list 3 (e.m.over.map St.d),
  mus e.c.cells, mus e.c.wipes, mus e.c.sibs, I e.s.phys, I e.s.logic, I e.s.who, I e.base.phys, I e.base.logic, I e.base.who, .bool e.quar, I e.why, ints e.q, ints e.nos, I e.no, I e.table, .str e.key, .str e.end_,
  .list 5 (e.rows.map Ro.d), .list 3 (e.ctx.map St.d)]
/-! ### Two rows of one length -/
def sameL {α : Type} (p : α → α → Bool) : List α → List α → Bool
  | [], [] => true
  | x :: xs, y :: ys => p x y && sameL p xs ys
  | _, _ => false
section
variable {α : Type} {p : α → α → Bool} {a b : List α} {k : Nat}
theorem sameL_len : ∀ {a b : List α}, a.length ≠ b.length → sameL p a b = false
  | [], [], h => absurd rfl h
  | [], _ :: _, _ => rfl
  | _ :: _, [], _ => rfl
  | x :: xs, y :: ys, h => by simp [sameL, sameL_len (a := xs) (b := ys) (by simpa using h)]
theorem sameL_no (ha : k < a.length) (hb : k < b.length) (he : sameL p a b = sameL p (a.drop k) (b.drop k)) (h : p a[k] b[k] = false) : sameL p a b = false := by
  rw [he, List.drop_eq_getElem_cons ha, List.drop_eq_getElem_cons hb]; simp [sameL, h]
theorem sameL_yes (ha : k < a.length) (hb : k < b.length) (he : sameL p a b = sameL p (a.drop k) (b.drop k)) (h : p a[k] b[k] = true) : sameL p a b = sameL p (a.drop (k + 1)) (b.drop (k + 1)) := by
  rw [he, List.drop_eq_getElem_cons ha, List.drop_eq_getElem_cons hb]; simp [sameL, h]
theorem sameL_end (ha : a.length ≤ k) (hb : b.length ≤ k) (he : sameL p a b = sameL p (a.drop k) (b.drop k)) : sameL p a b = true := by
  rw [he, List.drop_of_length_le ha, List.drop_of_length_le hb]; rfl
theorem sameL_refl (h : ∀ x, p x x = true) : ∀ l : List α, sameL p l l = true
  | [] => rfl
  | x :: xs => by simp [sameL, h x, sameL_refl h xs]
end
def Ro.eqb (a b : Ro) : Bool := sEq a.key b.key && (sEq a.val b.val && ((a.at_.phys == b.at_.phys) && ((a.at_.logic == b.at_.logic) && ((a.at_.who == b.at_.who) && true))))
def St.eqb (a b : St) : Bool := (a.phys == b.phys) && ((a.logic == b.logic) && ((a.who == b.who) && true))
/-! ### orders -/
def St.l (s : St) : List Int := [s.phys, s.logic, s.who]
theorem cmpI_lt {a b : Int} (h : a < b) : cmpI a b = -1 := by simp [cmpI, h]
theorem cmpI_gt {a b : Int} (h : b < a) : cmpI a b = 1 := by simp [cmpI, h, show ¬ a < b by omega]
theorem cmpI_eq {a b : Int} (h : ¬ a < b) (h' : ¬ b < a) : cmpI a b = 0 := by simp [cmpI, h, h']
theorem zip3 {a b : St} {k : Nat} (h : k < 3) : (List.zipWith cmpI a.l b.l)[k]? = some (cmpI (a.l[k]'h) (b.l[k]'h)) := by
  match k, h with
  | 0, _ => rfl
  | 1, _ => rfl
  | 2, _ => rfl
theorem stcmp_at {a b : St} {k : Nat} {n : Int} (h : k < 3) (hz : ∀ j, j < k → (List.zipWith cmpI a.l b.l)[j]? = some 0) (hn : cmpI (a.l[k]'h) (b.l[k]'h) = n) (h0 : n ≠ 0) : St.cmp a b = n := by
  have hl : k < (List.zipWith cmpI a.l b.l).length := h
  have e := zip3 (a := a) (b := b) h
  rw [List.getElem?_eq_getElem hl] at e
  have e := Option.some.inj e
  show orI (List.zipWith cmpI a.l b.l) = n
  rw [orI_at hl hz (by rw [e, hn]; exact h0), e, hn]
theorem stcmp_zero {a b : St} {k : Nat} (h : 3 ≤ k) (hz : ∀ j, j < k → j < 3 → (List.zipWith cmpI a.l b.l)[j]? = some 0) : St.cmp a b = 0 :=
  orI_zero (l := List.zipWith cmpI a.l b.l) fun j hj => hz j (by have : j < 3 := hj; omega) hj
theorem stcmp_step {a b : St} {k : Nat} (h : k < 3) (hz : ∀ j, j < k → j < 3 → (List.zipWith cmpI a.l b.l)[j]? = some 0) (h1 : ¬ a.l[k]'h < b.l[k]'h) (h2 : ¬ b.l[k]'h < a.l[k]'h) : ∀ j, j < k + 1 → j < 3 → (List.zipWith cmpI a.l b.l)[j]? = some 0 := fun j hj h3 => by
  rcases Nat.lt_or_ge j k with h' | h'
  · exact hz j h' h3
  · have : j = k := by omega
    subst this
    rw [zip3 h, cmpI_eq h1 h2]
/-- The parts of two mutations, compared. -/
def Mu.cs (a b : Mu) : List Int := [St.cmp a.at_ b.at_, cmpI a.table b.table, cmpI a.kind b.kind, cmpS a.key b.key, cmpS a.end_ b.end_, cmpS a.val b.val, cmpI a.expiry b.expiry, cmpF St.cmp a.over b.over]
theorem rows_end {c : St → St → Int} {a b : List St} {k : Nat} (h : ¬ (k < a.length ∧ k < b.length)) (he : cmpF c a b = cmpF c (a.drop k) (b.drop k)) (hk : k ≤ a.length) (hk' : k ≤ b.length) : cmpI a.length b.length = cmpF c a b := by
  rw [he]
  rcases Nat.lt_or_ge k a.length with h1 | h1
  · have h2 : b.length ≤ k := by omega
    rw [List.drop_eq_getElem_cons h1, List.drop_of_length_le h2]
    exact cmpI_gt (by omega)
  · rw [List.drop_of_length_le h1]
    rcases Nat.lt_or_ge k b.length with h2 | h2
    · rw [List.drop_eq_getElem_cons h2]
      exact cmpI_lt (by omega)
    · rw [List.drop_of_length_le h2]
      exact cmpI_eq (by omega) (by omega)
/-! ### what is too great -/
def Mu.big (m : Mu) : Bool := ((decide (200 < (m.key.size : Int)) || decide (200 < (m.end_.size : Int))) || decide (200 < (m.val.size : Int))) || decide (50 < (m.over.length : Int))
def greatL (l : List Mu) (n : Int) : Bool := decide (n < (l.length : Int)) || l.any Mu.big
theorem any_at {α : Type} {p : α → Bool} {l : List α} {k : Nat} (hk : k < l.length) (h : p l[k] = true) : l.any p = true := List.any_eq_true.2 ⟨_, List.getElem_mem hk, h⟩
theorem any_no {α : Type} {p : α → Bool} {l : List α} (hz : ∀ j m, j < l.length → l[j]? = some m → p m = false) : l.any p = false := by
  rw [List.any_eq_false]
  intro x hx
  obtain ⟨j, hj, rfl⟩ := List.mem_iff_getElem.1 hx
  simp [hz j _ hj (List.getElem?_eq_getElem hj)]
def Ro.big (r : Ro) : Bool := decide (300 < (r.key.size : Int)) || decide (300 < (r.val.size : Int))
def Ev.great (e : Ev) : Bool := ((greatL [e.m] 1 || decide (20 < (e.q.length : Int))) || decide (20 < (e.rows.length : Int))) || e.rows.any Ro.big
/-! ### words -/
def kindWord (k : Int) : ByteArray :=
  if k = 1 then ⟨#[97, 99, 99, 101, 112, 116]⟩ else if k = 2 then ⟨#[105, 110, 115, 116, 97, 108, 108]⟩ else if k = 3 then ⟨#[102, 105, 110, 105, 115, 104]⟩ else if k = 4 then ⟨#[115, 119, 101, 112, 116]⟩ else if k = 5 then ⟨#[114, 101, 112, 108, 121]⟩ else if k = 6 then ⟨#[100, 111, 119, 110]⟩
  else if k = 7 then ⟨#[117, 112]⟩ else if k = 8 then ⟨#[113, 117, 97, 114, 97, 110, 116, 105, 110, 101]⟩ else if k = 9 then ⟨#[116, 114, 121]⟩ else if k = 10 then ⟨#[116, 111, 108, 100]⟩ else if k = 11 then ⟨#[98, 101, 103, 97, 110]⟩ else ⟨#[]⟩
def mutWord (k : Int) : ByteArray := if k = 1 then ⟨#[112, 117, 116]⟩ else if k = 2 then ⟨#[100, 101, 108]⟩ else if k = 3 then ⟨#[119, 105, 112, 101]⟩ else ⟨#[110, 111, 110, 101]⟩
section
open Go.RowKit
variable {C : Ctx} {E : Env} {L : List AO} {d : Option Tmp} {ty : TypeId} {p : String} {af : Array Edge}
theorem alE {T n : Nat} {cs : List AV} {L' : List AO} (hz : ZeroOk C.P T cs) (hn : L.length = n) (hq : L ++ [.box T cs] = L') : EStep C ⟨d, .alloc T, ty, p, af, none⟩ E L (.box n 0) L' :=
  estep_of_run fun a w μ ρ hh he => by
    obtain ⟨z, hz1, hz2, hz3⟩ := hz
    refine ⟨_, _, μ, _, run_alloc rfl (hz1 w), by rw [← hq]; exact hh.push (T := T) (hz2 μ ρ) hz3, MemLe.refl μ, RhoLe.snoc ρ _, ?_⟩
    simp only [ARep]
    exact ⟨w.heap.size, by rw [← hn, ← hh.len]; simp, rfl⟩
end

theorem nF {b : Bool} (h : (!b) = true) : b = false := by simpa using h
theorem nT {b : Bool} (h : (!b) = false) : b = true := by simpa using h
theorem getQ {α β : Type} {l : List α} {f : α → β} {q : Nat} (h : q < l.length) : (l.map f)[0 + q * 1]? = some (f l[q]) := by simp [h]
end Go.Aw

/-! Sp10 -/
namespace Go.Aw
def partR (r : Int) (first : Bool) : Bool :=
  if ((decide (97 ≤ r) && decide (r ≤ 122)) || (decide (65 ≤ r) && decide (r ≤ 90))) || decide (128 ≤ r) then true
  else if first then false
  else ((decide (48 ≤ r) && decide (r ≤ 57)) || r == 45) || r == 95
/-! ### A number as a text -/
def clampI (n : Int) : Int := if 1125899906842624 < (if (0 : Int) > n then 0 else n) then 1125899906842624 else (if (0 : Int) > n then 0 else n)
/-- n's digits ahead of acc. -/
def digs : Nat → Nat → List Int → List Int
  | 0, _, acc => acc
  | f + 1, n, acc => if n / 10 = 0 then (((48 + n % 10 : Nat) : Int) :: acc) else digs f (n / 10) (((48 + n % 10 : Nat) : Int) :: acc)
theorem digs_len : ∀ (f n : Nat) (acc : List Int), (digs f n acc).length ≤ f + acc.length
  | 0, n, acc => by simp [digs]
  | f + 1, n, acc => by
    simp only [digs]
    split
    · simp; omega
    · have := digs_len f (n / 10) (((48 + n % 10 : Nat) : Int) :: acc)
      simp only [List.length_cons] at this; omega
def textI (n : Int) : ByteArray := strOfNums (digs 20 (clampI n).toNat [])
theorem textI_size (n : Int) : (textI n).size ≤ 20 := by
  unfold textI; rw [strOfNums_size]; simpa using digs_len 20 (clampI n).toNat []
theorem clampI_le (n : Int) : 0 ≤ clampI n ∧ clampI n ≤ 1125899906842624 := by unfold clampI; split <;> split <;> omega
def stampS (s : St) : ByteArray := (((textI s.phys ++ ⟨#[46]⟩) ++ textI s.logic) ++ ⟨#[46]⟩) ++ textI s.who
theorem sz1 (b : UInt8) : (⟨#[b]⟩ : ByteArray).size = 1 := rfl
theorem stampS_size (s : St) : (stampS s).size ≤ 62 := by
  have h1 := textI_size s.phys; have h2 := textI_size s.logic; have h3 := textI_size s.who
  simp only [stampS, ByteArray.size_append, sz1]; omega
end Go.Aw

/-! Sp11 -/
namespace Go.Aw
abbrev u8f (n : Int) : AV := .d (.int .u8 n)
theorem wdec {k : Nat} (h : 1 ≤ k) (h2 : k < 4611686018427387904) : IntKind.i64.wrap ((k : Int) - 1) = ((k - 1 : Nat) : Int) := by rw [wrap_i64 (by omega) (by omega)]; omega
theorem setBs {bs : List Int} {q : Nat} {v w : Int} (h : q < bs.length) (hv : v = w) : setL (0 + q * 1) (bs.map u8f) [u8f v] = (bs.set q w).map u8f := by
  subst hv
  rw [Nat.zero_add, Nat.mul_one, setL_cons _ _ _ _ (by simpa using h), setL_nil, List.map_set]
theorem digV {n : Nat} : IntKind.u8.wrap (IntKind.i64.wrap (48 + (n : Int).tmod 10)) = ((48 + n % 10 : Nat) : Int) := by
  have h1 : (n : Int).tmod 10 = ((n % 10 : Nat) : Int) := by
    rw [Int.tmod_eq_emod_of_nonneg (by omega)]; omega
  rw [h1, wrap_i64 (by omega) (by omega)]
  have := IntKind.wrap_u8 (48 + ((n % 10 : Nat) : Int))
  rw [this]; omega
theorem divV {n : Nat} (h : n < 4611686018427387904) : IntKind.i64.wrap ((n : Int).tdiv 10) = ((n / 10 : Nat) : Int) := by
  have h1 : (n : Int).tdiv 10 = ((n / 10 : Nat) : Int) := by
    rw [Int.tdiv_eq_ediv_of_nonneg (by omega)]; omega
  rw [h1, wrap_i64 (by omega) (by omega)]
theorem upM {n : Nat} : ∀ (l : List Int), AV.uptos n (l.map u8f) = true
  | [] => rfl
  | x :: l => by simp [AV.uptos, AV.upto, upM l]
theorem up1 {T n : Nat} {l : List Int} : [AO.box T (l.map u8f)].all (AO.upto n) = true := by simp [AO.upto, upM l]
structure TxSt where
  at_ : Nat
  n : Nat
  bs : List Int
  ok : Bool
def TxOk (R : List Int) (s : TxSt) : Prop :=
  s.at_ ≤ 20 ∧ s.bs.length = 20 ∧ s.n ≤ 1125899906842624 ∧ (s.ok = true → 1 ≤ s.at_ ∧ s.n < 10 ^ s.at_ ∧ digs s.at_ s.n (s.bs.drop s.at_) = R) ∧ (s.ok = false → s.at_ ≤ 19 ∧ s.bs.drop s.at_ = R)
def TxSt.next (s : TxSt) : TxSt := ⟨s.at_ - 1, s.n / 10, s.bs.set (s.at_ - 1) ((48 + s.n % 10 : Nat) : Int), decide (0 < s.n / 10)⟩
theorem tx_next {R : List Int} {s : TxSt} (h : TxOk R s) (hok : s.ok = true) : TxOk R s.next := by
  obtain ⟨h1, h2, h3, h4, _⟩ := h
  obtain ⟨h5, h6, h7⟩ := h4 hok
  obtain ⟨a, ha⟩ : ∃ a, s.at_ = a + 1 := ⟨s.at_ - 1, by omega⟩
  rw [ha] at h6 h7
  have hd : (s.bs.set a ((48 + s.n % 10 : Nat) : Int)).drop a = ((48 + s.n % 10 : Nat) : Int) :: s.bs.drop (a + 1) := by
    rw [List.drop_eq_getElem_cons (by simp; omega)]
    simp [List.drop_set]
  refine ⟨by simp [TxSt.next]; omega, by simp [TxSt.next, h2], by simp only [TxSt.next]; omega, fun ho => ?_, fun ho => ?_⟩
  · simp only [TxSt.next, decide_eq_true_eq] at ho
    have hn : s.n / 10 ≠ 0 := by omega
    simp only [TxSt.next, ha, Nat.add_sub_cancel]
    refine ⟨?_, by rw [Nat.pow_succ] at h6; omega, ?_⟩
    · rcases Nat.eq_zero_or_pos a with h | h
      · subst h; simp at h6; omega
      · omega
    · rw [hd]
      simp only [digs, if_neg hn] at h7
      exact h7
  · simp only [TxSt.next, decide_eq_false_iff_not] at ho
    have hn : s.n / 10 = 0 := by omega
    simp only [TxSt.next, ha, Nat.add_sub_cancel]
    refine ⟨by omega, ?_⟩
    rw [hd]
    simpa only [digs, if_pos hn] using h7
theorem tx_cells {R bs : List Int} {a : Nat} (h : bs.drop a = R) (hl : bs.length = 20) (ha : a ≤ 19) : R.length = 20 - a ∧ ∀ j, j < 20 - a → (bs.map u8f)[a + j]? = some (.d (.int .u8 (R.getD j 0))) := by
  subst h
  refine ⟨by simp [hl], fun j hj => ?_⟩
  rw [List.getElem?_map, List.getD_eq_getElem?_getD, List.getElem?_drop, List.getElem?_eq_getElem (by omega)]
  rfl
end Go.Aw

/-! Sp12 -/
namespace Go.Aw
/-! ### Runes -/
def figs : ByteArray := ⟨#[48, 49, 50, 51, 52, 53, 54, 55, 56, 57, 97, 98, 99, 100, 101, 102]⟩
def escS (b : Nat) : ByteArray := ((⟨#[92, 120]⟩ : ByteArray) ++ figs.extract (b / 16) (b / 16 + 1)) ++ figs.extract (b % 16) (b % 16 + 1)
theorem hiV {b : Nat} (h : b < 256) : (b : Int).fdiv (2 ^ (min (4 : Int).toNat IntKind.u8.bits)) = ((b / 16 : Nat) : Int) := by
  have : min (4 : Int).toNat IntKind.u8.bits = 4 := by decide
  rw [this, Int.fdiv_eq_ediv_of_nonneg _ (by decide)]; omega
theorem incU {q : Nat} (h : q < 16) : IntKind.u8.wrap ((q : Int) + 1) = ((q + 1 : Nat) : Int) := by rw [IntKind.wrap_u8]; omega
theorem loV : ∀ b : Fin 256, bitI .and .u8 (b.val : Int) 15 = ((b.val % 16 : Nat) : Int) := by decide +kernel
theorem escS_size (b : Nat) : (escS b).size ≤ 4 := by
  have h0 : (⟨#[92, 120]⟩ : ByteArray).size = 2 := rfl
  simp only [escS, ByteArray.size_append, ByteArray.size_extract, h0]; omega
def fT (q : Nat) : Int := firstTab.getD q 0
def aT (q : Nat) : Int := acceptTab.getD q 0
theorem fT_ok : ∀ b : Fin 256, 0 ≤ fT b.val ∧ fT b.val < 256 ∧ (fT b.val < 240 → 2 ≤ IntKind.i64.wrap (bitI .and .u8 (fT b.val) 7) ∧ IntKind.i64.wrap (bitI .and .u8 (fT b.val) 7) ≤ 4) := by decide +kernel
theorem f_at {q : Nat} (h : q < 256) : (((firstTab.drop (q * 1)).map fun x => D.int .u8 x))[0]? = some (.int .u8 (fT q)) := by
  have hl : firstTab.length = 256 := by decide +kernel
  rw [List.getElem?_map, List.getElem?_drop, Nat.mul_one, Nat.add_zero]
  unfold fT
  rw [List.getD_eq_getElem?_getD, List.getElem?_eq_getElem (by rw [hl]; exact h)]
  rfl
theorem a_at {q : Nat} (h : q < 16) : (((acceptTab.drop (q * 2)).map fun x => D.int .u8 x)).take 2 = [.int .u8 (aT (q * 2)), .int .u8 (aT (q * 2 + 1))] := by
  have hl : acceptTab.length = 32 := by decide +kernel
  rw [List.drop_eq_getElem_cons (by omega), List.drop_eq_getElem_cons (by omega)]
  have e : ∀ k (hk : k < acceptTab.length), aT k = acceptTab[k] := fun k hk => by
    unfold aT; rw [List.getD_eq_getElem?_getD, List.getElem?_eq_getElem hk]; rfl
  rw [e _ (by omega), e _ (by omega)]
  rfl
theorem a_len {q : Nat} (h : q < 16) : 2 ≤ (((acceptTab.drop (q * 2)).map fun x => D.int .u8 x)).length := by
  have hl : acceptTab.length = 32 := by decide +kernel
  rw [List.length_map, List.length_drop, hl]; omega
theorem loVb {b : Nat} (h : b < 256) : bitI .and .u8 (b : Int) 15 = ((b % 16 : Nat) : Int) := loV ⟨b, h⟩
theorem fT_okb {b : Nat} (h : b < 256) : 0 ≤ fT b ∧ fT b < 256 ∧ (fT b < 240 → 2 ≤ IntKind.i64.wrap (bitI .and .u8 (fT b) 7) ∧ IntKind.i64.wrap (bitI .and .u8 (fT b) 7) ≤ 4) := fT_ok ⟨b, h⟩
theorem figs_size (q : Nat) : (figs.extract q (q + 1)).size ≤ 1 := by rw [ByteArray.size_extract]; omega
theorem esz1 (q : Nat) : (⟨#[92, 120]⟩ : ByteArray).size + (figs.extract q (q + 1)).size ≤ 9223372036854775807 := by
  have h0 : (⟨#[92, 120]⟩ : ByteArray).size = 2 := rfl
  have := figs_size q; omega
theorem esz2 (q r : Nat) : ((⟨#[92, 120]⟩ : ByteArray) ++ figs.extract q (q + 1)).size + (figs.extract r (r + 1)).size ≤ 9223372036854775807 := by
  have h0 : (⟨#[92, 120]⟩ : ByteArray).size = 2 := rfl
  have := figs_size q; have := figs_size r; rw [ByteArray.size_append]; omega
theorem le3 {z n : Int} (h : ¬ z ≤ 2) (k : z ≤ n) : 3 ≤ n := by omega
theorem le4 {z n : Int} (h : ¬ z ≤ 3) (k : z ≤ n) : 4 ≤ n := by omega
def w32 (n : Int) : Int := IntKind.i32.wrap n
def shl32 (n : Int) (b : Int) : Int := IntKind.i32.wrap (n * 2 ^ (min b.toNat IntKind.i32.bits))
def part6 (b : Nat) : Int := w32 (bitI .and .u8 b 63)
/-- utf8.decodeRuneInStringSlow: the rune, and how many bytes. -/
def slowR (s : ByteArray) : Int × Int :=
  bif decide ((s.size : Int) < 1) then (65533, 0) else
  bif decide (240 ≤ fT (byt s 0)) then (bitI .or .i32 (bitI .andNot .i32 (w32 (byt s 0)) ((shl32 (w32 (fT (byt s 0))) 31).fdiv (2 ^ (min (31 : Int).toNat IntKind.i32.bits)))) (bitI .and .i32 65533 ((shl32 (w32 (fT (byt s 0))) 31).fdiv (2 ^ (min (31 : Int).toNat IntKind.i32.bits)))), 1) else
  bif decide ((s.size : Int) < IntKind.i64.wrap (bitI .and .u8 (fT (byt s 0)) 7)) then (65533, 1) else
  bif decide ((byt s 1 : Int) < aT ((fT (byt s 0)).toNat / 16 * 2)) || decide (aT ((fT (byt s 0)).toNat / 16 * 2 + 1) < (byt s 1 : Int)) then (65533, 1) else
  bif decide (IntKind.i64.wrap (bitI .and .u8 (fT (byt s 0)) 7) ≤ 2) then (bitI .or .i32 (shl32 (w32 (bitI .and .u8 (byt s 0) 31)) 6) (part6 (byt s 1)), 2) else
  bif decide ((byt s 2 : Int) < 128) || decide (191 < (byt s 2 : Int)) then (65533, 1) else
  bif decide (IntKind.i64.wrap (bitI .and .u8 (fT (byt s 0)) 7) ≤ 3) then (bitI .or .i32 (bitI .or .i32 (shl32 (w32 (bitI .and .u8 (byt s 0) 15)) 12) (shl32 (part6 (byt s 1)) 6)) (part6 (byt s 2)), 3) else
  bif decide ((byt s 3 : Int) < 128) || decide (191 < (byt s 3 : Int)) then (65533, 1) else
  (bitI .or .i32 (bitI .or .i32 (bitI .or .i32 (shl32 (w32 (bitI .and .u8 (byt s 0) 7)) 18) (shl32 (part6 (byt s 1)) 12)) (shl32 (part6 (byt s 2)) 6)) (part6 (byt s 3)), 4)
/-- utf8.DecodeRuneInString -/
def decR (s : ByteArray) : Int × Int := bif (!sEq s ⟨#[]⟩) && decide ((byt s 0 : Int) < 128) then (w32 (byt s 0), 1) else slowR s
theorem ne_nil {s : ByteArray} (h : (!sEq s ⟨#[]⟩) = true) : 0 < s.size := by
  rcases Nat.eq_zero_or_pos s.size with h0 | h0
  · have : s = ⟨#[]⟩ := by
      apply ByteArray.ext
      exact Array.eq_empty_of_size_eq_zero h0
    subst this; simp [sEq] at h
  · exact h0
def badR (s : ByteArray) (i : Nat) (r : Int) : Bool := bif r != 65533 then false else decide ((decR (s.extract i s.size)).2 < 2)
def keyOk (s : ByteArray) : Bool :=
  bif (sEq s ⟨#[]⟩ || decide (24 < (s.size : Int))) then false else !(runesOf s).any fun x => badR s x.1 x.2 || !partR x.2 ((x.1 : Int) == 0)
def valOk (s : ByteArray) : Bool := bif decide (64 < (s.size : Int)) then false else !(runesOf s).any fun x => badR s x.1 x.2
/-- What a rune of a text is in quotes. -/
def quoteR (s : ByteArray) (out : ByteArray) (x : Nat × Int) : ByteArray :=
  bif (badR s x.1 x.2 || decide (x.2 < 32)) || x.2 == 127 then out ++ escS (byt s x.1)
  else bif x.2 == 34 || x.2 == 92 then out ++ ((⟨#[92]⟩ : ByteArray) ++ Utf8.encode x.2)
  else out ++ Utf8.encode x.2
def quoteS (s : ByteArray) : ByteArray := (runesOf s).foldl (quoteR s) ⟨#[34]⟩ ++ ⟨#[34]⟩
theorem enc_size (r : Int) : (Utf8.encode r).size ≤ 4 := by
  unfold Utf8.encode
  simp only []
  repeat' split
  all_goals first | exact (by decide : 1 ≤ 4) | exact (by decide : 2 ≤ 4) | exact (by decide : 3 ≤ 4) | exact (by decide : 4 ≤ 4)
theorem quoteR_size (s out : ByteArray) (x : Nat × Int) : (quoteR s out x).size ≤ out.size + 5 := by
  have h1 := escS_size (byt s x.1); have h2 := enc_size x.2
  have h3 : (⟨#[92]⟩ : ByteArray).size = 1 := rfl
  unfold quoteR
  cases (badR s x.1 x.2 || decide (x.2 < 32)) || x.2 == 127 <;> cases x.2 == 34 || x.2 == 92 <;> simp only [cond_true, cond_false, ByteArray.size_append, h3] <;> omega
theorem foldQ_size (s : ByteArray) : ∀ (l : List (Nat × Int)) (out : ByteArray), (l.foldl (quoteR s) out).size ≤ out.size + 5 * l.length
  | [], out => by simp
  | x :: l, out => by
    have h1 := quoteR_size s out x
    have h2 := foldQ_size s l (quoteR s out x)
    simp only [List.foldl_cons, List.length_cons]; omega
theorem runesFrom_len (s : ByteArray) : ∀ (f pos : Nat), (runesFrom s f pos).length ≤ f
  | 0, _ => Nat.le_refl _
  | f + 1, pos => by
    simp only [runesFrom]
    split
    · have := runesFrom_len s f (pos + (Utf8.decode s pos).2); simp; omega
    · simp
theorem quoteS_size (s : ByteArray) : (quoteS s).size ≤ 2 + 5 * s.size := by
  have h1 := foldQ_size s (runesOf s) ⟨#[34]⟩
  have h2 := runesFrom_len s s.size 0
  have h3 : (⟨#[34]⟩ : ByteArray).size = 1 := rfl
  unfold quoteS
  simp only [ByteArray.size_append, h3] at h1 ⊢
  unfold runesOf at h1 ⊢
  omega
end Go.Aw

/-! Sp13 -/
namespace Go.Aw
def st0 : St := ⟨0, 0, 0⟩
def overBad (at_ : St) (i : Nat) (x y : St) : Bool := (!x.right || !St.lt x at_) || (decide (0 < (i : Int)) && !St.lt y x)
def overOk (l : List St) (at_ : St) : Bool := bif (List.range l.length).any fun i => overBad at_ i (l.getD i st0) (l.getD (i - 1) st0) then false else decide ((l.length : Int) ≤ 24)
theorem getD_at {α : Type} {l : List α} {k : Nat} {d : α} (h : k < l.length) : l.getD k d = l[k] := by rw [List.getD_eq_getElem?_getD, List.getElem?_eq_getElem h]; rfl
theorem rany_at {n k : Nat} {p : Nat → Bool} (hk : k < n) (h : p k = true) : (List.range n).any p = true := List.any_eq_true.2 ⟨k, List.mem_range.2 hk, h⟩
theorem rany_no {n : Nat} {p : Nat → Bool} (h : ∀ k, k < n → p k = false) : (List.range n).any p = false := by
  rw [List.any_eq_false]
  intro x hx
  simp [h x (List.mem_range.1 hx)]
theorem rstep {n : Nat} {p : Nat → Bool} (h : ∀ k, k < n → p k = false) (h' : p n = false) : ∀ k, k < n + 1 → p k = false := fun k hk => by
  rcases Nat.lt_or_ge k n with h1 | h1
  · exact h k h1
  · have : k = n := by omega
    subst this; exact h'
/-- mut.Right -/
def Mu.right (m : Mu) : Bool :=
  bif ((!m.at_.right || !keyOk m.key) || !overOk m.over m.at_) then false else
  bif ((decide (m.expiry < 0) || decide (1099511627776 < m.expiry)) || (decide (0 < m.expiry) && (m.kind != 1 || m.table != 1))) then false else
  bif ((m.kind != 1 && !sEq m.val ⟨#[]⟩) || !valOk m.val) then false else
  bif ((m.kind != 3 && !sEq m.end_ ⟨#[]⟩) || (m.kind == 3 && (!keyOk m.end_ || (sLt m.end_ m.key || sEq m.end_ m.key)))) then false else
  bif m.table == 1 then ((((m.over.length : Int) == 0) && decide (1 ≤ m.kind)) && decide (m.kind ≤ 3)) else
  bif m.table == 2 then (m.kind == 1 || m.kind == 2) else false
/-- trace.Mut -/
def mutS (m : Mu) : ByteArray :=
  let s := (mutWord m.kind ++ ⟨#[32]⟩) ++ m.key
  let s := bif m.kind == 3 then s ++ ((⟨#[32]⟩ : ByteArray) ++ m.end_) else s
  let s := s ++ ((⟨#[32]⟩ : ByteArray) ++ stampS m.at_)
  bif m.kind == 1 then s ++ ((⟨#[32]⟩ : ByteArray) ++ quoteS m.val) else s
def Mu.small (m : Mu) : Prop := m.key.size ≤ 1000000 ∧ m.end_.size ≤ 1000000 ∧ m.val.size ≤ 1000000
theorem mutWord_size (k : Int) : (mutWord k).size ≤ 4 := by
  unfold mutWord
  split
  · decide
  · split
    · decide
    · split <;> decide
theorem kindWord_size (k : Int) : (kindWord k).size ≤ 10 := by
  unfold kindWord
  repeat' split
  all_goals decide
theorem cat_le {a b : ByteArray} {m n : Nat} (ha : a.size ≤ m) (hb : b.size ≤ n) : (a ++ b).size ≤ m + n := by rw [ByteArray.size_append]; omega
def mutS1 (m : Mu) : ByteArray := (mutWord m.kind ++ ⟨#[32]⟩) ++ m.key
def mutS2 (m : Mu) : ByteArray := bif m.kind == 3 then mutS1 m ++ ((⟨#[32]⟩ : ByteArray) ++ m.end_) else mutS1 m
def mutS3 (m : Mu) : ByteArray := mutS2 m ++ ((⟨#[32]⟩ : ByteArray) ++ stampS m.at_)
theorem mutS1_size {m : Mu} (h : m.small) : (mutS1 m).size ≤ 1000005 := cat_le (cat_le (mutWord_size _) (by decide : (⟨#[32]⟩ : ByteArray).size ≤ 1)) h.1
theorem mutS2_size {m : Mu} (h : m.small) : (mutS2 m).size ≤ 2000006 := by
  have h1 := mutS1_size h
  unfold mutS2
  cases m.kind == 3
  · exact Nat.le_trans h1 (by omega)
  · exact Nat.le_trans (cat_le h1 (cat_le (by decide : (⟨#[32]⟩ : ByteArray).size ≤ 1) h.2.1)) (by omega)
theorem mutS3_size {m : Mu} (h : m.small) : (mutS3 m).size ≤ 2000069 := Nat.le_trans (cat_le (mutS2_size h) (cat_le (by decide : (⟨#[32]⟩ : ByteArray).size ≤ 1) (stampS_size _))) (by omega)
theorem mutS_size {m : Mu} (h : m.small) : (mutS m).size ≤ 8000000 := by
  have h1 := mutS3_size h
  have h2 := quoteS_size m.val
  have h3 := h.2.2
  show (bif m.kind == 1 then mutS3 m ++ ((⟨#[32]⟩ : ByteArray) ++ quoteS m.val) else mutS3 m).size ≤ _
  cases m.kind == 1
  · exact Nat.le_trans h1 (by omega)
  · exact Nat.le_trans (cat_le h1 (cat_le (by decide : (⟨#[32]⟩ : ByteArray).size ≤ 1) h2)) (by omega)

theorem catOk {a b : ByteArray} {m n : Nat} (ha : a.size ≤ m) (hb : b.size ≤ n) (h : m + n ≤ 9223372036854775807 := by decide) : a.size + b.size ≤ 9223372036854775807 := by omega
theorem quote_le {s : ByteArray} (h : s.size ≤ 1000000) : (quoteS s).size ≤ 5000002 := by have := quoteS_size s; omega
theorem one_le (b : UInt8) : (⟨#[b]⟩ : ByteArray).size ≤ 1 := Nat.le_refl 1
end Go.Aw

/-! Sp14 -/
namespace Go.Aw
/-! ### trace.Line -/
def nodeStep (i : Nat) (n : Int) (s : ByteArray) : ByteArray := (bif decide (0 < (i : Int)) then s ++ ⟨#[44]⟩ else s) ++ textI n
def nodesG : Nat → List Int → ByteArray → ByteArray
  | _, [], s => s
  | i, n :: l, s => nodesG (i + 1) l (nodeStep i n s)
def nodesS (l : List Int) : ByteArray := nodesG 0 l ⟨#[]⟩
theorem nodeStep_size (i : Nat) (n : Int) (s : ByteArray) : (nodeStep i n s).size ≤ s.size + 21 := by
  have h := textI_size n
  have h1 : (⟨#[44]⟩ : ByteArray).size = 1 := rfl
  unfold nodeStep
  cases decide (0 < (i : Int)) <;> simp only [cond_true, cond_false, ByteArray.size_append, h1] <;> omega
theorem nodesG_size : ∀ (l : List Int) (i : Nat) (s : ByteArray), (nodesG i l s).size ≤ s.size + 21 * l.length
  | [], i, s => by simp [nodesG]
  | n :: l, i, s => by
    have h1 := nodeStep_size i n s
    have h2 := nodesG_size l (i + 1) (nodeStep i n s)
    simp only [nodesG, List.length_cons]; omega
theorem nodesS_size (l : List Int) : (nodesS l).size ≤ 21 * l.length := by
  have := nodesG_size l 0 ⟨#[]⟩
  have h0 : (⟨#[]⟩ : ByteArray).size = 0 := rfl
  unfold nodesS; omega
theorem nodes_next {l : List Int} {k : Nat} {s R : ByteArray} (h : k < l.length) (hz : nodesG k (l.drop k) s = R) : nodesG (k + 1) (l.drop (k + 1)) (nodeStep k l[k] s) = R := by
  rw [List.drop_eq_getElem_cons h] at hz; exact hz
theorem nodes_end {l : List Int} {k : Nat} {s R : ByteArray} (h : l.length ≤ k) (hz : nodesG k (l.drop k) s = R) : s = R := by
  rw [List.drop_of_length_le h] at hz; exact hz
def Ro.s (r : Ro) : ByteArray := (((⟨#[32]⟩ : ByteArray) ++ r.key) ++ ⟨#[61]⟩) ++ quoteS r.val
def Ro.small (r : Ro) : Prop := r.key.size ≤ 1000000 ∧ r.val.size ≤ 1000000
theorem Ro.s_size {r : Ro} (h : r.small) : r.s.size ≤ 6000004 := cat_le (cat_le (cat_le (one_le _) h.1) (one_le _)) (quote_le h.2)
def rowsG : List Ro → ByteArray → ByteArray
  | [], s => s
  | r :: l, s => rowsG l (s ++ r.s)
theorem rows_next {l : List Ro} {k : Nat} {s R : ByteArray} (h : k < l.length) (hz : rowsG (l.drop k) s = R) : rowsG (l.drop (k + 1)) (s ++ (l[k]).s) = R := by
  rw [List.drop_eq_getElem_cons h] at hz; exact hz
theorem rowsG_end {l : List Ro} {k : Nat} {s R : ByteArray} (h : l.length ≤ k) (hz : rowsG (l.drop k) s = R) : s = R := by
  rw [List.drop_of_length_le h] at hz; exact hz
structure Ev.small (e : Ev) : Prop where
  m : e.m.small
  q : e.q.length ≤ 1000000
  r : e.rows.length ≤ 1000000
  rs : ∀ r ∈ e.rows, r.small
def Ev.l0 (e : Ev) : ByteArray := kindWord e.kind ++ ((⟨#[32]⟩ : ByteArray) ++ textI e.node)
def Ev.l1 (e : Ev) : ByteArray := e.l0 ++ ((((⟨#[32]⟩ : ByteArray) ++ textI e.op) ++ ⟨#[32]⟩) ++ textI e.why)
def Ev.l2 (e : Ev) : ByteArray := bif decide (0 < (e.q.length : Int)) then e.l1 ++ ((⟨#[32]⟩ : ByteArray) ++ nodesS e.q) else e.l1
def Ev.line (e : Ev) : ByteArray :=
  bif sEq (kindWord e.kind) ⟨#[]⟩ then ⟨#[]⟩ else
  bif e.kind == 1 || e.kind == 4 then (((e.l0 ++ ⟨#[32]⟩) ++ textI e.rng) ++ ⟨#[32]⟩) ++ mutS e.m else
  bif e.kind == 2 || e.kind == 3 then (((e.l0 ++ ⟨#[32]⟩) ++ textI e.rng) ++ ⟨#[32]⟩) ++ stampS e.s else
  bif (e.kind == 8 || e.kind == 7) || e.kind == 9 then (e.l0 ++ ⟨#[32]⟩) ++ textI e.rng else
  bif e.kind == 10 then (((e.l0 ++ ⟨#[32]⟩) ++ textI e.rng) ++ ⟨#[32]⟩) ++ textI e.op else
  bif e.kind == 11 then (e.l0 ++ ⟨#[32]⟩) ++ textI e.op else
  bif e.kind == 5 then rowsG e.rows e.l2 else e.l0
theorem Ev.l0_size (e : Ev) : e.l0.size ≤ 31 := cat_le (kindWord_size _) (cat_le (one_le _) (textI_size _))
theorem Ev.l1_size (e : Ev) : e.l1.size ≤ 73 := cat_le e.l0_size (cat_le (cat_le (cat_le (one_le _) (textI_size _)) (one_le _)) (textI_size _))
theorem nodes_le {e : Ev} (h : e.small) : (nodesS e.q).size ≤ 21000000 := by have := nodesS_size e.q; have := h.q; omega
theorem Ev.l2_size {e : Ev} (h : e.small) : e.l2.size ≤ 21000074 := by
  unfold Ev.l2
  cases decide (0 < (e.q.length : Int))
  · exact Nat.le_trans e.l1_size (by omega)
  · exact Nat.le_trans (cat_le e.l1_size (cat_le (one_le _) (nodes_le h))) (by omega)
end Go.Aw

/-! Pl1 -/
namespace Go.Aw
/-! ### Orders -/
structure Ord3 {α : Type} (c : α → α → Int) : Prop where
  anti : ∀ a b, c b a = - c a b
  trans : ∀ a b d, c a b ≤ 0 → c b d ≤ 0 → c a d ≤ 0
  eq : ∀ a b, c a b = 0 → a = b
theorem Ord3.refl {α : Type} {c : α → α → Int} (h : Ord3 c) (a : α) : c a a = 0 := by have := h.anti a a; omega
theorem Ord3.lt_trans {α : Type} {c : α → α → Int} (h : Ord3 c) {a b d : α} (h1 : c a b < 0) (h2 : c b d < 0) : c a d < 0 := by
  have h3 := h.trans a b d (by omega) (by omega)
  rcases Int.lt_or_eq_of_le h3 with h4 | h4
  · exact h4
  · have := h.eq a d h4
    subst this
    have := h.anti a b; omega
theorem Ord3.lt_le {α : Type} {c : α → α → Int} (h : Ord3 c) {a b d : α} (h1 : c a b < 0) (h2 : c b d ≤ 0) : c a d < 0 := by
  rcases Int.lt_or_eq_of_le h2 with h4 | h4
  · exact h.lt_trans h1 h4
  · have := h.eq b d h4; subst this; exact h1
theorem Ord3.le_lt {α : Type} {c : α → α → Int} (h : Ord3 c) {a b d : α} (h1 : c a b ≤ 0) (h2 : c b d < 0) : c a d < 0 := by
  rcases Int.lt_or_eq_of_le h1 with h4 | h4
  · exact h.lt_trans h4 h2
  · have := h.eq a b h4; subst this; exact h2
theorem ord_int : Ord3 cmpI := by
  refine ⟨fun a b => ?_, fun a b d => ?_, fun a b => ?_⟩
  · unfold cmpI; repeat' split
    all_goals omega
  · unfold cmpI; repeat' split
    all_goals omega
  · unfold cmpI; repeat' split
    all_goals omega
/-- First by one part, then by the rest. -/
def lex {α : Type} (c1 c2 : α → α → Int) (a b : α) : Int := if c1 a b ≠ 0 then c1 a b else c2 a b
/-- An order of parts. -/
structure Pre3 {α : Type} (c : α → α → Int) : Prop where
  anti : ∀ a b, c b a = - c a b
  trans : ∀ a b d, c a b ≤ 0 → c b d ≤ 0 → c a d ≤ 0
  zl : ∀ a b d, c a b = 0 → c a d = c b d
theorem Ord3.pre {α β : Type} {c : β → β → Int} (h : Ord3 c) (f : α → β) : Pre3 fun a b => c (f a) (f b) :=
  ⟨fun a b => h.anti _ _, fun a b d => h.trans _ _ _, fun a b d h0 => by rw [h.eq _ _ h0]⟩
theorem Pre3.lex {α : Type} {c1 c2 : α → α → Int} (h1 : Pre3 c1) (h2 : Pre3 c2) : Pre3 (lex c1 c2) := by
  have zr : ∀ a b d, c1 a b = 0 → c1 d a = c1 d b := fun a b d h => by
    have e1 := h1.anti a d; have e2 := h1.anti b d; have e3 := h1.zl a b d h; omega
  refine ⟨fun a b => ?_, fun a b d hab hbd => ?_, fun a b d hab => ?_⟩
  · unfold Aw.lex
    have e1 := h1.anti a b; have e2 := h2.anti a b
    by_cases h : c1 a b = 0
    · rw [if_neg (by omega), if_neg (by omega)]; exact e2
    · rw [if_pos (by omega), if_pos h]; exact e1
  · unfold Aw.lex at *
    by_cases h : c1 a b = 0
    · rw [if_neg (by omega)] at hab
      rw [h1.zl a b d h]
      by_cases h' : c1 b d = 0
      · rw [if_neg (by omega)] at hbd ⊢
        exact h2.trans a b d hab hbd
      · rw [if_pos h'] at hbd ⊢; exact hbd
    · rw [if_pos h] at hab
      by_cases h' : c1 b d = 0
      · rw [zr b d a h'] at h hab
        rw [if_pos h]; exact hab
      · rw [if_pos h'] at hbd
        have h3 := h1.trans a b d hab hbd
        by_cases h4 : c1 a d = 0
        · exfalso
          have e1 := h1.zl a d b h4
          have e2 := h1.anti b d
          omega
        · rw [if_pos h4]; exact h3
  · unfold Aw.lex at *
    by_cases h : c1 a b = 0
    · rw [if_neg (by omega)] at hab
      rw [h1.zl a b d h, h2.zl a b d hab]
    · rw [if_pos h] at hab; exact absurd hab h
theorem lex_zero {α : Type} {c1 c2 : α → α → Int} {a b : α} (h : lex c1 c2 a b = 0) : c1 a b = 0 ∧ c2 a b = 0 := by
  unfold lex at h
  by_cases h1 : c1 a b = 0
  · rw [if_neg (by omega)] at h; exact ⟨h1, h⟩
  · rw [if_pos h1] at h; exact absurd h h1
theorem Pre3.ord {α : Type} {c : α → α → Int} (h : Pre3 c) (he : ∀ a b, c a b = 0 → a = b) : Ord3 c := ⟨h.anti, h.trans, he⟩
theorem pre_zero {α : Type} : Pre3 (fun (_ _ : α) => (0 : Int)) := ⟨fun _ _ => rfl, fun _ _ _ _ _ => Int.le_refl _, fun _ _ _ _ => rfl⟩
theorem St.cmp_lex (a b : St) : St.cmp a b = lex (fun a b : St => cmpI a.phys b.phys) (lex (fun a b : St => cmpI a.logic b.logic) (lex (fun a b : St => cmpI a.who b.who) (fun _ _ => 0))) a b := rfl
theorem ord_st : Ord3 St.cmp := by
  have hp := (ord_int.pre (fun s : St => s.phys)).lex ((ord_int.pre (fun s : St => s.logic)).lex ((ord_int.pre (fun s : St => s.who)).lex pre_zero))
  have e : St.cmp = lex (fun a b : St => cmpI a.phys b.phys) (lex (fun a b : St => cmpI a.logic b.logic) (lex (fun a b : St => cmpI a.who b.who) (fun _ _ => 0))) := by funext a b; exact St.cmp_lex a b
  rw [e]
  refine hp.ord fun a b h => ?_
  obtain ⟨h1, h⟩ := lex_zero h
  obtain ⟨h2, h⟩ := lex_zero h
  obtain ⟨h3, _⟩ := lex_zero h
  obtain ⟨p, l, w⟩ := a
  obtain ⟨p', l', w'⟩ := b
  have := ord_int.eq _ _ h1; have := ord_int.eq _ _ h2; have := ord_int.eq _ _ h3
  simp_all
/-! ### of lists -/
theorem ord_list {α : Type} {c : α → α → Int} (h : Ord3 c) : Ord3 (cmpF c) := by
  refine ⟨?_, ?_, ?_⟩
  · intro a
    induction a with
    | nil => intro b; cases b <;> rfl
    | cons x xs ih =>
      intro b
      cases b with
      | nil => rfl
      | cons y ys =>
        have e := h.anti x y
        simp only [cmpF]
        by_cases h0 : c x y = 0
        · rw [if_neg (by omega), if_neg (by omega)]; exact ih ys
        · rw [if_pos (by omega), if_pos h0]; exact e
  · intro a
    induction a with
    | nil => intro b d h1 h2; cases d <;> simp [cmpF]
    | cons x xs ih =>
      intro b d h1 h2
      cases b with
      | nil => simp [cmpF] at h1
      | cons y ys =>
        cases d with
        | nil => simp [cmpF] at h2
        | cons z zs =>
          simp only [cmpF] at *
          by_cases h0 : c x y = 0
          · have := h.eq x y h0; subst this
            rw [if_neg (by omega)] at h1
            by_cases h3 : c x z = 0
            · rw [if_neg (by omega)] at h2 ⊢; exact ih ys zs h1 h2
            · rw [if_pos h3] at h2 ⊢; exact h2
          · rw [if_pos h0] at h1
            by_cases h3 : c y z = 0
            · have := h.eq y z h3; subst this
              rw [if_pos h0]; exact h1
            · rw [if_pos h3] at h2
              have := h.lt_trans (a := x) (b := y) (d := z) (by omega) (by omega)
              rw [if_pos (by omega)]; omega
  · intro a
    induction a with
    | nil => intro b h1; cases b with
      | nil => rfl
      | cons y ys => simp [cmpF] at h1
    | cons x xs ih =>
      intro b h1
      cases b with
      | nil => simp [cmpF] at h1
      | cons y ys =>
        simp only [cmpF] at h1
        by_cases h0 : c x y = 0
        · rw [if_neg (by omega)] at h1
          rw [h.eq x y h0, ih ys h1]
        · rw [if_pos h0] at h1; exact absurd h1 h0
/-! ### of strings -/
theorem bl_irr : ∀ a : List UInt8, Op.bytesLess a a = false
  | [] => rfl
  | x :: xs => by simp [Op.bytesLess, bl_irr xs]
theorem bl_tri : ∀ a b : List UInt8, Op.bytesLess a b = false → a ≠ b → Op.bytesLess b a = true
  | [], [], _, h => absurd rfl h
  | [], y :: ys, h, _ => by simp [Op.bytesLess] at h
  | x :: xs, [], _, _ => rfl
  | x :: xs, y :: ys, h, hn => by
    simp only [Op.bytesLess, Bool.or_eq_false_iff, Bool.and_eq_false_iff, decide_eq_false_iff_not, beq_eq_false_iff_ne, ne_eq] at h
    simp only [Op.bytesLess, Bool.or_eq_true, decide_eq_true_eq, Bool.and_eq_true, beq_iff_eq]
    by_cases hxy : x = y
    · subst hxy
      right
      refine ⟨rfl, bl_tri xs ys (h.2.resolve_left (fun h' => h' rfl)) fun e => hn (by rw [e])⟩
    · left
      have h1 := h.1
      simp only [UInt8.lt_iff_toNat_lt] at *
      have : x.toNat ≠ y.toNat := fun e => hxy (UInt8.toNat_inj.1 e)
      omega
theorem bl_trans : ∀ a b d : List UInt8, Op.bytesLess a b = true → Op.bytesLess b d = true → Op.bytesLess a d = true
  | _, [], _, h, _ => by simp [Op.bytesLess] at h
  | _, _ :: _, [], _, h => by simp [Op.bytesLess] at h
  | [], _ :: _, _ :: _, _, _ => rfl
  | x :: xs, y :: ys, z :: zs, h1, h2 => by
    simp only [Op.bytesLess, Bool.or_eq_true, decide_eq_true_eq, Bool.and_eq_true, beq_iff_eq] at *
    simp only [UInt8.lt_iff_toNat_lt] at *
    rcases h1 with h1 | ⟨rfl, h1⟩
    · rcases h2 with h2 | ⟨rfl, h2⟩
      · left; omega
      · left; exact h1
    · rcases h2 with h2 | ⟨rfl, h2⟩
      · left; exact h2
      · right; exact ⟨rfl, bl_trans xs ys zs h1 h2⟩
theorem bytes_eq {a b : ByteArray} (h : a.toList = b.toList) : a = b := by
  rw [ByteArray.toList_eq, ByteArray.toList_eq] at h
  exact ByteArray.ext (Array.toList_inj.1 h)
theorem sEq_iff {a b : ByteArray} : sEq a b = true ↔ a = b := by
  unfold sEq
  constructor
  · intro h; exact bytes_eq (by simpa using h)
  · intro h; subst h; simp
theorem sLt_irr (a : ByteArray) : sLt a a = false := bl_irr _
theorem sLt_tri {a b : ByteArray} (h : sLt a b = false) (hn : a ≠ b) : sLt b a = true := bl_tri _ _ h fun e => hn (bytes_eq e)
theorem sLt_trans {a b d : ByteArray} (h : sLt a b = true) (k : sLt b d = true) : sLt a d = true := bl_trans _ _ _ h k
theorem sLt_asym {a b : ByteArray} (h : sLt a b = true) : sLt b a = false := by
  cases hb : sLt b a with
  | false => rfl
  | true => have := sLt_trans h hb; rw [sLt_irr] at this; cases this
/-- How two texts stand. -/
theorem cmpS_cases (a b : ByteArray) : (cmpS a b = -1 ∧ sLt a b = true) ∨ (cmpS a b = 0 ∧ a = b) ∨ (cmpS a b = 1 ∧ sLt b a = true) := by
  unfold cmpS
  cases h : sLt a b with
  | true => left; simp
  | false =>
    by_cases he : a = b
    · right; left; subst he; simp [sEq_refl]
    · right; right
      have h1 := sLt_tri h he
      have h2 : sEq a b = false := by cases hb : sEq a b with
        | false => rfl
        | true => exact absurd (sEq_iff.1 hb) he
      simp [h2, h1]
theorem cmpS_lt {a b : ByteArray} (h : sLt a b = true) : cmpS a b = -1 := by simp [cmpS, h]
theorem ord_str : Ord3 cmpS := by
  refine ⟨fun a b => ?_, fun a b d h1 h2 => ?_, fun a b h => ?_⟩
  · rcases cmpS_cases a b with ⟨h, h'⟩ | ⟨h, rfl⟩ | ⟨h, h'⟩
    · rw [h]
      rcases cmpS_cases b a with ⟨k, k'⟩ | ⟨k, rfl⟩ | ⟨k, _⟩
      · rw [sLt_asym h'] at k'; cases k'
      · rw [sLt_irr] at h'; cases h'
      · rw [k]; rfl
    · rw [h]; rfl
    · rw [h, cmpS_lt h']
  · rcases cmpS_cases a b with ⟨h, h'⟩ | ⟨h, rfl⟩ | ⟨h, h'⟩
    · rcases cmpS_cases b d with ⟨k, k'⟩ | ⟨k, rfl⟩ | ⟨k, _⟩
      · rw [cmpS_lt (sLt_trans h' k')]; omega
      · omega
      · omega
    · exact h2
    · omega
  · rcases cmpS_cases a b with ⟨h', _⟩ | ⟨_, h'⟩ | ⟨h', _⟩
    · omega
    · exact h'
    · omega
/-! ### of mutations -/
theorem Mu.cmp_lex : Mu.cmp = lex (fun a b : Mu => St.cmp a.at_ b.at_) (lex (fun a b : Mu => cmpI a.table b.table) (lex (fun a b : Mu => cmpI a.kind b.kind) (lex (fun a b : Mu => cmpS a.key b.key) (lex (fun a b : Mu => cmpS a.end_ b.end_) (lex (fun a b : Mu => cmpS a.val b.val) (lex (fun a b : Mu => cmpI a.expiry b.expiry) (lex (fun a b : Mu => cmpF St.cmp a.over b.over) (fun _ _ => 0)))))))) := rfl
theorem ord_mu : Ord3 Mu.cmp := by
  rw [Mu.cmp_lex]
  refine ((ord_st.pre Mu.at_).lex ((ord_int.pre Mu.table).lex ((ord_int.pre Mu.kind).lex ((ord_str.pre Mu.key).lex ((ord_str.pre Mu.end_).lex ((ord_str.pre Mu.val).lex ((ord_int.pre Mu.expiry).lex (((ord_list ord_st).pre Mu.over).lex pre_zero)))))))).ord fun a b h => ?_
  obtain ⟨h1, h⟩ := lex_zero h
  obtain ⟨h2, h⟩ := lex_zero h
  obtain ⟨h3, h⟩ := lex_zero h
  obtain ⟨h4, h⟩ := lex_zero h
  obtain ⟨h5, h⟩ := lex_zero h
  obtain ⟨h6, h⟩ := lex_zero h
  obtain ⟨h7, h⟩ := lex_zero h
  obtain ⟨h8, _⟩ := lex_zero h
  have e1 := ord_st.eq _ _ h1; have e2 := ord_int.eq _ _ h2; have e3 := ord_int.eq _ _ h3; have e4 := ord_str.eq _ _ h4
  have e5 := ord_str.eq _ _ h5; have e6 := ord_str.eq _ _ h6; have e7 := ord_int.eq _ _ h7; have e8 := (ord_list ord_st).eq _ _ h8
  cases a; cases b
  simp only at e1 e2 e3 e4 e5 e6 e7 e8
  subst e1; subst e2; subst e3; subst e4; subst e5; subst e6; subst e7; subst e8
  rfl
/-- By keys, then by the order of mutations. -/
theorem ord_sib : Ord3 Mu.sib := by
  have e : Mu.sib = lex (fun a b : Mu => cmpS a.key b.key) (lex Mu.cmp (fun _ _ => 0)) := rfl
  rw [e]
  refine ((ord_str.pre Mu.key).lex ((ord_mu.pre id).lex pre_zero)).ord fun a b h => ?_
  obtain ⟨_, h⟩ := lex_zero h
  exact ord_mu.eq _ _ (lex_zero h).1
/-- The mutations, rising. -/
def leM (a b : Mu) : Bool := decide (Mu.cmp a b ≤ 0)
def sortM (l : List Mu) : List Mu := l.mergeSort leM
theorem sortM_perm (l : List Mu) : (sortM l).Perm l := List.mergeSort_perm _ _
theorem sortM_sorted (l : List Mu) : (sortM l).Pairwise fun a b => Mu.cmp a b ≤ 0 := by
  have := List.pairwise_mergeSort (le := leM) (fun a b c h1 h2 => by simp only [leM, decide_eq_true_eq] at *; exact ord_mu.trans a b c h1 h2) (fun a b => by simp only [leM, Bool.or_eq_true, decide_eq_true_eq]; have := ord_mu.anti a b; omega) l
  exact this.imp fun h => by simpa [leM] using h
theorem sorted_unique {l l' : List Mu} (hp : l'.Perm l) (hs : l'.Pairwise fun a b => Mu.cmp a b ≤ 0) : l' = sortM l :=
  List.Perm.eq_of_pairwise (le := fun a b => Mu.cmp a b ≤ 0) (fun a b _ _ h1 h2 => ord_mu.eq a b (by have := ord_mu.anti a b; omega)) hs (sortM_sorted l) (hp.trans (sortM_perm l).symm)
end Go.Aw

/-! Sp15 -/
namespace Go.Aw
/-- A wipe more. -/
def Ct.wipe (c : Ct) (w : Mu) : Ct :=
  if (c.wipes.any fun x => x.within w) then c
  else ⟨c.cells.filter fun x => !(w.hides x.key x.at_), sortM ((c.wipes.filter fun x => !(w.within x)) ++ [w]), c.sibs⟩
def Ct.add (c : Ct) (m : Mu) : Ct :=
  if m.right then (if m.table == 2 then c.sib m else if m.kind == 3 then c.wipe m else c.cell m) else c
def Ct.all (c : Ct) : List Mu := sortM (c.cells ++ c.wipes ++ c.sibs)
def Ct.of (l : List Mu) : Ct := l.foldl Ct.add ⟨[], [], []⟩
def Ct.join (a b : Ct) : Ct := b.all.foldl Ct.add a
/-- How much there may be. -/
structure Ct.le (c : Ct) (n : Nat) : Prop where
  cells : c.cells.length ≤ n
  wipes : c.wipes.length ≤ n
  sibs : c.sibs.length ≤ n
/-- Of each mutation: how many stamps it supersedes. -/
def Mu.lite (m : Mu) : Prop := m.over.length ≤ 1000000
structure Ct.lite (c : Ct) : Prop where
  cells : ∀ m ∈ c.cells, m.lite
  wipes : ∀ m ∈ c.wipes, m.lite
  sibs : ∀ m ∈ c.sibs, m.lite
theorem map_snoc {α β : Type} (f : α → β) (l : List α) (x : α) : l.map f ++ [f x] = (l ++ [x]).map f := by simp
theorem ins_mem {c : Mu → Int} {l : List Mu} {m x : Mu} (h : x ∈ ins c l m) : x ∈ l ∨ x = m := by
  unfold ins at h
  simp only [List.mem_append, List.mem_singleton] at h
  rcases h with (h | h) | h
  · exact .inl (List.mem_of_mem_take h)
  · exact .inr h
  · exact .inl (List.mem_of_mem_drop h)
theorem ins_len (c : Mu → Int) (l : List Mu) (m : Mu) : (ins c l m).length = l.length + 1 := by
  have := bsP_le c l
  unfold ins; simp; omega
theorem sortM_len (l : List Mu) : (sortM l).length = l.length := (sortM_perm l).length_eq
theorem sortM_mem {l : List Mu} {m : Mu} : m ∈ sortM l ↔ m ∈ l := (sortM_perm l).mem_iff
theorem set_mem {l : List Mu} {i : Nat} {m x : Mu} (h : x ∈ l.set i m) : x ∈ l ∨ x = m := by
  rcases List.mem_or_eq_of_mem_set h with h | h
  · exact .inl h
  · exact .inr h
theorem Ct.add_le {c : Ct} {m : Mu} {n : Nat} (h : c.le n) : (c.add m).le (n + 1) := by
  obtain ⟨h1, h2, h3⟩ := h
  have w := Nat.le_succ n
  unfold Ct.add
  split
  · split
    · unfold Ct.sib; split
      · exact ⟨by omega, by omega, by omega⟩
      · exact ⟨by show c.cells.length ≤ _; omega, by show c.wipes.length ≤ _; omega, by show (ins _ _ _).length ≤ _; rw [ins_len]; omega⟩
    · split
      · unfold Ct.wipe; split
        · exact ⟨by omega, by omega, by omega⟩
        · refine ⟨Nat.le_trans (List.length_filter_le _ _) (by omega), ?_, by show c.sibs.length ≤ _; omega⟩
          have := List.length_filter_le (fun x => !(m.within x)) c.wipes
          show (sortM _).length ≤ _
          rw [sortM_len, List.length_append]; simp; omega
      · unfold Ct.cell; split
        · exact ⟨by omega, by omega, by omega⟩
        · split
          · split
            · exact ⟨by show (c.cells.set _ _).length ≤ _; rw [List.length_set]; omega, by show c.wipes.length ≤ _; omega, by show c.sibs.length ≤ _; omega⟩
            · exact ⟨by omega, by omega, by omega⟩
          · exact ⟨by show (ins _ _ _).length ≤ _; rw [ins_len]; omega, by show c.wipes.length ≤ _; omega, by show c.sibs.length ≤ _; omega⟩
  · exact ⟨by omega, by omega, by omega⟩
theorem Ct.add_lite {c : Ct} {m : Mu} (h : c.lite) (hm : m.lite) : (c.add m).lite := by
  obtain ⟨h1, h2, h3⟩ := h
  unfold Ct.add
  split
  · split
    · unfold Ct.sib; split
      · exact ⟨h1, h2, h3⟩
      · exact ⟨h1, h2, fun x hx => (ins_mem hx).elim (h3 x) (fun e => e ▸ hm)⟩
    · split
      · unfold Ct.wipe; split
        · exact ⟨h1, h2, h3⟩
        · refine ⟨fun x hx => h1 x (List.mem_filter.1 hx).1, fun x hx => ?_, h3⟩
          rw [sortM_mem, List.mem_append] at hx
          rcases hx with hx | hx
          · exact h2 x (List.mem_filter.1 hx).1
          · rw [List.mem_singleton] at hx; subst hx; exact hm
      · unfold Ct.cell; split
        · exact ⟨h1, h2, h3⟩
        · split
          · split
            · exact ⟨fun x hx => (set_mem hx).elim (h1 x) (fun e => e ▸ hm), h2, h3⟩
            · exact ⟨h1, h2, h3⟩
          · exact ⟨fun x hx => (ins_mem hx).elim (h1 x) (fun e => e ▸ hm), h2, h3⟩
  · exact ⟨h1, h2, h3⟩
end Go.Aw

/-! Sp16 -/
namespace Go.Aw
theorem take_succ' {α : Type} {ls : List α} {k : Nat} (h : k < ls.length) : ls.take (k + 1) = ls.take k ++ [ls[k]] := by rw [List.take_add_one, List.getElem?_eq_getElem h]; rfl
def pre (ls : List (List Mu)) (k : Nat) : Nat := (ls.take k).flatten.length
theorem pre_succ {ls : List (List Mu)} {k : Nat} (h : k < ls.length) : pre ls (k + 1) = pre ls k + ls[k].length := by
  unfold pre; rw [take_succ' h, List.flatten_append, List.length_append]
  simp only [List.flatten_cons, List.flatten_nil, List.append_nil]
theorem pre_le (ls : List (List Mu)) (k : Nat) : pre ls k ≤ ls.flatten.length := by
  unfold pre
  conv => rhs; rw [← List.take_append_drop k ls]
  rw [List.flatten_append, List.length_append]; omega
theorem pre_all (ls : List (List Mu)) : pre ls ls.length = ls.flatten.length := by unfold pre; rw [List.take_length]
theorem flat_succ {ls : List (List Mu)} {k : Nat} (h : k < ls.length) : ((ls.take k).flatten).map Mu.d ++ (ls[k]).map Mu.d = ((ls.take (k + 1)).flatten).map Mu.d := by
  rw [take_succ' h, List.flatten_append, List.map_append]
  simp only [List.flatten_cons, List.flatten_nil, List.append_nil]
theorem mus1_plain (l : List (List Mu)) : ∀ y ∈ l.map mus, y.plain = true := fun y hy => by
  obtain ⟨m, _, rfl⟩ := List.mem_map.1 hy; rfl
theorem Ct.all_len {c : Ct} {n : Nat} (h : c.le n) : c.all.length ≤ 3 * n := by
  obtain ⟨h1, h2, h3⟩ := h
  unfold Ct.all; rw [sortM_len]; simp; omega
theorem Ct.all_lite {c : Ct} (h : c.lite) : ∀ m ∈ c.all, m.lite := fun m hm => by
  unfold Ct.all at hm
  rw [sortM_mem] at hm
  simp only [List.mem_append] at hm
  rcases hm with (hm | hm) | hm
  · exact h.cells m hm
  · exact h.wipes m hm
  · exact h.sibs m hm
theorem fold_le {l : List Mu} {c : Ct} {n k : Nat} (h : c.le n) (hk : l.length ≤ k) : (l.foldl Ct.add c).le (n + k) := by
  induction l generalizing c n k with
  | nil => exact ⟨Nat.le_trans h.cells (by omega), Nat.le_trans h.wipes (by omega), Nat.le_trans h.sibs (by omega)⟩
  | cons m l ih =>
    simp only [List.length_cons] at hk
    obtain ⟨k', rfl⟩ : ∃ k', k = k' + 1 := ⟨k - 1, by omega⟩
    have := ih (Ct.add_le (m := m) h) (by omega : l.length ≤ k')
    rw [show n + (k' + 1) = n + 1 + k' by omega]
    exact this
theorem fold_lite {l : List Mu} {c : Ct} (h : c.lite) (hl : ∀ m ∈ l, m.lite) : (l.foldl Ct.add c).lite := by
  induction l generalizing c with
  | nil => exact h
  | cons m l ih => exact ih (Ct.add_lite h (hl m List.mem_cons_self)) fun x hx => hl x (List.mem_cons_of_mem _ hx)
theorem ct0_le (n : Nat) : (⟨[], [], []⟩ : Ct).le n := ⟨Nat.zero_le _, Nat.zero_le _, Nat.zero_le _⟩
theorem ct0_lite : (⟨[], [], []⟩ : Ct).lite := ⟨fun _ h => (by cases h), fun _ h => (by cases h), fun _ h => (by cases h)⟩
theorem Ct.le_mono {c : Ct} {n m : Nat} (h : c.le n) (k : n ≤ m) : c.le m := ⟨Nat.le_trans h.cells k, Nat.le_trans h.wipes k, Nat.le_trans h.sibs k⟩
theorem add_step {l : List Mu} {c R : Ct} {k : Nat} (h : k < l.length) (hz : (l.drop k).foldl Ct.add c = R) : (l.drop (k + 1)).foldl Ct.add (c.add l[k]) = R := by
  rw [List.drop_eq_getElem_cons h] at hz; exact hz
theorem add_end {l : List Mu} {c R : Ct} {k : Nat} (h : l.length ≤ k) (hz : (l.drop k).foldl Ct.add c = R) : c = R := by
  rw [List.drop_of_length_le h] at hz; exact hz
end Go.Aw

/-! Sp17 -/
namespace Go.Aw
def ct0 : Ct := ⟨[], [], []⟩
/-- An event's cells; its lists as they are told. -/
def evA (e : Ev) (c : Ct) (q nos rows ctx : AV) : List AV := [.d (I e.kind), .d (I e.node), .d (I e.rng), .d (I e.op),
  .d (I e.m.table), .d (I e.m.kind), .d (.str e.m.key), .d (.str e.m.end_), .d (.str e.m.val), .d (I e.m.expiry), .d (I e.m.at_.phys), .d (I e.m.at_.logic), .d (I e.m.at_.who), .d (.list 3 (e.m.over.map St.d)),
  .d (mus c.cells), .d (mus c.wipes), .d (mus c.sibs), .d (I e.s.phys), .d (I e.s.logic), .d (I e.s.who), .d (I e.base.phys), .d (I e.base.logic), .d (I e.base.who), .d (.bool e.quar), .d (I e.why), q, nos, .d (I e.no), .d (I e.table), .d (.str e.key), .d (.str e.end_),
  rows, ctx]
def qA (e : Ev) : AV := .d (ints e.q)
def nA (e : Ev) : AV := .d (ints e.nos)
def rA (e : Ev) : AV := .d (.list 5 (e.rows.map Ro.d))
def xA (e : Ev) : AV := .d (.list 3 (e.ctx.map St.d))
structure Ev.fits (e : Ev) : Prop where
  c : e.c.le 250000
  cl : e.c.lite
  m : e.m.lite
  q : e.q.length * 8 ≤ 140737488355328
  nos : e.nos.length * 8 ≤ 140737488355328
  rows : e.rows.length * 56 ≤ 140737488355328
  ctx : e.ctx.length * 24 ≤ 140737488355328
theorem map_plain {α : Type} {f : α → D} (h : ∀ x, (f x).plain = true) (l : List α) : ∀ y ∈ l.map f, y.plain = true := fun y hy => by
  obtain ⟨m, _, rfl⟩ := List.mem_map.1 hy; exact h m
end Go.Aw

/-! Lay1 -/
namespace Go.Aw
open Go.Proofs Go.Shelf
set_option maxRecDepth 100000
def srt_ren : Go.Shelf.Ren := ⟨fun | 6 => 60 | 15 => 77 | 14 => 76 | 28 => 97 | 29 => 98 | 20 => 89 | 21 => 90 | 22 => 91 | 23 => 92 | 24 => 93 | 25 => 94 | 26 => 95 | 27 => 96 | 46 => 103 | 47 => 104 | 48 => 105 | 49 => 106 | 50 => 107 | 57 => 108 | n => n, fun | 22 => 33 | 24 => 32 | 25 => 52 | 3 => 3 | 39 => 89 | 0 => 0 | 53 => 131 | 55 => 133 | 4 => 4 | 46 => 125 | 45 => 124 | 50 => 93 | 5 => 5 | 9 => 9 | 66 => 138 | 70 => 142 | 76 => 144 | 77 => 145 | n => n, fun | n => n⟩
theorem srt : SlLaysF0.n6 Pr srt_ren where
  mixed := mixed
  f6 := ⟨ "slices.SortFunc[[]cenotaph/api.Mut,cenotaph/api.Mut]", by decide, Tryz.func60.trans (congrArg some (by kernel_rfl))⟩
  f14 := ⟨ "slices.pdqsortCmpFunc[cenotaph/api.Mut]", by decide, Tryz.func76.trans (congrArg some (by kernel_rfl))⟩
  f15 := Tryz.func77.trans (congrArg some (by kernel_rfl))
  f20 := ⟨ "slices.insertionSortCmpFunc[cenotaph/api.Mut]", by decide, Tryz.func89.trans (congrArg some (by kernel_rfl))⟩
  f21 := ⟨ "slices.heapSortCmpFunc[cenotaph/api.Mut]", by decide, Tryz.func90.trans (congrArg some (by kernel_rfl))⟩
  f22 := ⟨ "slices.breakPatternsCmpFunc[cenotaph/api.Mut]", by decide, Tryz.func91.trans (congrArg some (by kernel_rfl))⟩
  f23 := ⟨ "slices.choosePivotCmpFunc[cenotaph/api.Mut]", by decide, Tryz.func92.trans (congrArg some (by kernel_rfl))⟩
  f24 := ⟨ "slices.reverseRangeCmpFunc[cenotaph/api.Mut]", by decide, Tryz.func93.trans (congrArg some (by kernel_rfl))⟩
  f25 := ⟨ "slices.partialInsertionSortCmpFunc[cenotaph/api.Mut]", by decide, Tryz.func94.trans (congrArg some (by kernel_rfl))⟩
  f26 := ⟨ "slices.partitionEqualCmpFunc[cenotaph/api.Mut]", by decide, Tryz.func95.trans (congrArg some (by kernel_rfl))⟩
  f27 := ⟨ "slices.partitionCmpFunc[cenotaph/api.Mut]", by decide, Tryz.func96.trans (congrArg some (by kernel_rfl))⟩
  f28 := Tryz.func97.trans (congrArg some (by kernel_rfl))
  f29 := Tryz.func98.trans (congrArg some (by kernel_rfl))
  f46 := ⟨ "slices.siftDownCmpFunc[cenotaph/api.Mut]", by decide, Tryz.func103.trans (congrArg some (by kernel_rfl))⟩
  f47 := Tryz.func104.trans (congrArg some (by kernel_rfl))
  f48 := Tryz.func105.trans (congrArg some (by kernel_rfl))
  f49 := ⟨ "slices.medianAdjacentCmpFunc[cenotaph/api.Mut]", by decide, Tryz.func106.trans (congrArg some (by kernel_rfl))⟩
  f50 := ⟨ "slices.medianCmpFunc[cenotaph/api.Mut]", by decide, Tryz.func107.trans (congrArg some (by kernel_rfl))⟩
  f57 := ⟨ "slices.order2CmpFunc[cenotaph/api.Mut]", by decide, Tryz.func108.trans (congrArg some (by kernel_rfl))⟩
  t0 := Tryz.underlying0
  a0 := Tryz.isAgg0
  z0 := Tryz.sizeOf0
  v0 := Tryz.zeroValue0
  t3 := Tryz.underlying3
  a3 := Tryz.isAgg3
  z3 := Tryz.sizeOf3
  v3 := Tryz.zeroValue3
  t4 := Tryz.underlying4
  a4 := Tryz.isAgg4
  z4 := Tryz.sizeOf4
  v4 := Tryz.zeroValue4
  t5 := Tryz.underlying5
  a5 := Tryz.isAgg5
  z5 := Tryz.sizeOf5
  v5 := Tryz.zeroValue5
  t9 := Tryz.underlying9
  a9 := Tryz.isAgg9
  z9 := Tryz.sizeOf9
  v9 := Tryz.zeroValue9
  t22 := Tryz.underlying33
  a22 := Tryz.isAgg33
  z22 := Tryz.sizeOf33
  v22 := Tryz.zeroValue33
  t25 := Tryz.underlying52
  a25 := Tryz.isAgg52
  z25 := Tryz.sizeOf52
  v25 := Tryz.zeroValue52
  t39 := Tryz.underlying89
  a39 := Tryz.isAgg89
  z39 := Tryz.sizeOf89
  v39 := Tryz.zeroValue89
  t45 := Tryz.underlying124
  a45 := Tryz.isAgg124
  z45 := Tryz.sizeOf124
  v45 := Tryz.zeroValue124
  t46 := Tryz.underlying125
  a46 := Tryz.isAgg125
  z46 := Tryz.sizeOf125
  v46 := Tryz.zeroValue125
  t50 := Tryz.underlying93
  a50 := Tryz.isAgg93
  z50 := Tryz.sizeOf93
  v50 := Tryz.zeroValue93
  t53 := Tryz.underlying131
  a53 := Tryz.isAgg131
  z53 := Tryz.sizeOf131
  v53 := Tryz.zeroValue131
  t55 := Tryz.underlying133
  a55 := Tryz.isAgg133
  z55 := Tryz.sizeOf133
  v55 := Tryz.zeroValue133
  t66 := Tryz.underlying138
  a66 := Tryz.isAgg138
  z66 := Tryz.sizeOf138
  v66 := Tryz.zeroValue138
  t70 := Tryz.underlying142
  a70 := Tryz.isAgg142
  z70 := Tryz.sizeOf142
  v70 := Tryz.zeroValue142
  t76 := Tryz.underlying144
  a76 := Tryz.isAgg144
  z76 := Tryz.sizeOf144
  v76 := Tryz.zeroValue144
  t77 := Tryz.underlying145
  a77 := Tryz.isAgg145
  z77 := Tryz.sizeOf145
  v77 := Tryz.zeroValue145
end Go.Aw

/-! AwF -/
/-! Ranges over functions: the iterator's contract, its walk; the statement; a function's end behind one. -/
namespace Go.Aw
open Go.RowKit

/-! ### The iterator -/
def Held (P : Program) (w : World) (μ : Mem) : Prop := (∀ b o, μ b = some o → w.heap[b]? = some o) ∧ GlobOk P μ
/-- What a round ends in. -/
def RoundR (J : Nat → World → Mem → Prop) (J' : World → Mem → Prop) (stop : Option Nat) (k : Nat) (μ : Mem) (e : Ending) (w' : World) : Prop :=
  ∃ μ', MemLe μ μ' ∧ ((stop ≠ some k ∧ e = .returned (.bool true) ∧ J (k + 1) w' μ') ∨ (stop = some k ∧ e = .returned (.bool false) ∧ J' w' μ'))
/-- Who ranges over it: what holds between two rounds, and where a round has said 'no more'. -/
structure Cons (P : Program) (l : Nat) (ys : List (List D)) where
  J : Nat → World → Mem → Prop
  J' : World → Mem → Prop
  stop : Option Nat
  held : ∀ k w μ, J k w μ → Held P w μ
  grow : ∀ k w μ w' μ', J k w μ → Grow w μ w' μ' → J k w' μ'
  held' : ∀ w μ, J' w μ → Held P w μ
  grow' : ∀ w μ w' μ', J' w μ → Grow w μ w' μ' → J' w' μ'
  round : ∀ k ds w μ vs, ys[k]? = some ds → (∀ j, stop = some j → k ≤ j) → J k w μ → Reps μ ds vs → YieldAt (fc none) 0 P l vs.toArray w (RoundR J J' stop k μ)
def Cons.R {P : Program} {l : Nat} {ys : List (List D)} (K : Cons P l ys) (μ : Mem) (e : Ending) (w' : World) : Prop :=
  ∃ v μ', e = .returned v ∧ MemLe μ μ' ∧ ((K.J ys.length w' μ' ∧ ∀ j, K.stop = some j → ys.length ≤ j) ∨ (K.J' w' μ' ∧ ∃ j, K.stop = some j ∧ j < ys.length))
/-- A function value (these captured) that hands these to yield, one by one. -/
def Iter (P : Program) (f : FuncId) (caps : List D) (ys : List (List D)) : Prop :=
  Enters P f ∧ ∀ (l : Nat) (K : Cons P l ys) (w : World) (μ : Mem) (cvs : List Value), K.J 0 w μ → Reps μ caps cvs → Calls P f (#[.func (.yield l) #[] #[]] ++ cvs.toArray) w (K.R μ)

def Cx (P : Program) (N : Nat) (w : World) (μ : Mem) : Ctx := ⟨P, N, w, μ, fun _ => False, 0, [], none, []⟩
def yv (l : Nat) : D := .val (.func (.yield l) #[] #[])
theorem sim_start {P : Program} {N : Nat} {w : World} {μ : Mem} {E : Env} {a : Act} (h : Held P w μ) (he : EnvOk μ [] E a) (hs : a.tmps.size = N) (hd : a.defers = []) : Sim (Cx P N w μ) a w E [] :=
  ⟨⟨μ, [], ⟨rfl, fun i o v h => by simp at h, fun i j o o' v v' b _ h => by simp at h, fun i o v b h => by simp at h, h.1, ⟨MemLe.refl μ, h.2⟩, fun _ _ => rfl, Fr.refl _ _, Nat.le_refl _, fun i hi => absurd hi (Nat.not_lt_zero i)⟩, he⟩, hs, hd⟩
theorem iter_of {P : Program} {f : FuncId} {fn : Func} {c : Code} {N : Nat} {caps : List D} {ys : List (List D)} (hf : P.funcs[f]? = some fn) (hn : (fn.name == "runtime.NumGoroutine") = false) (hb : fn.body = some c) (hN : fn.ntmps = N) (hl : caps.length + 1 ≤ N)
    (h : ∀ (l : Nat) (K : Cons P l ys) w μ, K.J 0 w μ → CodeOk (Cx P N w μ) c (bodyPost P fn (K.R μ)) (argEnv 0 (yv l :: caps)) []) : Iter P f caps ys := by
  refine ⟨enters_of hf hn hb, fun l K w μ cvs hJ hr => ?_⟩
  have hlen := hr.length
  have hh := K.held _ _ _ hJ
  have hr' : Reps μ (yv l :: caps) (.func (.yield l) #[] #[] :: cvs) := by
    simp only [Reps]; exact ⟨_, _, rfl, by simp [yv, Rep, Value.cells, Value.oneCell'], hr⟩
  have e : (#[.func (.yield l) #[] #[]] ++ cvs.toArray : Array Value) = (.func (.yield l) #[] #[] :: cvs).toArray := by apply Array.ext'; simp
  rw [e]
  refine calls_of_wp hf hb ((wpIn_wide (n := 0)).1 (h l K w μ hJ _ _ (sim_start hh (fun k r hk => ?_) ?_ rfl)))
  · obtain ⟨j, v, x, h1, h2, rfl, h3⟩ := look_argEnv _ _ 0 k r hr' hk
    refine ⟨v, ?_, by simpa only [ARep] using h3⟩
    have hj : j < (Value.func (.yield l) #[] #[] :: cvs).length := (List.getElem?_eq_some_iff.1 h2).1
    rw [h1, Nat.zero_add, Array.getElem?_append_left (by simpa using hj)]
    simpa using h2
  · simp [hN, hlen]; omega
/-- What has been walked since the last round: growth. -/
theorem cx_grow {P : Program} {N : Nat} {w w' : World} {μ μ' : Mem} {ρ : List Value} {L : List AO} (h : HeapOk (Cx P N w μ) w' μ' ρ L) : Grow w μ w' μ' := sim_grow rfl h
theorem iter_ret {P : Program} {N : Nat} {l : Nat} {ys : List (List D)} {K : Cons P l ys} {w : World} {μ μ0 : Mem} {fn : Func} {E : Env} {L : List AO} (hr : fn.results = #[]) (hm : MemLe μ0 μ)
    (h : (K.J ys.length w μ ∧ ∀ j, K.stop = some j → ys.length ≤ j) ∨ (K.J' w μ ∧ ∃ j, K.stop = some j ∧ j < ys.length)) : ExOk (Cx P N w μ) .ret (bodyPost P fn (K.R μ0)) E L := by
  intro a w' ⟨⟨μ', ρ', hh, he⟩, hs, hdf⟩
  have hg := cx_grow hh
  refine ⟨hdf, .tuple #[], by simp [results, hr], _, μ', rfl, hm.trans hg.le, ?_⟩
  rcases h with ⟨h1, h2⟩ | ⟨h1, h2⟩
  · exact .inl ⟨K.grow _ _ _ _ _ h1 hg, h2⟩
  · exact .inr ⟨K.grow' _ _ _ _ h1 hg, h2⟩
theorem iter_end {P : Program} {N : Nat} {l : Nat} {ys : List (List D)} {K : Cons P l ys} {w : World} {μ μ0 : Mem} {fn : Func} {E : Env} {L : List AO} (hr : fn.results = #[]) (hm : MemLe μ0 μ)
    (h : (K.J ys.length w μ ∧ ∀ j, K.stop = some j → ys.length ≤ j) ∨ (K.J' w μ ∧ ∃ j, K.stop = some j ∧ j < ys.length)) : ExOk (Cx P N w μ) .normal (bodyPost P fn (K.R μ0)) E L :=
  fun a w' s => iter_ret (E := E) (L := L) hr hm h a w' s
theorem owp_round {P : Program} {o : Oper} {a : Act} {w w' : World} {l : Nat} {fn : FuncId} {tmps : Array Value} {assign body : Code} {K : Act → World → Prop} {Q : Exit → Act → World → Prop} (h : (execOp a.eval o).run P w = .ok (.round l fn tmps assign body) w')
    (k : RoundIn (fc none) 0 P l fn tmps assign body w' fun
      | .returned v, w'' => K (a.put o.dst v) w''
      | .panicked chain, w'' => Q (.panic chain) a w''
      | .outgrown, _ => LetsOut Q) : owp none P o a w K Q :=
  ⟨fun _ _ => trivial, by rw [semAt_run h (by simp), Oper.uponIn_round]; exact ⟨fun h => by simp [fc] at h, k⟩⟩
theorem run_call_yield {P : Program} {w : World} {o : Oper} {f : Operand → Value} {fx : Operand} {args : Array Operand} {ts : Array TypeId} {l : Nat} {n : Next} (ho : o.op = .call { callee := .value fx, args := args, argTypes := ts }) (hf : f fx = .func (.yield l) #[] #[]) (he : (Instr.yield l (args.map f)).run P w = .ok n w) : (execOp f o).run P w = .ok n w := by
  have e1 : execOp f o = (do let d ← resolve f { callee := .value fx, args := args, argTypes := ts } o.type; invoke d.target d.args) := by simp only [execOp, ho]
  rw [e1]
  simp only [resolve, hf, Deferred.ofValue, Sem.run_bind, Sem.run_pure, Result.andThen, invoke]
  simpa using he
/-- Yield is called. Behind it the walk goes on from where the rounds have come. -/
theorem ky {P : Program} {N : Nat} {w0 : World} {μ0 : Mem} {ops : Array Oper} {Q : Exit → Act → World → Prop} {os : List Oper} {E : Env} {L : List AO} {l : Nat} {ys : List (List D)} (K : Cons P l ys) (k : Nat) {ds : List D} {d : Nat} {fx : Operand} {args : List Operand} {ts : Array TypeId} {ty : TypeId} {p : String} {af : Array Edge} {gd : Option (Nat × Bool)} {rf : AV}
    (E' : Env) (hds : ys[k]? = some ds) (hst : ∀ j, K.stop = some j → k ≤ j) (hJ : K.J k w0 μ0) (hg : ∀ j want, gd = some (j, want) → ∃ t rg, (ops[j]?).bind (·.dst) = some t ∧ E t = some rg ∧ gcond rg want = some true)
    (hf : Get E fx rf) (hfd : rf.toD = some (yv l)) (ha : GetDs E args ds) (hE : Le E' E) (hB : EBelow 0 E')
    (h1 : K.stop ≠ some k → ∀ w μ, K.J (k + 1) w μ → MemLe μ0 μ → OpsOk (Cx P N w μ) ops Q os (upd d (.d (.bool true)) E') [])
    (h2 : K.stop = some k → ∀ w μ, K.J' w μ → MemLe μ0 μ → OpsOk (Cx P N w μ) ops Q os (upd d (.d (.bool false)) E') []) : OpsOk (Cx P N w0 μ0) ops Q (⟨some d, .call ⟨.value fx, args.toArray, ts⟩, ty, p, af, gd⟩ :: os) E L := by
  intro j hk hN a w ⟨⟨μ, ρ, hh, he⟩, hs, hdf⟩
  obtain ⟨ho, hk'⟩ := drop_cons hk
  simp only [List.length_cons, List.range'_succ, opsW, wpOpsIn, ho]
  have hw : Region.wanted ⟨some d, .call ⟨.value fx, args.toArray, ts⟩, ty, p, af, gd⟩ (yielded ops a.tmps) = true := by
    cases gd with
    | none => rfl
    | some gj =>
      obtain ⟨g, want⟩ := gj
      obtain ⟨t, rg, e1, e2, e3⟩ := hg g want rfl
      obtain ⟨vb, hv1, hv2⟩ := he t _ e2
      simp only [Region.wanted]
      exact gcond_wanted e3 hv2 e1 hv1
  rw [if_pos hw]
  have hfv := AV.toD_rep rf _ _ hfd (hf μ ρ a he)
  simp only [yv, Rep] at hfv
  have hG := cx_grow hh
  have hJ1 := K.grow _ _ _ _ _ hJ hG
  obtain ⟨fn, tmps, assign, body, hy, hR⟩ := K.round k ds w μ _ hds hst hJ1 (ha.reps he)
  have hy' : (Instr.yield l (args.toArray.map a.eval)).run P w = .ok (.round l fn tmps assign body) w := by
    rw [show args.toArray.map a.eval = (args.map a.eval).toArray by apply Array.ext'; simp]; exact hy
  refine owp_round (run_call_yield rfl hfv.1 hy') (hR.mono ?_)
  have env : ∀ μ' b w', MemLe μ μ' → Held P w' μ' → Sim (Cx P N w' μ') (a.put (some d) (.bool b)) w' (upd d (.d (.bool b)) E') [] := fun μ' b w' hle hh' => by
    refine sim_start hh' (EnvOk.put (fun t r hr => ?_) (by rw [hs]; exact hN _ List.mem_cons_self d rfl) (by simp only [ARep, Rep])) (by rw [size_put]; exact hs) (by rw [defers_put]; exact hdf)
    obtain ⟨v, g1, g2⟩ := he t r (hE t r hr)
    have g3 : ARep μ [] r v := AV.upto_rep (n := 0) (fun i v hi => absurd hi (Nat.not_lt_zero i)) r v (hB t r hr) g2
    exact ⟨v, g1, ARep.mono hle (RhoLe.refl []) r v g3⟩
  rintro e w' ⟨μ', hle, ⟨hs', rfl, hJ'⟩ | ⟨hs', rfl, hJ'⟩⟩
  · exact h1 hs' w' μ' hJ' (hG.le.trans hle) (j + 1) hk' (fun p hp => hN p (List.mem_cons_of_mem _ hp)) _ _ (env μ' true w' hle (K.held _ _ _ hJ'))
  · exact h2 hs' w' μ' hJ' (hG.le.trans hle) (j + 1) hk' (fun p hp => hN p (List.mem_cons_of_mem _ hp)) _ _ (env μ' false w' hle (K.held' _ _ hJ'))
/-- A loop, whatever holds at its head. -/
theorem loop_any {ro : Option Nat} {P : Program} {body : Code} {Q : Exit → Act → World → Prop} {ι : Type} (m : ι → Nat) (S : ι → Act → World → Prop)
    (round : ∀ i a w, S i a w → cwp ro P body (Exit.then (fun a w => ∃ i', m i' < m i ∧ S i' a w) Q) a w) (i0 : ι) {a : Act} {w : World} (s : S i0 a w) : cwp ro P (.loop body) Q a w := by
  have key : ∀ k i, m i = k → ∀ a w, S i a w → ∀ (b : Frame) (kk : List Item) (cs : List Frame), b.roundOf = ro → (fc ro).room (cs.length + 1 + 0) →
      ∃ e a' w', Q e a' w' ∧ ArrivesIn (Machine.fenced P (fc ro)) P (lone (b.atR a (.code body :: .inLoop body :: kk)) cs w) b kk cs e a' w' := by
    intro k
    induction k using Nat.strongRecOn with
    | _ k ih =>
      intro i hi a w s b kk cs hro hr
      obtain ⟨e, a₁, w₁, hq, harr⟩ := round i a w s b (.inLoop body :: kk) cs hro trivial hr
      cases e with
      | normal =>
        obtain ⟨i', hlt, s'⟩ := hq
        obtain ⟨e₂, a₂, w₂, hq₂, harr₂⟩ := ih (m i') (by omega) i' rfl a₁ w₁ s' b kk cs hro hr
        exact ⟨e₂, a₂, w₂, hq₂, .of_steps (StepsIn.trans harr (.one (fenced_calm (fr := b.atR a₁ (.inLoop body :: kk)) (F := fc ro) trivial hr rfl) stepR_inLoop)) harr₂⟩
      | exit id => exact ⟨_, a₁, w₁, hq, .pass (x := .inLoop body) rfl (fun _ _ => .inl (by simp)) harr⟩
      | goto l => exact ⟨_, a₁, w₁, hq, .pass (x := .inLoop body) rfl (fun _ _ => .inl (by simp)) harr⟩
      | ret => exact ⟨_, a₁, w₁, hq, .pass (x := .inLoop body) rfl (fun _ _ => .inl (by simp)) harr⟩
      | panic ch => exact ⟨_, a₁, w₁, hq, .pass (x := .inLoop body) rfl (fun _ _ => .inl (by simp)) harr⟩
      | outgrown => exact ⟨_, a₁, w₁, hq, .pass (x := .inLoop body) rfl (fun _ _ => .inl (by simp)) harr⟩
  intro b kk cs hro _ hr
  obtain ⟨e, a', w', hq, harr⟩ := key _ i0 rfl a w s b kk cs hro hr
  exact ⟨e, a', w', hq, .of_steps (.one (fenced_calm (fr := b.atR a (.code (.loop body) :: kk)) (F := fc ro) trivial hr rfl) stepR_loop) harr⟩
theorem iter_round {P : Program} {N : Nat} {l : Nat} {ys : List (List D)} {K : Cons P l ys} {w0 : World} {μ μ0 : Mem} {Q : Exit → Act → World → Prop} {E : Env} {L : List AO} {ι : Type} {m cnt : ι → Nat} {Ef : ι → Env} {i : ι} (i' : ι) (hm : m i' < m i) (hJ : K.J (cnt i') w0 μ) (hle : MemLe μ0 μ)
    (hE : Le (Ef i') E) (hB : EBelow 0 (Ef i')) : ExOk (Cx P N w0 μ) .normal (Exit.then (fun a w => ∃ i', m i' < m i ∧ ∃ w0 μ, K.J (cnt i') w0 μ ∧ MemLe μ0 μ ∧ Sim (Cx P N w0 μ) a w (Ef i') []) Q) E L :=
  fun a w s => ⟨i', hm, w0, μ, hJ, hle, s.to 0 hE hB rfl rfl rfl⟩

/-! ### The statement -/
def rctx (C : Ctx) (l m : Nat) (ρ0 : List Value) (μ : Mem) : Ctx := { C with μ0 := μ, n0 := m, ρ0 := ρ0, ro := some l, df := [] }
def rawD (D : Nat) : AO := .raw (some D) (.deferred (some []))
def mark (D : Nat) : Deferred := { target := .collected D, args := #[] }
/-- The loop's record. -/
def rawL (l : Nat) (r : Loop) (st : LoopState) (pe : Option Code) : AO := .raw (some l) (.loop { r with state := st, pending := pe })
def parE : List Tmp → List D → Env → Env
  | p :: ps, d :: ds, E => parE ps ds (upd p (.d d) E)
  | _, _, E => E
theorem par_ok {μ : Mem} {ρ : List Value} : ∀ (ps : List Tmp) (ds : List D) (vs : List Value) (E : Env) (t : Array Value), EnvOk μ ρ E ⟨t, []⟩ → Reps μ ds vs → (∀ p ∈ ps, p < t.size) →
    EnvOk μ ρ (parE ps ds E) ⟨(ps.zip vs).foldl (fun t (p, v) => t.setIfInBounds p v) t, []⟩ ∧ ((ps.zip vs).foldl (fun t (p, v) => t.setIfInBounds p v) t).size = t.size
  | [], ds, vs, E, t, he, _, _ => by simpa [parE] using he
  | p :: ps, [], vs, E, t, he, hr, _ => by
    simp only [Reps] at hr; subst hr
    simpa [parE] using he
  | p :: ps, d :: ds, vs, E, t, he, hr, hp => by
    simp only [Reps] at hr
    obtain ⟨v, vs', rfl, h1, h2⟩ := hr
    have he' : EnvOk μ ρ (upd p (.d d) E) ⟨t.setIfInBounds p v, []⟩ := he.put (d := p) (v := v) (hp p List.mem_cons_self) (by simpa only [ARep] using h1)
    have := par_ok ps ds vs' (upd p (.d d) E) (t.setIfInBounds p v) he' h2 (fun q hq => by simpa using hp q (List.mem_cons_of_mem _ hq))
    simpa [parE] using this

/-- HeapOk under a round's context, and back. -/
theorem HeapOk.toR {C : Ctx} {w : World} {μ : Mem} {ρ : List Value} {L : List AO} (h : HeapOk C w μ ρ L) {l m : Nat} (hm : m ≤ L.length) : HeapOk (rctx C l m ρ μ) w μ ρ L :=
  ⟨h.len, h.rep, h.sep, h.own, h.holds, ⟨MemLe.refl μ, h.le.glob⟩, fun _ _ => rfl, h.fr, by show m ≤ _; rw [h.len]; exact hm, fun i hi => rfl⟩
theorem HeapOk.ofR {C : Ctx} {w w' : World} {μ μ' : Mem} {ρ ρ' : List Value} {L L' : List AO} (h0 : HeapOk C w μ ρ L) {l m : Nat} (hm : C.n0 ≤ m) (h : HeapOk (rctx C l m ρ μ) w' μ' ρ' L') {df : List Deferred} : HeapOk { C with df := df } w' μ' ρ' L' :=
  ⟨h.len, h.rep, h.sep, h.own, h.holds, h0.le.trans h.le.le, fun b hb => (h.old b hb).trans (h0.old b hb), h.fr, Nat.le_trans hm h.n0le, fun i hi => by
    have := h.keep i (Nat.lt_of_lt_of_le hi hm)
    exact this.trans (h0.keep i hi)⟩
/-- .. from one memory to a later one. -/
theorem HeapOk.reR {C : Ctx} {w' : World} {μe μ μ' : Mem} {ρ0 ρ' : List Value} {L' : List AO} {l m : Nat} (hle : LeG C.P μe μ) (hold : ∀ b, b < C.w0.heap.size → μ b = μe b) (h : HeapOk (rctx C l m ρ0 μ) w' μ' ρ' L') : HeapOk (rctx C l m ρ0 μe) w' μ' ρ' L' :=
  ⟨h.len, h.rep, h.sep, h.own, h.holds, hle.trans h.le.le, fun b hb => (h.old b hb).trans (hold b hb), h.fr, h.n0le, h.keep⟩
theorem raw_at {C : Ctx} {w : World} {μ : Mem} {ρ : List Value} {L : List AO} (h : HeapOk C w μ ρ L) {i l : Nat} {o : Obj} (hL : L[i]? = some (.raw (some l) o)) : ρ[i]? = some (.pointer (some ⟨l, 0, none⟩)) ∧ w.heap[l]? = some o := by
  have hi : i < ρ.length := by rw [h.len]; exact (List.getElem?_eq_some_iff.1 hL).1
  obtain ⟨b, h1, h2, h3⟩ := h.rep i _ _ hL (List.getElem?_eq_getElem hi)
  have := h3 l rfl
  subst this
  exact ⟨by rw [List.getElem?_eq_getElem hi, h1], h2⟩
theorem put_wrote {w : World} {l : Nat} {o o' : Obj} (h : w.heap[l]? = some o) : Wrote w (w.putObj l o') l o' :=
  ⟨rfl, rfl, rfl, by simp, World.putObj_heap_same (lt_of_heap h), fun k hk => World.putObj_heap_other hk, Nat.le_refl _⟩
theorem raw_put {C : Ctx} {w : World} {μ : Mem} {ρ : List Value} {L : List AO} (h : HeapOk C w μ ρ L) {i l : Nat} {o : Obj} (o' : Obj) (hL : L[i]? = some (.raw (some l) o)) : HeapOk C (w.putObj l o') μ ρ (L.set i (.raw (some l) o')) := by
  obtain ⟨h1, h2⟩ := raw_at h hL
  refine h.wroteO hL rfl h1 rfl (put_wrote h2) ⟨l, rfl, World.putObj_heap_same (lt_of_heap h2), fun c hc => ?_⟩
  simp at hc; exact hc
theorem raw_kill {C : Ctx} {w : World} {μ : Mem} {ρ : List Value} {L : List AO} (h : HeapOk C w μ ρ L) {i l : Nat} {o : Obj} (o' : Obj) (hL : L[i]? = some (.raw (some l) o)) : HeapOk C (w.putObj l o') μ ρ (L.set i .dead) := by
  obtain ⟨h1, h2⟩ := raw_at h hL
  exact h.wroteO hL rfl h1 rfl (put_wrote h2) trivial
theorem raw_push {C : Ctx} {w : World} {μ : Mem} {ρ : List Value} {L : List AO} (h : HeapOk C w μ ρ L) (o : Obj) : HeapOk C (w.alloc o) μ (ρ ++ [.pointer (some ⟨w.heap.size, 0, none⟩)]) (L ++ [.raw (some w.heap.size) o]) :=
  h.pushO rfl ⟨w.heap.size, rfl, World.alloc_heap_new w o, fun c hc => by simp at hc; exact hc⟩
def jumpOf : Exit → Option Code
  | .ret => some .ret
  | .exit id => some (.exit id)
  | _ => none
def JJ (C : Ctx) (l m : Nat) (ρ0 : List Value) (μe : Mem) (X : Nat → List AO) (D : Nat) (r : Loop) (k : Nat) (w : World) (μ : Mem) : Prop := ∃ ρ, HeapOk (rctx C l m ρ0 μe) w μ ρ (X k ++ [rawD D, rawL l r .ready none])
def JS (C : Ctx) (l m : Nat) (ρ0 : List Value) (μe : Mem) (X' : AO → AO → List AO) (jmp : Code) (D : Nat) (r : Loop) (w : World) (μ : Mem) : Prop := ∃ ρ, HeapOk (rctx C l m ρ0 μe) w μ ρ (X' (rawD D) (rawL l r .done (some jmp)))
theorem get_app2 {X : List AO} {n : Nat} {d e : AO} (h : X.length = n) : (X ++ [d, e])[n]? = some d ∧ (X ++ [d, e])[n + 1]? = some e := by subst h; simp
theorem set_app2 {X : List AO} {n : Nat} {d e e' : AO} (h : X.length = n) : (X ++ [d, e]).set (n + 1) e' = X ++ [d, e'] := by subst h; simp
theorem HeapOk.heldR {C : Ctx} {w : World} {μ : Mem} {ρ : List Value} {L : List AO} {l m : Nat} {ρ0 : List Value} {μe : Mem} (h : HeapOk (rctx C l m ρ0 μe) w μ ρ L) : Held C.P w μ := ⟨h.holds, h.le.glob⟩

mutual
theorem AV.upto_mono {n n' : Nat} (hn : n ≤ n') : ∀ (r : AV), AV.upto n r = true → AV.upto n' r = true
  | .d _, _ => rfl
  | .box i _, h => by simp only [AV.upto, Nat.blt_eq] at h ⊢; omega
  | .row i, h => by simp only [AV.upto, Nat.blt_eq] at h ⊢; omega
  | .agg cs, h => by simp only [AV.upto] at h ⊢; exact AV.uptos_mono hn cs h
  | .tup cs, h => by simp only [AV.upto] at h ⊢; exact AV.uptos_mono hn cs h
  | .clo _ cs, h => by simp only [AV.upto] at h ⊢; exact AV.uptos_mono hn cs h
  | .opt _ r, h => by simp only [AV.upto] at h ⊢; exact AV.upto_mono hn r h
  | .sl i _ _ _ _, h => by simp only [AV.upto, Nat.blt_eq] at h ⊢; omega
  | .el i _ _ _, h => by simp only [AV.upto, Nat.blt_eq] at h ⊢; omega
theorem AV.uptos_mono {n n' : Nat} (hn : n ≤ n') : ∀ (cs : List AV), AV.uptos n cs = true → AV.uptos n' cs = true
  | [], _ => rfl
  | c :: cs, h => by
    simp only [AV.uptos, Bool.and_eq_true] at h ⊢
    exact ⟨AV.upto_mono hn c h.1, AV.uptos_mono hn cs h.2⟩
end
/-- What the body of a round owes. -/
def RoundOk (C : Ctx) (m : Nat) (ps : List Tmp) (assign body : Code) (E' : Env) (X : Nat → List AO) (n : Nat) (stop : Option Nat) (jmp : Code) (X' : AO → AO → List AO) (k : Nat) (ds : List D) : Prop :=
  ∀ (l D : Nat) (r : Loop) (ρ0 : List Value) (μ : Mem), ∃ (E1 : Env) (X1 : AO → AO → List AO),
    (∀ d o, (X1 d o)[n + 1]? = some o) ∧ (∀ d o o', (X1 d o).set (n + 1) o' = X1 d o') ∧
    CodeOk (rctx C l m ρ0 μ) assign (Exit.then (fun a w => Sim (rctx C l m ρ0 μ) a w E1 (X1 (rawD D) (rawL l r .ready none))) (fun _ _ _ => False)) (parE ps ds E') (X k ++ [rawD D, rawL l r .ready none]) ∧
    ∀ Qr : Exit → Act → World → Prop, (stop ≠ some k → ∀ E L, L.take (n + 2) = X (k + 1) ++ [rawD D, rawL l r .busy none] → ExOk (rctx C l m ρ0 μ) .normal Qr E L) →
      (stop = some k → ∀ e E L, jumpOf e = some jmp → L = X' (rawD D) (rawL l r .busy none) → ExOk (rctx C l m ρ0 μ) e Qr E L) →
      CodeOk (rctx C l m ρ0 μ) body Qr E1 (X1 (rawD D) (rawL l r .busy none))
theorem ok_range {C : Ctx} {gop : Operand} {ps : List Tmp} {assign body : Code} {Q : Exit → Act → World → Prop} {E E' : Env} {L : List AO} {gf : FuncId} {caps : List D} {ys : List (List D)} {rg : AV} (m n : Nat)
    (hro : C.ro = none) (hg : Get E gop rg) (hgd : rg.toD = some (.clo (.func gf) caps)) (hI : Iter C.P gf caps ys)
    (hE : Le E' E) (hB : EBelow m E') (hk : C.n0 ≤ m) (hmL : m ≤ n) (hps : ∀ ds ∈ ys, ds.length = ps.length) (hpN : ∀ p ∈ ps, p < C.N)
    (X : Nat → List AO) (hX0 : X 0 = L) (hXl : ∀ k, (X k).length = n) (hXu : ∀ k, (X k).all (AO.upto n) = true)
    (stop : Option Nat) (jmp : Code) (X' : AO → AO → List AO) (hX1 : ∀ d o, (X' d o)[n + 1]? = some o) (hX2 : ∀ d o o', (X' d o).set (n + 1) o' = X' d o')
    (round : ∀ k ds, ys[k]? = some ds → (∀ j, stop = some j → k ≤ j) → RoundOk C m ps assign body E' X n stop jmp X' k ds)
    (done : (∀ j, stop = some j → ys.length ≤ j) → ∀ D, ExOk { C with df := mark D :: C.df } .normal Q E' (X ys.length ++ [rawD D]))
    (stopped : ∀ j, stop = some j → j < ys.length → ∀ D, CodeOk { C with df := mark D :: C.df } jmp Q E' (X' (rawD D) .dead)) :
    CodeOk C (.rangeFunc gop ps.toArray assign body) Q E L := by
  intro a w ⟨⟨μ, ρ, hh, he⟩, hs, hd⟩
  have hLn : L.length = n := by rw [← hX0]; exact hXl 0
  have hgv := AV.toD_rep rg _ _ hgd (hg μ ρ a he)
  simp only [Rep] at hgv
  obtain ⟨cvs, hgv, hcv⟩ := hgv
  refine wpIn_rangeFunc fun fn hfn => ?_
  rw [show (fc C.ro).round = none by rw [hro]; rfl]
  let l := w.heap.size + 1
  let D := w.heap.size
  let r : Loop := { state := .ready, pending := none, fn := fn, tmps := a.tmps, params := ps.toArray, assign := assign, body := body, defers := D }
  let W1 := (w.alloc (.deferred (some []))).alloc (.loop r)
  have hh1 : HeapOk (rctx C l m ρ μ) W1 μ (ρ ++ [.pointer (some ⟨D, 0, none⟩)] ++ [.pointer (some ⟨l, 0, none⟩)]) (X 0 ++ [rawD D, rawL l r .ready none]) := by
    have h1 := raw_push (hh.toR (l := l) (m := m) (by omega)) (.deferred (some []))
    have h2 := raw_push h1 (.loop r)
    rw [hX0, show [rawD D, rawL l r .ready none] = [rawD D] ++ [rawL l r .ready none] from rfl, ← List.append_assoc]
    rw [World.size_alloc] at h2
    exact h2
  -- the temporaries that outlive a round
  have env : ∀ W' μ' ρ' L', HeapOk (rctx C l m ρ μ) W' μ' ρ' L' → EnvOk μ' ρ' E' a := fun W' μ' ρ' L' h t q hq => by
    obtain ⟨v, g1, g2⟩ := he t q (hE t q hq)
    refine ⟨v, g1, ?_⟩
    have g3 : ARep μ ρ' q v := AV.upto_rep (n := m) (fun i v hi hv => by
      have := h.keep i hi
      exact this.trans hv) q v (hB t q hq) g2
    exact ARep.mono h.le.le (RhoLe.refl ρ') q v g3
  let K : Cons C.P l ys := {
    J := JJ C l m ρ μ X D r
    J' := JS C l m ρ μ X' jmp D r
    stop := stop
    held := fun k w μ ⟨ρ, h⟩ => h.heldR
    grow := fun k w μ w' μ' ⟨ρ, h⟩ g => ⟨ρ, h.grow g⟩
    held' := fun w μ ⟨ρ, h⟩ => h.heldR
    grow' := fun w μ w' μ' ⟨ρ, h⟩ g => ⟨ρ, h.grow g⟩
    round := by
      rintro k ds W μ1 vs hds hst ⟨ρ1, h⟩ hvs
      obtain ⟨hl1, hl2⟩ := raw_at h (get_app2 (hXl k)).2
      have hsz : vs.length = ps.length := hvs.length.trans (hps ds (List.mem_of_getElem? hds))
      have hy := run_yield (P := C.P) (args := vs.toArray) hl2 (show vs.toArray.size = ps.toArray.size by simpa using hsz)
      refine ⟨fn, _, assign, body, hy, ?_⟩
      have hle1 : LeG C.P μ μ1 := ⟨h.le.le, hh.le.glob⟩
      have hold1 : ∀ b, b < C.w0.heap.size → μ1 b = μ b := h.old
      have hR : HeapOk (rctx C l m ρ μ1) W μ1 ρ1 (X k ++ [rawD D, rawL l r .ready none]) := ⟨h.len, h.rep, h.sep, h.own, h.holds, ⟨MemLe.refl _, h.le.glob⟩, fun _ _ => rfl, h.fr, h.n0le, h.keep⟩
      obtain ⟨E1, X1, hx1, hx2, hA, hBd⟩ := round k ds hds hst l D r ρ μ1
      have hpar := par_ok ps ds vs E' a.tmps (env _ _ _ _ h) hvs (fun p hp => by rw [hs]; exact hpN p hp)
      have hfold : (ps.toArray.zip vs.toArray).foldl (fun t (p, v) => t.setIfInBounds p v) a.tmps = (ps.zip vs).foldl (fun t (p, v) => t.setIfInBounds p v) a.tmps := by
        rw [← Array.foldl_toList, Array.toList_zip]
      have hsim : Sim (rctx C l m ρ μ1) { tmps := (ps.toArray.zip vs.toArray).foldl (fun t (p, v) => t.setIfInBounds p v) a.tmps, defers := [] } W (parE ps ds E') (X k ++ [rawD D, rawL l r .ready none]) := by
        rw [hfold]
        exact ⟨⟨μ1, ρ1, hR, hpar.1⟩, hpar.2.trans hs, rfl⟩
      refine roundIn_of_wpIn (F := fc none) (n := 0) trivial ?_
      refine wpIn_mono (hA _ _ hsim) ?_
      intro e a1 w1 hq
      cases e with
      | normal =>
        obtain ⟨⟨μ2, ρ2, h2, he2⟩, hs2, hd2⟩ := hq
        obtain ⟨_, hl3⟩ := raw_at h2 (hx1 _ _)
        refine ⟨_, run_beginRound hl3 rfl, ?_⟩
        have h3 := raw_put h2 (.loop { r with state := .busy, pending := none }) (hx1 _ _)
        rw [hx2] at h3
        refine hBd _ ?_ ?_ a1 _ ⟨⟨μ2, ρ2, h3, he2⟩, hs2, hd2⟩
        · intro hns E2 L2 hL2 a3 w3 s3
          have s4 := (s3.le (le_none E2)).cut (n := n + 2) (by simpa [rctx] using Nat.le_trans hmL (Nat.le_add_right n 2)) (eb_none _) (by
            rw [hL2, List.all_append, Bool.and_eq_true]
            refine ⟨?_, rfl⟩
            have := hXu (k + 1)
            rw [List.all_eq_true] at this ⊢
            intro o ho
            have := this o ho
            cases o with
            | box T cs => exact AV.uptos_mono (Nat.le_add_right n 2) cs this
            | _ => rfl)
          rw [hL2] at s4
          obtain ⟨⟨μ4, ρ4, h4, -⟩, -, -⟩ := s4
          obtain ⟨_, hl4⟩ := raw_at h4 (get_app2 (hXl (k + 1))).2
          have h5 := raw_put h4 (.loop { r with state := .ready, pending := none }) (get_app2 (hXl (k + 1))).2
          rw [set_app2 (hXl (k + 1))] at h5
          exact ⟨_, _, run_endRound none hl4, μ4, h4.le.le, .inl ⟨hns, rfl, ρ4, h5.reR hle1 hold1⟩⟩
        · rintro hst' e2 E2 L2 hj hL2 a3 w3 ⟨⟨μ4, ρ4, h4, -⟩, -, -⟩
          rw [hL2] at h4
          obtain ⟨_, hl4⟩ := raw_at h4 (hX1 _ _)
          have h5 := raw_put h4 (.loop { r with state := .done, pending := some jmp }) (hX1 _ _)
          rw [hX2] at h5
          cases e2 <;> simp only [jumpOf, Option.some.injEq, reduceCtorEq] at hj
          all_goals (subst hj; exact ⟨_, _, run_endRound (some _) hl4, μ4, h4.le.le, .inr ⟨hst', rfl, ρ4, h5.reR hle1 hold1⟩⟩)
      | _ => exact hq }
  refine ⟨l, [mark D], W1, { target := .fn (.func gf) cvs.toArray, args := #[.func (.yield l) #[] #[]] }, W1, gf, #[.func (.yield l) #[] #[]] ++ cvs.toArray, W1, run_enterLoop_outer _ _ _ _ _, ?_, fun _ _ => trivial, ?_, fun h => by simp [fc] at h, ?_⟩
  · simp only [resolve, hgv]
    simp [go_sem]
  · have := hI.1 (.func (.yield l) #[] #[] :: cvs).toArray W1
    simp [invoke, this]
  · refine callsIn_fc ((hI.2 l K W1 μ cvs ⟨_, hh1⟩ hcv).mono ?_)
    rintro e W2 ⟨v, μ2, rfl, hle, ⟨⟨ρ2, h2⟩, hj⟩ | ⟨⟨ρ2, h2⟩, j, hj, hjl⟩⟩
    · obtain ⟨_, hl2⟩ := raw_at h2 (get_app2 (hXl ys.length)).2
      refine ⟨none, _, run_endLoop hl2 (by simp), ?_⟩
      have h3 := raw_kill h2 (.loop { r with state := .exhausted, pending := none }) (get_app2 (hXl ys.length)).2
      rw [set_app2 (hXl ys.length)] at h3
      have s3 : Sim { C with df := mark D :: C.df } { a with defers := [mark D] ++ a.defers } (W2.putObj l (.loop { r with state := .exhausted, pending := none })) E' (X ys.length ++ [rawD D, .dead]) :=
        ⟨⟨μ2, ρ2, hh.ofR hk h3, env _ _ _ _ h2⟩, hs, by rw [hd]; rfl⟩
      have s4 := s3.cut (n := n + 1) (by simpa using Nat.le_trans hk (Nat.le_trans hmL (Nat.le_add_right n 1))) (fun t q hq => AV.upto_mono (Nat.le_trans hmL (Nat.le_add_right n 1)) q (hB t q hq)) (by
        rw [show X ys.length ++ [rawD D, .dead] = (X ys.length ++ [rawD D]) ++ [.dead] by simp, List.take_left' (by simp [hXl])]
        rw [List.all_append, Bool.and_eq_true]
        refine ⟨?_, rfl⟩
        have := hXu ys.length
        rw [List.all_eq_true] at this ⊢
        intro o ho
        have := this o ho
        cases o with
        | box T cs => exact AV.uptos_mono (Nat.le_add_right n 1) cs this
        | _ => rfl)
      rw [show X ys.length ++ [rawD D, .dead] = (X ys.length ++ [rawD D]) ++ [.dead] by simp, List.take_left' (by simp [hXl])] at s4
      exact done hj D _ _ s4
    · obtain ⟨_, hl2⟩ := raw_at h2 (hX1 _ _)
      refine ⟨some jmp, _, run_endLoop hl2 (by simp), ?_⟩
      have h3 := raw_kill h2 (.loop { r with state := .exhausted, pending := some jmp }) (hX1 _ _)
      rw [hX2] at h3
      exact stopped j hj hjl D _ _ ⟨⟨μ2, ρ2, hh.ofR hk h3, env _ _ _ _ h2⟩, hs, by rw [hd]; rfl⟩

/-! ### The end of a function that holds such a statement -/
theorem specM_of {P : Program} {f : FuncId} {fn : Func} {c : Code} {N : Nat} {xs : List AV} {L L' : List AO} {r : AV} (hf : P.funcs[f]? = some fn) (hn : (fn.name == "runtime.NumGoroutine") = false) (hb : fn.body = some c) (hN : fn.ntmps = N) (hl : xs.length ≤ N)
    (h : ∀ w μ ρ, CodeOk (fctx P N w μ ρ L) c (bodyPostM (fc none) 0 P fn (PostS P w μ ρ L r L')) (argEnvA 0 xs) L) : Spec P f xs L r L' := by
  refine ⟨enters_of hf hn hb, fun w μ ρ vs hm hr => ?_⟩
  have hlen := hr.length
  refine callsIn_wide.1 (callsIn_of_wp_marks (F := fc none) (n := 0) hf hb trivial (h w μ ρ _ _ ⟨⟨μ, ρ, hm.ctxN, fun k r hk => ?_⟩, ?_, rfl⟩))
  · obtain ⟨j, v, h1, h2, h3⟩ := look_argEnvA xs vs 0 k r hr hk
    refine ⟨v, ?_, h3⟩
    have hj : j < vs.length := (List.getElem?_eq_some_iff.1 h2).1
    rw [h1, Nat.zero_add, Array.getElem?_append_left (by simpa using hj)]
    simpa using h2
  · simp only [fctx, Array.size_append, List.size_toArray, Array.size_replicate, hN, hlen]; omega
theorem ex_mark {C : Ctx} {fn : Func} {R : Ending → World → Prop} {E : Env} {L : List AO} {D : Nat} (p : Nat) (hdf : C.df = []) (hp : L[p]? = some (rawD D)) (h : ExOk C .ret (bodyPost C.P fn R) E (L.set p .dead)) : ExOk { C with df := mark D :: C.df } .ret (bodyPostM (fc none) 0 C.P fn R) E L := by
  intro a w ⟨⟨μ, ρ, hh, he⟩, hs, hd⟩
  obtain ⟨_, h2⟩ := raw_at hh hp
  have hh' : HeapOk C w μ ρ L := ⟨hh.len, hh.rep, hh.sep, hh.own, hh.holds, hh.le, hh.old, hh.fr, hh.n0le, hh.keep⟩
  have h3 := raw_kill hh' (.deferred none) hp
  obtain ⟨-, v, h4, h5⟩ := h { a with defers := [] } _ ⟨⟨μ, ρ, h3, he⟩, hs, hdf.symm⟩
  show LeavesInM _ _ _ _ _ _ a.defers _ _
  rw [hd]
  show LeavesInM _ _ _ _ _ _ (mark D :: C.df) _ _
  rw [hdf]
  exact ⟨by simp, .inl ⟨D, _, rfl, run_takeDeferred h2, v, h4, h5⟩⟩
theorem ex_nomark {C : Ctx} {fn : Func} {R : Ending → World → Prop} {E : Env} {L : List AO} (hdf : C.df = []) (h : ExOk C .ret (bodyPost C.P fn R) E L) : ExOk C .ret (bodyPostM (fc none) 0 C.P fn R) E L := by
  intro a w s
  obtain ⟨hd, v, h4, h5⟩ := h a w s
  show LeavesInM _ _ _ _ _ _ a.defers _ _
  rw [hd]
  exact ⟨v, h4, h5⟩
/-- What a boxed variable holds is hidden: the row that it named may turn. -/
def hideA (i : Nat) (u : Value) : AV → AV
  | .row j => bif Nat.beq j i then .d (.val u) else .row j
  | r => r
theorem hideA_rep {μ : Mem} {ρ : List Value} {i : Nat} {u : Value} (hu : ∀ v, ρ[i]? = some v → v = u) : ∀ (cs : List AV) (vs : List Value), AReps μ ρ cs vs → AReps μ ρ (cs.map (hideA i u)) vs
  | [], vs, h => h
  | c :: cs, vs, h => by
    simp only [AReps, List.map_cons] at h ⊢
    obtain ⟨v, vs', h1, h2, h3⟩ := h
    refine ⟨v, vs', h1, ?_, hideA_rep hu cs vs' h3⟩
    cases c with
    | row j =>
      simp only [hideA]
      cases hb : Nat.beq j i with
      | false => exact h2
      | true =>
        have := Nat.eq_of_beq_eq_true hb
        subst this
        simp only [ARep] at h2
        simp only [cond_true, ARep, Rep]
        exact ⟨hu v h2.1, h2.2⟩
    | _ => exact h2
theorem ok_hide {C : Ctx} {ops : Array Oper} {Q : Exit → Act → World → Prop} {os : List Oper} {E : Env} {L : List AO} (b i : Nat) {T : TypeId} {cs : List AV} (hL : L[b]? = some (.box T cs)) (h : ∀ u, OpsOk C ops Q os E (L.set b (.box T (cs.map (hideA i u))))) : OpsOk C ops Q os E L := by
  intro k hk hN a w ⟨⟨μ, ρ, hh, he⟩, hs, hd⟩
  have hb : b < ρ.length := by rw [hh.len]; exact (List.getElem?_eq_some_iff.1 hL).1
  refine h (ρ.getD i undef) k hk hN a w ⟨⟨μ, ρ, hh.retag hL rfl (List.getElem?_eq_getElem hb) ?_, he⟩, hs, hd⟩
  obtain ⟨g, vs, h1, h2, h3, h4⟩ := hh.rep b _ _ hL (List.getElem?_eq_getElem hb)
  exact ⟨g, vs, h1, h2, hideA_rep (fun v hv => by rw [List.getD_eq_getElem?_getD, hv]; rfl) cs vs h3, h4⟩
end Go.Aw

/-! AwF2 -/
namespace Go.Aw
open Go.RowKit
theorem set_rep {μ : Mem} {ρ : List Value} : ∀ (cs : List AV) (vs : List Value) (j : Nat) (c c' : AV), AReps μ ρ cs vs → cs[j]? = some c → (∀ v, ARep μ ρ c v → ARep μ ρ c' v) → AReps μ ρ (cs.set j c') vs
  | [], vs, j, c, c', h, hj, _ => by simp at hj
  | x :: cs, vs, 0, c, c', h, hj, k => by
    simp only [AReps, List.set_cons_zero] at h ⊢
    obtain ⟨v, vs', h1, h2, h3⟩ := h
    simp at hj; subst hj
    exact ⟨v, vs', h1, k v h2, h3⟩
  | x :: cs, vs, j + 1, c, c', h, hj, k => by
    simp only [AReps, List.set_cons_succ] at h ⊢
    obtain ⟨v, vs', h1, h2, h3⟩ := h
    exact ⟨v, vs', h1, h2, set_rep cs vs' j c c' h3 (by simpa using hj) k⟩
/-- A nil slice in a box becomes a row of one's own. -/
theorem ok_promoteB {C : Ctx} {c : Code} {Q : Exit → Act → World → Prop} {E : Env} {L : List AO} (b j T sz : Nat) {U : TypeId} {cs : List AV} {n : Nat} (hL : L[b]? = some (.box U cs)) (hj : cs[j]? = some NIL) (hn : L.length = n)
    (h : CodeOk C c Q E ((L ++ [AO.row T sz []]).set b (.box U (cs.set j (AV.row n))))) : CodeOk C c Q E L := by
  intro a w ⟨⟨μ, ρ, hh, he⟩, hs, hd⟩
  have hb : b < ρ.length := by rw [hh.len]; exact (List.getElem?_eq_some_iff.1 hL).1
  have h1 := hh.push0 (o := AO.row T sz []) (v := .slice none 0 0) rfl ⟨[], World.ownsRow_nil w 0 T sz, rfl⟩
  have hL' : (L ++ [AO.row T sz []])[b]? = some (.box U cs) := by rw [List.getElem?_append_left (List.getElem?_eq_some_iff.1 hL).1]; exact hL
  have hv' : (ρ ++ [Value.slice none 0 0])[b]? = some ρ[b] := by rw [List.getElem?_append_left hb]; simp
  refine h a w ⟨⟨μ, _, h1.retag hL' rfl hv' ?_, he.mono (MemLe.refl μ) (RhoLe.snoc ρ _)⟩, hs, hd⟩
  obtain ⟨g, vs, e1, e2, e3, e4⟩ := h1.rep b _ _ hL' hv'
  refine ⟨g, vs, e1, e2, set_rep cs vs j NIL (AV.row n) e3 hj (fun v hv => ?_), e4⟩
  simp only [NIL, ARep, Rep] at hv ⊢
  have hl : ρ.length = n := by rw [hh.len, hn]
  exact ⟨by rw [← hl, List.getElem?_append_right (Nat.le_refl _), hv.1]; simp, hv.2⟩
theorem eqFn {C : Ctx} {E : Env} {L : List AO} {d : Option Tmp} {T U : TypeId} {ty : TypeId} {p : String} {af : Array Edge} {gd : Option (Nat × Bool)} {x : Operand} {rx : AV} {f : Fn} {caps : List D} {ta tb : Array TypeId} {vr : Bool} (hU : C.P.underlying T = some (.func ta tb vr)) (hx : Get E x rx) (hd : rx.toD = some (.clo f caps)) :
    MStep C ⟨d, .binOp .eql T x (.const .nilFunc) U, ty, p, af, gd⟩ E L (.d (.bool false)) := by
  intro a w μ ρ K Q hh he hk
  have h1 := AV.toD_rep rx _ _ hd (hx μ ρ a he)
  simp only [Rep] at h1
  obtain ⟨vs, h1, -⟩ := h1
  refine owp_value (w' := w) (v := .bool false) ?_ (hk _ _ _ (Grow.refl hh) (by simp only [ARep, Rep]))
  have h2 : a.eval (.const .nilFunc) = .nilFunc := rfl
  have e1 : (Op.equal T (.func f #[] vs.toArray) .nilFunc).run C.P w = .ok false w := by
    unfold Op.equal Op.maxDepth
    rw [Op.equalIn]
    simp [run_underlying hU, Sem.run_bind, Result.andThen]
  have e2 : binOp .eql T (.func f #[] vs.toArray) .nilFunc = (do pure (.bool (← Op.equal T (.func f #[] vs.toArray) .nilFunc))) := rfl
  simp only [execOp, h1, h2, e2]
  simp [eqGuard, Sem.run_bind, e1, Result.andThen]
end Go.Aw

/-! AwF3 -/
namespace Go.Aw
open Go.RowKit
theorem append_key {C : Ctx} {L : List AO} {i t T sz bytes szy : Nat} {s x : Operand} {xs ys : List D} {ty : TypeId} {a : Act} {w : World} {μ : Mem} {ρ : List Value} (hh : HeapOk C w μ ρ L) (hρ : ρ[i]? = some (a.eval s)) (h2 : Rep μ (.list szy ys) (a.eval x))
    (ht : AppF C.P t T sz bytes) (hL : L[i]? = some (.row T sz xs)) (hsz : ys ≠ [] → szy = sz) (hb : (xs.length + ys.length) * bytes ≤ 140737488355328) (hm : xs.length + ys.length ≤ 9223372036854775807) :
    ∃ v' w' flat', (Builtin.append_ #[t, t] ty #[a.eval s, a.eval x]).run C.P w = .ok v' w' ∧ w'.ownsRow 0 T sz v' (xs ++ ys).length flat' ∧ RowVals μ sz (xs ++ ys) flat' ∧ w.grownBy w' (a.eval s).ownBlock ∧ w.drawn ≤ w'.drawn ∧
      (∀ b, blk v' = some b → blk (a.eval s) = some b ∨ (w.heap.size ≤ b ∧ b < w'.heap.size)) := by
  obtain ⟨flat, hown, hvals⟩ := hh.rep i _ _ hL hρ
  obtain ⟨info, z, ht1, ht2, ht3, ht4, ht5, ht6, ht7⟩ := ht
  simp only [Rep] at h2
  obtain ⟨ad, c, hy, hc, hcm, hnil, hrow⟩ := h2
  have at_ : ∀ (v' : Value) (w' : World) (m : Nat) (fl : List Value), w'.ownsRow 0 T sz v' m fl → (v'.ownBlock = (a.eval s).ownBlock ∨ v'.ownBlock = some w.heap.size) → ∀ b, blk v' = some b → blk (a.eval s) = some b ∨ (w.heap.size ≤ b ∧ b < w'.heap.size) := by
    intro v' w' m fl ho hor b hb'
    have e1 : v'.ownBlock = blk v' := by rcases ho.2 with ⟨rfl, _⟩ | ⟨g, cap, cur, rfl, _⟩ <;> rfl
    have e2 : (a.eval s).ownBlock = blk (a.eval s) := by rcases hown.2 with ⟨e, _⟩ | ⟨g, cap, cur, e, _⟩ <;> rw [e] <;> rfl
    rcases hor with h0 | h0
    · left; rw [← e2, ← h0, e1]; exact hb'
    · right
      rw [e1, hb'] at h0
      cases h0
      refine ⟨Nat.le_refl _, ?_⟩
      rcases ho.2 with ⟨rfl, _⟩ | ⟨g, cap, cur, rfl, _, hg, _⟩
      · cases hb'
      · simp only [blk, Option.some.injEq] at hb'
        subst hb'
        exact lt_of_heap hg
  by_cases hye : ys = []
  · subst hye
    cases had : ad with
    | none =>
      subst had
      have hc0 := hnil rfl
      subst hc0
      refine ⟨a.eval s, w, flat, ?_, by simpa using hown, by simpa using hvals, ⟨rfl, rfl, rfl, Nat.le_refl _, fun _ _ _ => rfl⟩, Nat.le_refl _, fun b hb => .inl hb⟩
      rw [hy]; exact run_append_owned_none (P := C.P) w 0 t ty T info sz ht1 ht2 _ _ _ hown
    | some ad' =>
      subst had
      obtain ⟨v', w', r1, r2, r3, _, r5, rd⟩ := append_own_dr (P := C.P) w 0 t ty T info z sz bytes ht1 ht2 ht3 ht4 ht5 ht6 ht7 (a.eval s) xs.length flat hown ad' 0 c [] (by simp) (by simp) (by simp) (by simp only [maxLen]; simpa using hm) (by simpa using hb) (Nat.zero_le _)
      exact ⟨v', w', flat, by rw [hy]; exact r1, by simpa using r2, by simpa using hvals, r3, rd, at_ v' w' _ _ r2 r5⟩
  · rcases hrow with hrow | ⟨b0, o0, rfl, hrow⟩
    · exact absurd hrow hye
    · have hsz := hsz hye
      subst hsz
      obtain ⟨news, n1, n2, n3, n4⟩ := flat_of_row ys o0 hrow
      obtain ⟨v', w', r1, r2, r3, _, r5, rd⟩ := append_own_dr (P := C.P) w 0 t ty T info z szy bytes ht1 ht2 ht3 ht4 ht5 ht6 ht7 (a.eval s) xs.length flat hown ⟨b0, o0, none⟩ ys.length c news n2
        (fun j u hj => by
          obtain ⟨cs, U, fz, g1, g2⟩ := n4 j u hj
          rw [addr_add]
          simp [World.cell?, hh.holds _ _ g1, g2]) n3 (by simp only [maxLen]; exact hm) hb (Nat.zero_le _)
      exact ⟨v', w', flat ++ news, by rw [hy]; exact r1, by rw [List.length_append]; exact r2, hvals.append n1, r3, rd, at_ v' w' _ _ r2 r5⟩

theorem HeapOk.redead {C : Ctx} {w : World} {μ : Mem} {ρ : List Value} {L : List AO} (h : HeapOk C w μ ρ L) {i : Nat} {u : Value} (hL : L[i]? = some .dead) (hfree : L.all (AO.free i) = true) (hi0 : C.n0 ≤ i) (hp : ∀ v, ρ[i]? = some v → ∀ a, v ≠ .pointer a) : HeapOk C w μ (ρ.set i u) L := by
  have hbut : RhoBut i ρ (ρ.set i u) := ⟨fun j v hj hv => by rw [List.getElem?_set_ne (Ne.symm hj)]; exact hv, fun v hv ⟨a, ha⟩ => absurd ha (hp v hv a)⟩
  have ne : ∀ (j : Nat) o v, L[j]? = some o → o.live = true → (ρ.set i u)[j]? = some v → ρ[j]? = some v := fun j o v hj hl hv => by
    have hji : j ≠ i := fun e => by subst e; rw [hL] at hj; cases hj; cases hl
    rw [List.getElem?_set_ne (Ne.symm hji)] at hv; exact hv
  refine ⟨by simp [h.len], fun j o v hj hv => ?_, fun j k o o' v v' b hjk hj hk hl hl' hv hv' hb => h.sep j k o o' v v' b hjk hj hk hl hl' (ne _ _ _ hj hl hv) (ne _ _ _ hk hl' hv') hb, fun j o v b hj hl hv hb => h.own j o v b hj hl (ne _ _ _ hj hl hv) hb, h.holds, h.le, h.old, h.fr, by simpa using h.n0le, fun j hj => by rw [List.getElem?_set_ne (by omega)]; exact h.keep j hj⟩
  have hf := List.all_eq_true.1 hfree o (List.mem_of_getElem? hj)
  cases o with
  | box U ds =>
    obtain ⟨b, vs, rfl, h4, h5, h6⟩ := h.rep j _ _ hj (ne _ _ _ hj rfl hv)
    exact ⟨b, vs, rfl, h4, AV.frees_rep hbut ds vs hf h5, h6⟩
  | row U s ys => exact h.rep j _ _ hj (ne _ _ _ hj rfl hv)
  | dead => trivial
  | raw p ob => exact h.rep j _ _ hj (ne _ _ _ hj rfl hv)
  | arr U s ys => exact h.rep j _ _ hj (ne _ _ _ hj rfl hv)
/-- An append to a row of one's own, which is known by a new name behind it. -/
theorem aprE {C : Ctx} {E : Env} {L : List AO} {d : Option Tmp} {p : String} {af : Array Edge} {i t T sz bytes szy m : Nat} {s x : Operand} {xs ys : List D} {ty : TypeId}
    (hs : Get E s (.row i)) (hx : Get E x (.d (.list szy ys))) (ht : AppF C.P t T sz bytes) (hL : L[i]? = some (.row T sz xs)) (hsz : ys ≠ [] → szy = sz) (hb : (xs.length + ys.length) * bytes ≤ 140737488355328) (hm : xs.length + ys.length ≤ 9223372036854775807) (hfree : L.all (AO.free i) = true) (hi0 : Nat.ble C.n0 i = true) (hN : L.length = m)
    {L' : List AO} (hq : L.set i .dead ++ [.row T sz (xs ++ ys)] = L') : EStep C ⟨d, .call ⟨.builtin .append, #[s, x], #[t, t]⟩, ty, p, af, none⟩ E L (.row m) L' := by
  subst hq
  intro a w μ ρ K Q hh he hk
  have h1 := hs μ ρ a he
  have h2 := hx μ ρ a he
  simp only [ARep] at h1 h2
  obtain ⟨v', w', flat', r1, r2, r3, r4, rd, r5⟩ := append_key (ty := ty) (x := x) hh h1.1 h2 ht hL hsz hb hm
  have hn0 : C.n0 ≤ i := by simpa using hi0
  have hi : i < L.length := (List.getElem?_eq_some_iff.1 hL).1
  have hiρ : i < ρ.length := by rw [hh.len]; exact hi
  have g1 := hh.rerow hL h1.1 r4 rd r2 r3 r5 hfree hn0
  have g2 := g1.moveO (i := i) (u := v') (v := v') (o' := .row T sz (xs ++ ys)) (by rw [List.getElem?_set_self hi]) rfl (by rw [List.getElem?_set_self hiρ]) (fun b hb => hb) ⟨flat', r2, r3⟩
  rw [List.set_set] at g2
  have hv' : ∀ a, v' ≠ .pointer a := by rcases r2.2 with ⟨e, _⟩ | ⟨g, cap, cur, e, _⟩ <;> subst e <;> simp
  have g3 := g2.redead (i := i) (u := a.eval s) (by rw [List.getElem?_append_left (by simpa using hi), List.getElem?_set_self hi]) (by
    rw [List.all_append, Bool.and_eq_true]
    refine ⟨List.all_eq_true.2 fun o ho => ?_, rfl⟩
    rcases List.mem_or_eq_of_mem_set ho with ho | rfl
    · exact List.all_eq_true.1 hfree o ho
    · rfl) hn0 (fun v hv a => by
    rw [List.getElem?_append_left (by simpa using hiρ), List.getElem?_set_self hiρ] at hv
    cases hv; exact hv' a)
  have e : (ρ.set i v' ++ [v']).set i (a.eval s) = ρ ++ [v'] := by
    rw [List.set_append_left _ _ (by simpa using hiρ), List.set_set]
    congr 1
    obtain ⟨_, h⟩ := List.getElem?_eq_some_iff.1 h1.1
    rw [← h]; simp
  rw [e] at g3
  refine owp_value (run_append_call rfl r1) (hk _ _ μ _ g3 (MemLe.refl μ) (RhoLe.snoc ρ v') ?_)
  simp only [ARep]
  refine ⟨by rw [← hN, ← hh.len, List.getElem?_append_right (Nat.le_refl _)]; simp, ?_⟩
  rcases r2.2 with ⟨e, _⟩ | ⟨g, cap, cur, e, _⟩ <;> subst e <;> exact ⟨rfl, rfl⟩
/-! ### A store into a field of a row's element -/
theorem setL_one {α : Type} (o : Nat) (cs : List α) (u : α) (h : o < cs.length) : setL o cs [u] = cs.set o u := by
  rw [setL_eq _ _ _ (by simp; omega), List.set_eq_take_append_cons_drop, if_pos h]; simp
theorem reps_set {μ : Mem} : ∀ (ds : List D) (vs : List Value) (j : Nat) (y : D) (u : Value), Reps μ ds vs → Rep μ y u → Reps μ (ds.set j y) (vs.set j u)
  | [], vs, j, y, u, h, _ => by simp only [Reps] at h; subst h; simp [Reps]
  | d :: ds, vs, 0, y, u, h, k => by
    simp only [Reps] at h
    obtain ⟨v, vs', rfl, h1, h2⟩ := h
    simp only [List.set_cons_zero, Reps]; exact ⟨u, vs', rfl, k, h2⟩
  | d :: ds, vs, j + 1, y, u, h, k => by
    simp only [Reps] at h
    obtain ⟨v, vs', rfl, h1, h2⟩ := h
    simp only [List.set_cons_succ, Reps]; exact ⟨v, _, rfl, h1, reps_set ds vs' j y u h2 k⟩
theorem RowVals.setF {μ : Mem} {sz fo : Nat} {ds : List D} {y : D} {u : Value} (hu : Rep μ y u) (h1 : u.oneCell' = true) (hf : fo < ds.length) : ∀ (xs : List D) (flat : List Value) (k : Nat), RowVals μ sz xs flat → xs[k]? = some (.agg ds) → RowVals μ sz (xs.set k (.agg (ds.set fo y))) (flat.set (k * sz + fo) u)
  | [], flat, k, h, hk => by simp at hk
  | x :: xs, flat, 0, ⟨v, rest, e1, e2, e3, e4⟩, hk => by
    simp at hk; subst hk
    simp only [Rep] at e3
    obtain ⟨vs, rfl, e5, e6⟩ := e3
    have hl : vs.length = ds.length := e5.length
    refine ⟨.agg (vs.set fo u).toArray, rest, ?_, ?_, ?_, e4⟩
    · subst e1
      simp only [Nat.zero_mul, Nat.zero_add, Value.cells]
      rw [List.set_append_left _ _ (by simpa using (by omega : fo < vs.length))]
    · simpa [Value.cells] using e2
    · simp only [Rep]
      exact ⟨_, rfl, reps_set _ _ _ _ _ e5 hu, fun w hw => by
        rcases List.mem_or_eq_of_mem_set hw with hw | rfl
        · exact e6 w hw
        · exact h1⟩
  | x :: xs, flat, k + 1, ⟨v, rest, e1, e2, e3, e4⟩, hk => by
    refine ⟨v, rest.set (k * sz + fo) u, ?_, e2, e3, RowVals.setF hu h1 hf xs rest k e4 (by simpa using hk)⟩
    subst e1
    have hl : v.cells.toList.length = sz := by simpa using e2
    rw [List.set_append_right _ _ (by rw [hl, Nat.add_mul]; omega), hl]
    congr 2
    rw [Nat.add_mul]; omega
theorem strF {C : Ctx} {E : Env} {L : List AO} {ty : TypeId} {p : String} {af : Array Edge} {T U i sz k fo : Nat} {x y : Operand} {xs ds : List D} {r : AV} {z : D} (hx : Get E x (.el i sz k fo)) (hy : Get E y r) (hz : r.toD = some z) (hp : z.plain = true) (ht : tyF C.P T = some (1, false)) (hz1 : z.cells = [z]) (hL : L[i]? = some (.row U sz xs)) (hk : xs[k]? = some (.agg ds)) (hf : fo < ds.length) (hds : ds.length = sz)
    {L' : List AO} (hq : L.set i (.row U sz (xs.set k (.agg (ds.set fo z)))) = L') :
    EStep C ⟨none, .store T x y, ty, p, af, none⟩ E L NOR L' := estep_of_skip fun a w μ ρ hh he => by
  subst hq
  have h1 := hx μ ρ a he
  simp only [ARep] at h1
  obtain ⟨u, g, hu, hb, hv⟩ := h1
  have h2 := AV.toD_rep r z _ hz (hy μ ρ a he)
  have h3 := D.width_rep h2
  have h4 := D.cells_one h2 hp
  obtain ⟨flat, hown, hvals⟩ := hh.rep i _ _ hL hu
  have hkl : k < xs.length := (List.getElem?_eq_some_iff.1 hk).1
  rcases hown.2 with ⟨rfl, _⟩ | ⟨g', cap, cur, rfl, hb', h5, hnc, hcm, hcs, h6⟩
  · simp [blk] at hb
  simp only [blk, Option.some.injEq] at hb
  subst hb
  have hmul : (k + 1) * sz ≤ xs.length * sz := Nat.mul_le_mul_right _ hkl
  have hmul2 : xs.length * sz ≤ cap * sz := Nat.mul_le_mul_right _ hnc
  rw [Nat.add_mul, Nat.one_mul] at hmul
  have hone : ∃ q, (a.eval y).cells.toList = [q] ∧ Rep μ z q := by
    have := D.cells_reps h2
    rw [hz1] at this
    simp only [Reps] at this
    obtain ⟨q, vs', e1, e2, rfl⟩ := this
    exact ⟨q, e1, e2⟩
  obtain ⟨q, hq1, hq2⟩ := hone
  obtain ⟨w', hr, hw'⟩ := run_storeCells' (P := C.P) U g' (k * sz + fo) (a.eval y).cells.toList w cur h5 (by rw [hq1, hcs]; simp; omega) h4
  have hsz1 : (a.eval y).cells.size = 1 := by have := congrArg List.length hq1; simpa using this
  refine ⟨w', ρ, run_store rfl hv ht (by omega) (by simpa using hr), hh.wroteO hL rfl hu rfl hw' ?_, RhoLe.refl ρ⟩
  rw [hq1] at hw'
  rw [setL_one _ _ _ (by simp; omega)] at hw'
  refine ⟨flat.set (k * sz + fo) q, ⟨by rw [List.length_set, hown.1]; simp, .inr ⟨g', cap, _, by simp, hb', hw'.at_, by simpa using hnc, hcm, by simpa using hcs, ?_⟩⟩, hvals.setF hq2 (h4 q (by rw [hq1]; simp)) hf xs flat k hk⟩
  rw [List.length_set, ← h6]
  simp [List.take_set]
end Go.Aw

/-! AwF4 -/
namespace Go.Aw
open Go.RowKit
theorem HeapOk.freeze0 {C : Ctx} {w : World} {μ : Mem} {ρ : List Value} {L : List AO} {i T sz : Nat} {xs : List D} (hF : ∀ b, ¬ C.F b) (hL : L[i]? = some (.row T sz xs)) (hpl : ∀ x ∈ xs, x.plain = true) (hh : HeapOk C w μ ρ L) :
    ∃ μ', MemLe μ μ' ∧ HeapOk C w μ' ρ (L.set i .dead) ∧ ∀ u, ρ[i]? = some u → Rep μ' (.list sz xs) u := by
  have hi : i < L.length := (List.getElem?_eq_some_iff.1 hL).1
  obtain ⟨v, hv⟩ : ∃ v, ρ[i]? = some v := ⟨ρ[i]'(by rw [hh.len]; exact hi), by simp [hh.len, hi]⟩
  obtain ⟨flat, hown, hvals⟩ := hh.rep i _ _ hL hv
  -- the new immutable memory
  have key : ∃ μ', MemLe μ μ' ∧ (∀ b, b < C.w0.heap.size → μ' b = μ b) ∧ (∀ b o, μ' b = some o → w.heap[b]? = some o) ∧ (∀ b, blk v ≠ some b → μ' b = μ b) ∧ Rep μ' (.list sz xs) v := by
    rcases hown.2 with ⟨e, e0⟩ | ⟨g, cap, cur, e, _, hg, h1, h2, h3, h4⟩
    · refine ⟨μ, MemLe.refl μ, fun _ _ => rfl, hh.holds, fun _ _ => rfl, ?_⟩
      subst e
      have : xs = [] := List.eq_nil_of_length_eq_zero e0
      subst this
      simp only [Rep]
      exact ⟨none, 0, rfl, by simp, Nat.zero_le _, fun _ => rfl, .inl trivial⟩
    · subst e
      have hbg : blk (.slice (some ⟨g, 0, none⟩) xs.length cap) = some g := rfl
      obtain ⟨o1, o2, o3⟩ := hh.own i _ _ g hL rfl hv hbg
      have hg0 : C.w0.heap.size ≤ g := o3.resolve_left (hF g)
      have hle : MemLe μ (fun b => if b = g then some (.cells cur T (0, 0)) else μ b) := fun b ob hb => by
        have : b ≠ g := fun e => by subst e; rw [o1] at hb; cases hb
        simp [this, hb]
      refine ⟨fun b => if b = g then some (.cells cur T (0, 0)) else μ b, hle, fun b hb => ?_, fun b ob hb => ?_, fun b hb => ?_, ?_⟩
      · have : b ≠ g := by omega
        simp [this]
      · by_cases hbg : b = g
        · subst hbg
          simp only [if_true, Option.some.injEq] at hb
          rw [← hb]; exact hg
        · simp only [hbg, if_false] at hb
          exact hh.holds b ob hb
      · have : b ≠ g := fun e => hb (by rw [e]; rfl)
        simp [this]
      · simp only [Rep]
        refine ⟨some ⟨g, 0, none⟩, cap, rfl, h1, h2, (fun h => by cases h), .inr ⟨g, 0, rfl, row_of_vals (T := T) (fz := (0, 0)) (cur := cur) (by simp) xs flat 0 (hvals.mono hle) hpl fun j u hj => ?_⟩⟩
        rw [← h4, List.getElem?_take] at hj
        split at hj
        · simpa using hj
        · cases hj
  obtain ⟨μ', hle, hold, hhold, hother, hrep⟩ := key
  have hsub : ∀ u, ρ[i]? = some u → u.cells = #[u] → Rep μ' (.list sz xs) u := fun u hu _ => by rw [hv] at hu; cases hu; exact hrep
  have cut : ∀ (j : Nat) o, (L.set i .dead)[j]? = some o → (j = i ∧ o = .dead) ∨ (j ≠ i ∧ ∃ o', L[j]? = some o' ∧ o = o') := by
    intro j o hj
    by_cases hji : j = i
    · subst hji
      rw [List.getElem?_set_self (by simpa using hi)] at hj
      exact .inl ⟨rfl, by simpa using hj.symm⟩
    · rw [List.getElem?_set_ne (Ne.symm hji)] at hj
      exact .inr ⟨hji, o, hj, rfl⟩
  have livesub : ∀ o : AO, o.live = true → o.live = true := fun o h => h
  refine ⟨μ', hle, ⟨by simp [hh.len], ?_, ?_, ?_, hhold, hh.le.trans hle, fun b hb => (hold b hb).trans (hh.old b hb), hh.fr, hh.n0le, hh.keep⟩, fun u hu => by rw [hv] at hu; cases hu; exact hrep⟩
  · intro j o u hj hu
    rcases cut j o hj with ⟨rfl, rfl⟩ | ⟨hji, o', hj', rfl⟩
    · trivial
    · have h3 := hh.rep j o u hj' hu
      cases o with
      | box U ds =>
        obtain ⟨b, vs, h4, h5, h6, h7⟩ := h3
        exact ⟨b, vs, h4, h5, AReps.mono hle (RhoLe.refl ρ) ds vs h6, h7⟩
      | row U s ys =>
        obtain ⟨fl, h4, h5⟩ := h3
        exact ⟨fl, h4, h5.mono hle s ys fl⟩
      | dead => trivial
      | raw p ob => exact h3
      | arr U s ys =>
        rcases h3 with ⟨g, cur, h4, h5, h6⟩ | h3
        · exact .inl ⟨g, cur, h4, h5, h6.mono hle s ys _⟩
        · exact .inr h3
  · intro j k o o' u u' b hjk hj hk hl hl' hu hu' hb
    rcases cut j o hj with ⟨rfl, rfl⟩ | ⟨hji, p, hj', rfl⟩
    · simp [AO.live] at hl
    · rcases cut k o' hk with ⟨rfl, rfl⟩ | ⟨hki, p', hk', rfl⟩
      · simp [AO.live] at hl'
      · exact hh.sep j k _ _ u u' b hjk hj' hk' hl hl' hu hu' hb
  · intro j o u b hj hl hu hb
    rcases cut j o hj with ⟨rfl, rfl⟩ | ⟨hji, p, hj', rfl⟩
    · simp [AO.live] at hl
    · obtain ⟨a1, a2, a3⟩ := hh.own j _ u b hj' hl hu hb
      refine ⟨?_, a2, a3⟩
      rw [hother b fun e => hh.sep j i _ _ u v b hji hj' hL hl rfl hu hv hb e]
      exact a1
/-- A row is given away, as a list, to a function that only computes. -/
theorem clG {C : Ctx} {E : Env} {L : List AO} {d : Option Tmp} {p : String} {af : Array Edge} {ts : Array TypeId} {ty : TypeId} {f : FuncId} {x : Operand} {i T sz : Nat} {xs : List D} {r : D} (hF : ∀ b, ¬ C.F b) (hx : Get E x (.row i)) (hL : L[i]? = some (.row T sz xs)) (hpl : ∀ y ∈ xs, y.plain = true) (hp : Pure C.P f [.list sz xs] r)
    {L' : List AO} (hq : L.set i .dead = L') : EStep C ⟨d, .call ⟨.value (.func f), #[x], ts⟩, ty, p, af, none⟩ E L (.d r) L' := by
  subst hq
  intro a w μ ρ K Q hh he hk
  have h1 := hx μ ρ a he
  simp only [ARep] at h1
  obtain ⟨μ', hle, hh', hrep⟩ := hh.freeze0 hF hL hpl
  have h2 := hrep _ h1.1
  have hc := hp.2 w μ' [a.eval x] hh'.holds hh'.le.glob (by simp only [Reps]; exact ⟨_, _, rfl, h2, rfl⟩)
  refine owp_enter (run_call_val (caps := #[]) rfl (by simp [Act.eval]) hp.1) ?_
  have e : (#[x].map a.eval ++ #[] : Array Value) = [a.eval x].toArray := by apply Array.ext'; simp
  rw [e]
  refine hc.mono fun e w' ⟨v, μ2, he', hg, hr⟩ => ?_
  subst he'
  exact hk _ _ μ2 ρ (hh'.grow hg) (hle.trans hg.le) (RhoLe.refl ρ) (by simpa only [ARep] using hr)
end Go.Aw

/-! Pl2 -/
namespace Go.Aw
/-! ### A search in a rising row -/
theorem bs_spec {g : Nat → Int} {n : Nat} (hm : ∀ i j, i ≤ j → j < n → g j < 0 → g i < 0) : ∀ f i j, i ≤ j → j ≤ n → j - i ≤ f → (∀ k, k < i → g k < 0) → (∀ k, j ≤ k → k < n → ¬ g k < 0) →
    (∀ k, k < bs g f i j → g k < 0) ∧ (∀ k, bs g f i j ≤ k → k < n → ¬ g k < 0)
  | 0, i, j, hij, hj, hf, h1, h2 => by
    have : i = j := by omega
    subst this
    exact ⟨h1, h2⟩
  | f + 1, i, j, hij, hj, hf, h1, h2 => by
    simp only [bs]
    split
    · rename_i hlt
      split
      · rename_i hg
        exact bs_spec hm f _ _ (by omega) hj (by omega) (fun k hk => hm k ((i + j) / 2) (by omega) (by omega) hg) h2
      · rename_i hg
        exact bs_spec hm f _ _ (by omega) (by omega) (by omega) h1 fun k hk hkn => fun h => hg (hm ((i + j) / 2) k (by omega) hkn h)
    · have : i = j := by omega
      subst this
      exact ⟨h1, h2⟩
theorem Pre3.lt_trans {α : Type} {c : α → α → Int} (h : Pre3 c) {a b d : α} (h1 : c a b < 0) (h2 : c b d < 0) : c a d < 0 := by
  have h3 := h.trans a b d (by omega) (by omega)
  rcases Int.lt_or_eq_of_le h3 with h4 | h4
  · exact h4
  · have := h.zl a d b h4
    have h5 := h.anti b d
    omega
theorem Pre3.refl {α : Type} {c : α → α → Int} (h : Pre3 c) (a : α) : c a a = 0 := by have := h.anti a a; omega
section
variable {c2 : Mu → Mu → Int} (h : Pre3 c2) {l : List Mu} {m : Mu}
include h
theorem bsP_spec (hl : l.Pairwise fun a b => c2 a b < 0) : (∀ k (hk : k < l.length), k < bsP (fun x => c2 x m) l → c2 l[k] m < 0) ∧ (∀ k (hk : k < l.length), bsP (fun x => c2 x m) l ≤ k → ¬ c2 l[k] m < 0) := by
  have hp := List.pairwise_iff_getElem.1 hl
  have := bs_spec (g := at_ (fun x => c2 x m) l) (n := l.length) (fun i j hij hj hg => by
    rw [at_get hj] at hg
    rw [at_get (show i < l.length by omega)]
    rcases Nat.lt_or_eq_of_le hij with h1 | h1
    · exact h.lt_trans (hp i j (by omega) hj h1) hg
    · subst h1; exact hg) l.length 0 l.length (Nat.zero_le _) (Nat.le_refl _) (by omega) (fun k hk => by omega) (fun k hk hkn => by omega)
  refine ⟨fun k hk hb => ?_, fun k hk hb => ?_⟩
  · have := this.1 k hb; rwa [at_get hk] at this
  · have := this.2 k hb hk; rwa [at_get hk] at this
theorem bsF_no (hx : ∀ x ∈ l, c2 x m ≠ 0) : bsF (fun x => c2 x m) l = false := by
  cases hb : bsF (fun x => c2 x m) l with
  | false => rfl
  | true =>
    have hlt := bsF_lt hb
    unfold bsF at hb
    rw [at_get hlt] at hb
    simp only [Bool.and_eq_true, decide_eq_true_eq, beq_iff_eq] at hb
    exact absurd hb.2 (hx _ (List.getElem_mem hlt))
theorem ins_rising (hl : l.Pairwise fun a b => c2 a b < 0) (hf : bsF (fun x => c2 x m) l = false) : (ins (fun x => c2 x m) l m).Pairwise fun a b => c2 a b < 0 := by
  obtain ⟨h1, h2⟩ := bsP_spec h (m := m) hl
  have hp := List.pairwise_iff_getElem.1 hl
  have hlt : ∀ x ∈ l.take (bsP (fun x => c2 x m) l), c2 x m < 0 := fun x hx => by
    obtain ⟨k, hk, rfl⟩ := List.mem_iff_getElem.1 hx
    simp only [List.length_take] at hk
    rw [List.getElem_take]
    exact h1 k (by omega) (by omega)
  have hgt : ∀ x ∈ l.drop (bsP (fun x => c2 x m) l), c2 m x < 0 := fun x hx => by
    obtain ⟨k, hk, rfl⟩ := List.mem_iff_getElem.1 hx
    simp only [List.length_drop] at hk
    rw [List.getElem_drop]
    have hpl : bsP (fun x => c2 x m) l < l.length := by omega
    have h3 : c2 m l[bsP (fun x => c2 x m) l] < 0 := by
      have h4 := h2 _ hpl (Nat.le_refl _)
      have h5 : c2 l[bsP (fun x => c2 x m) l] m ≠ 0 := fun e => by
        unfold bsF at hf
        rw [decide_eq_true hpl, at_get hpl] at hf
        simp [e] at hf
      have := h.anti l[bsP (fun x => c2 x m) l] m
      omega
    cases k with
    | zero => exact h3
    | succ k => exact h.lt_trans h3 (hp _ _ hpl (by omega) (by omega))
  unfold ins
  rw [List.append_assoc, List.pairwise_append]
  refine ⟨hl.sublist (List.take_sublist _ _), ?_, fun a ha b hb => ?_⟩
  · rw [List.singleton_append, List.pairwise_cons]
    exact ⟨hgt, hl.sublist (List.drop_sublist _ _)⟩
  · rcases List.mem_cons.1 (by simpa using hb) with rfl | hb
    · exact hlt a ha
    · exact h.lt_trans (hlt a ha) (hgt b hb)
end
theorem ins_mem_iff {c : Mu → Int} {l : List Mu} {m x : Mu} : x ∈ ins c l m ↔ x ∈ l ∨ x = m := by
  constructor
  · exact ins_mem
  · intro hx
    unfold ins
    simp only [List.mem_append, List.mem_singleton]
    rcases hx with hx | hx
    · rw [← List.take_append_drop (bsP c l) l, List.mem_append] at hx
      rcases hx with hx | hx
      · exact .inl (.inl hx)
      · exact .inr hx
    · exact .inl (.inr hx)
/-- Two strictly rising rows of the same are one. -/
theorem rising_ext {α : Type} {r : α → α → Prop} (ha : ∀ a b, r a b → r b a → False) : ∀ {l l' : List α}, l.Pairwise r → l'.Pairwise r → (∀ x, x ∈ l ↔ x ∈ l') → l = l'
  | [], [], _, _, _ => rfl
  | [], b :: l', _, _, h => absurd ((h b).2 List.mem_cons_self) (by simp)
  | a :: l, [], _, _, h => absurd ((h a).1 List.mem_cons_self) (by simp)
  | a :: l, b :: l', h1, h2, h => by
    rw [List.pairwise_cons] at h1 h2
    have hab : a = b := by
      rcases List.mem_cons.1 ((h a).1 List.mem_cons_self) with e | e
      · exact e
      · rcases List.mem_cons.1 ((h b).2 List.mem_cons_self) with e' | e'
        · exact e'.symm
        · exact (ha a b (h1.1 b e') (h2.1 a e)).elim
    subst hab
    have : l = l' := rising_ext ha h1.2 h2.2 fun x => by
      constructor
      · intro hx
        rcases List.mem_cons.1 ((h x).1 (List.mem_cons_of_mem _ hx)) with e | e
        · subst e; exact (ha _ _ (h1.1 x hx) (h1.1 x hx)).elim
        · exact e
      · intro hx
        rcases List.mem_cons.1 ((h x).2 (List.mem_cons_of_mem _ hx)) with e | e
        · subst e; exact (ha _ _ (h2.1 x hx) (h2.1 x hx)).elim
        · exact e
    rw [this]

/-! ### A content in its own form -/
def keyC (a b : Mu) : Int := cmpS a.key b.key
theorem pre_key : Pre3 keyC := ord_str.pre Mu.key
theorem Ord3.toPre {α : Type} {c : α → α → Int} (h : Ord3 c) : Pre3 c := h.pre id
theorem asym_of {α : Type} {c : α → α → Int} (h : Pre3 c) (a b : α) (h1 : c a b < 0) (h2 : c b a < 0) : False := by have := h.anti a b; omega
structure Can (c : Ct) : Prop where
  ck : c.cells.Pairwise fun a b => keyC a b < 0
  cr : ∀ m ∈ c.cells, m.right = true ∧ (m.table == 2) = false ∧ (m.kind == 3) = false
  cc : ∀ m ∈ c.cells, c.covered m.key m.at_ = false
  ws : c.wipes.Pairwise fun a b => Mu.cmp a b < 0
  wr : ∀ m ∈ c.wipes, m.right = true ∧ (m.table == 2) = false ∧ (m.kind == 3) = true
  wa : ∀ x ∈ c.wipes, ∀ y ∈ c.wipes, x ≠ y → x.within y = false
  ss : c.sibs.Pairwise fun a b => Mu.sib a b < 0
  sr : ∀ m ∈ c.sibs, m.right = true ∧ (m.table == 2) = true
theorem can0 : Can ct0 := ⟨.nil, fun _ h => (by cases h), fun _ h => (by cases h), .nil, fun _ h => (by cases h), fun _ h => (by cases h), .nil, fun _ h => (by cases h)⟩
theorem covered_no {c : Ct} {k : ByteArray} {s : St} : c.covered k s = false ↔ ∀ w ∈ c.wipes, w.hides k s = false := by
  unfold Ct.covered; rw [List.any_eq_false]; simp
theorem within_self (m : Mu) : m.within m = true := by
  have h1 : St.lt m.at_ m.at_ = false := by unfold St.lt; rw [ord_st.refl]; rfl
  simp [Mu.within, sEq_iff.2 rfl, h1]
theorem sortM_rising {l : List Mu} (h : l.Pairwise fun a b => a ≠ b) : (sortM l).Pairwise fun a b => Mu.cmp a b < 0 := by
  have h1 : (sortM l).Pairwise fun a b => a ≠ b := ((sortM_perm l).pairwise_iff (fun h => Ne.symm h)).2 h
  exact (h1.and (sortM_sorted l)).imp fun ⟨h2, h3⟩ => by
    rcases Int.lt_or_eq_of_le h3 with h4 | h4
    · exact h4
    · exact absurd (ord_mu.eq _ _ h4) h2
theorem rising_ne {α : Type} {c : α → α → Int} (h : Pre3 c) {l : List α} (hl : l.Pairwise fun a b => c a b < 0) : l.Pairwise fun a b => a ≠ b :=
  hl.imp fun h1 e => by subst e; have := h.refl; rw [this] at h1; omega
theorem can_sib {c : Ct} {m : Mu} (h : Can c) (hr : m.right = true) (ht : (m.table == 2) = true) : Can (c.sib m) := by
  unfold Ct.sib
  split
  · exact h
  · rename_i hf
    exact ⟨h.ck, h.cr, h.cc, h.ws, h.wr, h.wa, ins_rising ord_sib.toPre h.ss (by simpa using hf), fun x hx => (ins_mem hx).elim (h.sr x) fun e => by subst e; exact ⟨hr, ht⟩⟩
theorem can_cell {c : Ct} {m : Mu} (h : Can c) (hr : m.right = true) (ht : (m.table == 2) = false) (hk : (m.kind == 3) = false) : Can (c.cell m) := by
  unfold Ct.cell
  split
  · exact h
  · rename_i hcov
    have hcov : c.covered m.key m.at_ = false := by simpa using hcov
    split
    · rename_i hf
      split
      · have hlt := bsF_lt hf
        have hkey : keyC c.cells[bsP (fun x : Mu => cmpS x.key m.key) c.cells] m = 0 := by
          unfold bsF at hf
          rw [at_get hlt] at hf
          simp only [Bool.and_eq_true, decide_eq_true_eq, beq_iff_eq] at hf
          exact hf.2
        have hp := List.pairwise_iff_getElem.1 h.ck
        refine ⟨?_, fun x hx => (set_mem hx).elim (h.cr x) fun e => by subst e; exact ⟨hr, ht, hk⟩, fun x hx => (set_mem hx).elim (h.cc x) fun e => by subst e; exact hcov, h.ws, h.wr, h.wa, h.ss, h.sr⟩
        show (c.cells.set _ m).Pairwise _
        rw [List.pairwise_iff_getElem]
        intro i j hi hj hij
        rw [List.length_set] at hi hj
        have hij' := hp i j hi hj hij
        rw [List.getElem_set, List.getElem_set]
        split
        · rename_i e
          subst e
          rw [if_neg (by omega)]
          rw [← pre_key.zl _ _ _ hkey]; exact hij'
        · split
          · rename_i e
            subst e
            have h1 := pre_key.anti m c.cells[i]
            have h2 := pre_key.zl _ _ c.cells[i] hkey
            have h3 := pre_key.anti c.cells[bsP (fun x : Mu => cmpS x.key m.key) c.cells] c.cells[i]
            omega
          · exact hij'
      · exact h
    · rename_i hf
      have hf' : bsF (fun x : Mu => cmpS x.key m.key) c.cells = false := by simpa using hf
      exact ⟨ins_rising pre_key h.ck hf', fun x hx => (ins_mem hx).elim (h.cr x) fun e => by subst e; exact ⟨hr, ht, hk⟩, fun x hx => (ins_mem hx).elim (h.cc x) fun e => by subst e; exact hcov, h.ws, h.wr, h.wa, h.ss, h.sr⟩
theorem can_wipe {c : Ct} {m : Mu} (h : Can c) (hr : m.right = true) (ht : (m.table == 2) = false) (hk : (m.kind == 3) = true) : Can (c.wipe m) := by
  unfold Ct.wipe
  split
  · exact h
  · rename_i hany
    have hno : ∀ x ∈ c.wipes, x.within m = false := by
      have := List.any_eq_false.1 (by simpa using hany : (c.wipes.any fun x => x.within m) = false)
      exact fun x hx => by simpa using this x hx
    have hmem : ∀ x, x ∈ sortM ((c.wipes.filter fun x => !(m.within x)) ++ [m]) ↔ (x ∈ c.wipes ∧ m.within x = false) ∨ x = m := fun x => by
      rw [sortM_mem]; simp
    refine ⟨h.ck.sublist List.filter_sublist, fun x hx => h.cr x (List.mem_filter.1 hx).1, fun x hx => ?_, sortM_rising ?_, fun x hx => ?_, fun x hx y hy hxy => ?_, h.ss, h.sr⟩
    · rw [covered_no]
      intro w hw
      have hx' := List.mem_filter.1 hx
      rcases (hmem w).1 hw with ⟨hw, _⟩ | rfl
      · exact covered_no.1 (h.cc x hx'.1) w hw
      · simpa using hx'.2
    · rw [List.pairwise_append]
      refine ⟨(rising_ne ord_mu.toPre h.ws).sublist List.filter_sublist, List.pairwise_singleton _ _, fun a ha b hb => ?_⟩
      rw [List.mem_singleton.1 hb]
      intro e; subst e
      have := hno a (List.mem_filter.1 ha).1
      rw [within_self] at this; cases this
    · rcases (hmem x).1 hx with ⟨hx, _⟩ | rfl
      · exact h.wr x hx
      · exact ⟨hr, ht, hk⟩
    · rcases (hmem x).1 hx with ⟨hx1, hx2⟩ | rfl
      · rcases (hmem y).1 hy with ⟨hy1, _⟩ | rfl
        · exact h.wa x hx1 y hy1 hxy
        · exact hno x hx1
      · rcases (hmem y).1 hy with ⟨_, hy2⟩ | rfl
        · exact hy2
        · exact absurd rfl hxy
theorem can_add {c : Ct} {m : Mu} (h : Can c) : Can (c.add m) := by
  unfold Ct.add
  split
  · rename_i hr
    split
    · rename_i ht; exact can_sib h hr ht
    · rename_i ht
      split
      · rename_i hk; exact can_wipe h hr (by simpa using ht) hk
      · rename_i hk; exact can_cell h hr (by simpa using ht) (by simpa using hk)
  · exact h
theorem can_fold {l : List Mu} : ∀ {c : Ct}, Can c → Can (l.foldl Ct.add c) := by
  induction l with
  | nil => exact fun h => h
  | cons m l ih => exact fun h => ih (can_add h)

/-! ### Its parts build it anew -/
open Classical in
/-- What of l is among s. -/
noncomputable def amg (s l : List Mu) : List Mu := l.filter fun x => decide (x ∈ s)
theorem amg_mem {s l : List Mu} {x : Mu} : x ∈ amg s l ↔ x ∈ l ∧ x ∈ s := by unfold amg; simp
theorem amg_sub (s l : List Mu) : (amg s l).Sublist l := List.filter_sublist
theorem amg_same {s l : List Mu} {m : Mu} (hm : m ∉ l) : amg (s ++ [m]) l = amg s l := by
  unfold amg
  refine List.filter_congr fun x hx => ?_
  have : x ≠ m := fun e => hm (e ▸ hx)
  simp [this]
theorem amg_all {s l : List Mu} (h : ∀ x ∈ l, x ∈ s) : amg s l = l := by
  unfold amg; exact List.filter_eq_self.2 fun x hx => by simpa using h x hx
theorem can_sub {c : Ct} (h : Can c) (s : List Mu) : Can ⟨amg s c.cells, amg s c.wipes, amg s c.sibs⟩ :=
  ⟨h.ck.sublist (amg_sub _ _), fun m hm => h.cr m (amg_mem.1 hm).1, fun m hm => covered_no.2 fun w hw => covered_no.1 (h.cc m (amg_mem.1 hm).1) w (amg_mem.1 hw).1, h.ws.sublist (amg_sub _ _), fun m hm => h.wr m (amg_mem.1 hm).1, fun x hx y hy hxy => h.wa x (amg_mem.1 hx).1 y (amg_mem.1 hy).1 hxy, h.ss.sublist (amg_sub _ _), fun m hm => h.sr m (amg_mem.1 hm).1⟩
theorem rebuild_step {c : Ct} (h : Can c) {s : List Mu} {m : Mu} (hms : m ∉ s) (hm : m ∈ c.cells ∨ m ∈ c.wipes ∨ m ∈ c.sibs) :
    Ct.add ⟨amg s c.cells, amg s c.wipes, amg s c.sibs⟩ m = ⟨amg (s ++ [m]) c.cells, amg (s ++ [m]) c.wipes, amg (s ++ [m]) c.sibs⟩ := by
  have hb := can_sub h s
  have hmem : ∀ {l : List Mu}, m ∈ l → ∀ x, x ∈ amg (s ++ [m]) l ↔ x ∈ amg s l ∨ x = m := fun hl x => by
    rw [amg_mem, amg_mem, List.mem_append, List.mem_singleton]
    constructor
    · rintro ⟨h1, h2 | h2⟩
      · exact .inl ⟨h1, h2⟩
      · exact .inr h2
    · rintro (⟨h1, h2⟩ | h2)
      · exact ⟨h1, .inl h2⟩
      · subst h2; exact ⟨hl, .inr rfl⟩
  unfold Ct.add
  rcases hm with hm | hm | hm
  · obtain ⟨hr, ht, hk⟩ := h.cr m hm
    rw [if_pos hr, if_neg (by simp [ht]), if_neg (by simp [hk])]
    have nw : m ∉ c.wipes := fun hw => by have := (h.wr m hw).2.2; rw [hk] at this; cases this
    have ns : m ∉ c.sibs := fun hs => by have := (h.sr m hs).2; rw [ht] at this; cases this
    have hcov : Ct.covered ⟨amg s c.cells, amg s c.wipes, amg s c.sibs⟩ m.key m.at_ = false := covered_no.2 fun w hw => covered_no.1 (h.cc m hm) w (amg_mem.1 hw).1
    have hne : ∀ x ∈ amg s c.cells, keyC x m ≠ 0 := fun x hx e => by
      obtain ⟨hx1, hx2⟩ := amg_mem.1 hx
      have hxm : x ≠ m := fun e => hms (e ▸ hx2)
      obtain ⟨i, hi, rfl⟩ := List.mem_iff_getElem.1 hx1
      obtain ⟨j, hj, rfl⟩ := List.mem_iff_getElem.1 hm
      have hp := List.pairwise_iff_getElem.1 h.ck
      rcases Nat.lt_trichotomy i j with hij | hij | hij
      · have := hp i j hi hj hij; omega
      · subst hij; exact hxm rfl
      · have := hp j i hj hi hij; have h2 := pre_key.anti c.cells[i] c.cells[j]; omega
    have hbf := bsF_no pre_key hne
    unfold Ct.cell
    rw [if_neg (by simp [hcov]), if_neg (by rw [show bsF (fun x : Mu => cmpS x.key m.key) (amg s c.cells) = false from hbf]; simp), amg_same nw, amg_same ns]
    congr 1
    exact rising_ext (asym_of pre_key) (ins_rising pre_key hb.ck hbf) (h.ck.sublist (amg_sub _ _)) fun x => by rw [ins_mem_iff, hmem hm]
  · obtain ⟨hr, ht, hk⟩ := h.wr m hm
    rw [if_pos hr, if_neg (by simp [ht]), if_pos (by simp [hk])]
    have nc : m ∉ c.cells := fun hw => by have := (h.cr m hw).2.2; rw [hk] at this; cases this
    have ns : m ∉ c.sibs := fun hs => by have := (h.sr m hs).2; rw [ht] at this; cases this
    have hne : ∀ x ∈ amg s c.wipes, x ≠ m := fun x hx e => hms (e ▸ (amg_mem.1 hx).2)
    have hany : ((amg s c.wipes).any fun x => x.within m) = false := by
      rw [List.any_eq_false]; intro x hx; simp [h.wa x (amg_mem.1 hx).1 m hm (hne x hx)]
    have hf1 : ((amg s c.cells).filter fun x => !(m.hides x.key x.at_)) = amg s c.cells := List.filter_eq_self.2 fun x hx => by simp [covered_no.1 (h.cc x (amg_mem.1 hx).1) m hm]
    have hf2 : ((amg s c.wipes).filter fun x => !(m.within x)) = amg s c.wipes := List.filter_eq_self.2 fun x hx => by simp [h.wa m hm x (amg_mem.1 hx).1 (Ne.symm (hne x hx))]
    unfold Ct.wipe
    rw [if_neg (by simp [hany])]
    simp only
    rw [hf1, hf2, amg_same nc, amg_same ns]
    congr 1
    refine rising_ext (asym_of ord_mu.toPre) (sortM_rising ?_) (h.ws.sublist (amg_sub _ _)) fun x => by rw [sortM_mem, List.mem_append, List.mem_singleton, hmem hm]
    rw [List.pairwise_append]
    refine ⟨(rising_ne ord_mu.toPre h.ws).sublist (amg_sub _ _), List.pairwise_singleton _ _, fun a ha b hb => ?_⟩
    rw [List.mem_singleton.1 hb]; exact hne a ha
  · obtain ⟨hr, ht⟩ := h.sr m hm
    rw [if_pos hr, if_pos ht]
    have nc : m ∉ c.cells := fun hw => by have := (h.cr m hw).2.1; rw [ht] at this; cases this
    have nw : m ∉ c.wipes := fun hw => by have := (h.wr m hw).2.1; rw [ht] at this; cases this
    have hne : ∀ x ∈ amg s c.sibs, Mu.sib x m ≠ 0 := fun x hx e => hms (ord_sib.eq x m e ▸ (amg_mem.1 hx).2)
    have hbf := bsF_no ord_sib.toPre hne
    unfold Ct.sib
    rw [if_neg (by rw [show bsF (fun x => Mu.sib x m) (amg s c.sibs) = false from hbf]; simp), amg_same nc, amg_same nw]
    congr 1
    exact rising_ext (asym_of ord_sib.toPre) (ins_rising ord_sib.toPre hb.ss hbf) (h.ss.sublist (amg_sub _ _)) fun x => by rw [ins_mem_iff, hmem hm]
theorem rebuild {c : Ct} (h : Can c) : ∀ (s p : List Mu), (p ++ s).Pairwise (fun a b => a ≠ b) → (∀ m ∈ s, m ∈ c.cells ∨ m ∈ c.wipes ∨ m ∈ c.sibs) → s.foldl Ct.add ⟨amg p c.cells, amg p c.wipes, amg p c.sibs⟩ = ⟨amg (p ++ s) c.cells, amg (p ++ s) c.wipes, amg (p ++ s) c.sibs⟩
  | [], p, _, _ => by simp
  | m :: s, p, hn, hs => by
    have hmp : m ∉ p := fun hm => by
      have := (List.pairwise_append.1 hn).2.2 m hm m List.mem_cons_self
      exact this rfl
    rw [List.foldl_cons, rebuild_step h hmp (hs m List.mem_cons_self)]
    have := rebuild h s (p ++ [m]) (by simpa using hn) fun x hx => hs x (List.mem_cons_of_mem _ hx)
    simpa using this
theorem amg_nil (l : List Mu) : amg [] l = [] := by unfold amg; simp
theorem join_can {c : Ct} (h : Can c) : Ct.join ct0 c = c := by
  unfold Ct.join
  have hn : c.all.Pairwise fun a b => a ≠ b := by
    unfold Ct.all
    refine ((sortM_perm _).pairwise_iff (fun h => Ne.symm h)).2 ?_
    rw [List.append_assoc, List.pairwise_append]
    refine ⟨rising_ne pre_key h.ck, ?_, fun a ha b hb e => ?_⟩
    · rw [List.pairwise_append]
      refine ⟨rising_ne ord_mu.toPre h.ws, rising_ne ord_sib.toPre h.ss, fun a ha b hb e => ?_⟩
      subst e
      have h1 := (h.wr a ha).2.1; have h2 := (h.sr a hb).2
      rw [h1] at h2; cases h2
    · subst e
      rcases List.mem_append.1 hb with hb | hb
      · have h1 := (h.cr a ha).2.2; have h2 := (h.wr a hb).2.2
        rw [h1] at h2; cases h2
      · have h1 := (h.cr a ha).2.1; have h2 := (h.sr a hb).2
        rw [h1] at h2; cases h2
  have hm : ∀ m, m ∈ c.all ↔ m ∈ c.cells ∨ m ∈ c.wipes ∨ m ∈ c.sibs := fun m => by unfold Ct.all; rw [sortM_mem]; simp [or_assoc]
  have := rebuild h c.all [] (by simpa using hn) fun m hm' => (hm m).1 hm'
  rw [amg_nil, amg_nil, amg_nil, List.nil_append, amg_all fun x hx => (hm x).2 (.inl hx), amg_all fun x hx => (hm x).2 (.inr (.inl hx)), amg_all fun x hx => (hm x).2 (.inr (.inr hx))] at this
  exact this
theorem join_of (l : List Mu) : Ct.join ct0 (Ct.of l) = Ct.of l := join_can (can_fold can0)
end Go.Aw

/-! Rd -/
namespace Go.Aw
open Go
/-! ### What a reading of the arguments gives -/
def hm (w : World) : Mem := fun b => w.heap[b]?
/-- A type whose readings are values of α: their cells. -/
structure Cod (P : Program) {α : Type} (T : TypeId) (sz : Nat) (f : α → List D) (ok : α → Prop) : Prop where
  size : P.cellsOf T = sz
  read : ∀ {H : Type} {enc : TypeId × Value → H} {w : World} {spare : Nat → Bool} {held : Bool} (fuel : Nat) (cs : List Value) (x : DataW H × List MemPlace), DataW.trod enc P w 0 spare held fuel T cs = some x →
    (∀ n ∈ x.1.weights P T, n ≤ reachBytes) → ∃ a, Reps (hm w) (f a) cs ∧ ok a ∧ ∀ u ∈ cs, u.oneCell' = true
theorem cod_int {P : Program} {T : TypeId} {k : IntKind} (hT : P.underlying T = some (.int k)) (hs : P.cellsOf T = 1) : Cod P T 1 (fun n : Int => [.int k n]) (fun _ => True) :=
  ⟨hs, fun fuel cs x h _ => by
    obtain ⟨n, rfl, -, -⟩ := DataW.trod_int hT h
    exact ⟨n, by simp [Reps, Rep], trivial, by simp [Value.oneCell']⟩⟩
theorem cod_bool {P : Program} {T : TypeId} (hT : P.underlying T = some .bool) (hs : P.cellsOf T = 1) : Cod P T 1 (fun b : Bool => [.bool b]) (fun _ => True) :=
  ⟨hs, fun fuel cs x h _ => by
    obtain ⟨b, rfl, -⟩ := DataW.trod_bool hT h
    exact ⟨b, by simp [Reps, Rep], trivial, by simp [Value.oneCell']⟩⟩
theorem cod_str {P : Program} {T : TypeId} (hT : P.underlying T = some .string) (hs : P.cellsOf T = 1) : Cod P T 1 (fun s : ByteArray => [.str s]) (fun _ => True) :=
  ⟨hs, fun fuel cs x h _ => by
    obtain ⟨s, rfl, -, -⟩ := DataW.trod_string hT h
    exact ⟨s, by simp [Reps, Rep], trivial, by simp [Value.oneCell']⟩⟩
theorem weightsAll_mem {H : Type} {P : Program} {e : TypeId} {n : Nat} : ∀ {l : List (DataW H)} {d : DataW H}, d ∈ l → n ∈ d.weights P e → n ∈ DataW.weightsAll P e l
  | x :: l, d, hd, hn => by
    simp only [DataW.weightsAll, List.mem_append]
    rcases List.mem_cons.1 hd with rfl | hd
    · exact .inl hn
    · exact .inr (weightsAll_mem hd hn)
theorem weightsEach_mem {H : Type} {P : Program} {n : Nat} : ∀ {ts : List TypeId} {l : List (DataW H)} {i : Nat} {t : TypeId} {d : DataW H}, ts[i]? = some t → l[i]? = some d → n ∈ d.weights P t → n ∈ DataW.weightsEach P ts l
  | t' :: ts, d' :: l, 0, t, d, ht, hd, hn => by
    simp at ht hd; subst ht; subst hd
    simp only [DataW.weightsEach, List.mem_append]; exact .inl hn
  | t' :: ts, d' :: l, i + 1, t, d, ht, hd, hn => by
    simp only [DataW.weightsEach, List.mem_append]; exact .inr (weightsEach_mem (i := i) (by simpa using ht) (by simpa using hd) hn)
  | [], _, _, _, _, ht, _, _ => by simp at ht
  | _ :: _, [], _, _, _, _, hd, _ => by simp at hd
/-- One behind the other. -/
theorem reps_seg {μ : Mem} {a b : List D} {cs : List Value} {o k : Nat} (h1 : Reps μ a ((cs.drop o).take k)) (h2 : Reps μ b (cs.drop (o + k))) : Reps μ (a ++ b) (cs.drop o) := by
  have := h1.append h2
  rwa [← List.drop_drop, List.take_append_drop] at this
theorem cell_at {w : World} {a : Addr} {v : Value} (h : w.cell? a = some v) : a.spot = none ∧ ∃ c T fz, w.heap[a.block]? = some (.cells c T fz) ∧ c[a.off]? = some v := by
  unfold World.cell? at h
  split at h
  · rename_i c T fz hc
    cases hs : a.spot with
    | none => simp [hs] at h; exact ⟨rfl, c, T, fz, hc, h⟩
    | some s => simp [hs] at h
  · cases h
theorem cod_slice {P : Program} {α : Type} {T e : TypeId} {sz : Nat} {f : α → List D} {ok : α → Prop} {g : α → D} (hT : P.underlying T = some (.slice e)) (h1 : P.cellsOf T = 1) (hc : Cod P e sz f ok) (hz : 0 < sz)
    (hel : ∀ μ a cs, Reps μ (f a) cs → cs.length = sz → (∀ u ∈ cs, u.oneCell' = true) → ∃ v : Value, Rep μ (g a) v ∧ v.cells.toList = cs) (hpl : ∀ a, (g a).plain = true) :
    Cod P T 1 (fun l : List α => [.list sz (l.map g)]) (fun l => l.length * P.bytesOf e ≤ reachBytes ∧ ∀ a ∈ l, ok a) := by
  refine ⟨h1, fun {H enc w spare held} fuel cs x h hw => ?_⟩
  rcases DataW.trod_slice hT h with ⟨rfl, -⟩ | ⟨a, len, cap, elems, rest, n, -, rfl, rfl, -, hlc, hcm, hle, he, -, -⟩
  · refine ⟨[], ?_, ⟨by simp, fun a h => by cases h⟩, by simp [Value.oneCell']⟩
    simp only [Reps, Rep, List.map_nil, List.length_nil]
    exact ⟨_, [], rfl, ⟨none, 0, rfl, Nat.le_refl _, Nat.zero_le _, fun _ => rfl, .inl trivial⟩, rfl⟩
  · simp only [DataW.weights, hT] at hw
    have hlen : (elems.length + rest.length) * P.bytesOf e ≤ reachBytes := by
      have := hw ((elems.length + rest.length) * P.bytesOf e) (by simp)
      exact this
    have hwe : ∀ d ∈ elems.map (·.1), ∀ n ∈ d.weights P e, n ≤ reachBytes := fun d hd n hn => hw n (by
      refine List.mem_cons_of_mem _ (List.mem_append.2 (.inl (weightsAll_mem hd hn))))
    -- element for element
    have each : ∀ i, i < len → ∃ x : α, ok x ∧ ∃ v : Value, Rep (hm w) (g x) v ∧ v.cells.size = sz ∧ ∀ j, j < sz → w.cell? (a.add (i * sz + j)) = v.cells.toList[j]? := fun i hi => by
      have h2 := he i hi
      rw [hc.size] at h2
      have hei : i < elems.length := by omega
      rw [List.getElem?_eq_getElem hei, Option.bind_eq_some_iff] at h2
      obtain ⟨cs', h3, h4⟩ := h2
      obtain ⟨_, h5, h6⟩ := World.cells?_some h3
      obtain ⟨x, h7, h8, h9⟩ := hc.read n cs' _ h4 (hwe _ (List.mem_map.2 ⟨_, List.getElem_mem hei, rfl⟩))
      obtain ⟨v, h10, h11⟩ := hel _ _ _ h7 h5 h9
      refine ⟨x, h8, v, h10, by have := congrArg List.length h11; simpa [h5] using this, fun j hj => ?_⟩
      rw [h11, ← h6 j hj, Addr.add_add]
    obtain ⟨l, hl, hall⟩ : ∃ l : List α, l.length = len ∧ ∀ (i : Nat) (x : α), l[i]? = some x → ok x ∧ ∃ v : Value, Rep (hm w) (g x) v ∧ v.cells.size = sz ∧ ∀ j, j < sz → w.cell? (a.add (i * sz + j)) = v.cells.toList[j]? := by
      have key : ∀ m, m ≤ len → ∃ l : List α, l.length = m ∧ ∀ (i : Nat) (x : α), l[i]? = some x → ok x ∧ ∃ v : Value, Rep (hm w) (g x) v ∧ v.cells.size = sz ∧ ∀ j, j < sz → w.cell? (a.add (i * sz + j)) = v.cells.toList[j]? := by
        intro m
        induction m with
        | zero => exact fun _ => ⟨[], rfl, fun i x h => by simp at h⟩
        | succ m ih =>
          intro hm'
          obtain ⟨l, h1, h2⟩ := ih (by omega)
          obtain ⟨x, h3⟩ := each m (by omega)
          refine ⟨l ++ [x], by simp [h1], fun i y hy => ?_⟩
          rcases Nat.lt_or_ge i l.length with hi | hi
          · rw [List.getElem?_append_left hi] at hy; exact h2 i y hy
          · rw [List.getElem?_append_right hi] at hy
            have hi0 : i = m := by
              have := (List.getElem?_eq_some_iff.1 hy).1; simp at this; omega
            subst hi0
            rw [h1, Nat.sub_self] at hy
            simp at hy; subst hy; exact h3
      exact key len (Nat.le_refl _)
    refine ⟨l, ?_, ⟨Nat.le_trans (Nat.mul_le_mul_right _ (by omega)) hlen, fun x hx => ?_⟩, by simp [Value.oneCell']⟩
    · simp only [Reps, Rep, List.length_map]
      refine ⟨_, [], rfl, ⟨some a, cap, by rw [hl], by omega, hcm, (fun h => by cases h), ?_⟩, rfl⟩
      by_cases hl0 : l = []
      · left; rw [hl0]; rfl
      · right
        have hpos : 0 < l.length := List.length_pos_iff.2 hl0
        obtain ⟨_, v0, _, hv0, hv1⟩ := hall 0 l[0] (by simp)
        have h00 := hv1 0 hz
        have hv00 : 0 < v0.cells.toList.length := by simp; omega
        rw [List.getElem?_eq_getElem hv00] at h00
        obtain ⟨hsp, c, U, fz, hc1, -⟩ := cell_at h00
        have hsp' : a.spot = none := by simpa [Addr.add] using hsp
        obtain ⟨b, o, sp⟩ := a
        simp only at hsp'
        subst hsp'
        refine ⟨b, o, rfl, ?_⟩
        have rows : ∀ (m : List α) (s : Nat), (∀ (i : Nat) (x : α), m[i]? = some x → ∃ v : Value, Rep (hm w) (g x) v ∧ v.cells.size = sz ∧ ∀ j, j < sz → w.cell? ((⟨b, o, none⟩ : Addr).add ((s + i) * sz + j)) = v.cells.toList[j]?) → Row (hm w) sz b (o + s * sz) (m.map g) := by
          intro m
          induction m with
          | nil => intro s _; simp only [List.map_nil, Row]
          | cons x m ih =>
            intro s hs
            simp only [List.map_cons, Row]
            obtain ⟨v, g1, g2, g3⟩ := hs 0 x (by simp)
            refine ⟨⟨v, g1, g2, ?_, hpl x⟩, ?_⟩
            · have hc2 : w.heap[b]? = some (.cells c U fz) := by simpa [Addr.add] using hc1
              refine ⟨c, U, fz, hc2, fun j u hj => ?_⟩
              have hjl : j < sz := by have := (List.getElem?_eq_some_iff.1 hj).1; simp at this; omega
              have h4 := g3 j hjl
              rw [hj, addr_add] at h4
              obtain ⟨_, c', U', fz', g5, g6⟩ := cell_at h4
              have g5' : w.heap[b]? = some (.cells c' U' fz') := g5
              rw [hc2] at g5'
              cases g5'
              simpa [Nat.add_assoc] using g6
            · have := ih (s + 1) fun i y hy => by
                obtain ⟨v, q1, q2, q3⟩ := hs (i + 1) y (by simpa using hy)
                exact ⟨v, q1, q2, fun j hj => by rw [show s + 1 + i = s + (i + 1) by omega]; exact q3 j hj⟩
              rw [Nat.add_mul, Nat.one_mul, ← Nat.add_assoc] at this
              exact this
        have := rows l 0 fun i x hx => by
          obtain ⟨_, v, q1, q2, q3⟩ := hall i x hx
          exact ⟨v, q1, q2, fun j hj => by rw [Nat.zero_add]; exact q3 j hj⟩
        simpa using this
    · obtain ⟨i, hi⟩ := List.mem_iff_getElem?.1 hx
      exact (hall i x hi).1
theorem el_one {α : Type} {g : α → D} (μ : Mem) (a : α) (cs : List Value) (h : Reps μ [g a] cs) (hl : cs.length = 1) (ho : ∀ u ∈ cs, u.oneCell' = true) (hv : ∀ v, Rep μ (g a) v → v.oneCell' = true → v.cells = #[v]) : ∃ v : Value, Rep μ (g a) v ∧ v.cells.toList = cs := by
  simp only [Reps] at h
  obtain ⟨v, vs, rfl, h1, rfl⟩ := h
  exact ⟨v, h1, by rw [hv v h1 (ho v (by simp))]⟩
theorem el_agg {α : Type} {f : α → List D} (μ : Mem) (a : α) (cs : List Value) (h : Reps μ (f a) cs) (ho : ∀ u ∈ cs, u.oneCell' = true) : ∃ v : Value, Rep μ (.agg (f a)) v ∧ v.cells.toList = cs :=
  ⟨.agg cs.toArray, by simp only [Rep]; exact ⟨cs, rfl, h, ho⟩, by simp [Value.cells]⟩
/-! ### Structs -/
def RepsO (μ : Mem) (ds : List D) (cs : List Value) : Prop := Reps μ ds cs ∧ ∀ u ∈ cs, u.oneCell' = true
theorem repsO_seg {μ : Mem} {a b : List D} {cs : List Value} {o k n : Nat} (hn : o + k = n) (h1 : RepsO μ a ((cs.drop o).take k)) (h2 : RepsO μ b (cs.drop n)) : RepsO μ (a ++ b) (cs.drop o) := by
  subst hn
  refine ⟨reps_seg h1.1 h2.1, fun u hu => ?_⟩
  rw [← List.take_append_drop k (cs.drop o), List.drop_drop, List.mem_append] at hu
  exact hu.elim (h1.2 u) (h2.2 u)
theorem repsO_end {μ : Mem} {cs : List Value} {n : Nat} (h : cs.length = n) : RepsO μ [] (cs.drop n) := by
  rw [List.drop_of_length_le (by omega)]
  exact ⟨by simp [Reps], fun u hu => by cases hu⟩
theorem fld_read {P : Program} {T : TypeId} {fs : Array Field} {H : Type} {enc : TypeId × Value → H} {w : World} {spare : Nat → Bool} {held : Bool} {fuel : Nat} {cs : List Value} {x : DataW H × List MemPlace} (hT : P.underlying T = some (.struct fs)) (h : DataW.trod enc P w 0 spare held fuel T cs = some x) (hw : ∀ n ∈ x.1.weights P T, n ≤ reachBytes)
    {α : Type} {sz : Nat} {f : α → List D} {ok : α → Prop} (i : Nat) (fi : Field) (hf : fs[i]? = some fi) (hc : Cod P fi.type sz f ok) : ∃ a, RepsO (hm w) (f a) ((cs.drop fi.offset).take sz) ∧ ok a := by
  obtain ⟨xs, n, -, rfl, hl, hlen, he⟩ := DataW.trod_struct hT h
  have h1 := he i fi hf
  have hi : i < xs.length := by rw [hlen]; exact (Array.getElem?_eq_some_iff.1 hf).1
  rw [List.getElem?_eq_getElem hi, hc.size] at h1
  simp only [DataW.weights, hT] at hw
  obtain ⟨a, h2, h3, h4⟩ := hc.read n _ _ h1 fun m hm => hw m (weightsEach_mem (i := i) (t := fi.type) (d := (xs[i]).1) (by rw [List.getElem?_map, Array.getElem?_toList, hf]; rfl) (by simp [hi]) hm)
  exact ⟨a, ⟨h2, h4⟩, h3⟩
theorem struct_len {P : Program} {T : TypeId} {fs : Array Field} {H : Type} {enc : TypeId × Value → H} {w : World} {spare : Nat → Bool} {held : Bool} {fuel : Nat} {cs : List Value} {x : DataW H × List MemPlace} (hT : P.underlying T = some (.struct fs)) (h : DataW.trod enc P w 0 spare held fuel T cs = some x) : cs.length = P.cellsOf T := by
  obtain ⟨xs, n, -, -, hl, -, -⟩ := DataW.trod_struct hT h
  exact hl
end Go.Aw
