/- The walk layer, first part: abstract memory, values and objects, and one fact for each operation. By an AI agent. -/
import Derived.WalkKit
import Derived.Below
import Derived.OrdersIn
import Derived.Maps.AppendAt
set_option linter.all false
/-! AwA -/
/-! The walk of code in a frame that may be a round's (of a range over a function). -/
namespace Go.Aw
open Go.RowKit
/-- No fence; what make the frame is of. -/
def fc (ro : Option Nat) : Fence := { fn := fun _ => True, depth := none, alive := false, round := ro }
theorem fc_none : fc none = Fence.wide := rfl
abbrev cwp (ro : Option Nat) (P : Program) (c : Code) (Q : Exit → Act → World → Prop) (a : Act) (w : World) : Prop := c.wpIn (fc ro) 0 P Q a w
abbrev owp (ro : Option Nat) (P : Program) (o : Oper) (a : Act) (w : World) (K : Act → World → Prop) (Q : Exit → Act → World → Prop) : Prop := o.wpIn (fc ro) 0 P a w K Q
abbrev opsW (ro : Option Nat) (P : Program) (ops : Array Oper) (Q : Exit → Act → World → Prop) : List Nat → Act → World → Prop := wpOpsIn (fc ro) 0 P ops Q
theorem semAt_run {o : Oper} {f : Operand → Value} {P : Program} {w w' : World} {n : Next} {ro : Option Nat} (h : (execOp f o).run P w = .ok n w') (hn : ∀ d, n ≠ .defer d) : (o.semAt ro f).run P w = .ok n w' := by
  cases ro with
  | none => exact h
  | some l =>
    by_cases hd : ∃ c, o.op = .defer c
    · obtain ⟨c, hc⟩ := hd
      exfalso
      simp only [execOp, hc, Sem.run_bind] at h
      cases hr : (resolve f c o.type).run P w with
      | ok d w1 => rw [hr] at h; simp [Result.andThen] at h; exact hn _ h.1.symm
      | halt a b => rw [hr] at h; simp [Result.andThen] at h
    · rw [Oper.semAt_some _ _ _ (fun c hc => hd ⟨c, hc⟩)]; exact h
theorem owp_value {ro : Option Nat} {P : Program} {o : Oper} {a : Act} {w w' : World} {v : Value} {K : Act → World → Prop} {Q : Exit → Act → World → Prop} (h : (execOp a.eval o).run P w = .ok (.value v) w') (k : K (a.put o.dst v) w') : owp ro P o a w K Q :=
  ⟨fun _ _ => trivial, by rw [semAt_run h (by simp)]; exact k⟩
theorem owp_skip {ro : Option Nat} {P : Program} {o : Oper} {a : Act} {w w' : World} {K : Act → World → Prop} {Q : Exit → Act → World → Prop} (h : (execOp a.eval o).run P w = .ok .skip w') (k : K (a.put o.dst undef) w') : owp ro P o a w K Q :=
  ⟨fun _ _ => trivial, by rw [semAt_run h (by simp)]; exact k⟩
theorem callsIn_fc {ro : Option Nat} {n : Nat} {P : Program} {f : FuncId} {args : Array Value} {w : World} {R : Ending → World → Prop} (h : Calls P f args w R) : CallsIn (fc ro) n P f args w R :=
  (callsIn_wide (n := n)).2 h
theorem owp_enter {ro : Option Nat} {P : Program} {o : Oper} {a : Act} {w w' : World} {f : FuncId} {args : Array Value} {K : Act → World → Prop} {Q : Exit → Act → World → Prop} (h : (execOp a.eval o).run P w = .ok (.enter f args) w')
    (k : Calls P f args w' fun
      | .returned v, w'' => K (a.put o.dst v) w''
      | .panicked chain, w'' => Q (.panic chain) a w''
      | .outgrown, _ => LetsOut Q) : owp ro P o a w K Q :=
  ⟨fun _ _ => trivial, by rw [semAt_run h (by simp), Oper.uponIn_enter]; exact ⟨fun h => by simp [fc] at h, callsIn_fc k⟩⟩
/-- Tables of unicode/utf8: what begins a rune; and what its second byte may be. -/
def firstTab : List Int := List.replicate 128 240 ++ List.replicate 66 241 ++ List.replicate 30 2 ++ [19] ++ List.replicate 12 3 ++ [35] ++ List.replicate 2 3 ++ [52] ++ List.replicate 3 4 ++ [68] ++ List.replicate 11 241
def acceptTab : List Int := [128, 191, 160, 191, 128, 159, 144, 191, 128, 143] ++ List.replicate 22 0
def tables : List (String × List Value) := [("unicode/utf8.first", firstTab.map (Value.int .u8)), ("unicode/utf8.acceptRanges", acceptTab.map (Value.int .u8))]
end Go.Aw

/-! AwD -/
namespace Go.Aw
open Go.RowKit

abbrev Mem := Nat → Option Obj

def MemLe (μ μ' : Mem) : Prop := ∀ b o, μ b = some o → μ' b = some o
theorem MemLe.refl (μ : Mem) : MemLe μ μ := fun _ _ h => h
theorem MemLe.trans {a b c : Mem} (h : MemLe a b) (k : MemLe b c) : MemLe a c := fun _ _ x => k _ _ (h _ _ x)

/-- The cells from `o` on of the immutable block `b` hold `vs`. -/
def CellsAt (μ : Mem) (b o : Nat) (vs : List Value) : Prop :=
  ∃ cs T fz, μ b = some (.cells cs T fz) ∧ ∀ j v, vs[j]? = some v → cs[o + j]? = some v
theorem CellsAt.mono {μ μ' : Mem} (h : MemLe μ μ') {b o : Nat} {vs : List Value} (c : CellsAt μ b o vs) : CellsAt μ' b o vs := by
  obtain ⟨cs, T, fz, h1, h2⟩ := c
  exact ⟨cs, T, fz, h _ _ h1, h2⟩

/-- Pure data. -/
inductive D where
  | int (k : IntKind) (n : Int)
  | bool (b : Bool)
  | str (s : ByteArray)
  | agg (cs : List D)
  | list (sz : Nat) (xs : List D)
  | val (v : Value)
  | ref (cs : List D)
  | tup (cs : List D)
  | clo (fn : Fn) (caps : List D)

/-- No row of results. -/
def D.plain : D → Bool
  | .tup _ => false
  | _ => true
mutual
def Rep (μ : Mem) : D → Value → Prop
  | .int k n, v => v = .int k n
  | .bool b, v => v = .bool b
  | .str s, v => v = .string s
  | .val u, v => v = u ∧ v.cells = #[v] ∧ v.oneCell' = true
  | .agg cs, v => ∃ vs, v = .agg vs.toArray ∧ Reps μ cs vs ∧ ∀ u ∈ vs, u.oneCell' = true
  | .list sz xs, v => ∃ a c, v = .slice a xs.length c ∧ xs.length ≤ c ∧ c ≤ maxLen ∧ (a = none → c = 0) ∧ (xs = [] ∨ ∃ b o, a = some ⟨b, o, none⟩ ∧ Row μ sz b o xs)
  | .ref cs, v => ∃ b o vs, v = .pointer (some ⟨b, o, none⟩) ∧ CellsAt μ b o vs ∧ Reps μ cs vs ∧ ∀ u ∈ vs, u.oneCell' = true
  | .tup cs, v => ∃ vs, v = .tuple vs.toArray ∧ Reps μ cs vs
  | .clo fn cs, v => ∃ vs, v = .func fn #[] vs.toArray ∧ Reps μ cs vs
def Reps (μ : Mem) : List D → List Value → Prop
  | [], vs => vs = []
  | d :: ds, vs => ∃ v vs', vs = v :: vs' ∧ Rep μ d v ∧ Reps μ ds vs'
def Row (μ : Mem) (sz b : Nat) : Nat → List D → Prop
  | _, [] => True
  | o, x :: xs => (∃ v, Rep μ x v ∧ v.cells.size = sz ∧ CellsAt μ b o v.cells.toList ∧ x.plain = true) ∧ Row μ sz b (o + sz) xs
end

mutual
theorem Rep.mono {μ μ' : Mem} (h : MemLe μ μ') : ∀ (d : D) (v : Value), Rep μ d v → Rep μ' d v
  | .int k n, v, r => by simpa only [Rep] using r
  | .bool b, v, r => by simpa only [Rep] using r
  | .str s, v, r => by simpa only [Rep] using r
  | .val u, v, r => by simpa only [Rep] using r
  | .agg cs, v, r => by
    simp only [Rep] at r ⊢
    obtain ⟨vs, h1, h2, h3⟩ := r
    exact ⟨vs, h1, Reps.mono h cs vs h2, h3⟩
  | .list sz xs, v, r => by
    simp only [Rep] at r ⊢
    obtain ⟨a, c, h1, h2, h3, h0, h4⟩ := r
    refine ⟨a, c, h1, h2, h3, h0, ?_⟩
    rcases h4 with h4 | ⟨b, o, h5, h6⟩
    · exact .inl h4
    · exact .inr ⟨b, o, h5, Row.mono h sz b o xs h6⟩
  | .ref cs, v, r => by
    simp only [Rep] at r ⊢
    obtain ⟨b, o, vs, h1, h2, h3, h4⟩ := r
    exact ⟨b, o, vs, h1, h2.mono h, Reps.mono h cs vs h3, h4⟩
  | .tup cs, v, r => by
    simp only [Rep] at r ⊢
    obtain ⟨vs, h1, h2⟩ := r
    exact ⟨vs, h1, Reps.mono h cs vs h2⟩
  | .clo fn cs, v, r => by
    simp only [Rep] at r ⊢
    obtain ⟨vs, h1, h2⟩ := r
    exact ⟨vs, h1, Reps.mono h cs vs h2⟩
theorem Reps.mono {μ μ' : Mem} (h : MemLe μ μ') : ∀ (ds : List D) (vs : List Value), Reps μ ds vs → Reps μ' ds vs
  | [], vs, r => by simpa only [Reps] using r
  | d :: ds, vs, r => by
    simp only [Reps] at r ⊢
    obtain ⟨v, vs', h1, h2, h3⟩ := r
    exact ⟨v, vs', h1, Rep.mono h d v h2, Reps.mono h ds vs' h3⟩
theorem Row.mono {μ μ' : Mem} (h : MemLe μ μ') (sz b : Nat) : ∀ (o : Nat) (xs : List D), Row μ sz b o xs → Row μ' sz b o xs
  | _, [], _ => by simp only [Row]
  | o, x :: xs, r => by
    simp only [Row] at r ⊢
    obtain ⟨⟨v, h1, h2, h3, h5⟩, h4⟩ := r
    exact ⟨⟨v, Rep.mono h x v h1, h2, h3.mono h, h5⟩, Row.mono h sz b (o + sz) xs h4⟩
end

def blk : Value → Option Nat
  | .pointer (some a) => some a.block
  | .slice (some a) _ _ => some a.block
  | _ => none

/-- Abstract values. -/
inductive AV where
  | d (x : D)
  | box (i off : Nat)
  | row (i : Nat)
  | agg (cs : List AV)
  | tup (cs : List AV)
  | clo (fn : Fn) (caps : List AV)
  | opt (c : Bool) (r : AV)
  | sl (i sz off len cap : Nat)
  | el (i sz k fo : Nat)

mutual
def ARep (μ : Mem) (ρ : List Value) : AV → Value → Prop
  | .d x, v => Rep μ x v
  | .box i off, v => ∃ b, ρ[i]? = some (.pointer (some ⟨b, 0, none⟩)) ∧ v = .pointer (some ⟨b, off, none⟩)
  | .row i, v => ρ[i]? = some v ∧ v.cells = #[v] ∧ v.oneCell' = true
  | .agg cs, v => ∃ vs, v = .agg vs.toArray ∧ AReps μ ρ cs vs ∧ ∀ u ∈ vs, u.oneCell' = true
  | .tup cs, v => ∃ vs, v = .tuple vs.toArray ∧ AReps μ ρ cs vs
  | .clo fn cs, v => ∃ vs, v = .func fn #[] vs.toArray ∧ AReps μ ρ cs vs
  | .opt c r, v => (c = true → ARep μ ρ r v) ∧ (c = false → v = undef)
  | .sl i sz off len cap, v => ∃ u, ρ[i]? = some u ∧ ((∃ g o, blk u = some g ∧ v = .slice (some ⟨g, o, none⟩) len cap ∧ (o = off * sz ∨ (cap = 0 ∧ off ≠ 0))) ∨ (blk u = none ∧ v = .slice none 0 0 ∧ off = 0 ∧ len = 0 ∧ cap = 0))
  | .el i sz k fo, v => ∃ u g, ρ[i]? = some u ∧ blk u = some g ∧ v = .pointer (some ⟨g, k * sz + fo, none⟩)
def AReps (μ : Mem) (ρ : List Value) : List AV → List Value → Prop
  | [], vs => vs = []
  | d :: ds, vs => ∃ v vs', vs = v :: vs' ∧ ARep μ ρ d v ∧ AReps μ ρ ds vs'
end

def RhoLe (ρ ρ' : List Value) : Prop := ∀ (i : Nat) (v : Value), ρ[i]? = some v → ρ'[i]? = some v
theorem RhoLe.refl (ρ : List Value) : RhoLe ρ ρ := fun _ _ h => h
theorem RhoLe.snoc (ρ : List Value) (v : Value) : RhoLe ρ (ρ ++ [v]) := fun i u h => by
  have hi : i < ρ.length := by
    rcases Nat.lt_or_ge i ρ.length with h' | h'
    · exact h'
    · rw [List.getElem?_eq_none h'] at h; cases h
  rw [List.getElem?_append_left hi]; exact h

mutual
theorem ARep.mono {μ μ' : Mem} (h : MemLe μ μ') {ρ ρ' : List Value} (hr : RhoLe ρ ρ') : ∀ (d : AV) (v : Value), ARep μ ρ d v → ARep μ' ρ' d v
  | .d x, v, r => by simp only [ARep] at r ⊢; exact Rep.mono h x v r
  | .box i off, v, r => by
    simp only [ARep] at r ⊢
    obtain ⟨b, h1, h2⟩ := r
    exact ⟨b, hr _ _ h1, h2⟩
  | .row i, v, r => by simp only [ARep] at r ⊢; exact ⟨hr _ _ r.1, r.2⟩
  | .agg cs, v, r => by
    simp only [ARep] at r ⊢
    obtain ⟨vs, h1, h2, h3⟩ := r
    exact ⟨vs, h1, AReps.mono h hr cs vs h2, h3⟩
  | .tup cs, v, r => by
    simp only [ARep] at r ⊢
    obtain ⟨vs, h1, h2⟩ := r
    exact ⟨vs, h1, AReps.mono h hr cs vs h2⟩
  | .clo fn cs, v, r => by
    simp only [ARep] at r ⊢
    obtain ⟨vs, h1, h2⟩ := r
    exact ⟨vs, h1, AReps.mono h hr cs vs h2⟩
  | .opt c r', v, r => by
    simp only [ARep] at r ⊢
    exact ⟨fun hc => ARep.mono h hr r' v (r.1 hc), r.2⟩
  | .sl i sz off len cap, v, r => by
    simp only [ARep] at r ⊢
    obtain ⟨u, h1, h2⟩ := r
    exact ⟨u, hr _ _ h1, h2⟩
  | .el i sz k fo, v, r => by
    simp only [ARep] at r ⊢
    obtain ⟨u, g, h1, h2⟩ := r
    exact ⟨u, g, hr _ _ h1, h2⟩
theorem AReps.mono {μ μ' : Mem} (h : MemLe μ μ') {ρ ρ' : List Value} (hr : RhoLe ρ ρ') : ∀ (ds : List AV) (vs : List Value), AReps μ ρ ds vs → AReps μ' ρ' ds vs
  | [], vs, r => by simpa only [AReps] using r
  | d :: ds, vs, r => by
    simp only [AReps] at r ⊢
    obtain ⟨v, vs', h1, h2, h3⟩ := r
    exact ⟨v, vs', h1, ARep.mono h hr d v h2, AReps.mono h hr ds vs' h3⟩
end
end Go.Aw

/-! AwS -/
namespace Go.Aw
open Go.RowKit

inductive AO where
  | box (T : TypeId) (cs : List AV)
  | row (T : TypeId) (sz : Nat) (xs : List D)
  | dead
  | arr (T : TypeId) (sz : Nat) (xs : List (Option D))
  /-- A block that holds no cells. -/
  | raw (p : Option Nat) (o : Obj)

def AO.live : AO → Bool
  | .dead => false
  | _ => true

/-- The values of a row, cell by cell. -/
def RowVals (μ : Mem) (sz : Nat) : List D → List Value → Prop
  | [], flat => flat = []
  | x :: xs, flat => ∃ v rest, flat = v.cells.toList ++ rest ∧ v.cells.size = sz ∧ Rep μ x v ∧ RowVals μ sz xs rest
theorem RowVals.mono {μ μ' : Mem} (h : MemLe μ μ') (sz : Nat) : ∀ (xs : List D) (flat : List Value), RowVals μ sz xs flat → RowVals μ' sz xs flat
  | [], _, r => r
  | x :: xs, _, ⟨v, rest, h1, h2, h3, h4⟩ => ⟨v, rest, h1, h2, Rep.mono h x v h3, RowVals.mono h sz xs rest h4⟩

/-- The values of an array, cell by cell; of what is not known: so many cells. -/
def ArrVals (μ : Mem) (sz : Nat) : List (Option D) → List Value → Prop
  | [], flat => flat = []
  | some x :: xs, flat => ∃ v rest, flat = v.cells.toList ++ rest ∧ v.cells.size = sz ∧ Rep μ x v ∧ ArrVals μ sz xs rest
  | none :: xs, flat => ∃ vs rest, flat = vs ++ rest ∧ vs.length = sz ∧ ArrVals μ sz xs rest
theorem ArrVals.mono {μ μ' : Mem} (h : MemLe μ μ') (sz : Nat) : ∀ (xs : List (Option D)) (flat : List Value), ArrVals μ sz xs flat → ArrVals μ' sz xs flat
  | [], _, r => r
  | some x :: xs, _, ⟨v, rest, h1, h2, h3, h4⟩ => ⟨v, rest, h1, h2, Rep.mono h x v h3, ArrVals.mono h sz xs rest h4⟩
  | none :: xs, _, ⟨v, rest, h1, h2, h4⟩ => ⟨v, rest, h1, h2, ArrVals.mono h sz xs rest h4⟩

def ORep (w : World) (μ : Mem) (ρ : List Value) : AO → Value → Prop
  | .box T cs, v => ∃ b vs, v = .pointer (some ⟨b, 0, none⟩) ∧ w.heap[b]? = some (.cells vs.toArray T (0, 0)) ∧ AReps μ ρ cs vs ∧ ∀ u ∈ vs, u.oneCell' = true
  | .row T sz xs, v => ∃ flat, w.ownsRow 0 T sz v xs.length flat ∧ RowVals μ sz xs flat
  | .dead, _ => True
  | .raw p o, v => ∃ b, v = .pointer (some ⟨b, 0, none⟩) ∧ w.heap[b]? = some o ∧ ∀ c, p = some c → b = c
  | .arr T sz xs, v => (∃ g cur, blk v = some g ∧ w.heap[g]? = some (.cells cur T (0, 0)) ∧ ArrVals μ sz xs cur.toList) ∨ (blk v = none ∧ xs = [])

/-- The tables of Go's library that a program reads, by name. -/
def Glb (P : Program) : List (Nat × List Value) := (P.globals.toList.zipIdx.filterMap fun (g, i) => (tables.lookup g.name).map fun vs => (i, vs))
def GlobOk (P : Program) (μ : Mem) : Prop := ∀ x ∈ Glb P, CellsAt μ x.1 0 x.2
theorem GlobOk.mono {P : Program} {μ μ' : Mem} (h : GlobOk P μ) (k : MemLe μ μ') : GlobOk P μ' := fun x hx => (h x hx).mono k
structure LeG (P : Program) (μ0 μ : Mem) : Prop where
  le : MemLe μ0 μ
  gl : GlobOk P μ0
theorem LeG.trans {P : Program} {a b c : Mem} (h : LeG P a b) (k : MemLe b c) : LeG P a c := ⟨h.le.trans k, h.gl⟩
theorem LeG.glob {P : Program} {a b : Mem} (h : LeG P a b) : GlobOk P b := h.gl.mono h.le

structure Ctx where
  P : Program
  N : Nat
  w0 : World
  μ0 : Mem
  F : Nat → Prop
  n0 : Nat
  ρ0 : List Value
  /-- the round (of a range over a function) that the frame is of -/
  ro : Option Nat
  /-- the deferred calls -/
  df : List Deferred

structure Fr (F : Nat → Prop) (w w' : World) : Prop where
  os : w'.os = w.os
  tape : w'.tape = w.tape
  output : w'.output = w.output
  size : w.heap.size ≤ w'.heap.size
  block : ∀ k, k < w.heap.size → ¬ F k → w'.heap[k]? = w.heap[k]?
  dr : w.drawn ≤ w'.drawn
theorem Fr.refl (F : Nat → Prop) (w : World) : Fr F w w := ⟨rfl, rfl, rfl, Nat.le_refl _, fun _ _ _ => rfl, Nat.le_refl _⟩
theorem Fr.below {F : Nat → Prop} {w w1 w2 : World} (h : Fr F w w1) (b : Below w1.heap.size w1 w2) (hd : w1.drawn ≤ w2.drawn) : Fr F w w2 :=
  ⟨b.os.trans h.os, b.tape.trans h.tape, b.output.trans h.output, Nat.le_trans h.size b.size, fun k hk hf => (b.block k (Nat.lt_of_lt_of_le hk h.size)).trans (h.block k hk hf), Nat.le_trans h.dr hd⟩
theorem Fr.toBelow {w w1 : World} (h : Fr (fun _ => False) w w1) : Below w.heap.size w w1 := ⟨h.os, h.tape, h.output, h.size, fun k hk => h.block k hk id⟩

structure HeapOk (C : Ctx) (w : World) (μ : Mem) (ρ : List Value) (L : List AO) : Prop where
  len : ρ.length = L.length
  rep : ∀ (i : Nat) o v, L[i]? = some o → ρ[i]? = some v → ORep w μ ρ o v
  sep : ∀ (i j : Nat) o o' v v' b, i ≠ j → L[i]? = some o → L[j]? = some o' → o.live = true → o'.live = true → ρ[i]? = some v → ρ[j]? = some v' → blk v = some b → blk v' ≠ some b
  own : ∀ (i : Nat) o v b, L[i]? = some o → o.live = true → ρ[i]? = some v → blk v = some b → μ b = none ∧ b < w.heap.size ∧ (C.F b ∨ C.w0.heap.size ≤ b)
  holds : ∀ b o, μ b = some o → w.heap[b]? = some o
  le : LeG C.P C.μ0 μ
  old : ∀ b, b < C.w0.heap.size → μ b = C.μ0 b
  fr : Fr C.F C.w0 w
  n0le : C.n0 ≤ ρ.length
  keep : ∀ (i : Nat), i < C.n0 → ρ[i]? = C.ρ0[i]?

abbrev Env := Nat → Option AV
def none0 : Env := fun _ => none
def upd (d : Nat) (r : AV) (E : Env) : Env := fun k => bif Nat.beq d k then some r else E k

def EnvOk (μ : Mem) (ρ : List Value) (E : Env) (a : Act) : Prop := ∀ k r, E k = some r → ∃ v, a.tmps[k]? = some v ∧ ARep μ ρ r v

/-- Memory has grown; nothing that was there has turned. -/
structure Grow (w : World) (μ : Mem) (w' : World) (μ' : Mem) : Prop where
  le : MemLe μ μ'
  old : ∀ b, b < w.heap.size → μ' b = μ b
  holds : ∀ b o, μ' b = some o → w'.heap[b]? = some o
  below : Below w.heap.size w w'
  dr : w.drawn ≤ w'.drawn

theorem lt_of_heap {w : World} {b : Nat} {o : Obj} (h : w.heap[b]? = some o) : b < w.heap.size := (Array.getElem?_eq_some_iff.1 h).1

theorem ownsRow_below {w w' : World} {base n sz : Nat} {T : TypeId} {v : Value} {xs : List Value} (h : w.ownsRow base T sz v n xs) (hb : Below w.heap.size w w') : w'.ownsRow base T sz v n xs :=
  h.kept (row := none) ⟨hb.os, hb.tape, hb.output, hb.size, fun i hi _ => hb.block i hi⟩ (by cases v.ownBlock <;> simp)

theorem ORep.grow {w w' : World} {μ μ' : Mem} {ρ ρ' : List Value} (hr : RhoLe ρ ρ') (hm : MemLe μ μ') (hb : Below w.heap.size w w') : ∀ (o : AO) (v : Value), ORep w μ ρ o v → ORep w' μ' ρ' o v
  | .box T cs, v, ⟨b, vs, h1, h2, h3, h4⟩ => ⟨b, vs, h1, (hb.block b (lt_of_heap h2)).trans h2, AReps.mono hm hr cs vs h3, h4⟩
  | .row T sz xs, v, ⟨flat, h1, h2⟩ => ⟨flat, ownsRow_below h1 hb, h2.mono hm sz xs flat⟩
  | .dead, _, _ => trivial
  | .raw p o, v, ⟨b, h1, h2, h3⟩ => ⟨b, h1, (hb.block b (lt_of_heap h2)).trans h2, h3⟩
  | .arr T sz xs, v, h => by
    rcases h with ⟨g, cur, h1, h2, h3⟩ | h
    · exact .inl ⟨g, cur, h1, (hb.block g (lt_of_heap h2)).trans h2, h3.mono hm sz xs _⟩
    · exact .inr h

theorem HeapOk.grow {C : Ctx} {w w' : World} {μ μ' : Mem} {ρ : List Value} {L : List AO} (h : HeapOk C w μ ρ L) (g : Grow w μ w' μ') : HeapOk C w' μ' ρ L where
  len := h.len
  rep := fun i o v hi hv => (h.rep i o v hi hv).grow (RhoLe.refl ρ) g.le g.below
  sep := h.sep
  own := fun i o v b hi hl hv hb => by
    obtain ⟨h1, h2, h3⟩ := h.own i o v b hi hl hv hb
    exact ⟨(g.old b h2).trans h1, Nat.lt_of_lt_of_le h2 g.below.size, h3⟩
  holds := g.holds
  le := h.le.trans g.le
  old := fun b hb => (g.old b (Nat.lt_of_lt_of_le hb h.fr.size)).trans (h.old b hb)
  fr := h.fr.below g.below g.dr
  n0le := h.n0le
  keep := h.keep

theorem EnvOk.mono {μ μ' : Mem} (h : MemLe μ μ') {ρ ρ' : List Value} (hr : RhoLe ρ ρ') {E : Env} {a : Act} (e : EnvOk μ ρ E a) : EnvOk μ' ρ' E a := fun k r hk =>
  let ⟨v, h1, h2⟩ := e k r hk
  ⟨v, h1, ARep.mono h hr r v h2⟩

structure Sim (C : Ctx) (a : Act) (w : World) (E : Env) (L : List AO) : Prop where mk ::
  ex : ∃ μ ρ, HeapOk C w μ ρ L ∧ EnvOk μ ρ E a
  size : a.tmps.size = C.N
  defers : a.defers = C.df

theorem EnvOk.put {μ : Mem} {ρ : List Value} {E : Env} {a : Act} (e : EnvOk μ ρ E a) {d : Nat} (hd : d < a.tmps.size) {r : AV} {v : Value} (hv : ARep μ ρ r v) : EnvOk μ ρ (upd d r E) (a.put (some d) v) := by
  intro k r' hk
  simp only [upd] at hk
  by_cases h : Nat.beq d k = true
  · have h' : d = k := Nat.eq_of_beq_eq_true h
    subst h'
    simp only [h, cond_true] at hk
    cases hk
    exact ⟨v, by simp [Act.put, hd], hv⟩
  · have h' : d ≠ k := fun e => h (by subst e; exact Nat.beq_refl d)
    have hf : Nat.beq d k = false := by cases hq : Nat.beq d k with | false => rfl | true => exact absurd hq h
    simp only [hf, cond_false] at hk
    obtain ⟨v', h1, h2⟩ := e k r' hk
    exact ⟨v', by simp [Act.put, h', h1], h2⟩

theorem EnvOk.putNone {μ : Mem} {ρ : List Value} {E : Env} {a : Act} (e : EnvOk μ ρ E a) (v : Value) : EnvOk μ ρ E (a.put none v) := e

/-- What an operand reads as. -/
def Get (E : Env) (x : Operand) (r : AV) : Prop := ∀ μ ρ a, EnvOk μ ρ E a → ARep μ ρ r (a.eval x)

theorem get_tmp {E : Env} {t : Nat} {r : AV} (h : E t = some r) : Get E (.tmp t) r := fun μ ρ a e => by
  obtain ⟨v, h1, h2⟩ := e t r h
  have : a.eval (.tmp t) = v := by simp [Act.eval, h1]
  rw [this]; exact h2
theorem get_opt {E : Env} {x : Operand} {c : Bool} {r : AV} (h : Get E x (.opt c r)) (hc : c = true) : Get E x r := fun μ ρ a e => by
  have := h μ ρ a e
  simp only [ARep] at this
  exact this.1 hc
theorem get_int (E : Env) (k : IntKind) (n : Int) : Get E (.const (.int k n)) (.d (.int k n)) := fun μ ρ a e => by simp [Act.eval, ARep, Rep]
theorem get_bool (E : Env) (b : Bool) : Get E (.const (.bool b)) (.d (.bool b)) := fun μ ρ a e => by simp [Act.eval, ARep, Rep]
theorem get_str (E : Env) (s : ByteArray) : Get E (.const (.string s)) (.d (.str s)) := fun μ ρ a e => by simp [Act.eval, ARep, Rep]
theorem get_val (E : Env) (v : Value) (h : v.cells = #[v]) (h1 : v.oneCell' = true) : Get E (.const v) (.d (.val v)) := fun μ ρ a e => by simp [Act.eval, ARep, Rep, h, h1]
theorem get_nilslice (E : Env) (sz : Nat) : Get E (.const (.slice none 0 0)) (.d (.list sz [])) := fun μ ρ a e => by
  show ARep μ ρ _ (Value.slice none 0 0); unfold ARep Rep; exact ⟨none, 0, rfl, Nat.le_refl _, Nat.zero_le _, fun _ => rfl, .inl rfl⟩
theorem get_func (E : Env) (f : FuncId) : Get E (.func f) (.clo (.func f) []) := fun μ ρ a e => by simp [Act.eval, ARep, AReps]

/-- An operation that yields a value; memory grows at most. -/
def MStep (C : Ctx) (o : Oper) (E : Env) (L : List AO) (r : AV) : Prop :=
  ∀ a w μ ρ K Q, HeapOk C w μ ρ L → EnvOk μ ρ E a → (∀ v w' μ', Grow w μ w' μ' → ARep μ' ρ r v → K (a.put o.dst v) w') → owp C.ro C.P o a w K Q

/-- What is left of a region's operations, in their order. -/
def OpsOk (C : Ctx) (ops : Array Oper) (Q : Exit → Act → World → Prop) (os : List Oper) (E : Env) (L : List AO) : Prop :=
  ∀ k, ops.toList.drop k = os → (∀ o ∈ os, ∀ d, o.dst = some d → d < C.N) → ∀ a w, Sim C a w E L → opsW C.ro C.P ops Q (List.range' k os.length) a w
def CodeOk (C : Ctx) (c : Code) (Q : Exit → Act → World → Prop) (E : Env) (L : List AO) : Prop := ∀ a w, Sim C a w E L → cwp C.ro C.P c Q a w
def ExOk (C : Ctx) (e : Exit) (Q : Exit → Act → World → Prop) (E : Env) (L : List AO) : Prop := ∀ a w, Sim C a w E L → Q e a w

theorem size_put (a : Act) (d : Option Tmp) (v : Value) : (a.put d v).tmps.size = a.tmps.size := by cases d <;> simp [Act.put]
theorem defers_put (a : Act) (d : Option Tmp) (v : Value) : (a.put d v).defers = a.defers := by cases d <;> simp [Act.put]

theorem drop_cons {ops : Array Oper} {k : Nat} {o : Oper} {os : List Oper} (h : ops.toList.drop k = o :: os) : ops[k]? = some o ∧ ops.toList.drop (k + 1) = os := by
  have h1 : (ops.toList.drop k)[0]? = some o := by rw [h]; rfl
  refine ⟨by simpa using h1, ?_⟩
  rw [← List.drop_drop, h]; rfl

/-- One operation, whatever it does to the abstract state. -/
theorem ok_one {C : Ctx} {ops : Array Oper} {Q : Exit → Act → World → Prop} {os : List Oper} {E E' : Env} {L L' : List AO} {o : Oper}
    (hm : ∀ a w, Sim C a w E L → (∀ d, o.dst = some d → d < C.N) → ∀ K : Act → World → Prop, (∀ a' w', Sim C a' w' E' L' → K a' w') → if Region.wanted o (yielded ops a.tmps) then owp C.ro C.P o a w K Q else K (a.put o.dst undef) w)
    (h : OpsOk C ops Q os E' L') : OpsOk C ops Q (o :: os) E L := by
  intro k hk hN a w s
  obtain ⟨ho, hk'⟩ := drop_cons hk
  simp only [List.length_cons, List.range'_succ, opsW, wpOpsIn, ho]
  have := hm a w s (hN o List.mem_cons_self) (opsW C.ro C.P ops Q (List.range' (k + 1) os.length)) (fun a' w' s' => h (k + 1) hk' (fun p hp => hN p (List.mem_cons_of_mem _ hp)) a' w' s')
  split
  · rename_i hw; rw [if_pos hw] at this; exact this
  · rename_i hw; rw [if_neg hw] at this; exact ⟨fun _ _ => trivial, this⟩

theorem ok_m {C : Ctx} {ops : Array Oper} {Q : Exit → Act → World → Prop} {os : List Oper} {E : Env} {L : List AO} {o : Oper} {d : Nat} {r : AV}
    (hg : o.guard = none) (hd : o.dst = some d) (hm : MStep C o E L r) (h : OpsOk C ops Q os (upd d r E) L) : OpsOk C ops Q (o :: os) E L := by
  refine ok_one (fun a w ⟨⟨μ, ρ, hh, he⟩, hs, hdf⟩ hN K hK => ?_) h
  simp only [Region.wanted, hg, if_true]
  refine hm a w μ ρ K Q hh he fun v w' μ' g hr => hK _ _ ⟨⟨μ', ρ, hh.grow g, ?_⟩, by rw [size_put]; exact hs, by rw [defers_put]; exact hdf⟩
  rw [hd]
  exact (he.mono g.le (RhoLe.refl ρ)).put (by rw [hs]; exact hN d hd) hr

theorem ok_m0 {C : Ctx} {ops : Array Oper} {Q : Exit → Act → World → Prop} {os : List Oper} {E : Env} {L : List AO} {o : Oper} {r : AV}
    (hg : o.guard = none) (hd : o.dst = none) (hm : MStep C o E L r) (h : OpsOk C ops Q os E L) : OpsOk C ops Q (o :: os) E L := by
  refine ok_one (fun a w ⟨⟨μ, ρ, hh, he⟩, hs, hdf⟩ hN K hK => ?_) h
  simp only [Region.wanted, hg, if_true]
  refine hm a w μ ρ K Q hh he fun v w' μ' g hr => hK _ _ ⟨⟨μ', ρ, hh.grow g, ?_⟩, by rw [size_put]; exact hs, by rw [defers_put]; exact hdf⟩
  rw [hd]
  exact he.mono g.le (RhoLe.refl ρ)

/-- Is the guarded operation carried out? -/
def gcond : AV → Bool → Option Bool
  | .d (.bool b), want => some (b == want)
  | .opt c (.d (.bool b)), want => some (c && (b == want))
  | _, _ => none
theorem gcond_wanted {μ : Mem} {ρ : List Value} {rg : AV} {want c : Bool} (h : gcond rg want = some c) {v : Value} (hv : ARep μ ρ rg v) {ops : Array Oper} {tmps : Array Value} {j t : Nat} (hj : (ops[j]?).bind (·.dst) = some t) (ht : tmps[t]? = some v) : (yielded ops tmps j == some want) = c := by
  unfold gcond at h
  split at h
  · simp only [Option.some.injEq] at h
    simp only [ARep, Rep] at hv
    subst hv; rw [← h]
    simp [yielded, hj, ht]
  · simp only [Option.some.injEq] at h
    simp only [ARep, Rep] at hv
    rename_i _ c0 b
    rw [← h]
    cases c0 with
    | true => have := hv.1 rfl; subst this; simp [yielded, hj, ht]
    | false => have := hv.2 rfl; subst this; simp [yielded, hj, ht, undef]
  · cases h
/-- A guarded operation. -/
theorem ok_mg {C : Ctx} {ops : Array Oper} {Q : Exit → Act → World → Prop} {os : List Oper} {E : Env} {L : List AO} {o : Oper} {d : Nat} {r rg : AV} {j t : Nat} {want c : Bool}
    (hg : o.guard = some (j, want)) (hj : (ops[j]?).bind (·.dst) = some t) (hb : E t = some rg) (hc : gcond rg want = some c) (hd : o.dst = some d)
    (hm : c = true → MStep C o E L r) (h : OpsOk C ops Q os (upd d (.opt c r) E) L) : OpsOk C ops Q (o :: os) E L := by
  refine ok_one (fun a w ⟨⟨μ, ρ, hh, he⟩, hs, hdf⟩ hN K hK => ?_) h
  have hN' : d < a.tmps.size := by rw [hs]; exact hN d hd
  obtain ⟨vb, hv1, hv2⟩ := he t _ hb
  have hy := gcond_wanted hc hv2 hj hv1
  simp only [Region.wanted, hg, hy]
  cases c with
  | true =>
    rw [if_pos rfl]
    refine hm rfl a w μ ρ _ Q hh he fun v w' μ' g hr => hK _ _ ⟨⟨μ', ρ, hh.grow g, ?_⟩, by rw [size_put]; exact hs, by rw [defers_put]; exact hdf⟩
    rw [hd]
    exact (he.mono g.le (RhoLe.refl ρ)).put hN' (by simp only [ARep]; exact ⟨fun _ => hr, fun h => (by cases h)⟩)
  | false =>
    rw [if_neg (by simp)]
    refine hK _ _ ⟨⟨μ, ρ, hh, ?_⟩, by rw [size_put]; exact hs, by rw [defers_put]; exact hdf⟩
    rw [hd]
    exact he.put hN' (by unfold ARep; exact ⟨fun h => (by cases h), fun _ => rfl⟩)

theorem ok_end {C : Ctx} {ops : Array Oper} {Q : Exit → Act → World → Prop} {E : Env} {L : List AO} (h : ExOk C .normal Q E L) : OpsOk C ops Q [] E L := fun _ _ _ a w s => h a w s
/-- No temporary is out of bounds. -/
def chkN (N : Nat) (ops : Array Oper) : Bool := ops.toList.all fun o => match o.dst with | some d => Nat.blt d N | none => true
theorem chkN_out {N : Nat} {ops : Array Oper} (h : chkN N ops = true) : ∀ o ∈ ops.toList, ∀ d, o.dst = some d → d < N := fun o ho d hd => by
  have := List.all_eq_true.1 h o ho
  simp only [hd] at this
  simpa [Nat.blt_eq] using this
theorem ok_region {C : Ctx} {id : Nat} {ops : Array Oper} {Q : Exit → Act → World → Prop} {E : Env} {L : List AO} (hN : chkN C.N ops = true) (h : OpsOk C ops Q ops.toList E L) : CodeOk C (.region id ops false) Q E L := fun a w s => by
  have := h 0 rfl (chkN_out hN) a w s
  rw [Array.length_toList, ← List.range_eq_range'] at this
  exact wpIn_region this
theorem ok_seq {C : Ctx} {x y : Code} {Q : Exit → Act → World → Prop} {E : Env} {L : List AO} (h : CodeOk C x (Exit.then (cwp C.ro C.P y Q) Q) E L) : CodeOk C (.seq x y) Q E L := fun a w s => wpIn_seq (h a w s)
theorem ok_then {C : Ctx} {y : Code} {Q Q' : Exit → Act → World → Prop} {E : Env} {L : List AO} (h : CodeOk C y Q E L) : ExOk C .normal (Exit.then (cwp C.ro C.P y Q) Q') E L := h
theorem ok_then_ret {C : Ctx} {K : Act → World → Prop} {Q' : Exit → Act → World → Prop} {E : Env} {L : List AO} (h : ExOk C .ret Q' E L) : ExOk C .ret (Exit.then K Q') E L := h
theorem ok_then_exit {C : Ctx} {K : Act → World → Prop} {id : Nat} {Q' : Exit → Act → World → Prop} {E : Env} {L : List AO} (h : ExOk C (.exit id) Q' E L) : ExOk C (.exit id) (Exit.then K Q') E L := h
theorem ok_skip {C : Ctx} {Q : Exit → Act → World → Prop} {E : Env} {L : List AO} (h : ExOk C .normal Q E L) : CodeOk C .skip Q E L := fun a w s => wpIn_skip (h a w s)
theorem ok_ret {C : Ctx} {Q : Exit → Act → World → Prop} {E : Env} {L : List AO} (h : ExOk C .ret Q E L) : CodeOk C .ret Q E L := fun a w s => wpIn_ret (h a w s)
theorem ok_exit {C : Ctx} {id : Nat} {Q : Exit → Act → World → Prop} {E : Env} {L : List AO} (h : ExOk C (.exit id) Q E L) : CodeOk C (.exit id) Q E L := fun a w s => wpIn_exit (h a w s)
theorem ok_block {C : Ctx} {id : Nat} {c : Code} {Q : Exit → Act → World → Prop} {E : Env} {L : List AO} (h : CodeOk C c (Exit.inBlock id Q) E L) : CodeOk C (.block id c) Q E L := fun a w s => wpIn_block (h a w s)
theorem ok_inBlock_normal {C : Ctx} {id : Nat} {Q : Exit → Act → World → Prop} {E : Env} {L : List AO} (h : ExOk C .normal Q E L) : ExOk C .normal (Exit.inBlock id Q) E L := h
theorem ok_inBlock_ret {C : Ctx} {id : Nat} {Q : Exit → Act → World → Prop} {E : Env} {L : List AO} (h : ExOk C .ret Q E L) : ExOk C .ret (Exit.inBlock id Q) E L := h
theorem ok_inBlock_exit {C : Ctx} {id : Nat} {Q : Exit → Act → World → Prop} {E : Env} {L : List AO} (h : ExOk C .normal Q E L) : ExOk C (.exit id) (Exit.inBlock id Q) E L := by
  intro a w s; simp only [Exit.inBlock, if_true]; exact h a w s
theorem ok_inBlock_pass {C : Ctx} {id id' : Nat} {Q : Exit → Act → World → Prop} {E : Env} {L : List AO} (hne : Nat.beq id' id = false) (h : ExOk C (.exit id') Q E L) : ExOk C (.exit id') (Exit.inBlock id Q) E L := by
  intro a w s; simp only [Exit.inBlock]; rw [if_neg (Nat.ne_of_beq_eq_false hne)]; exact h a w s
theorem ok_cond {C : Ctx} {c : Operand} {b : Bool} {x y : Code} {Q : Exit → Act → World → Prop} {E : Env} {L : List AO} (hc : Get E c (.d (.bool b))) (ht : b = true → CodeOk C x Q E L) (hf : b = false → CodeOk C y Q E L) : CodeOk C (.cond c x y) Q E L := by
  intro a w s
  obtain ⟨μ, ρ, hh, he⟩ := s.ex
  have := hc μ ρ a he
  simp only [ARep, Rep] at this
  exact wpIn_cond_split this (fun h => ht h a w s) (fun h => hf h a w s)
end Go.Aw

/-! AwM -/
namespace Go.Aw
open Go.RowKit

/-! ### Type facts -/
def isAggD : TypeDesc → Bool
  | .struct _ | .array _ _ => true
  | _ => false
/-- A type's size in cells, and whether it is a struct or an array. -/
def tyF (P : Program) (T : TypeId) : Option (Nat × Bool) :=
  match P.info? T, P.underlying T with
  | some i, some d => some (i.size, isAggD d)
  | _, _ => none
/-- A field's offset; its size (not 0). -/
def fldF (P : Program) (T : TypeId) (i : Nat) : Option (Nat × Nat × Bool) :=
  match P.underlying T with
  | some (.struct fs) =>
    match fs[i]? with
    | some f => match tyF P f.type with
      | some (n, g) => if n = 0 then none else some (f.offset, n, g)
      | none => none
    | none => none
  | _ => none

theorem tyF_out {P : Program} {T n : Nat} {g : Bool} (h : tyF P T = some (n, g)) : ∃ i d, P.info? T = some i ∧ P.underlying T = some d ∧ i.size = n ∧ isAggD d = g := by
  unfold tyF at h
  split at h
  · rename_i i d h1 h2
    simp only [Option.some.injEq, Prod.mk.injEq] at h
    exact ⟨i, d, h1, h2, h.1, h.2⟩
  · cases h
theorem fldF_out {P : Program} {T i off n : Nat} {g : Bool} (h : fldF P T i = some (off, n, g)) : ∃ fs f, P.underlying T = some (.struct fs) ∧ fs[i]? = some f ∧ tyF P f.type = some (n, g) ∧ n ≠ 0 ∧ f.offset = off := by
  unfold fldF at h
  split at h
  · rename_i fs h1
    split at h
    · rename_i f h2
      split at h
      · rename_i n' g' h3
        split at h
        · cases h
        · rename_i hn
          simp only [Option.some.injEq, Prod.mk.injEq] at h
          obtain ⟨rfl, rfl, rfl⟩ := h
          exact ⟨fs, f, h1, h2, h3, hn, rfl⟩
      · cases h
    · cases h
  · cases h

/-! ### Lists of abstract values -/
theorem AReps.at {μ : Mem} {ρ : List Value} : ∀ {cs : List AV} {vs : List Value}, AReps μ ρ cs vs → ∀ (j : Nat) (r : AV), cs[j]? = some r → ∃ v, vs[j]? = some v ∧ ARep μ ρ r v
  | [], vs, h, j, r, hj => by simp at hj
  | c :: cs, vs, h, j, r, hj => by
    simp only [AReps] at h
    obtain ⟨v, vs', rfl, h1, h2⟩ := h
    cases j with
    | zero => simp at hj; subst hj; exact ⟨v, by simp, h1⟩
    | succ j => simp at hj; simpa using AReps.at h2 j r hj
theorem AReps.length {μ : Mem} {ρ : List Value} : ∀ {cs : List AV} {vs : List Value}, AReps μ ρ cs vs → vs.length = cs.length
  | [], vs, h => by simp only [AReps] at h; subst h; rfl
  | c :: cs, vs, h => by
    simp only [AReps] at h
    obtain ⟨v, vs', rfl, h1, h2⟩ := h
    simp [AReps.length h2]
theorem AReps.drop {μ : Mem} {ρ : List Value} : ∀ (n : Nat) {cs : List AV} {vs : List Value}, AReps μ ρ cs vs → AReps μ ρ (cs.drop n) (vs.drop n)
  | 0, cs, vs, h => by simpa using h
  | n + 1, [], vs, h => by simp only [AReps] at h; subst h; simp [AReps]
  | n + 1, c :: cs, vs, h => by
    simp only [AReps] at h
    obtain ⟨v, vs', rfl, h1, h2⟩ := h
    simpa using AReps.drop n h2
theorem AReps.take {μ : Mem} {ρ : List Value} : ∀ (n : Nat) {cs : List AV} {vs : List Value}, AReps μ ρ cs vs → AReps μ ρ (cs.take n) (vs.take n)
  | 0, cs, vs, h => by simp [AReps]
  | n + 1, [], vs, h => by simp only [AReps] at h; subst h; simp [AReps]
  | n + 1, c :: cs, vs, h => by
    simp only [AReps] at h
    obtain ⟨v, vs', rfl, h1, h2⟩ := h
    simp only [List.take_succ_cons, AReps]
    exact ⟨v, _, rfl, h1, AReps.take n h2⟩
theorem Reps.at {μ : Mem} : ∀ {cs : List D} {vs : List Value}, Reps μ cs vs → ∀ (j : Nat) (r : D), cs[j]? = some r → ∃ v, vs[j]? = some v ∧ Rep μ r v
  | [], vs, h, j, r, hj => by simp at hj
  | c :: cs, vs, h, j, r, hj => by
    simp only [Reps] at h
    obtain ⟨v, vs', rfl, h1, h2⟩ := h
    cases j with
    | zero => simp at hj; subst hj; exact ⟨v, by simp, h1⟩
    | succ j => simp at hj; simpa using Reps.at h2 j r hj
theorem Reps.length {μ : Mem} : ∀ {cs : List D} {vs : List Value}, Reps μ cs vs → vs.length = cs.length
  | [], vs, h => by simp only [Reps] at h; subst h; rfl
  | c :: cs, vs, h => by
    simp only [Reps] at h
    obtain ⟨v, vs', rfl, h1, h2⟩ := h
    simp [Reps.length h2]
theorem Reps.drop {μ : Mem} : ∀ (n : Nat) {cs : List D} {vs : List Value}, Reps μ cs vs → Reps μ (cs.drop n) (vs.drop n)
  | 0, cs, vs, h => by simpa using h
  | n + 1, [], vs, h => by simp only [Reps] at h; subst h; simp [Reps]
  | n + 1, c :: cs, vs, h => by
    simp only [Reps] at h
    obtain ⟨v, vs', rfl, h1, h2⟩ := h
    simpa using Reps.drop n h2
theorem Reps.take {μ : Mem} : ∀ (n : Nat) {cs : List D} {vs : List Value}, Reps μ cs vs → Reps μ (cs.take n) (vs.take n)
  | 0, cs, vs, h => by simp [Reps]
  | n + 1, [], vs, h => by simp only [Reps] at h; subst h; simp [Reps]
  | n + 1, c :: cs, vs, h => by
    simp only [Reps] at h
    obtain ⟨v, vs', rfl, h1, h2⟩ := h
    simp only [List.take_succ_cons, Reps]
    exact ⟨v, _, rfl, h1, Reps.take n h2⟩

theorem AReps.ofReps {μ : Mem} {ρ : List Value} : ∀ {ds : List D} {vs : List Value}, Reps μ ds vs → AReps μ ρ (ds.map .d) vs
  | [], vs, h => by simp only [Reps] at h; subst h; simp [AReps]
  | d :: ds, vs, h => by
    simp only [Reps] at h
    obtain ⟨v, vs', rfl, h1, h2⟩ := h
    simp only [List.map_cons, AReps, ARep]
    exact ⟨v, vs', rfl, h1, AReps.ofReps h2⟩

mutual
/-- Pure data out of an abstract value. -/
def AV.toD : AV → Option D
  | .d x => some x
  | .agg cs => match AV.toDs cs with | some ds => some (.agg ds) | none => none
  | .tup cs => match AV.toDs cs with | some ds => some (.tup ds) | none => none
  | .clo fn cs => match AV.toDs cs with | some ds => some (.clo fn ds) | none => none
  | _ => none
def AV.toDs : List AV → Option (List D)
  | [] => some []
  | c :: cs => match AV.toD c, AV.toDs cs with | some x, some xs => some (x :: xs) | _, _ => none
end
mutual
theorem AV.toD_rep {μ : Mem} {ρ : List Value} : ∀ (r : AV) (x : D) (v : Value), AV.toD r = some x → ARep μ ρ r v → Rep μ x v
  | .d y, x, v, h, hr => by simp only [AV.toD, Option.some.injEq] at h; subst h; simpa only [ARep] using hr
  | .agg cs, x, v, h, hr => by
    simp only [AV.toD] at h
    split at h
    · rename_i ds hds
      simp only [Option.some.injEq] at h; subst h
      simp only [ARep] at hr
      obtain ⟨vs, rfl, h2, h3⟩ := hr
      simp only [Rep]
      exact ⟨vs, rfl, AV.toDs_rep cs ds vs hds h2, h3⟩
    · cases h
  | .tup cs, x, v, h, hr => by
    simp only [AV.toD] at h
    split at h
    · rename_i ds hds
      simp only [Option.some.injEq] at h; subst h
      simp only [ARep] at hr
      obtain ⟨vs, rfl, h2⟩ := hr
      simp only [Rep]
      exact ⟨vs, rfl, AV.toDs_rep cs ds vs hds h2⟩
    · cases h
  | .clo fn cs, x, v, h, hr => by
    simp only [AV.toD] at h
    split at h
    · rename_i ds hds
      simp only [Option.some.injEq] at h; subst h
      simp only [ARep] at hr
      obtain ⟨vs, rfl, h2⟩ := hr
      simp only [Rep]
      exact ⟨vs, rfl, AV.toDs_rep cs ds vs hds h2⟩
    · cases h
  | .box _ _, _, _, h, _ => by simp [AV.toD] at h
  | .row _, _, _, h, _ => by simp [AV.toD] at h
  | .opt _ _, _, _, h, _ => by simp [AV.toD] at h
  | .sl _ _ _ _ _, _, _, h, _ => by simp [AV.toD] at h
  | .el _ _ _ _, _, _, h, _ => by simp [AV.toD] at h
theorem AV.toDs_rep {μ : Mem} {ρ : List Value} : ∀ (cs : List AV) (ds : List D) (vs : List Value), AV.toDs cs = some ds → AReps μ ρ cs vs → Reps μ ds vs
  | [], ds, vs, h, hr => by simp only [AV.toDs, Option.some.injEq] at h; subst h; simpa only [AReps, Reps] using hr
  | c :: cs, ds, vs, h, hr => by
    simp only [AV.toDs] at h
    split at h
    · rename_i d ds' h1 h2
      simp only [Option.some.injEq] at h; subst h
      simp only [AReps] at hr
      obtain ⟨v, vs', rfl, h3, h4⟩ := hr
      simp only [Reps]
      exact ⟨v, vs', rfl, AV.toD_rep c d v h1 h3, AV.toDs_rep cs ds' vs' h2 h4⟩
    · cases h
end

/-- The cells of a value. -/
def AV.cells : AV → List AV
  | .agg cs => cs
  | .d (.agg ds) => ds.map (fun x => .d x)
  | r => [r]
/-- A value that is one cell, or a struct's or an array's. -/
def AV.plain : AV → Bool
  | .opt _ _ => false
  | .tup _ => false
  | .d (.tup _) => false
  | _ => true
theorem AV.cells_rep {μ : Mem} {ρ : List Value} {r : AV} {v : Value} (h : ARep μ ρ r v) (hno : r.plain = true) : AReps μ ρ r.cells v.cells.toList ∧ ∀ u ∈ v.cells.toList, u.oneCell' = true := by
  have one : ∀ (r : AV) (v : Value), ARep μ ρ r v → v.cells = #[v] → v.oneCell' = true → AReps μ ρ [r] v.cells.toList ∧ ∀ u ∈ v.cells.toList, u.oneCell' = true := fun r v h e e' => by
    rw [e]; simp only [AReps]; exact ⟨⟨v, [], rfl, h, rfl⟩, fun u hu => by simp at hu; subst hu; exact e'⟩
  cases r with
  | d x =>
    cases x with
    | agg ds =>
      simp only [ARep, Rep] at h
      obtain ⟨vs, rfl, h2, h3⟩ := h
      exact ⟨by simpa only [AV.cells, Value.cells] using AReps.ofReps h2, h3⟩
    | val u => refine one _ _ h ?_ ?_ <;> simp only [ARep, Rep] at h; exact h.2.1; exact h.2.2
    | int k n => refine one _ _ h ?_ ?_ <;> simp only [ARep, Rep] at h <;> subst h <;> rfl
    | bool k => refine one _ _ h ?_ ?_ <;> simp only [ARep, Rep] at h <;> subst h <;> rfl
    | str k => refine one _ _ h ?_ ?_ <;> simp only [ARep, Rep] at h <;> subst h <;> rfl
    | list k l => refine one _ _ h ?_ ?_ <;> simp only [ARep, Rep] at h <;> obtain ⟨a, c, rfl, _⟩ := h <;> rfl
    | ref k => refine one _ _ h ?_ ?_ <;> simp only [ARep, Rep] at h <;> obtain ⟨a, c, _, rfl, _⟩ := h <;> rfl
    | tup k => simp [AV.plain] at hno
    | clo fn k => refine one _ _ h ?_ ?_ <;> simp only [ARep, Rep] at h <;> obtain ⟨a, rfl, _⟩ := h <;> rfl
  | agg cs =>
    simp only [ARep] at h
    obtain ⟨vs, rfl, h2, h3⟩ := h
    exact ⟨by simpa only [AV.cells, Value.cells] using h2, h3⟩
  | box i o => refine one _ _ h ?_ ?_ <;> simp only [ARep] at h <;> obtain ⟨_, _, rfl⟩ := h <;> rfl
  | row i => refine one _ _ h ?_ ?_ <;> simp only [ARep] at h; exact h.2.1; exact h.2.2
  | tup cs => simp [AV.plain] at hno
  | clo f cs => refine one _ _ h ?_ ?_ <;> simp only [ARep] at h <;> obtain ⟨_, rfl, _⟩ := h <;> rfl
  | opt c r' => simp [AV.plain] at hno
  | sl i sz off len cap =>
    refine one _ _ h ?_ ?_ <;> simp only [ARep] at h <;> obtain ⟨u, _, ⟨g, o, _, rfl, _⟩ | ⟨_, rfl, _⟩⟩ := h <;> rfl
  | el i sz k fo => refine one _ _ h ?_ ?_ <;> simp only [ARep] at h <;> obtain ⟨u, g, _, _, rfl⟩ := h <;> rfl

/-! ### Operations that yield a value -/
theorem mstep_of_run {C : Ctx} {o : Oper} {E : Env} {L : List AO} {r : AV}
    (h : ∀ a w μ ρ, HeapOk C w μ ρ L → EnvOk μ ρ E a → ∃ v w' μ', (execOp a.eval o).run C.P w = .ok (.value v) w' ∧ Grow w μ w' μ' ∧ ARep μ' ρ r v) : MStep C o E L r := by
  intro a w μ ρ K Q hh he hk
  obtain ⟨v, w', μ', h1, h2, h3⟩ := h a w μ ρ hh he
  refine owp_value h1 ?_
  exact hk v w' μ' h2 h3
theorem Grow.refl {C : Ctx} {w : World} {μ : Mem} {ρ : List Value} {L : List AO} (h : HeapOk C w μ ρ L) : Grow w μ w μ := ⟨MemLe.refl μ, fun _ _ => rfl, h.holds, Below.refl _ _, Nat.le_refl _⟩
theorem mstep_pure {C : Ctx} {o : Oper} {E : Env} {L : List AO} {r : AV}
    (h : ∀ a w μ ρ, HeapOk C w μ ρ L → EnvOk μ ρ E a → ∃ v, (execOp a.eval o).run C.P w = .ok (.value v) w ∧ ARep μ ρ r v) : MStep C o E L r :=
  mstep_of_run fun a w μ ρ hh he => let ⟨v, h1, h2⟩ := h a w μ ρ hh he; ⟨v, w, μ, h1, Grow.refl hh, h2⟩

section run
variable {P : Program} {w : World} {o : Oper} {f : Operand → Value}
theorem run_move {x : Operand} (ho : o.op = .move x) : (execOp f o).run P w = .ok (.value (f x)) w := by simp [execOp, ho, go_sem]
theorem run_assign {x : Operand} (ho : o.op = .assign x) : (execOp f o).run P w = .ok (.value (f x)) w := by simp [execOp, ho, go_sem]
theorem run_pick {c x y : Operand} {b : Bool} (ho : o.op = .pick c x y) (hc : f c = .bool b) : (execOp f o).run P w = .ok (.value (if b then f x else f y)) w := by simp [execOp, ho, hc, asBool, go_sem]
theorem run_not {x : Operand} {T : TypeId} {b : Bool} (ho : o.op = .unOp .not T x) (hx : f x = .bool b) : (execOp f o).run P w = .ok (.value (.bool (!b))) w := by simp [execOp, ho, hx, Op.unary, go_sem]
end run

theorem m_move {C : Ctx} {o : Oper} {E : Env} {L : List AO} {r : AV} {x : Operand} (ho : o.op = .move x) (hx : Get E x r) : MStep C o E L r :=
  mstep_pure fun a w μ ρ hh he => ⟨a.eval x, run_move ho, hx μ ρ a he⟩
theorem m_assign {C : Ctx} {o : Oper} {E : Env} {L : List AO} {r : AV} {x : Operand} (ho : o.op = .assign x) (hx : Get E x r) : MStep C o E L r :=
  mstep_pure fun a w μ ρ hh he => ⟨a.eval x, run_assign ho, hx μ ρ a he⟩
theorem m_pick {C : Ctx} {o : Oper} {E : Env} {L : List AO} {r : AV} {c x y : Operand} {b : Bool} (ho : o.op = .pick c x y) (hc : Get E c (.d (.bool b))) (hx : b = true → Get E x r) (hy : b = false → Get E y r) : MStep C o E L r :=
  mstep_pure fun a w μ ρ hh he => by
    have := hc μ ρ a he
    simp only [ARep, Rep] at this
    refine ⟨_, run_pick ho this, ?_⟩
    cases b with
    | true => exact hx rfl μ ρ a he
    | false => exact hy rfl μ ρ a he
/-- 'x && y' -/
theorem m_and {C : Ctx} {o : Oper} {E : Env} {L : List AO} {c x : Operand} {b y : Bool} (ho : o.op = .pick c x (.const (.bool false))) (hc : Get E c (.d (.bool b))) (hx : b = true → Get E x (.d (.bool y))) : MStep C o E L (.d (.bool (b && y))) :=
  m_pick ho hc (fun h => by subst h; exact hx rfl) (fun h => by subst h; exact get_bool E false)
/-- 'x || y' -/
theorem m_or {C : Ctx} {o : Oper} {E : Env} {L : List AO} {c y' : Operand} {b y : Bool} (ho : o.op = .pick c (.const (.bool true)) y') (hc : Get E c (.d (.bool b))) (hx : b = false → Get E y' (.d (.bool y))) : MStep C o E L (.d (.bool (b || y))) :=
  m_pick ho hc (fun h => by subst h; exact get_bool E true) (fun h => by subst h; exact hx rfl)
theorem m_not {C : Ctx} {o : Oper} {E : Env} {L : List AO} {x : Operand} {T : TypeId} {b : Bool} (ho : o.op = .unOp .not T x) (hx : Get E x (.d (.bool b))) : MStep C o E L (.d (.bool (!b))) :=
  mstep_pure fun a w μ ρ hh he => by
    have := hx μ ρ a he
    simp only [ARep, Rep] at this
    exact ⟨.bool (!b), run_not ho this, by simp [ARep, Rep]⟩
end Go.Aw

/-! AwB -/
namespace Go.Aw
open Go.RowKit

def sEq (a b : ByteArray) : Bool := a.toList == b.toList
def sLt (a b : ByteArray) : Bool := Op.bytesLess a.toList b.toList

/-- '+', '-', '*', comparisons, on numbers of one kind; comparisons of strings; == of bools. -/
def dBin (op : BinOp) : D → D → Option D
  | .int k a, .int k' b => bif decide (k = k') then
      match op with
      | .add => some (.int k (k.wrap (a + b)))
      | .sub => some (.int k (k.wrap (a - b)))
      | .mul => some (.int k (k.wrap (a * b)))
      | .eql => some (.bool (a == b))
      | .neq => some (.bool (a != b))
      | .lss => some (.bool (decide (a < b)))
      | .leq => some (.bool (decide (a ≤ b)))
      | .gtr => some (.bool (decide (b < a)))
      | .geq => some (.bool (decide (b ≤ a)))
      | _ => none
    else none
  | .str a, .str b =>
    match op with
    | .eql => some (.bool (sEq a b))
    | .neq => some (.bool (!sEq a b))
    | .lss => some (.bool (sLt a b))
    | .leq => some (.bool (sLt a b || sEq a b))
    | .gtr => some (.bool (!(sLt a b || sEq a b)))
    | .geq => some (.bool (!sLt a b))
    | _ => none
  | _, _ => none

theorem dBin_run {P : Program} {w : World} {μ : Mem} {op : BinOp} {x y r : D} {vx vy : Value} {T : TypeId} (h : dBin op x y = some r) (hx : Rep μ x vx) (hy : Rep μ y vy) :
    ∃ v, (binOp op T vx vy).run P w = .ok v w ∧ Rep μ r v := by
  unfold dBin at h
  split at h
  · rename_i k a k' b
    simp only [Rep] at hx hy
    subst hx; subst hy
    by_cases hk : k = k'
    · subst hk
      simp only [decide_true, cond_true] at h
      cases op <;> simp at h <;> subst h <;> simp [binOp, Op.intArith, Op.intCmp, Rep, go_sem]
    · simp [hk] at h
  · rename_i a b
    simp only [Rep] at hx hy
    subst hx; subst hy
    cases op <;> simp at h <;> subst h <;> simp [binOp, Op.stringOp, Rep, sEq, sLt, go_sem]
  · cases h

theorem eqGuard_run {P : Program} {w : World} {op : BinOp} {T : TypeId} {x y : Operand} {a b : Value} (h1 : a ≠ .nilIface) (h2 : ∀ c, a ≠ .agg c) : (eqGuard op T x y a b).run P w = .ok () w := by
  cases a <;> first | exact absurd rfl h1 | exact absurd rfl (h2 _) | (cases op <;> rfl)

theorem dBin_guard {μ : Mem} {op : BinOp} {x y r : D} {vx vy : Value} (h : dBin op x y = some r) (hx : Rep μ x vx) : vx ≠ .nilIface ∧ ∀ c, vx ≠ .agg c := by
  unfold dBin at h
  split at h
  · simp only [Rep] at hx; subst hx; exact ⟨by simp, by simp⟩
  · simp only [Rep] at hx; subst hx; exact ⟨by simp, by simp⟩
  · cases h

section run
variable {P : Program} {w : World} {o : Oper} {f : Operand → Value}
theorem run_bin {op : BinOp} {T U : TypeId} {x y : Operand} {v : Value} (ho : o.op = .binOp op T x y U) (hg : (eqGuard op T x y (f x) (f y)).run P w = .ok () w) (h : (binOp op T (f x) (f y)).run P w = .ok v w) : (execOp f o).run P w = .ok (.value v) w := by
  have e : execOp f o = (do let z ← (do eqGuard op T x y (f x) (f y); binOp op T (f x) (f y)); pure (.value z)) := by simp only [execOp, ho]
  rw [e]
  simp only [Sem.run_bind, hg, h, Result.andThen]
  rfl
end run

theorem m_bin {C : Ctx} {o : Oper} {E : Env} {L : List AO} {op : BinOp} {T U : TypeId} {x y : Operand} {dx dy r : D} (ho : o.op = .binOp op T x y U) (hx : Get E x (.d dx)) (hy : Get E y (.d dy)) (h : dBin op dx dy = some r) : MStep C o E L (.d r) :=
  mstep_pure fun a w μ ρ hh he => by
    have h1 := hx μ ρ a he
    have h2 := hy μ ρ a he
    simp only [ARep] at h1 h2 ⊢
    obtain ⟨v, h3, h4⟩ := dBin_run (P := C.P) (w := w) (T := T) h h1 h2
    have hg := dBin_guard h h1 (vy := a.eval y)
    exact ⟨v, run_bin ho (eqGuard_run hg.1 hg.2) h3, h4⟩
theorem m_quo {C : Ctx} {o : Oper} {E : Env} {L : List AO} {T U : TypeId} {x y : Operand} {k : IntKind} {a b : Int} (ho : o.op = .binOp .quo T x y U) (hx : Get E x (.d (.int k a))) (hy : Get E y (.d (.int k b))) (h : b ≠ 0) : MStep C o E L (.d (.int k (k.wrap (a.tdiv b)))) :=
  mstep_pure fun ac w μ ρ hh he => by
    have h1 := hx μ ρ ac he
    have h2 := hy μ ρ ac he
    simp only [ARep, Rep] at h1 h2 ⊢
    exact ⟨_, run_bin ho (eqGuard_run (by rw [h1]; simp) (by rw [h1]; simp)) (by rw [h1, h2]; simp [binOp, Op.intDiv, h, go_sem]), rfl⟩
theorem m_rem {C : Ctx} {o : Oper} {E : Env} {L : List AO} {T U : TypeId} {x y : Operand} {k : IntKind} {a b : Int} (ho : o.op = .binOp .rem T x y U) (hx : Get E x (.d (.int k a))) (hy : Get E y (.d (.int k b))) (h : b ≠ 0) : MStep C o E L (.d (.int k (a.tmod b))) :=
  mstep_pure fun ac w μ ρ hh he => by
    have h1 := hx μ ρ ac he
    have h2 := hy μ ρ ac he
    simp only [ARep, Rep] at h1 h2 ⊢
    exact ⟨_, run_bin ho (eqGuard_run (by rw [h1]; simp) (by rw [h1]; simp)) (by rw [h1, h2]; simp [binOp, Op.intDiv, h, go_sem]), rfl⟩
theorem m_cat {C : Ctx} {o : Oper} {E : Env} {L : List AO} {T U : TypeId} {x y : Operand} {a b : ByteArray} (ho : o.op = .binOp .add T x y U) (hx : Get E x (.d (.str a))) (hy : Get E y (.d (.str b))) (h : a.size + b.size ≤ 9223372036854775807) : MStep C o E L (.d (.str (a ++ b))) :=
  mstep_pure fun ac w μ ρ hh he => by
    have h1 := hx μ ρ ac he
    have h2 := hy μ ρ ac he
    simp only [ARep, Rep] at h1 h2 ⊢
    refine ⟨_, run_bin ho (eqGuard_run (by rw [h1]; simp) (by rw [h1]; simp)) ?_, rfl⟩
    rw [h1, h2]
    have : ¬ ((a.size + b.size : Nat) : Int) > IntKind.i64.max := by
      have : IntKind.i64.max = 9223372036854775807 := by decide
      omega
    simp only [binOp, Op.stringOp, this, if_false]
    simp [go_sem]
end Go.Aw

/-! AwP -/
namespace Go.Aw
open Go.RowKit

/-! ### Cells -/
def CellsW (w : World) (b o : Nat) (vs : List Value) : Prop := ∀ (j : Nat) (v : Value), vs[j]? = some v → w.cell? ⟨b, o + j, none⟩ = some v
theorem addr_add (b o j : Nat) : (⟨b, o, none⟩ : Addr).add j = ⟨b, o + j, none⟩ := by
  unfold Addr.add; split
  · rename_i h; subst h; rfl
  · rfl
theorem cellsW_of_heap {w : World} {b : Nat} {cs : Array Value} {T : TypeId} {fz : Nat × Nat} (h : w.heap[b]? = some (.cells cs T fz)) {o : Nat} {vs : List Value} (hv : ∀ (j : Nat) v, vs[j]? = some v → cs[o + j]? = some v) : CellsW w b o vs := fun j v hj => by
  simp [World.cell?, h, hv j v hj]
theorem cellsW_of_at {w : World} {μ : Mem} (hh : ∀ b o, μ b = some o → w.heap[b]? = some o) {b o : Nat} {vs : List Value} (h : CellsAt μ b o vs) : CellsW w b o vs := by
  obtain ⟨cs, T, fz, h1, h2⟩ := h
  exact cellsW_of_heap (hh _ _ h1) h2

section run
variable {P : Program} {w : World}
theorem run_load_cell {a : Addr} {v : Value} (h : w.cell? a = some v) : (load a).run P w = .ok v w := by simp [load, Sem.run, h]
theorem run_cellsFrom (b o : Nat) : ∀ (vs : List Value) (i : Nat) (acc : Array Value), CellsW w b (o + i) vs → (loadCellsFrom ⟨b, o, none⟩ i vs.length acc).run P w = .ok (acc ++ vs.toArray) w
  | [], i, acc, h => by simp [loadCellsFrom]
  | v :: vs, i, acc, h => by
    have h0 : w.cell? ((⟨b, o, none⟩ : Addr).add i) = some v := by rw [addr_add]; simpa using h 0 v rfl
    have ih := run_cellsFrom b o vs (i + 1) (acc.push v) (fun j u hj => by have := h (j + 1) u (by simpa using hj); rw [← this]; congr 2; omega)
    simp only [List.length_cons, loadCellsFrom, Sem.run_bind, run_load_cell h0, Result.andThen, ih]
    congr 1
    apply Array.ext'
    simp
theorem run_isAgg {T n : Nat} {g : Bool} (h : tyF P T = some (n, g)) : (isAgg T).run P w = .ok g w := by
  obtain ⟨i, d, h1, h2, h3, h4⟩ := tyF_out h
  unfold isAgg
  simp only [Sem.run_bind, run_underlying h2, Result.andThen]
  cases d <;> simp [isAggD] at h4 <;> subst h4 <;> rfl
theorem run_sizeT {T n : Nat} {g : Bool} (h : tyF P T = some (n, g)) : (sizeOf T).run P w = .ok n w := by
  obtain ⟨i, d, h1, h2, h3, h4⟩ := tyF_out h
  simp [sizeOf, typeInfo, h1, h3]
theorem run_loadVar_atom {T b o : Nat} {v : Value} (h : tyF P T = some (1, false)) (hc : w.cell? ⟨b, o, none⟩ = some v) : (loadVar T ⟨b, o, none⟩).run P w = .ok v w := by
  simp only [loadVar, Sem.run_bind, run_isAgg h, Result.andThen, Bool.false_eq_true, if_false]
  exact run_load_cell hc
theorem run_loadVar_agg {T b o n : Nat} {vs : List Value} (h : tyF P T = some (n, true)) (hn : vs.length = n) (hc : CellsW w b o vs) : (loadVar T ⟨b, o, none⟩).run P w = .ok (.agg vs.toArray) w := by
  subst hn
  have := run_cellsFrom (P := P) b o vs 0 #[] (by simpa using hc)
  simp only [loadVar, Sem.run_bind, run_isAgg h, Result.andThen, if_true, run_sizeT h, loadCells, this, Sem.run_pure]
  simp
variable {o : Oper} {f : Operand → Value}
theorem run_load {T b off : Nat} {v : Value} {x : Operand} (ho : o.op = .load T x) (hx : f x = .pointer (some ⟨b, off, none⟩)) (h : (loadVar T ⟨b, off, none⟩).run P w = .ok v w) : (execOp f o).run P w = .ok (.value v) w := by
  have e : execOp f o = (do let z ← Instr.loadAt T (f x); pure (.value z)) := by simp only [execOp, ho]
  rw [e, hx]
  simp only [Instr.loadAt, Instr.sureAddr, Sem.run_bind, Sem.run_pure, Result.andThen, h]
end run

theorem HeapOk.boxAt {C : Ctx} {w : World} {μ : Mem} {ρ : List Value} {L : List AO} (h : HeapOk C w μ ρ L) {i : Nat} {U : TypeId} {cs : List AV} (hL : L[i]? = some (.box U cs)) {b : Nat} (hb : ρ[i]? = some (.pointer (some ⟨b, 0, none⟩))) :
    ∃ vs : List Value, w.heap[b]? = some (.cells vs.toArray U (0, 0)) ∧ AReps μ ρ cs vs ∧ ∀ u ∈ vs, u.oneCell' = true := by
  obtain ⟨b', vs, h1, h2, h3, h4⟩ := h.rep i _ _ hL hb
  cases h1
  exact ⟨vs, h2, h3, h4⟩

theorem m_load_box {C : Ctx} {o : Oper} {E : Env} {L : List AO} {T U i off : Nat} {x : Operand} {cs : List AV} {r : AV} (ho : o.op = .load T x) (hx : Get E x (.box i off)) (ht : tyF C.P T = some (1, false)) (hL : L[i]? = some (.box U cs)) (hr : cs[off]? = some r) : MStep C o E L r :=
  mstep_pure fun a w μ ρ hh he => by
    have h1 := hx μ ρ a he
    simp only [ARep] at h1
    obtain ⟨b, hb, hv⟩ := h1
    obtain ⟨vs, h2, h3, h1c⟩ := hh.boxAt hL hb
    obtain ⟨v, h4, h5⟩ := h3.at off r hr
    exact ⟨v, run_load ho hv (run_loadVar_atom ht (by simp [World.cell?, h2, h4])), h5⟩
theorem m_load_boxA {C : Ctx} {o : Oper} {E : Env} {L : List AO} {T U i off n : Nat} {x : Operand} {cs : List AV} (ho : o.op = .load T x) (hx : Get E x (.box i off)) (ht : tyF C.P T = some (n, true)) (hL : L[i]? = some (.box U cs)) (hr : Nat.ble (off + n) cs.length = true) : MStep C o E L (.agg ((cs.drop off).take n)) :=
  mstep_pure fun a w μ ρ hh he => by
    have h1 := hx μ ρ a he
    simp only [ARep] at h1
    obtain ⟨b, hb, hv⟩ := h1
    obtain ⟨vs, h2, h3, h1c⟩ := hh.boxAt hL hb
    have h4 := (h3.drop off).take n
    have hl : ((vs.drop off).take n).length = n := by
      have := h3.length
      have hr' : off + n ≤ cs.length := by simpa using hr
      simp; omega
    refine ⟨_, run_load ho hv (run_loadVar_agg ht hl (cellsW_of_heap h2 fun j v hj => ?_)), ?_⟩
    · rw [List.getElem?_take] at hj
      split at hj
      · simpa using hj
      · cases hj
    · simp only [ARep]; exact ⟨_, rfl, h4, fun u hu => h1c u (List.mem_of_mem_drop (List.mem_of_mem_take hu))⟩
theorem m_load_ref {C : Ctx} {o : Oper} {E : Env} {L : List AO} {T : Nat} {x : Operand} {cs : List D} {r : D} (ho : o.op = .load T x) (hx : Get E x (.d (.ref cs))) (ht : tyF C.P T = some (1, false)) (hr : cs[0]? = some r) : MStep C o E L (.d r) :=
  mstep_pure fun a w μ ρ hh he => by
    have h1 := hx μ ρ a he
    simp only [ARep, Rep] at h1
    obtain ⟨b, off, vs, hv, h2, h3, h1c⟩ := h1
    obtain ⟨v, h4, h5⟩ := h3.at 0 r hr
    refine ⟨v, run_load ho hv (run_loadVar_atom ht ?_), by simpa only [ARep] using h5⟩
    simpa using cellsW_of_at hh.holds h2 0 v h4
theorem m_load_refA {C : Ctx} {o : Oper} {E : Env} {L : List AO} {T n : Nat} {x : Operand} {cs : List D} (ho : o.op = .load T x) (hx : Get E x (.d (.ref cs))) (ht : tyF C.P T = some (n, true)) (hr : n ≤ cs.length) : MStep C o E L (.d (.agg (cs.take n))) :=
  mstep_pure fun a w μ ρ hh he => by
    have h1 := hx μ ρ a he
    simp only [ARep, Rep] at h1
    obtain ⟨b, off, vs, hv, h2, h3, h1c⟩ := h1
    have h4 := h3.take n
    have hl : (vs.take n).length = n := by
      have := h3.length
      simp; omega
    refine ⟨_, run_load ho hv (run_loadVar_agg ht hl fun j v hj => ?_), by simp only [ARep, Rep]; exact ⟨_, rfl, h4, fun u hu => h1c u (List.mem_of_mem_take hu)⟩⟩
    rw [List.getElem?_take] at hj
    split at hj
    · exact cellsW_of_at hh.holds h2 j v hj
    · cases hj

/-! ### Addresses -/
section run
variable {P : Program} {w : World} {o : Oper} {f : Operand → Value}
theorem run_fieldAddr {S k off n b p : Nat} {g : Bool} {x : Operand} (ho : o.op = .fieldAddr S x k) (hf : fldF P S k = some (off, n, g)) (hx : f x = .pointer (some ⟨b, p, none⟩)) : (execOp f o).run P w = .ok (.value (.pointer (some ⟨b, p + off, none⟩))) w := by
  obtain ⟨fs, fd, h1, h2, h3, h4, h5⟩ := fldF_out hf
  have e : execOp f o = (do let z ← Instr.fieldAt S (f x) k; pure (.value z)) := by simp only [execOp, ho]
  rw [e, hx]
  simp only [Instr.fieldAt, Sem.run_bind, run_underlying h1, Result.andThen, h2, Instr.sureAddr, Sem.run_pure, fieldPlace, run_sizeT h3, if_neg h4, addr_add, h5]
end run
theorem m_fld_box {C : Ctx} {o : Oper} {E : Env} {L : List AO} {S k off n i p : Nat} {g : Bool} {x : Operand} (ho : o.op = .fieldAddr S x k) (hx : Get E x (.box i p)) (hf : fldF C.P S k = some (off, n, g)) : MStep C o E L (.box i (p + off)) :=
  mstep_pure fun a w μ ρ hh he => by
    have h1 := hx μ ρ a he
    simp only [ARep] at h1 ⊢
    obtain ⟨b, hb, hv⟩ := h1
    exact ⟨_, run_fieldAddr ho hf hv, b, hb, rfl⟩
theorem m_fld_ref {C : Ctx} {o : Oper} {E : Env} {L : List AO} {S k off n : Nat} {g : Bool} {x : Operand} {cs : List D} (ho : o.op = .fieldAddr S x k) (hx : Get E x (.d (.ref cs))) (hf : fldF C.P S k = some (off, n, g)) : MStep C o E L (.d (.ref (cs.drop off))) :=
  mstep_pure fun a w μ ρ hh he => by
    have h1 := hx μ ρ a he
    simp only [ARep, Rep] at h1 ⊢
    obtain ⟨b, p, vs, hv, ⟨arr, U, fz, h2, h2'⟩, h3, h1c⟩ := h1
    refine ⟨_, run_fieldAddr ho hf hv, b, p + off, vs.drop off, rfl, ⟨arr, U, fz, h2, fun j v hj => ?_⟩, h3.drop off, fun u hu => h1c u (List.mem_of_mem_drop hu)⟩
    have := h2' (off + j) v (by simpa using hj)
    rw [← this]; congr 1; omega

/-! ### Elements of a list -/
def D.cells : D → List D
  | .agg ds => ds
  | r => [r]
theorem D.cells_reps {μ : Mem} {r : D} {v : Value} (h : Rep μ r v) : Reps μ r.cells v.cells.toList := by
  have one : ∀ (r : D) (v : Value), Rep μ r v → v.cells = #[v] → Reps μ [r] v.cells.toList := fun r v h e => by
    rw [e]; simp only [Reps]; exact ⟨v, [], rfl, h, rfl⟩
  cases r with
  | agg ds =>
    simp only [Rep] at h
    obtain ⟨vs, rfl, h2, h3⟩ := h
    simpa only [D.cells, Value.cells] using h2
  | val u => refine one _ _ h ?_; simp only [Rep] at h; exact h.2.1
  | int k n => refine one _ _ h ?_; simp only [Rep] at h; subst h; rfl
  | bool k => refine one _ _ h ?_; simp only [Rep] at h; subst h; rfl
  | str k => refine one _ _ h ?_; simp only [Rep] at h; subst h; rfl
  | list k l => refine one _ _ h ?_; simp only [Rep] at h; obtain ⟨a, c, rfl, _⟩ := h; rfl
  | ref k => refine one _ _ h ?_; simp only [Rep] at h; obtain ⟨a, c, _, rfl, _⟩ := h; rfl
  | tup k => refine one _ _ h ?_; simp only [Rep] at h; obtain ⟨a, rfl, _⟩ := h; rfl
  | clo fn k => refine one _ _ h ?_; simp only [Rep] at h; obtain ⟨a, rfl, _⟩ := h; rfl
theorem D.cells_one {μ : Mem} {r : D} {v : Value} (h : Rep μ r v) (hp : r.plain = true) : ∀ u ∈ v.cells.toList, u.oneCell' = true := by
  have := (AV.cells_rep (ρ := []) (r := .d r) (by simpa only [ARep] using h) (by cases r <;> first | rfl | exact hp)).2
  exact this
theorem Row.at {μ : Mem} {sz b : Nat} : ∀ {xs : List D} {o : Nat}, Row μ sz b o xs → ∀ (j : Nat) (x : D), xs[j]? = some x → ∃ v, Rep μ x v ∧ v.cells.size = sz ∧ CellsAt μ b (o + j * sz) v.cells.toList ∧ x.plain = true
  | [], o, h, j, x, hj => by simp at hj
  | y :: xs, o, h, j, x, hj => by
    simp only [Row] at h
    obtain ⟨h1, h2⟩ := h
    cases j with
    | zero => simp at hj; subst hj; simpa using h1
    | succ j =>
      simp at hj
      have := Row.at h2 j x hj
      rw [show o + sz + j * sz = o + (j + 1) * sz by rw [Nat.add_mul]; omega] at this
      exact this
/-- A slice type's element type, and that one's size. -/
def elemF (P : Program) (T : TypeId) : Option (TypeId × Nat) :=
  match P.underlying T with
  | some (.slice e) => match tyF P e with
    | some (n, _) => some (e, n)
    | none => none
  | _ => none
theorem elemF_out {P : Program} {T e n : Nat} (h : elemF P T = some (e, n)) : P.underlying T = some (.slice e) ∧ ∃ g, tyF P e = some (n, g) := by
  unfold elemF at h
  split at h
  · rename_i e' h1
    split at h
    · rename_i n' g h2
      simp only [Option.some.injEq, Prod.mk.injEq] at h
      obtain ⟨rfl, rfl⟩ := h
      exact ⟨h1, g, h2⟩
    · cases h
  · cases h
section run
variable {P : Program} {w : World} {o : Oper} {f : Operand → Value}
theorem run_indexAddr {T e sz b p len cap : Nat} {x ix : Operand} {k : IntKind} {n : Int} (ho : o.op = .indexAddr T x ix) (hf : elemF P T = some (e, sz)) (hx : f x = .slice (some ⟨b, p, none⟩) len cap) (hi : f ix = .int k n) (h0 : 0 ≤ n) (h1 : n < len) : (execOp f o).run P w = .ok (.value (.pointer (some ⟨b, p + n.toNat * sz, none⟩))) w := by
  obtain ⟨hu, g, ht⟩ := elemF_out hf
  have e1 : execOp f o = (do let z ← Instr.indexAt T (f x) (f ix); pure (.value z)) := by simp only [execOp, ho]
  rw [e1, hx, hi]
  simp only [Instr.indexAt, asIntOf, Sem.run_bind, Sem.run_pure, Result.andThen, run_underlying hu, h0, h1, and_self, if_true, run_sizeT ht, addr_add]
end run
theorem m_idx_list {C : Ctx} {o : Oper} {E : Env} {L : List AO} {T e sz : Nat} {x ix : Operand} {xs : List D} {k : IntKind} {n : Int} {y : D} (ho : o.op = .indexAddr T x ix) (hx : Get E x (.d (.list sz xs))) (hi : Get E ix (.d (.int k n))) (hf : elemF C.P T = some (e, sz)) (h0 : 0 ≤ n) (hy : xs[n.toNat]? = some y) : MStep C o E L (.d (.ref y.cells)) :=
  mstep_pure fun a w μ ρ hh he => by
    have h1 := hx μ ρ a he
    have h2 := hi μ ρ a he
    simp only [ARep, Rep] at h1 h2 ⊢
    obtain ⟨ad, c, hv, hc, hm, hnil, h3⟩ := h1
    have hlt : n.toNat < xs.length := by
      rcases Nat.lt_or_ge n.toNat xs.length with h | h
      · exact h
      · rw [List.getElem?_eq_none h] at hy; cases hy
    rcases h3 with h3 | ⟨b, p, rfl, h4⟩
    · subst h3; simp at hlt
    · obtain ⟨v, h5, h6, h7, hp⟩ := h4.at n.toNat y hy
      exact ⟨_, run_indexAddr ho hf hv h2 h0 (by omega), b, p + n.toNat * sz, v.cells.toList, rfl, h7, D.cells_reps h5, D.cells_one h5 hp⟩
end Go.Aw

/-! AwH -/
namespace Go.Aw
open Go.RowKit

/-! ### New blocks -/
theorem heap_push_new (w : World) (o : Obj) : (w.alloc o).heap[w.heap.size]? = some o := heap_alloc_new w o
theorem below_alloc' (w : World) (o : Obj) : Below w.heap.size w (w.alloc o) := (Below.refl _ _).alloc (Nat.le_refl _) o

/-- A new object at the end. -/
theorem HeapOk.push {C : Ctx} {w : World} {μ : Mem} {ρ : List Value} {L : List AO} (h : HeapOk C w μ ρ L) {T : TypeId} {cs : List AV} {vs : List Value} (hr : AReps μ ρ cs vs) (h1c : ∀ u ∈ vs, u.oneCell' = true) :
    HeapOk C (w.alloc (.cells vs.toArray T)) μ (ρ ++ [.pointer (some ⟨w.heap.size, 0, none⟩)]) (L ++ [.box T cs]) := by
  have hlen := h.len
  have hle := RhoLe.snoc ρ (.pointer (some ⟨w.heap.size, 0, none⟩))
  have hb := below_alloc' w (.cells vs.toArray T)
  have cut : ∀ (i : Nat) o v, (L ++ [.box T cs])[i]? = some o → (ρ ++ [.pointer (some ⟨w.heap.size, 0, none⟩)])[i]? = some v →
      (L[i]? = some o ∧ ρ[i]? = some v) ∨ (i = L.length ∧ o = .box T cs ∧ v = .pointer (some ⟨w.heap.size, 0, none⟩)) := by
    intro i o v h1 h2
    rcases Nat.lt_or_ge i L.length with hi | hi
    · rw [List.getElem?_append_left hi] at h1
      rw [List.getElem?_append_left (by omega)] at h2
      exact .inl ⟨h1, h2⟩
    · rw [List.getElem?_append_right hi] at h1
      rw [List.getElem?_append_right (by omega)] at h2
      have hi' : i - L.length = 0 := by
        rcases Nat.eq_zero_or_pos (i - L.length) with e | e
        · exact e
        · rw [List.getElem?_eq_none (by simp; omega)] at h1; cases h1
      rw [hi'] at h1
      rw [show i - ρ.length = 0 by omega] at h2
      simp at h1 h2
      exact .inr ⟨by omega, h1.symm, h2.symm⟩
  refine ⟨by simp [hlen], ?_, ?_, ?_, ?_, h.le, h.old, h.fr.below hb (Nat.le_refl _), by have := h.n0le; simp; omega, fun i hi => by rw [List.getElem?_append_left (Nat.lt_of_lt_of_le hi h.n0le)]; exact h.keep i hi⟩
  · intro i o v h1 h2
    rcases cut i o v h1 h2 with ⟨h3, h4⟩ | ⟨_, rfl, rfl⟩
    · exact (h.rep i o v h3 h4).grow hle (MemLe.refl μ) hb
    · exact ⟨w.heap.size, vs, rfl, heap_push_new w _, AReps.mono (MemLe.refl μ) hle cs vs hr, h1c⟩
  · intro i j o o' v v' b hij h1 h1' hl hl' h2 h2' hv
    rcases cut i o v h1 h2 with ⟨h3, h4⟩ | ⟨rfl, rfl, rfl⟩
    · rcases cut j o' v' h1' h2' with ⟨h5, h6⟩ | ⟨rfl, rfl, rfl⟩
      · exact h.sep i j o o' v v' b hij h3 h5 hl hl' h4 h6 hv
      · have := (h.own i o v b h3 hl h4 hv).2.1
        intro e
        simp only [blk, Option.some.injEq] at e
        omega
    · rcases cut j o' v' h1' h2' with ⟨h5, h6⟩ | ⟨rfl, rfl, rfl⟩
      · intro e
        have := (h.own j o' v' b h5 hl' h6 e).2.1
        simp only [blk, Option.some.injEq] at hv
        omega
      · exact absurd rfl hij
  · intro i o v b h1 hl h2 hv
    rcases cut i o v h1 h2 with ⟨h3, h4⟩ | ⟨rfl, rfl, rfl⟩
    · obtain ⟨a1, a2, a3⟩ := h.own i o v b h3 hl h4 hv
      exact ⟨a1, Nat.lt_of_lt_of_le a2 hb.size, a3⟩
    · simp only [blk, Option.some.injEq] at hv
      subst hv
      refine ⟨?_, by show w.heap.size < (w.heap.push _).size; rw [Array.size_push]; omega, .inr h.fr.size⟩
      cases hm : μ w.heap.size with
      | none => rfl
      | some ob => have := lt_of_heap (h.holds _ _ hm); omega
  · intro b o hm
    have h1 := h.holds b o hm
    rw [hb.block b (lt_of_heap h1)]
    exact h1

section run
variable {P : Program} {w : World} {o : Oper} {f : Operand → Value}
theorem run_box {T : TypeId} {x : Operand} (ho : o.op = .box T x) : (execOp f o).run P w = .ok (.value (.pointer (some ⟨w.heap.size, 0, none⟩))) (w.alloc (.cells (f x).cells T)) := by
  have e1 : execOp f o = (do let z ← Instr.box T (f x); pure (.value z)) := by simp only [execOp, ho]
  rw [e1]
  simp [Instr.box, newVar, newRow, newObj, Sem.run]
theorem run_alloc {T : TypeId} {z : Value} (ho : o.op = .alloc T) (hz : (zeroValue T).run P w = .ok z w) : (execOp f o).run P w = .ok (.value (.pointer (some ⟨w.heap.size, 0, none⟩))) (w.alloc (.cells z.cells T)) := by
  have e1 : execOp f o = (do let z ← Instr.alloc T true (.tuple #[]); pure (.value z)) := by simp only [execOp, ho]
  rw [e1]
  simp [Instr.alloc, hz, newVar, newRow, newObj, Sem.run]
end run

theorem wp_one {ro : Option Nat} {P : Program} {ops : Array Oper} {Q : Exit → Act → World → Prop} {K : Act → World → Prop} {a : Act} {w w' : World} {o : Oper} {v : Value}
    (hg : o.guard = none) (hr : (execOp a.eval o).run P w = .ok (.value v) w') (h : K (a.put o.dst v) w') : if Region.wanted o (yielded ops a.tmps) then owp ro P o a w K Q else K (a.put o.dst undef) w := by
  simp only [Region.wanted, hg, if_true]
  exact owp_value hr h
theorem wp_skip1 {ro : Option Nat} {P : Program} {ops : Array Oper} {Q : Exit → Act → World → Prop} {K : Act → World → Prop} {a : Act} {w w' : World} {o : Oper}
    (hg : o.guard = none) (hr : (execOp a.eval o).run P w = .ok .skip w') (h : K (a.put o.dst undef) w') : if Region.wanted o (yielded ops a.tmps) then owp ro P o a w K Q else K (a.put o.dst undef) w := by
  simp only [Region.wanted, hg, if_true]
  exact owp_skip hr h

theorem ok_box {C : Ctx} {ops : Array Oper} {Q : Exit → Act → World → Prop} {os : List Oper} {E : Env} {L : List AO} {o : Oper} {d T : Nat} {x : Operand} {r : AV} {n : Nat}
    (hp : o.op = .box T x) (hg : o.guard = none) (hd : o.dst = some d) (hx : Get E x r) (hpl : r.plain = true) (hn : L.length = n)
    (h : OpsOk C ops Q os (upd d (.box n 0) E) (L ++ [.box T r.cells])) : OpsOk C ops Q (o :: os) E L := by
  refine ok_one (fun a w ⟨⟨μ, ρ, hh, he⟩, hs, hdf⟩ hN K hK => ?_) h
  have hv := hx μ ρ a he
  have hc := AV.cells_rep hv hpl
  have hp1 := hh.push (T := T) hc.1 hc.2
  have hN' : d < C.N := hN d hd
  refine wp_one hg (run_box hp) (hK _ _ ⟨⟨μ, _, hp1, ?_⟩, by rw [size_put]; exact hs, by rw [defers_put]; exact hdf⟩)
  rw [hd]
  refine (he.mono (MemLe.refl μ) (RhoLe.snoc ρ _)).put (by rw [hs]; exact hN') ?_
  simp only [ARep]
  exact ⟨w.heap.size, by rw [← hn, ← hh.len]; simp, rfl⟩

/-- A type's zero value, cell by cell. -/
def ZeroOk (P : Program) (T : TypeId) (cs : List AV) : Prop := ∃ z : Value, (∀ w, (zeroValue T).run P w = .ok z w) ∧ (∀ μ ρ, AReps μ ρ cs z.cells.toList) ∧ ∀ u ∈ z.cells.toList, u.oneCell' = true
theorem ok_alloc {C : Ctx} {ops : Array Oper} {Q : Exit → Act → World → Prop} {os : List Oper} {E : Env} {L : List AO} {o : Oper} {d T : Nat} {cs : List AV} {n : Nat}
    (hp : o.op = .alloc T) (hg : o.guard = none) (hd : o.dst = some d) (hz : ZeroOk C.P T cs) (hn : L.length = n)
    (h : OpsOk C ops Q os (upd d (.box n 0) E) (L ++ [.box T cs])) : OpsOk C ops Q (o :: os) E L := by
  refine ok_one (fun a w ⟨⟨μ, ρ, hh, he⟩, hs, hdf⟩ hN K hK => ?_) h
  obtain ⟨z, hz1, hz2, hz3⟩ := hz
  have hp1 := hh.push (T := T) (hz2 μ ρ) hz3
  have hN' : d < C.N := hN d hd
  refine wp_one hg (run_alloc hp (hz1 w)) (hK _ _ ⟨⟨μ, _, hp1, ?_⟩, by rw [size_put]; exact hs, by rw [defers_put]; exact hdf⟩)
  rw [hd]
  refine (he.mono (MemLe.refl μ) (RhoLe.snoc ρ _)).put (by rw [hs]; exact hN') ?_
  simp only [ARep]
  exact ⟨w.heap.size, by rw [← hn, ← hh.len]; simp, rfl⟩

/-! ### Stores -/
def ovr {α : Type} : List α → List α → List α
  | cs, [] => cs
  | [], _ => []
  | _ :: cs, r :: rs => r :: ovr cs rs
def setL {α : Type} : Nat → List α → List α → List α
  | 0, cs, rs => ovr cs rs
  | _ + 1, [], _ => []
  | n + 1, c :: cs, rs => c :: setL n cs rs
theorem ovr_nil {α : Type} (cs : List α) : ovr cs [] = cs := by cases cs <;> rfl
theorem setL_nil {α : Type} : ∀ (n : Nat) (cs : List α), setL n cs [] = cs
  | 0, cs => ovr_nil cs
  | n + 1, [] => rfl
  | n + 1, c :: cs => by simp [setL, setL_nil n cs]
theorem setL_cons {α : Type} (r : α) (rs : List α) : ∀ (n : Nat) (cs : List α), n < cs.length → setL n cs (r :: rs) = setL (n + 1) (cs.set n r) rs
  | 0, c :: cs, _ => by simp [setL, ovr]
  | n + 1, c :: cs, h => by
    simp only [List.length_cons] at h
    simp only [setL, List.set_cons_succ]
    rw [setL_cons r rs n cs (by omega)]
theorem ovr_length {α : Type} : ∀ (cs rs : List α), (ovr cs rs).length = cs.length
  | cs, [] => by rw [ovr_nil]
  | [], r :: rs => rfl
  | c :: cs, r :: rs => by simp [ovr, ovr_length cs rs]
theorem setL_length {α : Type} : ∀ (n : Nat) (cs rs : List α), (setL n cs rs).length = cs.length
  | 0, cs, rs => ovr_length cs rs
  | n + 1, [], rs => rfl
  | n + 1, c :: cs, rs => by simp [setL, setL_length n cs rs]
theorem AReps.ovr {μ : Mem} {ρ : List Value} : ∀ {cs rs : List AV} {vs us : List Value}, AReps μ ρ cs vs → AReps μ ρ rs us → AReps μ ρ (Aw.ovr cs rs) (Aw.ovr vs us)
  | cs, [], vs, us, h, k => by simp only [AReps] at k; subst k; rw [ovr_nil, ovr_nil]; exact h
  | [], r :: rs, vs, us, h, k => by
    simp only [AReps] at h k; obtain ⟨u, us', rfl, _, _⟩ := k; subst h; simp [Aw.ovr, AReps]
  | c :: cs, r :: rs, vs, us, h, k => by
    simp only [AReps] at h k
    obtain ⟨v, vs', rfl, h1, h2⟩ := h
    obtain ⟨u, us', rfl, k1, k2⟩ := k
    simp only [Aw.ovr, AReps]
    exact ⟨u, _, rfl, k1, AReps.ovr h2 k2⟩
theorem AReps.setL {μ : Mem} {ρ : List Value} : ∀ (n : Nat) {cs rs : List AV} {vs us : List Value}, AReps μ ρ cs vs → AReps μ ρ rs us → AReps μ ρ (Aw.setL n cs rs) (Aw.setL n vs us)
  | 0, cs, rs, vs, us, h, k => AReps.ovr h k
  | n + 1, [], rs, vs, us, h, k => by simp only [AReps] at h; subst h; simp [Aw.setL, AReps]
  | n + 1, c :: cs, rs, vs, us, h, k => by
    simp only [AReps] at h
    obtain ⟨v, vs', rfl, h1, h2⟩ := h
    simp only [Aw.setL, AReps]
    exact ⟨v, _, rfl, h1, AReps.setL n h2 k⟩

theorem mem_ovr {α : Type} {x : α} : ∀ (cs rs : List α), x ∈ ovr cs rs → x ∈ cs ∨ x ∈ rs
  | cs, [], h => by rw [ovr_nil] at h; exact .inl h
  | [], r :: rs, h => by simp [ovr] at h
  | c :: cs, r :: rs, h => by
    simp only [ovr, List.mem_cons] at h ⊢
    rcases h with h | h
    · exact .inr (.inl h)
    · rcases mem_ovr cs rs h with h | h
      · exact .inl (.inr h)
      · exact .inr (.inr h)
theorem mem_setL {α : Type} {x : α} : ∀ (n : Nat) (cs rs : List α), x ∈ setL n cs rs → x ∈ cs ∨ x ∈ rs
  | 0, cs, rs, h => mem_ovr cs rs h
  | n + 1, [], rs, h => by simp [setL] at h
  | n + 1, c :: cs, rs, h => by
    simp only [setL, List.mem_cons] at h ⊢
    rcases h with h | h
    · exact .inl (.inl h)
    · rcases mem_setL n cs rs h with h | h
      · exact .inl (.inr h)
      · exact .inr h

/-- One block has been written. -/
structure Wrote (w w' : World) (b : Nat) (o : Obj) : Prop where
  os : w'.os = w.os
  tape : w'.tape = w.tape
  output : w'.output = w.output
  size : w'.heap.size = w.heap.size
  at_ : w'.heap[b]? = some o
  other : ∀ k, k ≠ b → w'.heap[k]? = w.heap[k]?
  dr : w.drawn ≤ w'.drawn

theorem run_storeCells {P : Program} (T : TypeId) (b o : Nat) : ∀ (us : List Value) (i : Nat) (w : World) (vs : List Value), w.heap[b]? = some (.cells vs.toArray T (0, 0)) → o + i + us.length ≤ vs.length → (∀ u ∈ us, u.oneCell' = true) →
    ∃ w', (storeCells ⟨b, o, none⟩ us i).run P w = .ok () w' ∧ Wrote w w' b (.cells (setL (o + i) vs us).toArray T (0, 0))
  | [], i, w, vs, h, hl, h1 => ⟨w, rfl, ⟨rfl, rfl, rfl, rfl, by rw [setL_nil]; exact h, fun _ _ => rfl, Nat.le_refl _⟩⟩
  | u :: us, i, w, vs, h, hl, h1 => by
    simp only [List.length_cons] at hl
    have hc : ∃ v, w.cell? ⟨b, o + i, none⟩ = some v := by
      simp only [World.cell?, h]
      exact ⟨vs[o + i], by simp⟩
    obtain ⟨v, hc⟩ := hc
    have hf : w.frozen? ⟨b, o + i, none⟩ = false := by simp [World.frozen?, h]
    have hb : b < w.heap.size := lt_of_heap h
    have hset : (w.setCell ⟨b, o + i, none⟩ u).heap[b]? = some (.cells (vs.set (o + i) u).toArray T (0, 0)) := by
      simp only [World.setCell, Array.getElem?_modify, if_true, h, Option.map_some]
      simp
    have ih := run_storeCells (P := P) T b o us (i + 1) (w.setCell ⟨b, o + i, none⟩ u) (vs.set (o + i) u) hset (by simp; omega) (fun x hx => h1 x (List.mem_cons_of_mem _ hx))
    obtain ⟨w', hr, hw⟩ := ih
    have hu := h1 u (List.mem_cons_self)
    refine ⟨w', ?_, ⟨hw.os, hw.tape, hw.output, ?_, ?_, fun k hk => ?_, hw.dr⟩⟩
    · have hst : (store ((⟨b, o, none⟩ : Addr).add i) u).run P w = .ok () (w.setCell ⟨b, o + i, none⟩ u) := by
        rw [addr_add]
        have : ∀ v, v.oneCell' = true → (Sem.store .plain (⟨b, o + i, none⟩ : Addr) v (.pure ())).run P w = .ok () (w.setCell ⟨b, o + i, none⟩ v) := by
          intro v hv
          cases v <;> first | (simp [Value.oneCell'] at hv; done) | simp [Sem.run, hc, hf]
        exact this u hu
      simp only [storeCells, Sem.run_bind, hst, Result.andThen]
      exact hr
    · rw [hw.size]; simp [World.setCell]
    · rw [hw.at_, setL_cons u us (o + i) vs (by omega), Nat.add_assoc]
    · rw [hw.other k hk, Below.heap_setCell _ _ _ _ hk]

section run
variable {P : Program} {w : World} {o : Oper} {f : Operand → Value}
theorem run_store {T b off n : Nat} {g : Bool} {x y : Operand} {w' : World} (ho : o.op = .store T x y) (hx : f x = .pointer (some ⟨b, off, none⟩)) (ht : tyF P T = some (n, g)) (hn : (f y).cells.size = n) (h : (storeCells ⟨b, off, none⟩ (f y).cells.toList 0).run P w = .ok () w') : (execOp f o).run P w = .ok .skip w' := by
  have e : execOp f o = (do Instr.storeAt T (f x) (f y); pure .skip) := by simp only [execOp, ho]
  rw [e, hx]
  simp only [Instr.storeAt, Instr.sureAddr, storeVar, Sem.run_bind, Sem.run_pure, Result.andThen, run_sizeT ht, hn, ne_eq, not_true_eq_false, if_false, h]
end run

theorem HeapOk.wrote {C : Ctx} {w w' : World} {μ : Mem} {ρ : List Value} {L : List AO} (h : HeapOk C w μ ρ L) {i b : Nat} {U : TypeId} {cs cs' : List AV} {vs' : List Value} (hL : L[i]? = some (.box U cs)) (hb : ρ[i]? = some (.pointer (some ⟨b, 0, none⟩))) (hr : AReps μ ρ cs' vs') (h1c : ∀ u ∈ vs', u.oneCell' = true)
    (hw : Wrote w w' b (.cells vs'.toArray U (0, 0))) : HeapOk C w' μ ρ (L.set i (.box U cs')) := by
  have hi : i < L.length := by
    rcases Nat.lt_or_ge i L.length with h | h
    · exact h
    · rw [List.getElem?_eq_none h] at hL; cases hL
  have cut : ∀ (j : Nat) o, (L.set i (.box U cs'))[j]? = some o → (j = i ∧ o = .box U cs') ∨ (j ≠ i ∧ L[j]? = some o) := by
    intro j o hj
    rw [List.getElem?_set] at hj
    split at hj
    · rename_i e
      simp only [Option.some.injEq] at hj
      exact .inl ⟨e.symm, hj.symm⟩
    · rename_i e; exact .inr ⟨fun e' => e e'.symm, hj⟩
  have own := h.own i _ _ b hL rfl hb rfl
  have live : ∀ (j : Nat) o, (L.set i (.box U cs'))[j]? = some o → o.live = true → ∃ o', L[j]? = some o' ∧ o'.live = true := by
    intro j o hj hl
    rcases cut j o hj with ⟨rfl, rfl⟩ | ⟨_, h2⟩
    · exact ⟨_, hL, rfl⟩
    · exact ⟨o, h2, hl⟩
  refine ⟨by simp [h.len], ?_, ?_, ?_, ?_, h.le, h.old, ⟨hw.os.trans h.fr.os, hw.tape.trans h.fr.tape, hw.output.trans h.fr.output, by rw [hw.size]; exact h.fr.size, fun k hk hF => ?_, Nat.le_trans h.fr.dr hw.dr⟩, h.n0le, h.keep⟩
  · intro j o v hj hv
    rcases cut j o hj with ⟨rfl, rfl⟩ | ⟨hne, h2⟩
    · rw [hb] at hv; cases hv
      exact ⟨b, vs', rfl, hw.at_, hr, h1c⟩
    · have h3 := h.rep j o v h2 hv
      cases o with
      | box T ds =>
        obtain ⟨b', vs, rfl, h4, h5, h6⟩ := h3
        have hbb : b' ≠ b := fun e => by
          subst e
          exact h.sep j i _ _ _ _ b' hne h2 hL rfl rfl hv hb rfl rfl
        exact ⟨b', vs, rfl, (hw.other b' hbb).trans h4, h5, h6⟩
      | row T sz xs =>
        obtain ⟨flat, h4, h5⟩ := h3
        refine ⟨flat, h4.kept (row := some b) ⟨hw.os, hw.tape, hw.output, by rw [hw.size]; exact Nat.le_refl _, fun k _ hk => hw.other k (fun e => hk (by rw [e]))⟩ ?_, h5⟩
        refine .inr fun e => ?_
        have : blk v = some b := by
          rcases h4.2 with ⟨rfl, _⟩ | ⟨g, cap, cur, rfl, _⟩
          · simp [Value.ownBlock] at e
          · simpa [Value.ownBlock, blk] using e
        exact h.sep j i _ _ _ _ b hne h2 hL rfl rfl hv hb this rfl
      | dead => trivial
      | raw p ob =>
        obtain ⟨g, rfl, h5, h6⟩ := h3
        exact ⟨g, rfl, (hw.other g (fun e => h.sep j i _ _ _ _ b hne h2 hL rfl rfl hv hb (by rw [e]; rfl) rfl)).trans h5, h6⟩
      | arr T sz xs =>
        rcases h3 with ⟨g, cur, h4, h5, h6⟩ | h3
        · exact .inl ⟨g, cur, h4, (hw.other g (fun e => h.sep j i _ _ _ _ b hne h2 hL rfl rfl hv hb (by rw [h4, e]) rfl)).trans h5, h6⟩
        · exact .inr h3
  · intro j k o o' v v' c hjk hj hk hl hl' hv hv' hc
    obtain ⟨p, hp, hpl⟩ := live j o hj hl
    obtain ⟨q, hq, hql⟩ := live k o' hk hl'
    exact h.sep j k p q v v' c hjk hp hq hpl hql hv hv' hc
  · intro j o v c hj hl hv hc
    obtain ⟨p, hp, hpl⟩ := live j o hj hl
    rw [hw.size]
    exact h.own j p v c hp hpl hv hc
  · intro k o hk
    have h1 := h.holds k o hk
    have hkb : k ≠ b := fun e => by subst e; rw [own.1] at hk; cases hk
    rw [hw.other k hkb]; exact h1
  · have hkb : k ≠ b := fun e => by
      subst e
      rcases own.2.2 with h1 | h1
      · exact hF h1
      · omega
    rw [hw.other k hkb]; exact h.fr.block k hk hF

theorem ok_store {C : Ctx} {ops : Array Oper} {Q : Exit → Act → World → Prop} {os : List Oper} {E : Env} {L : List AO} {o : Oper} {T j off n U : Nat} {g : Bool} {x y : Operand} {r : AV} {cs : List AV}
    (hp : o.op = .store T x y) (hg : o.guard = none) (hd : o.dst = none) (hx : Get E x (.box j off)) (hy : Get E y r) (hpl : r.plain = true) (ht : tyF C.P T = some (n, g)) (hn : r.cells.length = n)
    (hL : L[j]? = some (.box U cs)) (hoff : Nat.ble (off + n) cs.length = true)
    (h : OpsOk C ops Q os E (L.set j (.box U (setL off cs r.cells)))) : OpsOk C ops Q (o :: os) E L := by
  refine ok_one (fun a w ⟨⟨μ, ρ, hh, he⟩, hs, hdf⟩ hN K hK => ?_) h
  have h1 := hx μ ρ a he
  simp only [ARep] at h1
  obtain ⟨b, hb, hv⟩ := h1
  obtain ⟨vs, h2, h3, h1c⟩ := hh.boxAt hL hb
  obtain ⟨hyr, hy1⟩ := AV.cells_rep (hy μ ρ a he) hpl
  have hlen := hyr.length
  have hoff' : off + n ≤ cs.length := by simpa using hoff
  have hvl := h3.length
  obtain ⟨w', hr, hw⟩ := run_storeCells (P := C.P) U b off (a.eval y).cells.toList 0 w vs h2 (by omega) hy1
  refine wp_skip1 hg (run_store hp hv ht (by simpa [hn] using hlen) hr) (hK _ _ ⟨⟨μ, ρ, hh.wrote hL hb (h3.setL off hyr) (fun u hu => (mem_setL _ _ _ hu).elim (h1c u) (hy1 u)) (by simpa using hw), ?_⟩, by rw [size_put]; exact hs, by rw [defers_put]; exact hdf⟩)
  rw [hd]; exact he
end Go.Aw

/-! AwR -/
namespace Go.Aw
open Go.RowKit

/-! ### A region that draws its order: each operation is walked once -/
def dstsOf (ops : Array Oper) : List Nat := ops.toList.filterMap (·.dst)
/-- Results so far: the operation's number, its temporary, its result; the newest first. -/
abbrev Rsl := List (Nat × Nat × AV)
def findR : Rsl → Nat → Option (Nat × AV)
  | [], _ => none
  | (j, d, r) :: Rs, t => bif Nat.beq d t then some (j, r) else findR Rs t
def waits (o : Oper) (j : Nat) : Bool := o.after.toList.any fun e => Nat.beq e.on j && Region.binds .any e
/-- What was there before, where the operation that writes it waits for operation i. -/
def oldE (ops : Array Oper) (i : Nat) (E : Env) : Env := fun t => bif (ops.toList.any fun o' => (match o'.dst with | some d => Nat.beq d t | none => false) && waits o' i) then E t else none
def depEnv (ops : Array Oper) (i : Nat) (ds : List Nat) (Rs : Rsl) (E : Env) (o : Oper) : Env := fun t =>
  match findR Rs t with
  | some (j, r) => bif waits o j then some r else oldE ops i E t
  | none => bif ds.elem t then oldE ops i E t else E t
def finEnv (Rs : Rsl) (E : Env) : Env := fun t =>
  match findR Rs t with
  | some (_, r) => some r
  | none => E t

/-- One operation, out of the results of those that it waits for. -/
inductive StepOk (C : Ctx) (ops : Array Oper) (ds : List Nat) (E : Env) (L : List AO) (Rs : Rsl) (i : Nat) (o : Oper) : AV → Prop where
  | plain {r : AV} (hg : o.guard = none) (hm : MStep C o (depEnv ops i ds Rs E o) L r) : StepOk C ops ds E L Rs i o r
  | guarded {r rg : AV} {j t : Nat} {want c : Bool} (hg : o.guard = some (j, want)) (hj : (ops[j]?).bind (·.dst) = some t) (hb : depEnv ops i ds Rs E o t = some rg) (hc : gcond rg want = some c)
      (hm : c = true → MStep C o (depEnv ops i ds Rs E o) L r) : StepOk C ops ds E L Rs i o (.opt c r)

structure Steps (C : Ctx) (ops : Array Oper) (ds : List Nat) (E : Env) (L : List AO) (Rs : Rsl) (k : Nat) : Prop where
  ok : ∀ (i : Nat) o, i < k → ops[i]? = some o → ∃ r, (∀ d, o.dst = some d → findR Rs d = some (i, r)) ∧ StepOk C ops ds E L Rs i o r
  src : ∀ d j r, findR Rs d = some (j, r) → ∃ o, ops[j]? = some o ∧ o.dst = some d ∧ j < k

/-- The edges lead down; no temporary is written twice; none is out of bounds. -/
def drawChk (N : Nat) (ops : Array Oper) (ds : List Nat) : Bool :=
  (ops.toList.zipIdx.all fun (o, i) => o.after.toList.all fun e => !(Region.binds .any e) || Nat.blt e.on i) && ds.all (Nat.blt · N) && decide (dstsOf ops = ds) && decide ds.Nodup

theorem len_filter_le {α : Type} {p q : α → Bool} (h : ∀ x, p x = true → q x = true) : ∀ l : List α, (l.filter p).length ≤ (l.filter q).length
  | [] => by simp
  | x :: l => by
    have ih := len_filter_le h l
    simp only [List.filter_cons]
    cases hp : p x with
    | true => simp [h x hp]; exact ih
    | false => cases hq : q x <;> simp <;> omega
theorem len_filter_lt {α : Type} {p q : α → Bool} (h : ∀ x, p x = true → q x = true) : ∀ (l : List α) (x : α), x ∈ l → p x = false → q x = true → (l.filter p).length < (l.filter q).length
  | y :: l, x, hx, hp, hq => by
    simp only [List.filter_cons]
    cases hx with
    | head => simp only [hp, hq, Bool.false_eq_true, if_false, if_true, List.length_cons]; have := len_filter_le h l; omega
    | tail _ hx =>
      have ih := len_filter_lt h l x hx hp hq
      cases hp' : p y with
      | true => simp [h y hp']; exact ih
      | false => cases hq' : q y <;> simp <;> omega

/-- What was there before is there as long as what writes it isn't carried out. -/
def OldOk (ops : Array Oper) (listed : Array Bool) (μ : Mem) (ρ : List Value) (E : Env) (a : Act) : Prop := ∀ t r, E t = some r → (∀ (j : Nat) o', ops[j]? = some o' → o'.dst = some t → listed.getD j false = false) → ∃ v, a.tmps[t]? = some v ∧ ARep μ ρ r v
def Closed (ops : Array Oper) (listed : Array Bool) : Prop := ∀ (i : Nat) o, listed.getD i false = true → ops[i]? = some o → ∀ e ∈ o.after, Region.binds .any e = true → listed.getD e.on false = true
structure DInv (C : Ctx) (ops : Array Oper) (ds : List Nat) (E : Env) (L : List AO) (Rs : Rsl) (listed : Array Bool) (a : Act) (w : World) : Prop where mk ::
  ex : ∃ μ ρ, HeapOk C w μ ρ L ∧ OldOk ops listed μ ρ E a ∧ (∀ d j r, findR Rs d = some (j, r) → listed.getD j false = true → ∃ v, a.tmps[d]? = some v ∧ ARep μ ρ r v)
  closed : Closed ops listed
  lsize : listed.size = ops.size
  size : a.tmps.size = C.N
  defers : a.defers = C.df

theorem dst_inj {l : List Oper} (h : (l.filterMap (·.dst)).Nodup) : ∀ (i j : Nat) (o o' : Oper) (d : Nat), l[i]? = some o → l[j]? = some o' → o.dst = some d → o'.dst = some d → i = j := by
  induction l with
  | nil => intro i j o o' d hi; simp at hi
  | cons x l ih =>
    intro i j o o' d hi hj hd hd'
    have hmem : ∀ (k : Nat) (p : Oper), l[k]? = some p → p.dst = some d → d ∈ l.filterMap (·.dst) := fun k p hk hp => List.mem_filterMap.2 ⟨p, List.mem_of_getElem? hk, hp⟩
    have hl : (l.filterMap (·.dst)).Nodup := by
      rw [List.filterMap_cons] at h
      split at h
      · exact h
      · exact (List.nodup_cons.1 h).2
    cases i with
    | zero =>
      cases j with
      | zero => rfl
      | succ j =>
        simp at hi hj; subst hi
        rw [List.filterMap_cons_some hd] at h
        exact absurd (hmem j o' hj hd') (List.nodup_cons.1 h).1
    | succ i =>
      cases j with
      | zero =>
        simp at hi hj; subst hj
        rw [List.filterMap_cons_some hd'] at h
        exact absurd (hmem i o hi hd) (List.nodup_cons.1 h).1
      | succ j =>
        simp at hi hj
        rw [ih hl i j o o' d hi hj hd hd']

theorem old_dep {ops : Array Oper} {listed : Array Bool} {μ : Mem} {ρ : List Value} {E : Env} {a : Act} {i k : Nat} {r : AV} (hu : (ops.toList.filterMap (·.dst)).Nodup) (hcl : Closed ops listed) (he : OldOk ops listed μ ρ E a) (h0 : listed.getD i false = false) (h : oldE ops i E k = some r) : ∃ v, a.tmps[k]? = some v ∧ ARep μ ρ r v := by
  have hlex : ∀ (i : Nat) (o : Oper), ops[i]? = some o → ops.toList[i]? = some o := fun i o h => by simpa using h
  unfold oldE at h
  cases hb : (ops.toList.any fun o' => (match o'.dst with | some d => Nat.beq d k | none => false) && waits o' i) with
  | false => rw [hb] at h; cases h
  | true =>
    rw [hb] at h
    simp only [cond_true] at h
    obtain ⟨o1, ho1, h1⟩ := List.any_eq_true.1 hb
    simp only [Bool.and_eq_true] at h1
    obtain ⟨h1, h2⟩ := h1
    obtain ⟨j1, hj1, e1⟩ := List.mem_iff_getElem.1 ho1
    have hj1' : ops.toList[j1]? = some o1 := by rw [List.getElem?_eq_getElem hj1, e1]
    have hd1 : o1.dst = some k := by
      cases hd : o1.dst with
      | none => rw [hd] at h1; cases h1
      | some d => rw [hd] at h1; rw [Nat.eq_of_beq_eq_true h1]
    refine he k r h fun j o' ho' hd' => ?_
    have hjj := dst_inj hu j j1 o' o1 k (hlex j o' ho') hj1' hd' hd1
    subst hjj
    cases hl : listed.getD j false with
    | false => rfl
    | true =>
      unfold waits at h2
      obtain ⟨e, he1, he2⟩ := List.any_eq_true.1 h2
      simp only [Bool.and_eq_true] at he2
      have := hcl j o1 hl (by simpa using hj1') e (by simpa using he1) he2.2
      rw [Nat.eq_of_beq_eq_true he2.1, h0] at this; cases this
theorem OldOk.next {ops : Array Oper} {listed : Array Bool} {μ μ' : Mem} {ρ ρ' : List Value} {E : Env} {a : Act} {i : Nat} {o : Oper} {v : Value} (he : OldOk ops listed μ ρ E a) (hle : MemLe μ μ') (hrl : RhoLe ρ ρ') (ho : ops[i]? = some o) (hl : listed.size = ops.size) : OldOk ops (listed.setIfInBounds i true) μ' ρ' E (a.put o.dst v) := by
  intro t r hk hw
  have hi : i < listed.size := by rw [hl]; exact (Array.getElem?_eq_some_iff.1 ho).1
  have hne : ∀ d, o.dst = some d → t ≠ d := fun d hd e => by
    subst e
    have := hw i o ho hd
    simp [hi] at this
  obtain ⟨v', h1, h2⟩ := he t r hk fun j o' ho' hd' => by
    have := hw j o' ho' hd'
    by_cases hji : j = i
    · subst hji
      rw [ho] at ho'; cases ho'
      exact absurd rfl (hne t hd')
    · rw [getD_set_ne false (Ne.symm hji)] at this; exact this
  refine ⟨v', ?_, ARep.mono hle hrl r v' h2⟩
  cases hdo : o.dst with
  | none => exact h1
  | some d => simp [Act.put, Ne.symm (hne d hdo), h1]
theorem Closed.next {ops : Array Oper} {listed : Array Bool} {i : Nat} {o : Oper} (hcl : Closed ops listed) (ho : ops[i]? = some o) (hl : listed.size = ops.size) (hdeps : ∀ e ∈ o.after, Region.binds .any e = true → listed.getD e.on false = true) : Closed ops (listed.setIfInBounds i true) := by
  intro j o' hlj ho' e he' hb
  by_cases hei : e.on = i
  · rw [hei]
    have : i < listed.size := by rw [hl]; exact (Array.getElem?_eq_some_iff.1 ho).1
    simp [this]
  · rw [getD_set_ne false (Ne.symm hei)]
    by_cases hji : j = i
    · subst hji
      rw [ho] at ho'; cases ho'
      exact hdeps e he' hb
    · rw [getD_set_ne false (Ne.symm hji)] at hlj
      exact hcl j o' hlj ho' e he' hb
theorem draw_any {C : Ctx} {ops : Array Oper} {ds : List Nat} {Q : Exit → Act → World → Prop} {E : Env} {L : List AO} {Rs : Rsl}
    (hd : ∀ (i : Nat) o, ops[i]? = some o → ∀ e ∈ o.after, Region.binds .any e = true → e.on < i) (hds : dstsOf ops = ds) (hN : ∀ d ∈ ds, d < C.N) (hu : ds.Nodup)
    (hs : Steps C ops ds E L Rs ops.size) (h : ExOk C .normal Q (finEnv Rs E) L) :
    ∀ (fuel : Nat) (listed : Array Bool) (a : Act) (w : World), DInv C ops ds E L Rs listed a w → ((List.range ops.size).filter fun i => !listed.getD i true).length ≤ fuel → wpAnyIn (fc C.ro) 0 C.P .any ops Q fuel listed a w := by
  have hlex : ∀ (i : Nat) (o : Oper), ops[i]? = some o → ops.toList[i]? = some o := fun i o h => by simpa using h
  have hmemds : ∀ (i : Nat) o d, ops[i]? = some o → o.dst = some d → d ∈ ds := fun i o d ho hdo => by
    rw [← hds]; exact List.mem_filterMap.2 ⟨o, List.mem_of_getElem? (hlex i o ho), hdo⟩
  have fin : ∀ (listed : Array Bool) (a : Act) (w : World), DInv C ops ds E L Rs listed a w → Region.ready .any ops listed = [] → Q .normal a w := by
    intro listed a w ⟨⟨μ, ρ, hh, he, hj⟩, hcl, hl, hsz, hdf⟩ hr
    have all : ∀ i, i < ops.size → listed.getD i false = true := by
      intro i
      induction i using Nat.strongRecOn with
      | _ i ih =>
        intro hi
        cases hli : listed.getD i true with
        | true =>
          have : i < listed.size := by omega
          simp only [Array.getD, this, dif_pos] at hli ⊢
          exact hli
        | false =>
          have hm : i ∈ Region.ready .any ops listed := mem_ready.2 ⟨hli, ops[i], by simp [hi], fun e he' hb => by
            have hji : e.on < i := hd i ops[i] (by simp [hi]) e he' hb
            exact ih e.on hji (by omega)⟩
          rw [hr] at hm; cases hm
    refine h a w ⟨⟨μ, ρ, hh, fun k r hk => ?_⟩, hsz, hdf⟩
    unfold finEnv at hk
    split at hk
    · rename_i j r' h1
      cases hk
      obtain ⟨o, ho, _, hjk⟩ := hs.src k j r h1
      exact hj k j r h1 (all j hjk)
    · rename_i h1
      refine he k r hk fun i o ho1 ho2 => ?_
      exfalso
      obtain ⟨r', hr', _⟩ := hs.ok i o (Array.getElem?_eq_some_iff.1 ho1).1 ho1
      rw [hr' k ho2] at h1; cases h1
  intro fuel
  induction fuel with
  | zero =>
    intro listed a w hi hf
    have hr : Region.ready .any ops listed = [] := by
      rw [List.eq_nil_iff_forall_not_mem]
      intro i him
      have h0 := (mem_ready.1 him).1
      obtain ⟨o, ho, _⟩ := (mem_ready.1 him).2
      have hi' : i < ops.size := (Array.getElem?_eq_some_iff.1 ho).1
      have : i ∈ (List.range ops.size).filter fun i => !listed.getD i true := List.mem_filter.2 ⟨List.mem_range.2 hi', by rw [h0]; rfl⟩
      have hnil := List.eq_nil_of_length_eq_zero (Nat.le_zero.1 hf)
      rw [hnil] at this; cases this
    exact ⟨hr, fin listed a w hi hr⟩
  | succ fuel ih =>
    intro listed a w hi hf
    refine ⟨fin listed a w hi, fun i him => ?_⟩
    obtain ⟨h0, o, ho, hdeps⟩ := mem_ready.1 him
    have hi' : i < ops.size := (Array.getElem?_eq_some_iff.1 ho).1
    obtain ⟨⟨μ, ρ, hh, he, hj⟩, hcl, hl, hsz, hdf⟩ := hi
    obtain ⟨r, hr, hst⟩ := hs.ok i o hi' ho
    have h0f : listed.getD i false = false := by
      have : i < listed.size := by omega
      simp only [Array.getD, this, dif_pos] at h0 ⊢
      exact h0
    have hu' : (ops.toList.filterMap (·.dst)).Nodup := by have := hu; rw [← hds] at this; exact this
    have hdep : EnvOk μ ρ (depEnv ops i ds Rs E o) a := by
      intro k r' hk
      unfold depEnv at hk
      split at hk
      · rename_i j r'' h1
        cases hwj : waits o j with
        | false => rw [hwj] at hk; exact old_dep hu' hcl he h0f hk
        | true =>
          rw [hwj] at hk; cases hk
          unfold waits at hwj
          obtain ⟨e, he1, he2⟩ := List.any_eq_true.1 hwj
          simp only [Bool.and_eq_true] at he2
          have := Nat.eq_of_beq_eq_true he2.1
          subst this
          exact hj k _ r' h1 (hdeps e (by simpa using he1) he2.2)
      · cases hbk : ds.elem k with
        | true => rw [hbk] at hk; exact old_dep hu' hcl he h0f hk
        | false =>
          rw [hbk] at hk
          refine he k r' hk fun j o' ho' hd' => ?_
          exfalso
          have : ds.elem k = true := List.elem_iff.2 (hmemds j o' k ho' hd')
          rw [hbk] at this; cases this
    have next : ∀ v w' μ', Grow w μ w' μ' → ARep μ' ρ r v → wpAnyIn (fc C.ro) 0 C.P .any ops Q fuel (listed.setIfInBounds i true) (a.put o.dst v) w' := by
      intro v w' μ' g hv
      have hput : ∀ k, (∀ d, o.dst = some d → k ≠ d) → (a.put o.dst v).tmps[k]? = a.tmps[k]? := by
        intro k hk
        cases hdo : o.dst with
        | none => rfl
        | some d => simp [Act.put, Ne.symm (hk d hdo)]
      refine ih _ _ _ ⟨⟨μ', ρ, hh.grow g, he.next g.le (RhoLe.refl ρ) ho hl, fun d j r' hje hlj => ?_⟩, hcl.next ho hl hdeps, by simpa using hl, by rw [size_put]; exact hsz, by rw [defers_put]; exact hdf⟩ ?_
      · obtain ⟨o', ho', hd', _⟩ := hs.src d j r' hje
        by_cases hji : j = i
        · subst hji
          rw [ho] at ho'; cases ho'
          have := hr d hd'
          rw [hje] at this
          simp only [Option.some.injEq, Prod.mk.injEq, true_and] at this
          subst this
          exact ⟨v, by rw [hd']; simp [Act.put, hsz, hN d (hmemds j o d ho hd')], hv⟩
        · have hlj' : listed.getD j false = true := by rw [getD_set_ne false (Ne.symm hji)] at hlj; exact hlj
          obtain ⟨v', h1, h2⟩ := hj d j r' hje hlj'
          refine ⟨v', ?_, ARep.mono g.le (RhoLe.refl ρ) r' v' h2⟩
          rw [hput d (fun d' hdo e => hji (dst_inj (l := ops.toList) (by have := hu; rw [← hds] at this; exact this) j i o' o d (hlex j o' ho') (hlex i o ho) hd' (by rw [hdo, e])))]
          exact h1
      · have : ((List.range ops.size).filter fun k => !(listed.setIfInBounds i true).getD k true).length < ((List.range ops.size).filter fun k => !listed.getD k true).length := by
          refine len_filter_lt (fun k hk => ?_) _ i (List.mem_range.2 hi') ?_ (by rw [h0]; rfl)
          · by_cases hki : i = k
            · subst hki
              rw [h0]; rfl
            · rw [getD_set_ne true hki] at hk; exact hk
          · have : i < listed.size := by omega
            simp [this]
        omega
    unfold wpOpIn
    simp only [ho]
    cases hst with
    | plain hg hm =>
      simp only [Region.wanted, hg, if_true]
      exact (hm a w μ ρ _ Q hh hdep next)
    | @guarded r' rg j t want c hg hj' hb hc hm =>
      obtain ⟨vb, hv1, hv2⟩ := hdep t _ hb
      have hy := gcond_wanted hc hv2 hj' hv1
      simp only [Region.wanted, hg, hy]
      cases c with
      | true =>
        rw [if_pos rfl]
        exact (hm rfl a w μ ρ _ Q hh hdep fun v w' μ' g hr' => next v w' μ' g (by simp only [ARep]; exact ⟨fun _ => hr', fun h => (by cases h)⟩))
      | false =>
        rw [if_neg (by simp)]
        refine ⟨fun _ _ => trivial, ?_⟩
        exact next undef w μ (Grow.refl hh) (by unfold ARep; exact ⟨fun h => (by cases h), fun _ => rfl⟩)

/-- The walk through the operations in the order of the text: results so far; what is left. -/
def DrawK (C : Ctx) (id : Nat) (ops : Array Oper) (ds : List Nat) (Q : Exit → Act → World → Prop) (E : Env) (L : List AO) (Rs : Rsl) (k : Nat) (os : List Oper) : Prop :=
  drawChk C.N ops ds = true → ops.toList.drop k = os → Steps C ops ds E L Rs k → CodeOk C (.region id ops true) Q E L

theorem drawChk_out {N : Nat} {ops : Array Oper} {ds : List Nat} (h : drawChk N ops ds = true) :
    (∀ (i : Nat) o, ops[i]? = some o → ∀ e ∈ o.after, Region.binds .any e = true → e.on < i) ∧ (∀ d ∈ ds, d < N) ∧ dstsOf ops = ds ∧ ds.Nodup := by
  unfold drawChk at h
  simp only [Bool.and_eq_true, decide_eq_true_eq] at h
  obtain ⟨⟨⟨h1, h2⟩, h3⟩, h4⟩ := h
  refine ⟨fun i o ho e he hb => ?_, fun d hd => by simpa [Nat.blt_eq] using List.all_eq_true.1 h2 d hd, h3, h4⟩
  have hm : (o, i) ∈ ops.toList.zipIdx := by rw [List.mem_zipIdx_iff_getElem?]; simpa using ho
  have := List.all_eq_true.1 (List.all_eq_true.1 h1 (o, i) hm) e (by simpa using he)
  simp only [hb, Bool.not_true, Bool.false_or] at this
  simpa [Nat.blt_eq] using this

theorem depEnv_cons {ops : Array Oper} {i : Nat} {ds : List Nat} {Rs : Rsl} {E : Env} {o : Oper} {k d : Nat} {r : AV} (h1 : findR Rs d = none) (h2 : d ∈ ds) (h3 : waits o k = false) : depEnv ops i ds ((k, d, r) :: Rs) E o = depEnv ops i ds Rs E o := by
  funext t
  unfold depEnv
  simp only [findR]
  cases hb : Nat.beq d t with
  | false => rfl
  | true =>
    have := Nat.eq_of_beq_eq_true hb
    subst this
    simp only [cond_true, h3, cond_false, h1, List.elem_iff.2 h2]
theorem StepOk.cons {C : Ctx} {ops : Array Oper} {ds : List Nat} {E : Env} {L : List AO} {Rs : Rsl} {i : Nat} {o : Oper} {k d : Nat} {r r' : AV} (h1 : findR Rs d = none) (h2 : d ∈ ds) (h3 : waits o k = false) (s : StepOk C ops ds E L Rs i o r) : StepOk C ops ds E L ((k, d, r') :: Rs) i o r := by
  cases s with
  | plain hg hm => exact .plain hg (by rw [depEnv_cons h1 h2 h3]; exact hm)
  | guarded hg hj hb hc hm => exact .guarded hg hj (by rw [depEnv_cons h1 h2 h3]; exact hb) hc (by rw [depEnv_cons h1 h2 h3]; exact hm)
theorem waits_down {ops : Array Oper} {i k : Nat} {o : Oper} (hd : ∀ e ∈ o.after, Region.binds .any e = true → e.on < i) (hik : i ≤ k) : waits o k = false := by
  cases h : waits o k with
  | false => rfl
  | true =>
    unfold waits at h
    obtain ⟨e, he1, he2⟩ := List.any_eq_true.1 h
    simp only [Bool.and_eq_true] at he2
    have := Nat.eq_of_beq_eq_true he2.1
    have := hd e (by simpa using he1) he2.2
    omega

theorem draw_step {C : Ctx} {id : Nat} {ops : Array Oper} {ds : List Nat} {Q : Exit → Act → World → Prop} {E : Env} {L : List AO} {Rs : Rsl} {k d : Nat} {o : Oper} {os : List Oper} {r : AV}
    (hd : o.dst = some d) (hs : StepOk C ops ds E L Rs k o r) (h : DrawK C id ops ds Q E L ((k, d, r) :: Rs) (k + 1) os) : DrawK C id ops ds Q E L Rs k (o :: os) := by
  intro hc hk hst
  obtain ⟨hdown, hN, hds, hu⟩ := drawChk_out hc
  obtain ⟨ho, hk'⟩ := drop_cons hk
  have hlex : ∀ (i : Nat) (o : Oper), ops[i]? = some o → ops.toList[i]? = some o := fun i o h => by simpa using h
  have hmem : d ∈ ds := by rw [← hds]; exact List.mem_filterMap.2 ⟨o, List.mem_of_getElem? (hlex k o ho), hd⟩
  have hu' : (ops.toList.filterMap (·.dst)).Nodup := by have := hu; rw [← hds] at this; exact this
  have hnone : findR Rs d = none := by
    cases hf : findR Rs d with
    | none => rfl
    | some p =>
      obtain ⟨j, r'⟩ := p
      obtain ⟨o', ho', hd', hj⟩ := hst.src d j r' hf
      have := dst_inj hu' j k o' o d (hlex j o' ho') (hlex k o ho) hd' hd
      omega
  refine h hc hk' ⟨fun i o' hi ho' => ?_, fun d' j r' hf => ?_⟩
  · by_cases hik : i = k
    · subst hik
      rw [ho] at ho'; cases ho'
      exact ⟨r, fun d' hd' => by rw [hd] at hd'; cases hd'; simp [findR], hs.cons hnone hmem (waits_down (ops := ops) (hdown i o ho) (Nat.le_refl _))⟩
    · have hi' : i < k := by omega
      obtain ⟨r', h1, h2⟩ := hst.ok i o' hi' ho'
      refine ⟨r', fun d' hd' => ?_, h2.cons hnone hmem (waits_down (ops := ops) (hdown i o' ho') (by omega))⟩
      have hne : d ≠ d' := fun e => by
        subst e
        have := dst_inj hu' i k o' o d (hlex i o' ho') (hlex k o ho) hd' hd
        exact hik this
      simp only [findR]
      rw [show Nat.beq d d' = false by cases hb : Nat.beq d d' with | false => rfl | true => exact absurd (Nat.eq_of_beq_eq_true hb) hne]
      exact h1 d' hd'
  · simp only [findR] at hf
    cases hb : Nat.beq d d' with
    | true =>
      rw [hb] at hf
      simp only [cond_true, Option.some.injEq, Prod.mk.injEq] at hf
      obtain ⟨rfl, rfl⟩ := hf
      have := Nat.eq_of_beq_eq_true hb
      subst this
      exact ⟨o, ho, hd, by omega⟩
    | false =>
      rw [hb] at hf
      obtain ⟨o', h1, h2, h3⟩ := hst.src d' j r' hf
      exact ⟨o', h1, h2, by omega⟩
theorem draw_step0 {C : Ctx} {id : Nat} {ops : Array Oper} {ds : List Nat} {Q : Exit → Act → World → Prop} {E : Env} {L : List AO} {Rs : Rsl} {k : Nat} {o : Oper} {os : List Oper} {r : AV}
    (hd : o.dst = none) (hs : StepOk C ops ds E L Rs k o r) (h : DrawK C id ops ds Q E L Rs (k + 1) os) : DrawK C id ops ds Q E L Rs k (o :: os) := by
  intro hc hk hst
  obtain ⟨ho, hk'⟩ := drop_cons hk
  refine h hc hk' ⟨fun i o' hi ho' => ?_, fun d' j r' hf => ?_⟩
  · by_cases hik : i = k
    · subst hik
      rw [ho] at ho'; cases ho'
      exact ⟨r, fun d' hd' => (by rw [hd] at hd'; cases hd'), hs⟩
    · exact hst.ok i o' (by omega) ho'
  · obtain ⟨o', h1, h2, h3⟩ := hst.src d' j r' hf
    exact ⟨o', h1, h2, by omega⟩
theorem draw_end {C : Ctx} {id : Nat} {ops : Array Oper} {ds : List Nat} {Q : Exit → Act → World → Prop} {E : Env} {L : List AO} {Rs : Rsl} {k : Nat}
    (hm : C.P.follows .mixedOrders = true) (h : ExOk C .normal Q (finEnv Rs E) L) : DrawK C id ops ds Q E L Rs k [] := by
  intro hc hk hst a w ⟨⟨μ, ρ, hh, he⟩, hsz, hdf⟩
  obtain ⟨hdown, hN, hds, hu⟩ := drawChk_out hc
  refine wpIn_region_any hm ?_
  have g : Grow w μ { w with drawn := w.drawn + 1 } μ := ⟨MemLe.refl μ, fun _ _ => rfl, hh.holds, ⟨rfl, rfl, rfl, Nat.le_refl _, fun _ _ => rfl⟩, Nat.le_succ _⟩
  have hkk : ops.size ≤ k := by
    rcases Nat.lt_or_ge k ops.size with h | h
    · have := congrArg List.length hk; simp at this; omega
    · exact h
  have hst' : Steps C ops ds E L Rs ops.size := ⟨fun i o hi ho => hst.ok i o (by omega) ho, fun d j r hf => by
    obtain ⟨o, h1, h2, _⟩ := hst.src d j r hf
    exact ⟨o, h1, h2, (Array.getElem?_eq_some_iff.1 h1).1⟩⟩
  refine draw_any hdown hds hN hu hst' h ops.size _ a _ ⟨⟨μ, ρ, hh.grow g, fun k' r hk' _ => he k' r hk', fun d j r _ hj => ?_⟩, fun j o hj => ?_, by simp, hsz, hdf⟩ ?_
  · exfalso
    by_cases hlt : j < ops.size
    · simp [hlt] at hj
    · simp [hlt] at hj
  · exfalso
    by_cases hlt : j < ops.size
    · simp [hlt] at hj
    · simp [hlt] at hj
  · have := List.length_filter_le (fun i => !(Array.replicate ops.size false).getD i true) (List.range ops.size)
    simpa using this
theorem ok_draw {C : Ctx} {id : Nat} {ops : Array Oper} {Q : Exit → Act → World → Prop} {E : Env} {L : List AO} {N : Nat} (ds : List Nat) (hN : C.N = N) (hc : drawChk N ops ds = true) (h : DrawK C id ops ds Q E L [] 0 ops.toList) : CodeOk C (.region id ops true) Q E L :=
  h (by rw [hN]; exact hc) rfl ⟨fun i o hi => absurd hi (Nat.not_lt_zero i), fun d j r hf => by simp [findR] at hf⟩
end Go.Aw

/-! AwC -/
namespace Go.Aw
open Go.RowKit

/-! ### Contracts -/
def Enters (P : Program) (f : FuncId) : Prop := ∀ args w, (callFunc f args).run P w = .ok (.enter f args) w
theorem enters_of {P : Program} {f : FuncId} {fn : Func} {c : Code} (hf : P.funcs[f]? = some fn) (hn : (fn.name == "runtime.NumGoroutine") = false) (hb : fn.body = some c) : Enters P f := by
  intro args w
  have hn' : ¬ fn.name = "runtime.NumGoroutine" := by simpa using hn
  unfold callFunc
  simp [hf, hn', hb, go_sem]

/-- Called with values of these data: the result is this one's; memory grows at most. -/
def Pure (P : Program) (f : FuncId) (xs : List D) (r : D) : Prop :=
  Enters P f ∧ ∀ (w : World) (μ : Mem) (vs : List Value), (∀ b o, μ b = some o → w.heap[b]? = some o) → GlobOk P μ → Reps μ xs vs →
    Calls P f vs.toArray w fun e w' => ∃ v μ', e = .returned v ∧ Grow w μ w' μ' ∧ Rep μ' r v

def PostP (w : World) (μ : Mem) (r : D) (e : Ending) (w' : World) : Prop := ∃ v μ', e = .returned v ∧ Grow w μ w' μ' ∧ Rep μ' r v
def argEnv : Nat → List D → Env
  | _, [] => none0
  | k, x :: xs => upd k (.d x) (argEnv (k + 1) xs)
theorem look_argEnv {μ : Mem} : ∀ (xs : List D) (vs : List Value) (k n : Nat) (r : AV), Reps μ xs vs → argEnv k xs n = some r → ∃ j v x, n = k + j ∧ vs[j]? = some v ∧ r = .d x ∧ Rep μ x v
  | [], vs, k, n, r, _, h => by simp [argEnv, none0] at h
  | x :: xs, vs, k, n, r, hr, h => by
    simp only [Reps] at hr
    obtain ⟨v, vs', rfl, h1, h2⟩ := hr
    simp only [argEnv, upd] at h
    cases hb : Nat.beq k n with
    | true =>
      simp only [hb, cond_true, Option.some.injEq] at h
      have := Nat.eq_of_beq_eq_true hb
      exact ⟨0, v, x, by omega, rfl, h.symm, h1⟩
    | false =>
      simp only [hb, cond_false] at h
      obtain ⟨j, v', x', h3, h4, h5, h6⟩ := look_argEnv xs vs' (k + 1) n r h2 h
      exact ⟨j + 1, v', x', by omega, by simpa using h4, h5, h6⟩

theorem pure_of {P : Program} {f : FuncId} {fn : Func} {c : Code} {N : Nat} {xs : List D} {r : D} (hf : P.funcs[f]? = some fn) (hn : (fn.name == "runtime.NumGoroutine") = false) (hb : fn.body = some c) (hN : fn.ntmps = N) (hl : xs.length ≤ N)
    (h : ∀ w μ, CodeOk ⟨P, N, w, μ, fun _ => False, 0, [], none, []⟩ c (bodyPost P fn (PostP w μ r)) (argEnv 0 xs) []) : Pure P f xs r := by
  refine ⟨enters_of hf hn hb, fun w μ vs hm hG hr => ?_⟩
  have hlen := hr.length
  refine calls_of_wp hf hb ((wpIn_wide (n := 0)).1 (h w μ _ _ ⟨⟨μ, [], ?_, fun k r hk => ?_⟩, ?_, rfl⟩))
  · exact ⟨rfl, fun i o v h => by simp at h, fun i j o o' v v' b _ h => by simp at h, fun i o v b h => by simp at h, hm, ⟨MemLe.refl μ, hG⟩, fun _ _ => rfl, Fr.refl _ _, Nat.le_refl _, fun i hi => absurd hi (Nat.not_lt_zero i)⟩
  · obtain ⟨j, v, x, h1, h2, rfl, h3⟩ := look_argEnv xs vs 0 k r hr hk
    refine ⟨v, ?_, by simpa only [ARep] using h3⟩
    have hj : j < vs.length := (List.getElem?_eq_some_iff.1 h2).1
    rw [h1, Nat.zero_add, Array.getElem?_append_left (by simpa using hj)]
    simpa using h2
  · simp [hN, hlen]; omega

/-! ### The end -/
theorem sim_grow {C : Ctx} {w : World} {μ : Mem} {ρ : List Value} {L : List AO} (hF : C.F = fun _ => False) (h : HeapOk C w μ ρ L) : Grow C.w0 C.μ0 w μ :=
  ⟨h.le.le, h.old, h.holds, by have := h.fr; rw [hF] at this; exact this.toBelow, h.fr.dr⟩
theorem run_results_tmp {P : Program} {w : World} {fn : Func} {t : Tmp} {tmps : Array Value} (h : fn.results = #[.tmp t]) : (results fn tmps).run P w = .ok (tmps.getD t undef) w := by
  simp [results, h, go_sem]
theorem ret_tmp {P : Program} {N : Nat} {w : World} {μ : Mem} {fn : Func} {t : Tmp} {E : Env} {L : List AO} {rr : AV} {r : D} (hr : fn.results = #[.tmp t]) (hl : E t = some rr) (hd : rr.toD = some r) :
    ExOk ⟨P, N, w, μ, fun _ => False, 0, [], none, []⟩ .ret (bodyPost P fn (PostP w μ r)) E L := by
  intro a w' ⟨⟨μ', ρ, hh, he⟩, hs, hdf⟩
  obtain ⟨v, h1, h2⟩ := he t rr hl
  refine ⟨hdf, v, ?_, v, μ', rfl, sim_grow rfl hh, AV.toD_rep rr r v hd h2⟩
  rw [run_results_tmp hr]; simp [h1]
theorem run_results_cell {P : Program} {w : World} {fn : Func} {t : Tmp} {T : TypeId} {tmps : Array Value} {b : Nat} {v : Value} (h : fn.results = #[.cell t T]) (ht : tmps.getD t undef = .pointer (some ⟨b, 0, none⟩)) (hl : (loadVar T ⟨b, 0, none⟩).run P w = .ok v w) : (results fn tmps).run P w = .ok v w := by
  have ht' : tmps[t]?.getD undef = .pointer (some ⟨b, 0, none⟩) := by simpa [Array.getD_eq_getD_getElem?] using ht
  unfold results
  rw [h]
  simp [ht', asAddr, hl]
theorem ret_cellA {P : Program} {N : Nat} {w : World} {μ : Mem} {fn : Func} {t : Tmp} {E : Env} {L : List AO} {cs : List AV} {T U i n : Nat} {r : D} (hr : fn.results = #[.cell t T]) (hl : E t = some (.box i 0)) (hL : L[i]? = some (.box U cs)) (ht : tyF P T = some (n, true)) (hn : cs.length = n) (hd : (AV.agg cs).toD = some r) :
    ExOk ⟨P, N, w, μ, fun _ => False, 0, [], none, []⟩ .ret (bodyPost P fn (PostP w μ r)) E L := by
  intro a w' ⟨⟨μ', ρ, hh, he⟩, hs, hdf⟩
  obtain ⟨v, h1, h2⟩ := he t _ hl
  simp only [ARep] at h2
  obtain ⟨b, hb, rfl⟩ := h2
  obtain ⟨vs, h3, h4, h1c⟩ := hh.boxAt hL hb
  have hlen := h4.length
  have hload := run_loadVar_agg (P := P) (w := w') (T := T) (b := b) (o := 0) (n := n) (vs := vs) ht (by omega) (cellsW_of_heap h3 fun j v hj => by simpa using hj)
  refine ⟨hdf, .agg vs.toArray, run_results_cell hr (by simp [h1]) hload, _, μ', rfl, sim_grow rfl hh, ?_⟩
  exact AV.toD_rep (.agg cs) r _ hd (by simp only [ARep]; exact ⟨vs, rfl, h4, h1c⟩)

/-! ### Calls -/
def GetDs (E : Env) : List Operand → List D → Prop
  | [], ds => ds = []
  | x :: xs, ds => ∃ r d ds', Get E x r ∧ r.toD = some d ∧ ds = d :: ds' ∧ GetDs E xs ds'
theorem gd_nil (E : Env) : GetDs E [] [] := rfl
theorem gd {E : Env} {x : Operand} {xs : List Operand} {r : AV} {d : D} {ds : List D} (hx : Get E x r) (hd : r.toD = some d) (h : GetDs E xs ds) : GetDs E (x :: xs) (d :: ds) := ⟨r, d, ds, hx, hd, rfl, h⟩
theorem GetDs.reps {E : Env} {μ : Mem} {ρ : List Value} {a : Act} (he : EnvOk μ ρ E a) : ∀ {xs : List Operand} {ds : List D}, GetDs E xs ds → Reps μ ds (xs.map a.eval)
  | [], ds, h => by simp only [GetDs] at h; subst h; simp [Reps]
  | x :: xs, ds, h => by
    simp only [GetDs] at h
    obtain ⟨r, d, ds', h1, h2, rfl, h3⟩ := h
    simp only [List.map_cons, Reps]
    exact ⟨_, _, rfl, AV.toD_rep r d _ h2 (h1 μ ρ a he), GetDs.reps he h3⟩

section run
variable {P : Program} {w : World} {o : Oper} {f : Operand → Value}
theorem run_call_val {fx : Operand} {args : Array Operand} {ts : Array TypeId} {g : FuncId} {caps : Array Value} (ho : o.op = .call { callee := .value fx, args := args, argTypes := ts }) (hf : f fx = .func (.func g) #[] caps) (he : Enters P g) : (execOp f o).run P w = .ok (.enter g ((args.map f) ++ caps)) w := by
  have e1 : execOp f o = (do let d ← resolve f { callee := .value fx, args := args, argTypes := ts } o.type; invoke d.target d.args) := by simp only [execOp, ho]
  rw [e1]
  simp only [resolve, hf, Deferred.ofValue, Sem.run_bind, Sem.run_pure, Result.andThen, invoke]
  have := he ((args.map f) ++ caps) w
  simpa using this
end run

theorem Reps.append {μ : Mem} : ∀ {xs ys : List D} {vs us : List Value}, Reps μ xs vs → Reps μ ys us → Reps μ (xs ++ ys) (vs ++ us)
  | [], ys, vs, us, h, k => by simp only [Reps] at h; subst h; simpa using k
  | x :: xs, ys, vs, us, h, k => by
    simp only [Reps] at h
    obtain ⟨v, vs', rfl, h1, h2⟩ := h
    simp only [List.cons_append, Reps]
    exact ⟨v, _, rfl, h1, Reps.append h2 k⟩

/-- A call of a function, or of a function value with what it captured. -/
theorem m_callv {C : Ctx} {o : Oper} {E : Env} {L : List AO} {fx : Operand} {args : Array Operand} {ts : Array TypeId} {g : FuncId} {rf : AV} {xs caps : List D} {r : D}
    (ho : o.op = .call { callee := .value fx, args := args, argTypes := ts }) (hf : Get E fx rf) (hfd : rf.toD = some (.clo (.func g) caps)) (ha : GetDs E args.toList xs) (hp : Pure C.P g (xs ++ caps) r) : MStep C o E L (.d r) := by
  intro a w μ ρ K Q hh he hk
  have h1 := AV.toD_rep rf _ _ hfd (hf μ ρ a he)
  simp only [Rep] at h1
  obtain ⟨cv, hc1, hc2⟩ := h1
  have h2 := ha.reps he
  refine owp_enter (run_call_val ho hc1 hp.1) ?_
  have h3 := hp.2 w μ _ hh.holds hh.le.glob (h2.append hc2)
  have e : (List.map a.eval args.toList ++ cv).toArray = Array.map a.eval args ++ cv.toArray := by apply Array.ext'; simp
  rw [e] at h3
  refine h3.mono fun e w' ⟨v, μ', he', hg, hr⟩ => ?_
  subst he'
  exact hk v w' μ' hg (by simpa only [ARep] using hr)
theorem m_call {C : Ctx} {o : Oper} {E : Env} {L : List AO} {args : Array Operand} {ts : Array TypeId} {g : FuncId} {xs : List D} {r : D}
    (ho : o.op = .call { callee := .value (.func g), args := args, argTypes := ts }) (ha : GetDs E args.toList xs) (hp : Pure C.P g xs r) : MStep C o E L (.d r) :=
  m_callv ho (get_func E g) rfl ha (by rw [List.append_nil]; exact hp)

/-! ### Slices that are made of their elements -/
theorem HeapOk.growNew {w : World} {μ : Mem} (hm : ∀ b o, μ b = some o → w.heap[b]? = some o) (o : Obj) : Grow w μ (w.alloc o) (fun b => if b = w.heap.size then some o else μ b) := by
  have hnone : μ w.heap.size = none := by
    cases h : μ w.heap.size with
    | none => rfl
    | some ob => have := lt_of_heap (hm _ _ h); omega
  refine ⟨fun b ob hb => ?_, fun b hb => ?_, fun b ob hb => ?_, below_alloc' w o, Nat.le_refl _⟩
  · have : b ≠ w.heap.size := fun e => by subst e; rw [hnone] at hb; cases hb
    simp [this, hb]
  · have : b ≠ w.heap.size := by omega
    simp [this]
  · by_cases h : b = w.heap.size
    · subst h
      simp only [if_true, Option.some.injEq] at hb
      subst hb; exact heap_push_new w o
    · simp only [h, if_false] at hb
      have h1 := hm b ob hb
      rw [(below_alloc' w o).block b (lt_of_heap h1)]; exact h1
end Go.Aw

/-! AwX -/
namespace Go.Aw
open Go.RowKit

/-! ### len, extract, field -/
section run
variable {P : Program} {w : World} {o : Oper} {f : Operand → Value}
theorem run_len_slice {x : Operand} {T e : TypeId} {a : Option Addr} {n c : Nat} (ho : o.op = .call { callee := .builtin .len, args := #[x], argTypes := #[T] }) (ht : P.underlying T = some (.slice e)) (hx : f x = .slice a n c) : (execOp f o).run P w = .ok (.value (.int .i64 n)) w := by
  have e1 : execOp f o = (do let d ← resolve f { callee := .builtin .len, args := #[x], argTypes := #[T] } o.type; invoke d.target d.args) := by simp only [execOp, ho]
  rw [e1]
  simp [resolve, invoke, builtin, Builtin.len_, hx, run_underlying ht, goInt]
theorem run_len_str {x : Operand} {T : TypeId} {s : ByteArray} (ho : o.op = .call { callee := .builtin .len, args := #[x], argTypes := #[T] }) (ht : P.underlying T = some .string) (hx : f x = .string s) : (execOp f o).run P w = .ok (.value (.int .i64 s.size)) w := by
  have e1 : execOp f o = (do let d ← resolve f { callee := .builtin .len, args := #[x], argTypes := #[T] } o.type; invoke d.target d.args) := by simp only [execOp, ho]
  rw [e1]
  simp [resolve, invoke, builtin, Builtin.len_, hx, run_underlying ht, goInt]
theorem run_extract {x : Operand} {k : Nat} {vs : Array Value} {v : Value} (ho : o.op = .extract x k) (hx : f x = .tuple vs) (hk : vs[k]? = some v) : (execOp f o).run P w = .ok (.value v) w := by
  have e1 : execOp f o = (do let z ← Instr.extract (f x) k; pure (.value z)) := by simp only [execOp, ho]
  rw [e1]
  simp [Instr.extract, hx, hk]
end run
theorem m_len {C : Ctx} {o : Oper} {E : Env} {L : List AO} {x : Operand} {T e sz : Nat} {s : Nat} {xs : List D} (ho : o.op = .call { callee := .builtin .len, args := #[x], argTypes := #[T] }) (ht : elemF C.P T = some (e, s)) (hx : Get E x (.d (.list sz xs))) : MStep C o E L (.d (.int .i64 xs.length)) :=
  mstep_pure fun a w μ ρ hh he => by
    have h1 := hx μ ρ a he
    simp only [ARep, Rep] at h1 ⊢
    obtain ⟨ad, c, hv, _⟩ := h1
    exact ⟨_, run_len_slice ho (elemF_out ht).1 hv, rfl⟩
theorem m_lens {C : Ctx} {o : Oper} {E : Env} {L : List AO} {x : Operand} {T : Nat} {s : ByteArray} (ho : o.op = .call { callee := .builtin .len, args := #[x], argTypes := #[T] }) (ht : C.P.underlying T = some .string) (hx : Get E x (.d (.str s))) : MStep C o E L (.d (.int .i64 s.size)) :=
  mstep_pure fun a w μ ρ hh he => by
    have h1 := hx μ ρ a he
    simp only [ARep, Rep] at h1 ⊢
    exact ⟨_, run_len_str ho ht h1, rfl⟩
theorem m_extract {C : Ctx} {o : Oper} {E : Env} {L : List AO} {x : Operand} {k : Nat} {ds : List D} {r : D} (ho : o.op = .extract x k) (hx : Get E x (.d (.tup ds))) (hr : ds[k]? = some r) : MStep C o E L (.d r) :=
  mstep_pure fun a w μ ρ hh he => by
    have h1 := hx μ ρ a he
    simp only [ARep, Rep] at h1
    obtain ⟨vs, hv, h2⟩ := h1
    obtain ⟨v, h3, h4⟩ := h2.at k r hr
    exact ⟨v, run_extract ho hv (by simpa using h3), by simpa only [ARep] using h4⟩

/-! ### A slice of its elements -/
/-- The parts: element 0, 1, .. in their order. -/
def partsOk : Nat → List (Nat × Operand) → Bool
  | _, [] => true
  | k, (i, _) :: ps => Nat.beq i k && partsOk (k + 1) ps
def flatV : List Value → List Value
  | [] => []
  | v :: vs => v.cells.toList ++ flatV vs
theorem flatV_length {sz : Nat} : ∀ {vs : List Value}, (∀ v ∈ vs, v.cells.size = sz) → (flatV vs).length = vs.length * sz
  | [], _ => by simp [flatV]
  | v :: vs, h => by
    simp only [flatV, List.length_append, List.length_cons, Array.length_toList, h v List.mem_cons_self, flatV_length fun u hu => h u (List.mem_cons_of_mem _ hu)]
    rw [Nat.add_mul]; omega

theorem foldl_set (off : Nat) : ∀ (l : List (Value × Nat)) (cs : Array Value), (∀ p ∈ l, off + p.2 < cs.size) → (l.foldl (fun cs (x : Value × Nat) => cs.setIfInBounds (off + x.2) x.1) cs).size = cs.size
  | [], cs, _ => rfl
  | p :: l, cs, h => by
    simp only [List.foldl_cons]
    rw [foldl_set off l _ (fun q hq => by simpa using h q (List.mem_cons_of_mem _ hq))]
    simp
theorem foldl_setL : ∀ (us : List Value) (off j : Nat) (cs : Array Value), off + j + us.length ≤ cs.size →
    ((us.zipIdx j).foldl (fun cs (x : Value × Nat) => cs.setIfInBounds (off + x.2) x.1) cs).toList = setL (off + j) cs.toList us
  | [], off, j, cs, _ => by simp [setL_nil]
  | u :: us, off, j, cs, h => by
    simp only [List.length_cons] at h
    simp only [List.zipIdx_cons, List.foldl_cons]
    rw [foldl_setL us off (j + 1) _ (by simp; omega), setL_cons u us (off + j) cs.toList (by simp; omega)]
    simp [Nat.add_assoc]
theorem setL_append {α : Type} : ∀ (A B us : List α), us.length ≤ B.length → setL A.length (A ++ B) us = A ++ us ++ B.drop us.length
  | [], B, us, h => by
    simp only [List.length_nil, List.nil_append, setL]
    induction us generalizing B with
    | nil => simp [ovr_nil]
    | cons u us ih =>
      cases B with
      | nil => simp at h
      | cons b B => simp only [List.length_cons] at h; simp [ovr, ih B (by omega)]
  | a :: A, B, us, h => by
    simp only [List.length_cons, List.cons_append, setL]
    rw [setL_append A B us h]

theorem fill_flat {sz : Nat} (f : Operand → Value) : ∀ (ps : List (Nat × Operand)) (k : Nat) (done rest : List Value), partsOk k ps = true → (∀ p ∈ ps, (f p.2).cells.size = sz) → done.length = k * sz → rest.length = ps.length * sz →
    Instr.fill (fun i => some (i * sz, sz)) (done ++ rest).toArray (ps.map fun p => (p.1, f p.2)) = some (done ++ flatV (ps.map fun p => f p.2)).toArray
  | [], k, done, rest, _, _, _, hr => by
    simp at hr; subst hr
    simp [Instr.fill, flatV]
  | (i, x) :: ps, k, done, rest, hp, hs, hd, hr => by
    simp only [partsOk, Bool.and_eq_true] at hp
    have hi := Nat.eq_of_beq_eq_true hp.1
    subst hi
    have hsz : (f x).cells.size = sz := hs (i, x) List.mem_cons_self
    simp only [List.length_cons, Nat.add_mul, Nat.one_mul] at hr
    simp only [List.map_cons, Instr.fill]
    have hc : ¬ ((f x).cells.size ≠ sz ∨ i * sz + (f x).cells.size > (done ++ rest).toArray.size) := by
      simp only [hsz, ne_eq, not_true_eq_false, false_or, List.size_toArray, List.length_append]
      omega
    rw [if_neg (by simpa using hc)]
    have e : ((f x).cells.zipIdx.foldl (fun cs (x : Value × Nat) => cs.setIfInBounds (i * sz + x.2) x.1) (done ++ rest).toArray) = ((done ++ (f x).cells.toList) ++ rest.drop sz).toArray := by
      apply Array.ext'
      rw [← Array.foldl_toList, Array.toList_zipIdx, foldl_setL _ (i * sz) 0 _ (by simp only [Array.length_toList, List.size_toArray, List.length_append]; omega)]
      simp only [Nat.add_zero]
      rw [← hd, setL_append done rest _ (by simp; omega)]
      simp [hsz]
    have ih := fill_flat f ps (i + 1) (done ++ (f x).cells.toList) (rest.drop sz) hp.2 (fun p hp => hs p (List.mem_cons_of_mem _ hp)) (by simp [hsz, hd, Nat.add_mul]) (by simp; omega)
    rw [← e] at ih
    simp only [flatV, ← List.append_assoc]
    exact ih

theorem row_of_flat {μ : Mem} {b T sz : Nat} {fz : Nat × Nat} : ∀ (xs : List D) (vs pre : List Value) (all : List Value), μ b = some (.cells all.toArray T fz) → Reps μ xs vs → (∀ v ∈ vs, v.cells.size = sz) → (∀ x ∈ xs, x.plain = true) → all = pre ++ flatV vs → Row μ sz b pre.length xs
  | [], vs, pre, all, _, _, _, _, _ => by simp only [Row]
  | x :: xs, vs, pre, all, hb, hr, hs, hpl, ha => by
    simp only [Reps] at hr
    obtain ⟨v, vs', rfl, h1, h2⟩ := hr
    simp only [Row]
    have hsz := hs v List.mem_cons_self
    refine ⟨⟨v, h1, hsz, ⟨_, T, fz, hb, fun j u hj => ?_⟩, hpl x List.mem_cons_self⟩, ?_⟩
    · subst ha
      simp only [flatV]
      have hjl : j < v.cells.toList.length := (List.getElem?_eq_some_iff.1 hj).1
      simp only [List.getElem?_toArray]
      rw [List.getElem?_append_right (by omega), show pre.length + j - pre.length = j by omega, List.getElem?_append_left hjl]
      exact hj
    · have := row_of_flat xs vs' (pre ++ v.cells.toList) all hb h2 (fun u hu => hs u (List.mem_cons_of_mem _ hu)) (fun y hy => hpl y (List.mem_cons_of_mem _ hy)) (by rw [ha]; simp [flatV])
      simpa [hsz] using this

/-- All have as many cells. -/
def D.width : D → Nat
  | .agg ds => ds.length
  | _ => 1
theorem D.width_rep {μ : Mem} {x : D} {v : Value} (h : Rep μ x v) : v.cells.size = x.width := by
  have h1 := (D.cells_reps h).length
  have h2 : x.cells.length = x.width := by cases x <;> rfl
  rw [← h2, ← h1]; simp
theorem Reps.widths {μ : Mem} {sz : Nat} : ∀ {xs : List D} {vs : List Value}, Reps μ xs vs → xs.all (fun x => Nat.beq x.width sz) = true → ∀ v ∈ vs, v.cells.size = sz
  | [], vs, h, _, v, hv => by simp only [Reps] at h; subst h; cases hv
  | x :: xs, vs, h, ha, v, hv => by
    simp only [Reps] at h
    obtain ⟨u, vs', rfl, h1, h2⟩ := h
    simp only [List.all_cons, Bool.and_eq_true] at ha
    cases hv with
    | head => rw [D.width_rep h1]; exact Nat.eq_of_beq_eq_true ha.1
    | tail _ hv => exact Reps.widths h2 ha.2 v hv

/-- The zero value of a type has so many cells. -/
def ZeroSz (P : Program) (T n : Nat) : Prop := ∃ z : Value, (∀ w, (zeroValue T).run P w = .ok z w) ∧ z.cells.size = n
theorem run_buildSlice {P : Program} {w : World} {o : Oper} {f : Operand → Value} {T e sz n : Nat} {parts : Array (Nat × Operand)} (ho : o.op = .buildSlice T n parts) (hT : elemF P T = some (e, sz)) (hz : ZeroSz P e sz) (hn : parts.size = n) (hsz : 0 < sz) (hb : n * sz ≤ 16777216) (hp : partsOk 0 parts.toList = true) (hs : ∀ p ∈ parts.toList, (f p.2).cells.size = sz) :
    (execOp f o).run P w = .ok (.value (.slice (some ⟨w.heap.size, 0, none⟩) n n)) (w.alloc (.cells (flatV (parts.toList.map fun p => f p.2)).toArray e)) := by
  obtain ⟨hu, g, ht⟩ := elemF_out hT
  obtain ⟨z, hz1, hz2⟩ := hz
  have e1 : execOp f o = (do let z ← Instr.buildSlice T n (parts.map fun (i, x) => (i, f x)); pure (.value z)) := by simp only [execOp, ho]
  rw [e1]
  have hfill : ∀ (cs : Array Value), cs.size = n * sz → Instr.fill (fun i => some (i * sz, sz)) cs (parts.map fun (i, x) => (i, f x)).toList = some (flatV (parts.toList.map fun p => f p.2)).toArray := by
    intro cs hc
    have := fill_flat (sz := sz) f parts.toList 0 [] cs.toList hp hs (by simp) (by simp [hc, hn])
    simp only [List.nil_append, Array.toArray_toList] at this
    rw [Array.toList_map]
    exact this
  simp only [Instr.buildSlice, Sem.run_bind, run_underlying hu, Result.andThen, run_sizeT ht]
  rw [if_neg (by omega)]
  by_cases h0 : n * sz = 0
  · have hfe := hfill (Array.map (fun x => (#[] : Array Value)[x % (#[] : Array Value).size]!) (Array.range (n * sz))) (by simp)
    simp only [h0, if_true, Sem.run_bind, Sem.run_pure, Result.andThen] at hfe ⊢
    rw [hfe]
    simp [newRow, newObj, Sem.run]
  · have hfe := hfill (Array.map (fun x => z.cells[x % z.cells.size]!) (Array.range (n * sz))) (by simp)
    simp only [h0, if_false, Sem.run_bind, hz1, Sem.run_pure, Result.andThen]
    rw [hfe]
    simp [newRow, newObj, Sem.run]
def GetPs (E : Env) : List (Nat × Operand) → List D → Prop
  | [], ds => ds = []
  | (_, x) :: xs, ds => ∃ r d ds', Get E x r ∧ r.toD = some d ∧ ds = d :: ds' ∧ GetPs E xs ds'
theorem gp_nil (E : Env) : GetPs E [] [] := rfl
theorem gp {E : Env} {i : Nat} {x : Operand} {xs : List (Nat × Operand)} {r : AV} {d : D} {ds : List D} (hx : Get E x r) (hd : r.toD = some d) (h : GetPs E xs ds) : GetPs E ((i, x) :: xs) (d :: ds) := ⟨r, d, ds, hx, hd, rfl, h⟩
theorem GetPs.ds {E : Env} : ∀ {ps : List (Nat × Operand)} {ds : List D}, GetPs E ps ds → GetDs E (ps.map (·.2)) ds
  | [], ds, h => h
  | (_, x) :: ps, ds, ⟨r, d, ds', h1, h2, h3, h4⟩ => ⟨r, d, ds', h1, h2, h3, GetPs.ds h4⟩
theorem m_mkslice {C : Ctx} {o : Oper} {E : Env} {L : List AO} {T e sz n : Nat} {parts : Array (Nat × Operand)} {xs : List D} (ho : o.op = .buildSlice T n parts) (hT : elemF C.P T = some (e, sz)) (hz : ZeroSz C.P e sz) (hn : parts.size = n) (hsz : Nat.blt 0 sz = true) (hb : Nat.ble (n * sz) 16777216 = true) (hp : partsOk 0 parts.toList = true)
    (hg : GetPs E parts.toList xs) (hw : xs.all (fun x => Nat.beq x.width sz && x.plain) = true) : MStep C o E L (.d (.list sz xs)) :=
  mstep_of_run fun a w μ ρ hh he => by
    have hr := hg.ds.reps he
    rw [List.map_map] at hr
    have hws := hr.widths (List.all_eq_true.2 fun x hx => (Bool.and_eq_true _ _ ▸ List.all_eq_true.1 hw x hx : _ ∧ _).1)
    have hpl : ∀ x ∈ xs, x.plain = true := fun x hx => (Bool.and_eq_true _ _ ▸ List.all_eq_true.1 hw x hx : _ ∧ _).2
    have hlen := hr.length
    have hsz' : 0 < sz := by simpa [Nat.blt_eq] using hsz
    have hb' : n * sz ≤ 16777216 := by simpa using hb
    have hrun := run_buildSlice (P := C.P) (w := w) (f := a.eval) ho hT hz hn hsz' hb' hp (fun p hp => hws _ (List.mem_map.2 ⟨p, hp, rfl⟩))
    have hgr := HeapOk.growNew hh.holds (.cells (flatV (parts.toList.map fun p => a.eval p.2)).toArray e)
    refine ⟨_, _, _, hrun, hgr, ?_⟩
    simp only [ARep, Rep]
    have hxn : xs.length = n := by simp at hlen; omega
    refine ⟨some ⟨w.heap.size, 0, none⟩, n, by rw [hxn], by omega, ?_, (fun h => by cases h), .inr ⟨w.heap.size, 0, rfl, ?_⟩⟩
    · have : n ≤ n * sz := Nat.le_mul_of_pos_right n hsz'
      simp only [maxLen]; omega
    · exact row_of_flat (sz := sz) (fz := (0, 0)) (T := e) xs _ [] _ (by simp; rfl) (Reps.mono hgr.le _ _ hr) hws hpl (by simp; rfl)
end Go.Aw

/-! AwK -/
namespace Go.Aw
open Go.RowKit
/-! Short forms, for printed scripts. -/
section
variable {C : Ctx} {ops : Array Oper} {Q : Exit → Act → World → Prop} {os : List Oper} {E : Env} {L : List AO} {r : AV} {d : Nat} {op : Op} {ty : TypeId} {p : String} {af : Array Edge} {ds : Option Tmp} {gd : Option (Nat × Bool)}
theorem k (hm : MStep C ⟨some d, op, ty, p, af, none⟩ E L r) (h : OpsOk C ops Q os (upd d r E) L) : OpsOk C ops Q (⟨some d, op, ty, p, af, none⟩ :: os) E L := ok_m rfl rfl hm h
theorem k0 (hm : MStep C ⟨none, op, ty, p, af, none⟩ E L r) (h : OpsOk C ops Q os E L) : OpsOk C ops Q (⟨none, op, ty, p, af, none⟩ :: os) E L := ok_m0 rfl rfl hm h
theorem kg {j t : Nat} {want c : Bool} {rg : AV} (hj : (ops[j]?).bind (·.dst) = some t) (hb : E t = some rg) (hc : gcond rg want = some c) (hm : c = true → MStep C ⟨some d, op, ty, p, af, some (j, want)⟩ E L r) (h : OpsOk C ops Q os (upd d (.opt c r) E) L) :
    OpsOk C ops Q (⟨some d, op, ty, p, af, some (j, want)⟩ :: os) E L := ok_mg rfl hj hb hc rfl hm h
theorem kbox {T n : Nat} {x : Operand} (hx : Get E x r) (hpl : r.plain = true) (hn : L.length = n) (h : OpsOk C ops Q os (upd d (.box n 0) E) (L ++ [.box T r.cells])) : OpsOk C ops Q (⟨some d, .box T x, ty, p, af, none⟩ :: os) E L := ok_box rfl rfl rfl hx hpl hn h
theorem kal {T n : Nat} {cs : List AV} (hz : ZeroOk C.P T cs) (hn : L.length = n) (h : OpsOk C ops Q os (upd d (.box n 0) E) (L ++ [.box T cs])) : OpsOk C ops Q (⟨some d, .alloc T, ty, p, af, none⟩ :: os) E L := ok_alloc rfl rfl rfl hz hn h
theorem kst {T j off n U : Nat} {g : Bool} {x y : Operand} {cs : List AV} (hx : Get E x (.box j off)) (hy : Get E y r) (ht : tyF C.P T = some (n, g)) (hL : L[j]? = some (.box U cs)) (hpl : r.plain = true) (hn : r.cells.length = n) (hoff : Nat.ble (off + n) cs.length = true)
    (h : OpsOk C ops Q os E (L.set j (.box U (setL off cs r.cells)))) : OpsOk C ops Q (⟨none, .store T x y, ty, p, af, none⟩ :: os) E L := ok_store rfl rfl rfl hx hy hpl ht hn hL hoff h
variable {id k : Nat} {Ds : List Nat} {Rs : Rsl}
theorem dr (hm : MStep C ⟨some d, op, ty, p, af, none⟩ (depEnv ops k Ds Rs E ⟨some d, op, ty, p, af, none⟩) L r) (h : DrawK C id ops Ds Q E L ((k, d, r) :: Rs) (k + 1) os) : DrawK C id ops Ds Q E L Rs k (⟨some d, op, ty, p, af, none⟩ :: os) := draw_step rfl (.plain rfl hm) h
theorem dr0 (hm : MStep C ⟨none, op, ty, p, af, none⟩ (depEnv ops k Ds Rs E ⟨none, op, ty, p, af, none⟩) L r) (h : DrawK C id ops Ds Q E L Rs (k + 1) os) : DrawK C id ops Ds Q E L Rs k (⟨none, op, ty, p, af, none⟩ :: os) := draw_step0 rfl (.plain rfl hm) h
theorem dg {j t : Nat} {want c : Bool} {rg : AV} (hj : (ops[j]?).bind (·.dst) = some t) (hb : depEnv ops k Ds Rs E ⟨some d, op, ty, p, af, some (j, want)⟩ t = some rg) (hc : gcond rg want = some c) (hm : c = true → MStep C ⟨some d, op, ty, p, af, some (j, want)⟩ (depEnv ops k Ds Rs E ⟨some d, op, ty, p, af, some (j, want)⟩) L r)
    (h : DrawK C id ops Ds Q E L ((k, d, .opt c r) :: Rs) (k + 1) os) : DrawK C id ops Ds Q E L Rs k (⟨some d, op, ty, p, af, some (j, want)⟩ :: os) := draw_step rfl (.guarded rfl hj hb hc hm) h
end

section
variable {E : Env} {t : Nat} {r : AV}
theorem g (h : E t = some r) : Get E (.tmp t) r := get_tmp h
theorem go {c : Bool} (h : E t = some (.opt c r)) (hc : c = true) : Get E (.tmp t) r := get_opt (get_tmp h) hc
theorem gT {b : Bool} (h : E t = some (.opt (b == true) r)) (hb : b = true) : Get E (.tmp t) r := get_opt (get_tmp h) (by rw [hb]; rfl)
theorem gF {b : Bool} (h : E t = some (.opt (b == false) r)) (hb : b = false) : Get E (.tmp t) r := get_opt (get_tmp h) (by rw [hb]; rfl)
end
theorem gi {E : Env} {k : IntKind} {n : Int} : Get E (.const (.int k n)) (.d (.int k n)) := get_int E k n
theorem gb {E : Env} {b : Bool} : Get E (.const (.bool b)) (.d (.bool b)) := get_bool E b
theorem gs {E : Env} {s : ByteArray} : Get E (.const (.string s)) (.d (.str s)) := get_str E s
theorem gn {E : Env} (sz : Nat) : Get E (.const (.slice none 0 0)) (.d (.list sz [])) := get_nilslice E sz
theorem gv {E : Env} {v : Value} (h : v.cells = #[v]) (h1 : v.oneCell' = true) : Get E (.const v) (.d (.val v)) := get_val E v h h1
theorem gf {E : Env} {f : FuncId} : Get E (.func f) (.clo (.func f) []) := get_func E f
theorem a0 {E : Env} : GetDs E [] [] := rfl
theorem a1 {E : Env} {x : Operand} {xs : List Operand} {r : AV} {d : D} {ds : List D} (hx : Get E x r) (hd : r.toD = some d) (h : GetDs E xs ds) : GetDs E (x :: xs) (d :: ds) := gd hx hd h
theorem p0 {E : Env} : GetPs E [] [] := rfl
theorem p1 {E : Env} {i : Nat} {x : Operand} {xs : List (Nat × Operand)} {r : AV} {d : D} {ds : List D} (hx : Get E x r) (hd : r.toD = some d) (h : GetPs E xs ds) : GetPs E ((i, x) :: xs) (d :: ds) := gp hx hd h

section
variable {C : Ctx} {E : Env} {L : List AO} {r : AV} {d : Option Tmp} {ty : TypeId} {p : String} {af : Array Edge} {gd : Option (Nat × Bool)}
theorem mv {x : Operand} (hx : Get E x r) : MStep C ⟨d, .move x, ty, p, af, gd⟩ E L r := m_move rfl hx
theorem asg {x : Operand} (hx : Get E x r) : MStep C ⟨d, .assign x, ty, p, af, gd⟩ E L r := m_assign rfl hx
theorem an {c x : Operand} {b y : Bool} (hc : Get E c (.d (.bool b))) (hx : b = true → Get E x (.d (.bool y))) : MStep C ⟨d, .pick c x (.const (.bool false)), ty, p, af, gd⟩ E L (.d (.bool (b && y))) := m_and rfl hc hx
theorem orr {c x : Operand} {b y : Bool} (hc : Get E c (.d (.bool b))) (hx : b = false → Get E x (.d (.bool y))) : MStep C ⟨d, .pick c (.const (.bool true)) x, ty, p, af, gd⟩ E L (.d (.bool (b || y))) := m_or rfl hc hx
theorem nt {x : Operand} {T : TypeId} {b : Bool} (hx : Get E x (.d (.bool b))) : MStep C ⟨d, .unOp .not T x, ty, p, af, gd⟩ E L (.d (.bool (!b))) := m_not rfl hx
theorem bn {op : BinOp} {T U : TypeId} {x y : Operand} {dx dy r : D} (hx : Get E x (.d dx)) (hy : Get E y (.d dy)) (h : dBin op dx dy = some r) : MStep C ⟨d, .binOp op T x y U, ty, p, af, gd⟩ E L (.d r) := m_bin rfl hx hy h
theorem ct {T U : TypeId} {x y : Operand} {a b : ByteArray} (hx : Get E x (.d (.str a))) (hy : Get E y (.d (.str b))) (h : a.size + b.size ≤ 9223372036854775807) : MStep C ⟨d, .binOp .add T x y U, ty, p, af, gd⟩ E L (.d (.str (a ++ b))) := m_cat rfl hx hy h
theorem qu {T U : TypeId} {x y : Operand} {k : IntKind} {a b : Int} (hx : Get E x (.d (.int k a))) (hy : Get E y (.d (.int k b))) (h : b ≠ 0) : MStep C ⟨d, .binOp .quo T x y U, ty, p, af, gd⟩ E L (.d (.int k (k.wrap (a.tdiv b)))) := m_quo rfl hx hy h
theorem re {T U : TypeId} {x y : Operand} {k : IntKind} {a b : Int} (hx : Get E x (.d (.int k a))) (hy : Get E y (.d (.int k b))) (h : b ≠ 0) : MStep C ⟨d, .binOp .rem T x y U, ty, p, af, gd⟩ E L (.d (.int k (a.tmod b))) := m_rem rfl hx hy h
theorem lb {T U i off : Nat} {x : Operand} {cs : List AV} (hx : Get E x (.box i off)) (ht : tyF C.P T = some (1, false)) (hL : L[i]? = some (.box U cs)) (hr : cs[off]? = some r) : MStep C ⟨d, .load T x, ty, p, af, gd⟩ E L r := m_load_box rfl hx ht hL hr
theorem lB {T U i off n : Nat} {x : Operand} {cs : List AV} (hx : Get E x (.box i off)) (ht : tyF C.P T = some (n, true)) (hL : L[i]? = some (.box U cs)) (hr : Nat.ble (off + n) cs.length = true) : MStep C ⟨d, .load T x, ty, p, af, gd⟩ E L (.agg ((cs.drop off).take n)) := m_load_boxA rfl hx ht hL hr
theorem lr {T : Nat} {x : Operand} {cs : List D} {r : D} (hx : Get E x (.d (.ref cs))) (ht : tyF C.P T = some (1, false)) (hr : cs[0]? = some r) : MStep C ⟨d, .load T x, ty, p, af, gd⟩ E L (.d r) := m_load_ref rfl hx ht hr
theorem lR {T n : Nat} {x : Operand} {cs : List D} (hx : Get E x (.d (.ref cs))) (ht : tyF C.P T = some (n, true)) (hr : n ≤ cs.length) : MStep C ⟨d, .load T x, ty, p, af, gd⟩ E L (.d (.agg (cs.take n))) := m_load_refA rfl hx ht hr
theorem fb {S k off n i q : Nat} {g : Bool} {x : Operand} (hx : Get E x (.box i q)) (hf : fldF C.P S k = some (off, n, g)) : MStep C ⟨d, .fieldAddr S x k, ty, p, af, gd⟩ E L (.box i (q + off)) := m_fld_box rfl hx hf
theorem fr {S k off n : Nat} {g : Bool} {x : Operand} {cs : List D} (hx : Get E x (.d (.ref cs))) (hf : fldF C.P S k = some (off, n, g)) : MStep C ⟨d, .fieldAddr S x k, ty, p, af, gd⟩ E L (.d (.ref (cs.drop off))) := m_fld_ref rfl hx hf
theorem ix {T e sz : Nat} {x i : Operand} {xs : List D} {k : IntKind} {n : Int} {y : D} (hx : Get E x (.d (.list sz xs))) (hi : Get E i (.d (.int k n))) (hf : elemF C.P T = some (e, sz)) (h0 : 0 ≤ n) (hy : xs[n.toNat]? = some y) : MStep C ⟨d, .indexAddr T x i, ty, p, af, gd⟩ E L (.d (.ref y.cells)) := m_idx_list rfl hx hi hf h0 hy
theorem ln {x : Operand} {T e sz s : Nat} {xs : List D} (hx : Get E x (.d (.list sz xs))) (ht : elemF C.P T = some (e, s)) : MStep C ⟨d, .call ⟨.builtin .len, #[x], #[T]⟩, ty, p, af, gd⟩ E L (.d (.int .i64 xs.length)) := m_len rfl ht hx
theorem ls {x : Operand} {T : Nat} {s : ByteArray} (hx : Get E x (.d (.str s))) (ht : C.P.underlying T = some .string) : MStep C ⟨d, .call ⟨.builtin .len, #[x], #[T]⟩, ty, p, af, gd⟩ E L (.d (.int .i64 s.size)) := m_lens rfl ht hx
theorem ex {x : Operand} {k : Nat} {ds : List D} {r : D} (hx : Get E x (.d (.tup ds))) (hr : ds[k]? = some r) : MStep C ⟨d, .extract x k, ty, p, af, gd⟩ E L (.d r) := m_extract rfl hx hr
theorem cl {args : List Operand} {ts : Array TypeId} {g : FuncId} {xs : List D} {r : D} (ha : GetDs E args xs) (hp : Pure C.P g xs r) : MStep C ⟨d, .call ⟨.value (.func g), args.toArray, ts⟩, ty, p, af, gd⟩ E L (.d r) := m_call rfl (by simpa using ha) hp
theorem cv {fx : Operand} {args : List Operand} {ts : Array TypeId} {g : FuncId} {rf : AV} {xs caps : List D} {r : D} (hf : Get E fx rf) (hfd : rf.toD = some (.clo (.func g) caps)) (ha : GetDs E args xs) (hp : Pure C.P g (xs ++ caps) r) : MStep C ⟨d, .call ⟨.value fx, args.toArray, ts⟩, ty, p, af, gd⟩ E L (.d r) := m_callv rfl hf hfd (by simpa using ha) hp
theorem mk {T e sz n : Nat} {parts : List (Nat × Operand)} {xs : List D} (hT : elemF C.P T = some (e, sz)) (hz : ZeroSz C.P e sz) (hg : GetPs E parts xs) (hn : parts.length = n) (hsz : Nat.blt 0 sz = true) (hb : Nat.ble (n * sz) 16777216 = true) (hp : partsOk 0 parts = true) (hw : xs.all (fun x => Nat.beq x.width sz && x.plain) = true) :
    MStep C ⟨d, .buildSlice T n parts.toArray, ty, p, af, gd⟩ E L (.d (.list sz xs)) := m_mkslice rfl hT hz (by simpa using hn) hsz hb (by simpa using hp) (by simpa using hg) hw
end
end Go.Aw

/-! AwL -/
namespace Go.Aw
open Go.RowKit

/-! ### Forgetting -/
mutual
/-- It names no object from number n on. -/
def AV.upto (n : Nat) : AV → Bool
  | .d _ => true
  | .box i _ => Nat.blt i n
  | .row i => Nat.blt i n
  | .agg cs => AV.uptos n cs
  | .tup cs => AV.uptos n cs
  | .clo _ cs => AV.uptos n cs
  | .opt _ r => AV.upto n r
  | .sl i _ _ _ _ => Nat.blt i n
  | .el i _ _ _ => Nat.blt i n
def AV.uptos (n : Nat) : List AV → Bool
  | [] => true
  | c :: cs => AV.upto n c && AV.uptos n cs
end
def AO.upto (n : Nat) : AO → Bool
  | .box _ cs => AV.uptos n cs
  | _ => true
def RhoCut (n : Nat) (ρ ρ' : List Value) : Prop := ∀ (i : Nat) (v : Value), i < n → ρ[i]? = some v → ρ'[i]? = some v
mutual
theorem AV.upto_rep {μ : Mem} {n : Nat} {ρ ρ' : List Value} (hr : RhoCut n ρ ρ') : ∀ (r : AV) (v : Value), AV.upto n r = true → ARep μ ρ r v → ARep μ ρ' r v
  | .d x, v, _, h => by simpa only [ARep] using h
  | .box i off, v, hb, h => by
    simp only [ARep] at h ⊢
    obtain ⟨b, h1, h2⟩ := h
    exact ⟨b, hr _ _ (by simpa [AV.upto, Nat.blt_eq] using hb) h1, h2⟩
  | .row i, v, hb, h => by simp only [ARep] at h ⊢; exact ⟨hr _ _ (by simpa [AV.upto, Nat.blt_eq] using hb) h.1, h.2⟩
  | .agg cs, v, hb, h => by
    simp only [ARep, AV.upto] at h hb ⊢
    obtain ⟨vs, h1, h2, h3⟩ := h
    exact ⟨vs, h1, AV.uptos_rep hr cs vs hb h2, h3⟩
  | .tup cs, v, hb, h => by
    simp only [ARep, AV.upto] at h hb ⊢
    obtain ⟨vs, h1, h2⟩ := h
    exact ⟨vs, h1, AV.uptos_rep hr cs vs hb h2⟩
  | .clo fn cs, v, hb, h => by
    simp only [ARep, AV.upto] at h hb ⊢
    obtain ⟨vs, h1, h2⟩ := h
    exact ⟨vs, h1, AV.uptos_rep hr cs vs hb h2⟩
  | .opt c r, v, hb, h => by
    simp only [ARep, AV.upto] at h hb ⊢
    exact ⟨fun hc => AV.upto_rep hr r v hb (h.1 hc), h.2⟩
  | .sl i sz off len cap, v, hb, h => by
    simp only [ARep] at h ⊢
    obtain ⟨u, h1, h2⟩ := h
    exact ⟨u, hr _ _ (by simpa [AV.upto, Nat.blt_eq] using hb) h1, h2⟩
  | .el i sz k fo, v, hb, h => by
    simp only [ARep] at h ⊢
    obtain ⟨u, g, h1, h2⟩ := h
    exact ⟨u, g, hr _ _ (by simpa [AV.upto, Nat.blt_eq] using hb) h1, h2⟩
theorem AV.uptos_rep {μ : Mem} {n : Nat} {ρ ρ' : List Value} (hr : RhoCut n ρ ρ') : ∀ (cs : List AV) (vs : List Value), AV.uptos n cs = true → AReps μ ρ cs vs → AReps μ ρ' cs vs
  | [], vs, _, h => by simpa only [AReps] using h
  | c :: cs, vs, hb, h => by
    simp only [AReps, AV.uptos, Bool.and_eq_true] at h hb ⊢
    obtain ⟨v, vs', h1, h2, h3⟩ := h
    exact ⟨v, vs', h1, AV.upto_rep hr c v hb.1 h2, AV.uptos_rep hr cs vs' hb.2 h3⟩
end

def Le (E' E : Env) : Prop := ∀ t r, E' t = some r → E t = some r
theorem Le.refl (E : Env) : Le E E := fun _ _ h => h
theorem le_none (E : Env) : Le none0 E := fun _ _ h => by simp [none0] at h
theorem le_upd {E' E : Env} {d : Nat} {r : AV} (h : E d = some r) (k : Le E' E) : Le (upd d r E') E := fun t s hs => by
  simp only [upd] at hs
  cases hb : Nat.beq d t with
  | true =>
    rw [hb] at hs
    have := Nat.eq_of_beq_eq_true hb
    subst this
    rw [h]; exact hs
  | false => rw [hb] at hs; exact k t s hs
def keepB (n : Nat) (K : List Nat) (E : Env) : Env := fun t =>
  bif K.elem t then
    match E t with
    | some r => bif r.upto n then some r else none
    | none => none
  else none
def agree : List Nat → Env → Env → Prop
  | [], _, _ => True
  | k :: K, E, E' => E k = E' k ∧ agree K E E'
theorem agree_mem : ∀ {K : List Nat} {E E' : Env}, agree K E E' → ∀ k, k ∈ K → E k = E' k
  | [], _, _, _, k, h => by cases h
  | j :: K, E, E', ⟨h1, h2⟩, k, h => by
    cases h with
    | head => exact h1
    | tail _ h => exact agree_mem h2 k h
theorem le_keep {n : Nat} {K : List Nat} {E E' : Env} (h : agree K E E') : Le (keepB n K E') E := fun t r hr => by
  unfold keepB at hr
  cases hk : K.elem t with
  | false => rw [hk] at hr; simp at hr
  | true =>
    rw [hk] at hr
    simp only [cond_true] at hr
    have := agree_mem h t (List.elem_iff.1 hk)
    rw [this]
    split at hr
    · rename_i r' h1
      cases hb : r'.upto n with
      | true => rw [hb] at hr; simp only [cond_true] at hr; rw [h1]; exact hr
      | false => rw [hb] at hr; simp at hr
    · cases hr
theorem le_keep_self {n : Nat} {K : List Nat} {E : Env} : Le (keepB n K E) E := fun t r hr => by
  unfold keepB at hr
  cases hk : K.elem t with
  | false => rw [hk] at hr; simp at hr
  | true =>
    rw [hk] at hr
    simp only [cond_true] at hr
    split at hr
    · rename_i r' h1
      cases hb : r'.upto n with
      | true => rw [hb] at hr; simp only [cond_true] at hr; rw [h1]; exact hr
      | false => rw [hb] at hr; simp at hr
    · cases hr
def EBelow (n : Nat) (E : Env) : Prop := ∀ t r, E t = some r → r.upto n = true
theorem eb_none (n : Nat) : EBelow n none0 := fun _ _ h => by simp [none0] at h
theorem eb_upd {n d : Nat} {r : AV} {E : Env} (h : r.upto n = true) (k : EBelow n E) : EBelow n (upd d r E) := fun t s hs => by
  simp only [upd] at hs
  cases hb : Nat.beq d t with
  | true => rw [hb] at hs; simp only [cond_true, Option.some.injEq] at hs; subst hs; exact h
  | false => rw [hb] at hs; exact k t s hs
theorem eb_keep {n : Nat} {K : List Nat} {E : Env} : EBelow n (keepB n K E) := fun t r hr => by
  unfold keepB at hr
  cases hk : K.elem t with
  | false => rw [hk] at hr; simp at hr
  | true =>
    rw [hk] at hr
    simp only [cond_true] at hr
    split at hr
    · rename_i r' h1
      cases hb : r'.upto n with
      | true => rw [hb] at hr; simp only [cond_true, Option.some.injEq] at hr; subst hr; exact hb
      | false => rw [hb] at hr; simp at hr
    · cases hr

theorem Sim.le {C : Ctx} {a : Act} {w : World} {E E' : Env} {L : List AO} (s : Sim C a w E L) (h : Le E' E) : Sim C a w E' L :=
  ⟨let ⟨μ, ρ, hh, he⟩ := s.ex; ⟨μ, ρ, hh, fun t r hr => he t r (h t r hr)⟩, s.size, s.defers⟩
theorem Sim.cut {C : Ctx} {a : Act} {w : World} {E : Env} {L : List AO} {n : Nat} (hk : Nat.ble C.n0 n = true) (s : Sim C a w E L) (hE : EBelow n E) (hL : (L.take n).all (AO.upto n) = true) : Sim C a w E (L.take n) := by
  have hk' : C.n0 ≤ n := by simpa using hk
  obtain ⟨⟨μ, ρ, hh, he⟩, hs, hd⟩ := s
  have hcut : RhoCut n ρ (ρ.take n) := fun i v hi hv => by rw [List.getElem?_take, if_pos hi]; exact hv
  have take : ∀ {α : Type} (l : List α) (i : Nat) (x : α), (l.take n)[i]? = some x → i < n ∧ l[i]? = some x := fun l i x h => by
    rw [List.getElem?_take] at h
    split at h
    · rename_i hi; exact ⟨hi, h⟩
    · cases h
  refine ⟨⟨μ, ρ.take n, ⟨by simp [hh.len], ?_, ?_, ?_, hh.holds, hh.le, hh.old, hh.fr, by have := hh.n0le; simp; omega, fun i hi => by rw [List.getElem?_take, if_pos (by omega)]; exact hh.keep i hi⟩, fun t r hr => ?_⟩, hs, hd⟩
  · intro i o v hi hv
    obtain ⟨hin, hi'⟩ := take L i o hi
    obtain ⟨_, hv'⟩ := take ρ i v hv
    have h1 := hh.rep i o v hi' hv'
    have hb := List.all_eq_true.1 hL o (List.mem_of_getElem? hi)
    cases o with
    | box T cs =>
      obtain ⟨b, vs, h2, h3, h4, h5⟩ := h1
      exact ⟨b, vs, h2, h3, AV.uptos_rep hcut cs vs hb h4, h5⟩
    | row T sz xs => exact h1
    | dead => trivial
    | arr T sz xs => exact h1
    | raw p ob => exact h1
  · intro i j o o' v v' b hij hi hj hl hl' hv hv' hb
    exact hh.sep i j o o' v v' b hij (take L i o hi).2 (take L j o' hj).2 hl hl' (take ρ i v hv).2 (take ρ j v' hv').2 hb
  · intro i o v b hi hl hv hb
    exact hh.own i o v b (take L i o hi).2 hl (take ρ i v hv).2 hb
  · obtain ⟨v, h1, h2⟩ := he t r hr
    exact ⟨v, h1, AV.upto_rep hcut r v (hE t r hr) h2⟩
theorem Sim.to {C : Ctx} {a : Act} {w : World} {E E' : Env} {L L' : List AO} (n : Nat) (s : Sim C a w E L) (h : Le E' E) (hE : EBelow n E') (hL : L.take n = L') (hb : L'.all (AO.upto n) = true) (hk : Nat.ble C.n0 n = true) : Sim C a w E' L' := by
  subst hL
  exact (s.le h).cut hk hE hb

/-! ### Where ways meet; loops -/
theorem ok_cut {C : Ctx} {x y : Code} {Q : Exit → Act → World → Prop} {E : Env} {L : List AO} (E' : Env) (L' : List AO) (h : CodeOk C x (Exit.then (fun a w => Sim C a w E' L') Q) E L) (h' : CodeOk C y Q E' L') : CodeOk C (.seq x y) Q E L :=
  fun a w s => wpIn_seq_k fun K hK => wpIn_mono (h a w s) fun e a w hq => by
    cases e with
    | normal => exact hK a w (h' a w hq)
    | _ => exact hq
theorem ok_to {C : Ctx} {Q : Exit → Act → World → Prop} {E E' : Env} {L L' : List AO} (n : Nat) (h : Le E' E) (hE : EBelow n E') (hL : L.take n = L') (hb : L'.all (AO.upto n) = true) (hk : Nat.ble C.n0 n = true) : ExOk C .normal (Exit.then (fun a w => Sim C a w E' L') Q) E L :=
  fun a w s => s.to n h hE hL hb hk
theorem ok_weak {C : Ctx} {c : Code} {Q : Exit → Act → World → Prop} {E E' : Env} {L L' : List AO} (n : Nat) (h : Le E' E) (hE : EBelow n E') (hL : L.take n = L') (hb : L'.all (AO.upto n) = true) (hk : Nat.ble C.n0 n = true) (k : CodeOk C c Q E' L') : CodeOk C c Q E L :=
  fun a w s => k a w (s.to n h hE hL hb hk)

/-- A loop: the state at its head as a family; every round lowers the measure. -/
theorem ok_loop {C : Ctx} {body : Code} {Q : Exit → Act → World → Prop} {E : Env} {L : List AO} {ι : Type} (n : Nat) (m : ι → Nat) (Ef : ι → Env) (Lf : ι → List AO) (i0 : ι)
    (hE : Le (Ef i0) E) (hB : EBelow n (Ef i0)) (hL : L.take n = Lf i0) (hLb : (Lf i0).all (AO.upto n) = true) (hk : Nat.ble C.n0 n = true)
    (round : ∀ i, CodeOk C body (Exit.then (fun a w => ∃ i', m i' < m i ∧ Sim C a w (Ef i') (Lf i')) Q) (Ef i) (Lf i)) : CodeOk C (.loop body) Q E L := by
  intro a w s
  have key : ∀ k i, m i = k → ∀ a w, Sim C a w (Ef i) (Lf i) → ∀ (b : Frame) (kk : List Item) (cs : List Frame), b.roundOf = C.ro → (fc C.ro).room (cs.length + 1 + 0) →
      ∃ e a' w', Q e a' w' ∧ ArrivesIn (Machine.fenced C.P (fc C.ro)) C.P (lone (b.atR a (.code body :: .inLoop body :: kk)) cs w) b kk cs e a' w' := by
    intro k
    induction k using Nat.strongRecOn with
    | _ k ih =>
      intro i hi a w s b kk cs hro hr
      obtain ⟨e, a₁, w₁, hq, harr⟩ := round i a w s b (.inLoop body :: kk) cs hro trivial hr
      cases e with
      | normal =>
        obtain ⟨i', hlt, s'⟩ := hq
        obtain ⟨e₂, a₂, w₂, hq₂, harr₂⟩ := ih (m i') (by omega) i' rfl a₁ w₁ s' b kk cs hro hr
        exact ⟨e₂, a₂, w₂, hq₂, .of_steps (StepsIn.trans harr (.one (fenced_calm (fr := b.atR a₁ (.inLoop body :: kk)) (F := fc C.ro) trivial hr rfl) stepR_inLoop)) harr₂⟩
      | exit id => exact ⟨_, a₁, w₁, hq, .pass (x := .inLoop body) rfl (fun _ _ => .inl (by simp)) harr⟩
      | goto l => exact ⟨_, a₁, w₁, hq, .pass (x := .inLoop body) rfl (fun _ _ => .inl (by simp)) harr⟩
      | ret => exact ⟨_, a₁, w₁, hq, .pass (x := .inLoop body) rfl (fun _ _ => .inl (by simp)) harr⟩
      | panic ch => exact ⟨_, a₁, w₁, hq, .pass (x := .inLoop body) rfl (fun _ _ => .inl (by simp)) harr⟩
      | outgrown => exact ⟨_, a₁, w₁, hq, .pass (x := .inLoop body) rfl (fun _ _ => .inl (by simp)) harr⟩
  intro b kk cs hro _ hr
  obtain ⟨e, a', w', hq, harr⟩ := key _ i0 rfl a w (s.to n hE hB hL hLb hk) b kk cs hro hr
  exact ⟨e, a', w', hq, .of_steps (.one (fenced_calm (fr := b.atR a (.code (.loop body) :: kk)) (F := fc C.ro) trivial hr rfl) stepR_loop) harr⟩
theorem ok_round {C : Ctx} {Q : Exit → Act → World → Prop} {E : Env} {L : List AO} {ι : Type} {m : ι → Nat} {Ef : ι → Env} {Lf : ι → List AO} {i : ι} (n : Nat) (i' : ι) (hm : m i' < m i)
    (hE : Le (Ef i') E) (hB : EBelow n (Ef i')) (hL : L.take n = Lf i') (hLb : (Lf i').all (AO.upto n) = true) (hk : Nat.ble C.n0 n = true) : ExOk C .normal (Exit.then (fun a w => ∃ i', m i' < m i ∧ Sim C a w (Ef i') (Lf i')) Q) E L :=
  fun a w s => ⟨i', hm, s.to n hE hB hL hLb hk⟩
theorem Pure.cast {P : Program} {f : FuncId} {xs xs' : List D} {r r' : D} (h : Pure P f xs r) (e : xs = xs') (e' : r = r') : Pure P f xs' r' := by subst e; subst e'; exact h
end Go.Aw

/-! AwG -/
namespace Go.Aw
open Go.RowKit

/-! ### Rows of the function's own -/
theorem HeapOk.push0 {C : Ctx} {w : World} {μ : Mem} {ρ : List Value} {L : List AO} (h : HeapOk C w μ ρ L) {o : AO} {v : Value} (hv : blk v = none) (ho : ORep w μ (ρ ++ [v]) o v) : HeapOk C w μ (ρ ++ [v]) (L ++ [o]) := by
  have hlen := h.len
  have hle := RhoLe.snoc ρ v
  have cut : ∀ (i : Nat) p u, (L ++ [o])[i]? = some p → (ρ ++ [v])[i]? = some u → (L[i]? = some p ∧ ρ[i]? = some u) ∨ (i = L.length ∧ p = o ∧ u = v) := by
    intro i p u h1 h2
    rcases Nat.lt_or_ge i L.length with hi | hi
    · rw [List.getElem?_append_left hi] at h1
      rw [List.getElem?_append_left (by omega)] at h2
      exact .inl ⟨h1, h2⟩
    · rw [List.getElem?_append_right hi] at h1
      rw [List.getElem?_append_right (by omega)] at h2
      have hi' : i - L.length = 0 := by
        rcases Nat.eq_zero_or_pos (i - L.length) with e | e
        · exact e
        · rw [List.getElem?_eq_none (by simp; omega)] at h1; cases h1
      rw [hi'] at h1
      rw [show i - ρ.length = 0 by omega] at h2
      simp at h1 h2
      exact .inr ⟨by omega, h1.symm, h2.symm⟩
  refine ⟨by simp [hlen], ?_, ?_, ?_, h.holds, h.le, h.old, h.fr, by have := h.n0le; simp; omega, fun i hi => by rw [List.getElem?_append_left (Nat.lt_of_lt_of_le hi h.n0le)]; exact h.keep i hi⟩
  · intro i p u h1 h2
    rcases cut i p u h1 h2 with ⟨h3, h4⟩ | ⟨_, rfl, rfl⟩
    · exact (h.rep i p u h3 h4).grow hle (MemLe.refl μ) (Below.refl _ _)
    · exact ho
  · intro i j p p' u u' b hij h1 h1' hl hl' h2 h2' hb
    rcases cut i p u h1 h2 with ⟨h3, h4⟩ | ⟨rfl, rfl, rfl⟩
    · rcases cut j p' u' h1' h2' with ⟨h5, h6⟩ | ⟨rfl, rfl, rfl⟩
      · exact h.sep i j p p' u u' b hij h3 h5 hl hl' h4 h6 hb
      · rw [hv]; simp
    · rw [hv] at hb; cases hb
  · intro i p u b h1 hl h2 hb
    rcases cut i p u h1 h2 with ⟨h3, h4⟩ | ⟨rfl, rfl, rfl⟩
    · exact h.own i p u b h3 hl h4 hb
    · rw [hv] at hb; cases hb

def NIL : AV := .d (.val (.slice none 0 0))
theorem gN {E : Env} : Get E (.const (.slice none 0 0)) NIL := get_val E _ rfl rfl
/-- A nil slice in a temporary is a row of one's own, of no element yet. -/
theorem ok_promote {C : Ctx} {c : Code} {Q : Exit → Act → World → Prop} {E : Env} {L : List AO} (t T sz : Nat) {n : Nat} (ht : E t = some NIL) (hn : L.length = n) (h : CodeOk C c Q (upd t (.row n) E) (L ++ [.row T sz []])) : CodeOk C c Q E L := by
  intro a w ⟨⟨μ, ρ, hh, he⟩, hs, hd⟩
  refine h a w ⟨⟨μ, ρ ++ [.slice none 0 0], hh.push0 rfl ⟨[], World.ownsRow_nil w 0 T sz, rfl⟩, fun k r hk => ?_⟩, hs, hd⟩
  have he' := he.mono (MemLe.refl μ) (RhoLe.snoc ρ (.slice none 0 0))
  simp only [upd] at hk
  cases hb : Nat.beq t k with
  | true =>
    rw [hb] at hk
    simp only [cond_true, Option.some.injEq] at hk
    have := Nat.eq_of_beq_eq_true hb
    subst this; subst hk
    obtain ⟨v, h1, h2⟩ := he _ _ ht
    simp only [NIL, ARep, Rep] at h2
    obtain ⟨rfl, _⟩ := h2
    exact ⟨_, h1, by simp only [ARep]; exact ⟨by rw [← hn, ← hh.len]; simp, rfl, rfl⟩⟩
  | false => rw [hb] at hk; exact he' k r hk

mutual
/-- It doesn't name the row i. -/
def AV.free (i : Nat) : AV → Bool
  | .row j => !(Nat.beq j i)
  | .agg cs => AV.frees i cs
  | .tup cs => AV.frees i cs
  | .clo _ cs => AV.frees i cs
  | .opt _ r => AV.free i r
  | .sl j _ _ _ _ => !(Nat.beq j i)
  | .el j _ _ _ => !(Nat.beq j i)
  | _ => true
def AV.frees (i : Nat) : List AV → Bool
  | [] => true
  | c :: cs => AV.free i c && AV.frees i cs
end
def AO.free (i : Nat) : AO → Bool
  | .box _ cs => AV.frees i cs
  | _ => true
/-- ρ and ρ' part at row i alone; what is a box there is the same. -/
def RhoBut (i : Nat) (ρ ρ' : List Value) : Prop := (∀ (j : Nat) (v : Value), j ≠ i → ρ[j]? = some v → ρ'[j]? = some v) ∧ ∀ (v : Value), ρ[i]? = some v → (∃ a, v = .pointer a) → ρ'[i]? = some v
mutual
theorem AV.free_rep {μ : Mem} {i : Nat} {ρ ρ' : List Value} (hr : RhoBut i ρ ρ') : ∀ (r : AV) (v : Value), AV.free i r = true → ARep μ ρ r v → ARep μ ρ' r v
  | .d x, v, _, h => by simpa only [ARep] using h
  | .box j off, v, _, h => by
    simp only [ARep] at h ⊢
    obtain ⟨b, h1, h2⟩ := h
    refine ⟨b, ?_, h2⟩
    by_cases hji : j = i
    · subst hji; exact hr.2 _ h1 ⟨_, rfl⟩
    · exact hr.1 j _ hji h1
  | .row j, v, hb, h => by
    simp only [ARep] at h ⊢
    refine ⟨hr.1 j _ (fun e => ?_) h.1, h.2⟩
    subst e
    simp [AV.free] at hb
  | .agg cs, v, hb, h => by
    simp only [ARep, AV.free] at h hb ⊢
    obtain ⟨vs, h1, h2, h3⟩ := h
    exact ⟨vs, h1, AV.frees_rep hr cs vs hb h2, h3⟩
  | .tup cs, v, hb, h => by
    simp only [ARep, AV.free] at h hb ⊢
    obtain ⟨vs, h1, h2⟩ := h
    exact ⟨vs, h1, AV.frees_rep hr cs vs hb h2⟩
  | .clo fn cs, v, hb, h => by
    simp only [ARep, AV.free] at h hb ⊢
    obtain ⟨vs, h1, h2⟩ := h
    exact ⟨vs, h1, AV.frees_rep hr cs vs hb h2⟩
  | .opt c r, v, hb, h => by
    simp only [ARep, AV.free] at h hb ⊢
    exact ⟨fun hc => AV.free_rep hr r v hb (h.1 hc), h.2⟩
  | .sl j sz off len cap, v, hb, h => by
    simp only [ARep] at h ⊢
    obtain ⟨u, h1, h2⟩ := h
    exact ⟨u, hr.1 j _ (fun e => by subst e; simp [AV.free] at hb) h1, h2⟩
  | .el j sz k fo, v, hb, h => by
    simp only [ARep] at h ⊢
    obtain ⟨u, g, h1, h2⟩ := h
    exact ⟨u, g, hr.1 j _ (fun e => by subst e; simp [AV.free] at hb) h1, h2⟩
theorem AV.frees_rep {μ : Mem} {i : Nat} {ρ ρ' : List Value} (hr : RhoBut i ρ ρ') : ∀ (cs : List AV) (vs : List Value), AV.frees i cs = true → AReps μ ρ cs vs → AReps μ ρ' cs vs
  | [], vs, _, h => by simpa only [AReps] using h
  | c :: cs, vs, hb, h => by
    simp only [AReps, AV.frees, Bool.and_eq_true] at h hb ⊢
    obtain ⟨v, vs', h1, h2, h3⟩ := h
    exact ⟨v, vs', h1, AV.free_rep hr c v hb.1 h2, AV.frees_rep hr cs vs' hb.2 h3⟩
end
/-- What names the row i is forgotten. -/
def killE (i : Nat) (E : Env) : Env := fun t => match E t with
  | some r => bif r.free i then some r else none
  | none => none

/-- What an append wants to know of types. -/
def AppF (P : Program) (t T sz bytes : Nat) : Prop := ∃ i z, P.underlying t = some (.slice T) ∧ P.info? T = some i ∧ i.zero = some z ∧ i.size = sz ∧ i.bytes = bytes ∧ z.cells.size = sz ∧ 0 < sz

theorem flat_of_row {μ : Mem} {sz b : Nat} : ∀ (xs : List D) (o : Nat), Row μ sz b o xs → ∃ flat : List Value, RowVals μ sz xs flat ∧ flat.length = xs.length * sz ∧ (∀ u ∈ flat, u.oneCell' = true) ∧ ∀ (j : Nat) u, flat[j]? = some u → ∃ cs T fz, μ b = some (.cells cs T fz) ∧ cs[o + j]? = some u
  | [], o, _ => ⟨[], rfl, by simp, by simp, by simp⟩
  | x :: xs, o, h => by
    simp only [Row] at h
    obtain ⟨⟨v, h1, h2, ⟨cs, T, fz, h3, h4⟩, h5⟩, h6⟩ := h
    obtain ⟨flat, f1, f2, f3, f4⟩ := flat_of_row xs (o + sz) h6
    have hl : v.cells.toList.length = sz := by simpa using h2
    refine ⟨v.cells.toList ++ flat, ⟨v, flat, rfl, h2, h1, f1⟩, by simp only [List.length_append, hl, f2, List.length_cons, Nat.add_mul]; omega, fun u hu => ?_, fun j u hj => ?_⟩
    · rcases List.mem_append.1 hu with hu | hu
      · exact D.cells_one h1 h5 u hu
      · exact f3 u hu
    · rcases Nat.lt_or_ge j sz with hjs | hjs
      · rw [List.getElem?_append_left (by omega)] at hj
        exact ⟨cs, T, fz, h3, h4 j u hj⟩
      · rw [List.getElem?_append_right (by omega)] at hj
        obtain ⟨cs', T', fz', g1, g2⟩ := f4 _ u hj
        exact ⟨cs', T', fz', g1, by rw [← g2]; congr 1; omega⟩
theorem RowVals.append {μ : Mem} {sz : Nat} : ∀ {xs ys : List D} {f g : List Value}, RowVals μ sz xs f → RowVals μ sz ys g → RowVals μ sz (xs ++ ys) (f ++ g)
  | [], ys, f, g, h, k => by simp only [RowVals] at h; subst h; simpa using k
  | x :: xs, ys, f, g, ⟨v, rest, h1, h2, h3, h4⟩, k => by
    subst h1
    exact ⟨v, rest ++ g, by simp, h2, h3, RowVals.append h4 k⟩

/-- The value that row i has been replaced by. -/
theorem HeapOk.rerow {C : Ctx} {w w' : World} {μ : Mem} {ρ : List Value} {L : List AO} (h : HeapOk C w μ ρ L) {i T sz : Nat} {xs zs : List D} {v v' : Value} {flat : List Value} (hL : L[i]? = some (.row T sz xs)) (hv : ρ[i]? = some v)
    (hg : w.grownBy w' v.ownBlock) (hdr : w.drawn ≤ w'.drawn) (hown : w'.ownsRow 0 T sz v' zs.length flat) (hr : RowVals μ sz zs flat) (hnew : ∀ b, blk v' = some b → blk v = some b ∨ (w.heap.size ≤ b ∧ b < w'.heap.size)) (hfree : L.all (AO.free i) = true) (hi0 : C.n0 ≤ i) :
    HeapOk C w' μ (ρ.set i v') (L.set i (.row T sz zs)) := by
  have hi : i < L.length := (List.getElem?_eq_some_iff.1 hL).1
  have hiρ : i < ρ.length := by rw [h.len]; exact hi
  have hslice : ∀ (u : Value) n fl, w.ownsRow 0 T sz u n fl → u.ownBlock = blk u ∧ ∀ a, u ≠ .pointer a := by
    intro u n fl hu
    rcases hu.2 with ⟨rfl, _⟩ | ⟨g, cap, cur, rfl, _⟩
    · exact ⟨rfl, by simp⟩
    · exact ⟨rfl, by simp⟩
  obtain ⟨flat0, h0, h0'⟩ := h.rep i _ _ hL hv
  have hvs := hslice v _ _ h0
  have hbut : RhoBut i ρ (ρ.set i v') := ⟨fun j u hj hu => by rw [List.getElem?_set_ne (Ne.symm hj)]; exact hu, fun u hu ⟨a, ha⟩ => by rw [hv] at hu; cases hu; exact absurd ha (hvs.2 a)⟩
  have cut : ∀ (j : Nat) o u, (L.set i (.row T sz zs))[j]? = some o → (ρ.set i v')[j]? = some u → (j = i ∧ o = .row T sz zs ∧ u = v') ∨ (j ≠ i ∧ L[j]? = some o ∧ ρ[j]? = some u) := by
    intro j o u hj hu
    by_cases hji : j = i
    · subst hji
      rw [List.getElem?_set_self hi] at hj
      rw [List.getElem?_set_self hiρ] at hu
      exact .inl ⟨rfl, by simpa using hj.symm, by simpa using hu.symm⟩
    · rw [List.getElem?_set_ne (Ne.symm hji)] at hj hu
      exact .inr ⟨hji, hj, hu⟩
  have same : ∀ (j : Nat) o u b, j ≠ i → L[j]? = some o → o.live = true → ρ[j]? = some u → blk u = some b → w'.heap[b]? = w.heap[b]? := by
    intro j o u b hji hj hl hu hb
    refine hg.block b (h.own j o u b hj hl hu hb).2.1 fun e => ?_
    rw [hvs.1] at e
    exact h.sep j i _ _ _ _ b hji hj hL hl rfl hu hv hb e.symm
  refine ⟨by simp [h.len], ?_, ?_, ?_, ?_, h.le, h.old, ⟨hg.os.trans h.fr.os, hg.tape.trans h.fr.tape, hg.output.trans h.fr.output, Nat.le_trans h.fr.size hg.size, fun k hk hF => ?_, Nat.le_trans h.fr.dr hdr⟩, by simpa using h.n0le, fun j hj => by rw [List.getElem?_set_ne (by omega)]; exact h.keep j hj⟩
  · intro j o u hj hu
    rcases cut j o u hj hu with ⟨rfl, rfl, rfl⟩ | ⟨hji, hj', hu'⟩
    · exact ⟨flat, hown, hr⟩
    · have h3 := h.rep j o u hj' hu'
      have hf := List.all_eq_true.1 hfree o (List.mem_of_getElem? hj')
      cases o with
      | box U ds =>
        obtain ⟨b', vs, rfl, h4, h5, h6⟩ := h3
        exact ⟨b', vs, rfl, (same j _ _ b' hji hj' rfl hu' rfl).trans h4, AV.frees_rep hbut ds vs hf h5, h6⟩
      | row U s ys =>
        obtain ⟨fl, h4, h5⟩ := h3
        refine ⟨fl, h4.kept (row := v.ownBlock) hg ?_, h5⟩
        have hus : u.ownBlock = blk u := by
          rcases h4.2 with ⟨rfl, _⟩ | ⟨g, cap, cur, rfl, _⟩ <;> rfl
        rw [hus, hvs.1]
        cases hb : blk u with
        | none => exact .inl rfl
        | some b => exact .inr fun e => h.sep j i _ _ _ _ b hji hj' hL rfl rfl hu' hv hb e.symm
      | dead => trivial
      | raw p ob =>
        obtain ⟨g, rfl, h5, h6⟩ := h3
        exact ⟨g, rfl, (same j _ _ g hji hj' rfl hu' rfl).trans h5, h6⟩
      | arr U s ys =>
        rcases h3 with ⟨g, cur, h4, h5, h6⟩ | h3
        · exact .inl ⟨g, cur, h4, (same j _ _ g hji hj' rfl hu' h4).trans h5, h6⟩
        · exact .inr h3
  · intro j k o o' u u' b hjk hj hk hl hl' hu hu' hb
    rcases cut j o u hj hu with ⟨rfl, rfl, rfl⟩ | ⟨hji, hj', hu1⟩
    · rcases cut k o' u' hk hu' with ⟨rfl, _, _⟩ | ⟨hki, hk', hu2⟩
      · exact absurd rfl hjk
      · intro e
        rcases hnew b hb with h1 | ⟨h1, _⟩
        · exact h.sep k j _ _ _ _ b hki hk' hL hl' rfl hu2 hv e h1
        · have := (h.own k o' u' b hk' hl' hu2 e).2.1; omega
    · rcases cut k o' u' hk hu' with ⟨rfl, rfl, rfl⟩ | ⟨hki, hk', hu2⟩
      · intro e
        rcases hnew b e with h1 | ⟨h1, _⟩
        · exact h.sep j k _ _ _ _ b hji hj' hL hl rfl hu1 hv hb h1
        · have := (h.own j o u b hj' hl hu1 hb).2.1; omega
      · exact h.sep j k o o' u u' b hjk hj' hk' hl hl' hu1 hu2 hb
  · intro j o u b hj hl hu hb
    rcases cut j o u hj hu with ⟨rfl, rfl, rfl⟩ | ⟨hji, hj', hu1⟩
    · rcases hnew b hb with h1 | ⟨h1, h2⟩
      · obtain ⟨a1, a2, a3⟩ := h.own j _ v b hL rfl hv h1
        exact ⟨a1, Nat.lt_of_lt_of_le a2 hg.size, a3⟩
      · refine ⟨?_, h2, .inr (Nat.le_trans h.fr.size h1)⟩
        cases hm : μ b with
        | none => rfl
        | some ob => have := lt_of_heap (h.holds _ _ hm); omega
    · obtain ⟨a1, a2, a3⟩ := h.own j o u b hj' hl hu1 hb
      exact ⟨a1, Nat.lt_of_lt_of_le a2 hg.size, a3⟩
  · intro b ob hb
    have h1 := h.holds b ob hb
    rw [hg.block b (lt_of_heap h1) fun e => ?_]
    · exact h1
    · rw [hvs.1] at e
      have := (h.own i _ v b hL rfl hv e.symm).1
      rw [hb] at this; cases this
  · rw [hg.block k (Nat.lt_of_lt_of_le hk h.fr.size) fun e => ?_]
    · exact h.fr.block k hk hF
    · rw [hvs.1] at e
      rcases (h.own i _ v k hL rfl hv e.symm).2.2 with h1 | h1
      · exact hF h1
      · omega

theorem run_append_call {P : Program} {w w' : World} {o : Oper} {f : Operand → Value} {s x : Operand} {t : TypeId} {v : Value} (ho : o.op = .call { callee := .builtin .append, args := #[s, x], argTypes := #[t, t] }) (h : (Builtin.append_ #[t, t] o.type #[f s, f x]).run P w = .ok v w') : (execOp f o).run P w = .ok (.value v) w' := by
  have e1 : execOp f o = (do let d ← resolve f { callee := .builtin .append, args := #[s, x], argTypes := #[t, t] } o.type; invoke d.target d.args) := by simp only [execOp, ho]
  rw [e1]
  simp only [resolve, invoke, builtin, Sem.run_bind, Sem.run_pure, Result.andThen]
  have : (#[s, x].map f) = #[f s, f x] := by simp
  rw [this]
  simp only [h]

/-- 'append' to a row of one's own. -/
theorem append_own_dr {P : Program} (w : World) (base : Nat) (t ty e : TypeId) (i : TypeInfo) (z : Value) (size bytes : Nat) (ht : P.underlying t = some (.slice e)) (hi : P.info? e = some i) (hz : i.zero = some z)
    (hsize : i.size = size) (hby : i.bytes = bytes) (hzs : z.cells.size = size) (hsz : 0 < size)
    (v : Value) (n : Nat) (xs : List Value) (hown : w.ownsRow base e size v n xs)
    (a : Addr) (m c : Nat) (news : List Value) (hl : news.length = m * size) (hnews : ∀ j u, news[j]? = some u → w.cell? (a.add j) = some u) (h1 : ∀ u ∈ news, u.oneCell' = true)
    (h63 : n + m ≤ maxLen) (hbytes : (n + m) * bytes ≤ 140737488355328) (hbase : base ≤ w.heap.size) :
    ∃ v' w', (Builtin.append_ #[t, t] ty #[v, .slice (some a) m c]).run P w = .ok v' w' ∧ w'.ownsRow base e size v' (n + m) (xs ++ news) ∧ w.grownBy w' v.ownBlock ∧
      (v' = .slice none 0 0 ↔ v = .slice none 0 0 ∧ m = 0) ∧ (v'.ownBlock = v.ownBlock ∨ v'.ownBlock = some w.heap.size) ∧ w.drawn ≤ w'.drawn := by
  obtain ⟨v', w', r1, r2, r3, r4, r5⟩ := run_append_own_at (P := P) w base t ty e i z size bytes ht hi hz hsize hby hzs hsz v n xs hown a m c news hl hnews h1 h63 hbytes hbase
  refine ⟨v', w', r1, r2, r3, r4, r5, ?_⟩
  subst hsize
  subst hby
  have hsmall : n + m ≤ 9223372036854775807 := by simp only [maxLen] at h63; omega
  have fin : ∀ v2 w2, (Builtin.append_ #[t, t] ty #[v, .slice (some a) m c]).run P w = .ok v2 w2 → w.drawn ≤ w2.drawn → w.drawn ≤ w'.drawn := fun v2 w2 h hd => by
    rw [r1] at h; injection h with _ h; rw [h]; exact hd
  rcases hown.2 with ⟨rfl, rfl⟩ | ⟨g, cap, cur, rfl, hbg, hg, hnc, hcm, hcs, htake⟩
  · by_cases hm : m = 0
    · subst hm
      refine fin (.slice none 0 0) w ?_ (Nat.le_refl _)
      have hn : news = [] := List.eq_nil_of_length_eq_zero (by simpa using hl)
      simp [Builtin.append_, run_underlying ht, sizeOf, typeInfo, hi, Builtin.lenOf, Builtin.firstCells, loadCells, loadCellsFrom]
    · exact fin _ _ (run_append_nil (P := P) w t ty e i z ht hi hz a m c news hl hnews (by omega) (by omega) (by have hb := hbytes; simp only [Nat.zero_add] at hb; omega)) (Nat.le_succ _)
  · by_cases hroom : n + m ≤ cap
    · have hfit : n * i.size + news.length ≤ cur.size := by rw [hl, hcs, ← Nat.add_mul]; exact Nat.mul_le_mul_right _ hroom
      exact fin _ _ (run_append_room (P := P) w t ty e i ht hi g n cap cur hg a m c news hl hnews h1 hroom hfit) (Nat.le_refl _)
    · have holds : ∀ j u, xs[j]? = some u → w.cell? ((⟨g, 0, none⟩ : Addr).add j) = some u := hown.cells (g := g) rfl
      exact fin _ _ (run_append_grow (P := P) w t ty e i z ht hi hz ⟨g, 0, none⟩ n cap xs hown.1 holds a m c news hl hnews (by omega) (by omega) (growslice_fits (by omega) hbytes)) (Nat.le_succ _)
theorem ok_append {C : Ctx} {ops : Array Oper} {Q : Exit → Act → World → Prop} {os : List Oper} {E : Env} {L : List AO} {d i t T sz bytes szy : Nat} {s x : Operand} {xs ys : List D} {ty : TypeId} {p : String} {af : Array Edge}
    (hs : Get E s (.row i)) (hx : Get E x (.d (.list szy ys))) (ht : AppF C.P t T sz bytes) (hL : L[i]? = some (.row T sz xs)) (hsz : ys ≠ [] → szy = sz) (hb : (xs.length + ys.length) * bytes ≤ 140737488355328) (hm : xs.length + ys.length ≤ 9223372036854775807) (hfree : L.all (AO.free i) = true) (hi0 : Nat.ble C.n0 i = true)
    (h : OpsOk C ops Q os (upd d (.row i) (killE i E)) (L.set i (.row T sz (xs ++ ys)))) : OpsOk C ops Q (⟨some d, .call ⟨.builtin .append, #[s, x], #[t, t]⟩, ty, p, af, none⟩ :: os) E L := by
  refine ok_one (fun a w ⟨⟨μ, ρ, hh, he⟩, hsz', hdf⟩ hN K hK => ?_) h
  have h1 := hs μ ρ a he
  have h2 := hx μ ρ a he
  simp only [ARep, Rep] at h1 h2
  obtain ⟨hρ, _⟩ := h1
  obtain ⟨flat, hown, hvals⟩ := hh.rep i _ _ hL hρ
  obtain ⟨info, z, ht1, ht2, ht3, ht4, ht5, ht6, ht7⟩ := ht
  obtain ⟨ad, c, hy, hc, hcm, hnil, hrow⟩ := h2
  have at_ : ∀ (v' : Value) (w' : World) (m : Nat) (fl : List Value), w'.ownsRow 0 T sz v' m fl → (v'.ownBlock = (a.eval s).ownBlock ∨ v'.ownBlock = some w.heap.size) → ∀ b, blk v' = some b → blk (a.eval s) = some b ∨ (w.heap.size ≤ b ∧ b < w'.heap.size) := by
    intro v' w' m fl ho hor b hb'
    have e1 : v'.ownBlock = blk v' := by rcases ho.2 with ⟨rfl, _⟩ | ⟨g, cap, cur, rfl, _⟩ <;> rfl
    have e2 : (a.eval s).ownBlock = blk (a.eval s) := by rcases hown.2 with ⟨e, _⟩ | ⟨g, cap, cur, e, _⟩ <;> rw [e] <;> rfl
    rcases hor with h0 | h0
    · left; rw [← e2, ← h0, e1]; exact hb'
    · right
      rw [e1, hb'] at h0
      cases h0
      refine ⟨Nat.le_refl _, ?_⟩
      rcases ho.2 with ⟨rfl, _⟩ | ⟨g, cap, cur, rfl, _, hg, _⟩
      · cases hb'
      · simp only [blk, Option.some.injEq] at hb'
        subst hb'
        exact lt_of_heap hg
  have key : ∃ v' w' flat', (Builtin.append_ #[t, t] ty #[a.eval s, a.eval x]).run C.P w = .ok v' w' ∧ w'.ownsRow 0 T sz v' (xs ++ ys).length flat' ∧ RowVals μ sz (xs ++ ys) flat' ∧ w.grownBy w' (a.eval s).ownBlock ∧ w.drawn ≤ w'.drawn ∧
      (∀ b, blk v' = some b → blk (a.eval s) = some b ∨ (w.heap.size ≤ b ∧ b < w'.heap.size)) := by
    by_cases hye : ys = []
    · subst hye
      cases had : ad with
      | none =>
        subst had
        have hc0 := hnil rfl
        subst hc0
        refine ⟨a.eval s, w, flat, ?_, by simpa using hown, by simpa using hvals, ⟨rfl, rfl, rfl, Nat.le_refl _, fun _ _ _ => rfl⟩, Nat.le_refl _, fun b hb => .inl hb⟩
        rw [hy]; exact run_append_owned_none (P := C.P) w 0 t ty T info sz ht1 ht2 _ _ _ hown
      | some ad' =>
        subst had
        obtain ⟨v', w', r1, r2, r3, _, r5, rd⟩ := append_own_dr (P := C.P) w 0 t ty T info z sz bytes ht1 ht2 ht3 ht4 ht5 ht6 ht7 (a.eval s) xs.length flat hown ad' 0 c [] (by simp) (by simp) (by simp) (by simp only [maxLen]; simpa using hm) (by simpa using hb) (Nat.zero_le _)
        exact ⟨v', w', flat, by rw [hy]; exact r1, by simpa using r2, by simpa using hvals, r3, rd, at_ v' w' _ _ r2 r5⟩
    · rcases hrow with hrow | ⟨b0, o0, rfl, hrow⟩
      · exact absurd hrow hye
      · have hsz := hsz hye
        subst hsz
        obtain ⟨news, n1, n2, n3, n4⟩ := flat_of_row ys o0 hrow
        obtain ⟨v', w', r1, r2, r3, _, r5, rd⟩ := append_own_dr (P := C.P) w 0 t ty T info z szy bytes ht1 ht2 ht3 ht4 ht5 ht6 ht7 (a.eval s) xs.length flat hown ⟨b0, o0, none⟩ ys.length c news n2
          (fun j u hj => by
            obtain ⟨cs, U, fz, g1, g2⟩ := n4 j u hj
            rw [addr_add]
            simp [World.cell?, hh.holds _ _ g1, g2]) n3 (by simp only [maxLen]; exact hm) hb (Nat.zero_le _)
        exact ⟨v', w', flat ++ news, by rw [hy]; exact r1, by rw [List.length_append]; exact r2, hvals.append n1, r3, rd, at_ v' w' _ _ r2 r5⟩
  obtain ⟨v', w', flat', r1, r2, r3, r4, rd, r5⟩ := key
  refine wp_one rfl (run_append_call rfl r1) (hK _ _ ⟨⟨μ, ρ.set i v', hh.rerow hL hρ r4 rd r2 r3 r5 hfree (by simpa using hi0), ?_⟩, by rw [size_put]; exact hsz', by rw [defers_put]; exact hdf⟩)
  have hiρ : i < ρ.length := (List.getElem?_eq_some_iff.1 hρ).1
  have hbut : RhoBut i ρ (ρ.set i v') := ⟨fun j u hj hu => by rw [List.getElem?_set_ne (Ne.symm hj)]; exact hu, fun u hu ⟨a', ha⟩ => by
    rw [hρ] at hu; cases hu
    rcases hown.2 with ⟨e, _⟩ | ⟨g, cap, cur, e, _⟩ <;> rw [e] at ha <;> cases ha⟩
  refine EnvOk.put (fun k r hk => ?_) (by rw [hsz']; exact hN d rfl) ?_
  · unfold killE at hk
    split at hk
    · rename_i r' hr'
      cases hf : r'.free i with
      | false => rw [hf] at hk; simp at hk
      | true =>
        rw [hf] at hk
        simp only [cond_true, Option.some.injEq] at hk
        subst hk
        obtain ⟨u, hu1, hu2⟩ := he k r' hr'
        exact ⟨u, hu1, AV.free_rep hbut r' u hf hu2⟩
    · cases hk
  · simp only [ARep]
    refine ⟨by rw [List.getElem?_set_self hiρ], ?_⟩
    rcases r2.2 with ⟨e, _⟩ | ⟨g, cap, cur, e, _⟩ <;> subst e <;> exact ⟨rfl, rfl⟩

/-! ### A row becomes immutable -/
mutual
def AV.subst (i : Nat) (x : D) : AV → AV
  | .row j => bif Nat.beq j i then .d x else .row j
  | .agg cs => .agg (AV.substs i x cs)
  | .tup cs => .tup (AV.substs i x cs)
  | .clo fn cs => .clo fn (AV.substs i x cs)
  | .opt c r => .opt c (AV.subst i x r)
  | .d y => .d y
  | .box j o => .box j o
  | .sl j sz o l c => .sl j sz o l c
  | .el j sz k f => .el j sz k f
def AV.substs (i : Nat) (x : D) : List AV → List AV
  | [] => []
  | c :: cs => AV.subst i x c :: AV.substs i x cs
end
mutual
theorem AV.subst_rep {μ : Mem} {ρ : List Value} {i : Nat} {x : D} (hx : ∀ v, ρ[i]? = some v → v.cells = #[v] → Rep μ x v) : ∀ (r : AV) (v : Value), ARep μ ρ r v → ARep μ ρ (AV.subst i x r) v
  | .d y, v, h => by simpa only [AV.subst] using h
  | .box j off, v, h => by simpa only [AV.subst] using h
  | .sl j sz o l c, v, h => by simpa only [AV.subst] using h
  | .el j sz k f, v, h => by simpa only [AV.subst] using h
  | .row j, v, h => by
    simp only [AV.subst]
    cases hb : Nat.beq j i with
    | false => exact h
    | true =>
      have := Nat.eq_of_beq_eq_true hb
      subst this
      simp only [ARep] at h
      simp only [cond_true, ARep]
      exact hx v h.1 h.2.1
  | .agg cs, v, h => by
    simp only [ARep, AV.subst] at h ⊢
    obtain ⟨vs, h1, h2, h3⟩ := h
    exact ⟨vs, h1, AV.substs_rep hx cs vs h2, h3⟩
  | .tup cs, v, h => by
    simp only [ARep, AV.subst] at h ⊢
    obtain ⟨vs, h1, h2⟩ := h
    exact ⟨vs, h1, AV.substs_rep hx cs vs h2⟩
  | .clo fn cs, v, h => by
    simp only [ARep, AV.subst] at h ⊢
    obtain ⟨vs, h1, h2⟩ := h
    exact ⟨vs, h1, AV.substs_rep hx cs vs h2⟩
  | .opt c r, v, h => by
    simp only [ARep, AV.subst] at h ⊢
    exact ⟨fun hc => AV.subst_rep hx r v (h.1 hc), h.2⟩
theorem AV.substs_rep {μ : Mem} {ρ : List Value} {i : Nat} {x : D} (hx : ∀ v, ρ[i]? = some v → v.cells = #[v] → Rep μ x v) : ∀ (cs : List AV) (vs : List Value), AReps μ ρ cs vs → AReps μ ρ (AV.substs i x cs) vs
  | [], vs, h => by simpa only [AV.substs] using h
  | c :: cs, vs, h => by
    simp only [AReps, AV.substs] at h ⊢
    obtain ⟨v, vs', h1, h2, h3⟩ := h
    exact ⟨v, vs', h1, AV.subst_rep hx c v h2, AV.substs_rep hx cs vs' h3⟩
end
def AO.subst (i : Nat) (x : D) : AO → AO
  | .box T cs => .box T (AV.substs i x cs)
  | o => o
def substE (i : Nat) (x : D) (E : Env) : Env := fun t => match E t with
  | some r => some (AV.subst i x r)
  | none => none

theorem row_of_vals {μ : Mem} {b T sz : Nat} {fz : Nat × Nat} {cur : Array Value} (hb : μ b = some (.cells cur T fz)) : ∀ (xs : List D) (flat : List Value) (o : Nat), RowVals μ sz xs flat → (∀ x ∈ xs, x.plain = true) → (∀ (j : Nat) u, flat[j]? = some u → cur[o + j]? = some u) → Row μ sz b o xs
  | [], flat, o, _, _, _ => by simp only [Row]
  | x :: xs, flat, o, ⟨v, rest, h1, h2, h3, h4⟩, hp, hc => by
    subst h1
    simp only [Row]
    have hl : v.cells.toList.length = sz := by simpa using h2
    refine ⟨⟨v, h3, h2, ⟨cur, T, fz, hb, fun j u hj => hc j u ?_⟩, hp x List.mem_cons_self⟩, row_of_vals hb xs rest (o + sz) h4 (fun y hy => hp y (List.mem_cons_of_mem _ hy)) fun j u hj => ?_⟩
    · rw [List.getElem?_append_left (List.getElem?_eq_some_iff.1 hj).1]; exact hj
    · have := hc (sz + j) u (by rw [List.getElem?_append_right (by omega)]; rw [show sz + j - v.cells.toList.length = j by omega]; exact hj)
      rw [← this]; congr 1; omega

/-- From here on row i is immutable: a list. -/
theorem sim_freeze {C : Ctx} {a : Act} {w : World} {E : Env} {L : List AO} {i T sz : Nat} {xs : List D} (hF : ∀ b, ¬ C.F b) (hL : L[i]? = some (.row T sz xs)) (hpl : ∀ x ∈ xs, x.plain = true) (s : Sim C a w E L) :
    Sim C a w (substE i (.list sz xs) E) ((L.map (AO.subst i (.list sz xs))).set i .dead) := by
  obtain ⟨⟨μ, ρ, hh, he⟩, hs, hd⟩ := s
  have hi : i < L.length := (List.getElem?_eq_some_iff.1 hL).1
  obtain ⟨v, hv⟩ : ∃ v, ρ[i]? = some v := ⟨ρ[i]'(by rw [hh.len]; exact hi), by simp [hh.len, hi]⟩
  obtain ⟨flat, hown, hvals⟩ := hh.rep i _ _ hL hv
  -- the new immutable memory
  have key : ∃ μ', MemLe μ μ' ∧ (∀ b, b < C.w0.heap.size → μ' b = μ b) ∧ (∀ b o, μ' b = some o → w.heap[b]? = some o) ∧ (∀ b, blk v ≠ some b → μ' b = μ b) ∧ Rep μ' (.list sz xs) v := by
    rcases hown.2 with ⟨e, e0⟩ | ⟨g, cap, cur, e, _, hg, h1, h2, h3, h4⟩
    · refine ⟨μ, MemLe.refl μ, fun _ _ => rfl, hh.holds, fun _ _ => rfl, ?_⟩
      subst e
      have : xs = [] := List.eq_nil_of_length_eq_zero e0
      subst this
      simp only [Rep]
      exact ⟨none, 0, rfl, by simp, Nat.zero_le _, fun _ => rfl, .inl trivial⟩
    · subst e
      have hbg : blk (.slice (some ⟨g, 0, none⟩) xs.length cap) = some g := rfl
      obtain ⟨o1, o2, o3⟩ := hh.own i _ _ g hL rfl hv hbg
      have hg0 : C.w0.heap.size ≤ g := o3.resolve_left (hF g)
      have hle : MemLe μ (fun b => if b = g then some (.cells cur T (0, 0)) else μ b) := fun b ob hb => by
        have : b ≠ g := fun e => by subst e; rw [o1] at hb; cases hb
        simp [this, hb]
      refine ⟨fun b => if b = g then some (.cells cur T (0, 0)) else μ b, hle, fun b hb => ?_, fun b ob hb => ?_, fun b hb => ?_, ?_⟩
      · have : b ≠ g := by omega
        simp [this]
      · by_cases hbg : b = g
        · subst hbg
          simp only [if_true, Option.some.injEq] at hb
          rw [← hb]; exact hg
        · simp only [hbg, if_false] at hb
          exact hh.holds b ob hb
      · have : b ≠ g := fun e => hb (by rw [e]; rfl)
        simp [this]
      · simp only [Rep]
        refine ⟨some ⟨g, 0, none⟩, cap, rfl, h1, h2, (fun h => by cases h), .inr ⟨g, 0, rfl, row_of_vals (T := T) (fz := (0, 0)) (cur := cur) (by simp) xs flat 0 (hvals.mono hle) hpl fun j u hj => ?_⟩⟩
        rw [← h4, List.getElem?_take] at hj
        split at hj
        · simpa using hj
        · cases hj
  obtain ⟨μ', hle, hold, hhold, hother, hrep⟩ := key
  have hsub : ∀ u, ρ[i]? = some u → u.cells = #[u] → Rep μ' (.list sz xs) u := fun u hu _ => by rw [hv] at hu; cases hu; exact hrep
  have cut : ∀ (j : Nat) o, ((L.map (AO.subst i (.list sz xs))).set i .dead)[j]? = some o → (j = i ∧ o = .dead) ∨ (j ≠ i ∧ ∃ o', L[j]? = some o' ∧ o = AO.subst i (.list sz xs) o') := by
    intro j o hj
    by_cases hji : j = i
    · subst hji
      rw [List.getElem?_set_self (by simpa using hi)] at hj
      exact .inl ⟨rfl, by simpa using hj.symm⟩
    · rw [List.getElem?_set_ne (Ne.symm hji), List.getElem?_map] at hj
      cases hLj : L[j]? with
      | none => rw [hLj] at hj; cases hj
      | some o' => rw [hLj] at hj; simp only [Option.map_some, Option.some.injEq] at hj; exact .inr ⟨hji, o', rfl, hj.symm⟩
  have livesub : ∀ o : AO, (AO.subst i (.list sz xs) o).live = true → o.live = true := fun o h => by cases o <;> simp_all [AO.subst, AO.live]
  refine ⟨⟨μ', ρ, ⟨by simp [hh.len], ?_, ?_, ?_, hhold, hh.le.trans hle, fun b hb => (hold b hb).trans (hh.old b hb), hh.fr, hh.n0le, hh.keep⟩, fun t r hr => ?_⟩, hs, hd⟩
  · intro j o u hj hu
    rcases cut j o hj with ⟨rfl, rfl⟩ | ⟨hji, o', hj', rfl⟩
    · trivial
    · have h3 := hh.rep j o' u hj' hu
      cases o' with
      | box U ds =>
        obtain ⟨b, vs, h4, h5, h6, h7⟩ := h3
        exact ⟨b, vs, h4, h5, AV.substs_rep hsub ds vs (AReps.mono hle (RhoLe.refl ρ) ds vs h6), h7⟩
      | row U s ys =>
        obtain ⟨fl, h4, h5⟩ := h3
        exact ⟨fl, h4, h5.mono hle s ys fl⟩
      | dead => trivial
      | raw p ob => exact h3
      | arr U s ys =>
        rcases h3 with ⟨g, cur, h4, h5, h6⟩ | h3
        · exact .inl ⟨g, cur, h4, h5, h6.mono hle s ys _⟩
        · exact .inr h3
  · intro j k o o' u u' b hjk hj hk hl hl' hu hu' hb
    rcases cut j o hj with ⟨rfl, rfl⟩ | ⟨hji, p, hj', rfl⟩
    · simp [AO.live] at hl
    · rcases cut k o' hk with ⟨rfl, rfl⟩ | ⟨hki, p', hk', rfl⟩
      · simp [AO.live] at hl'
      · exact hh.sep j k p p' u u' b hjk hj' hk' (livesub p hl) (livesub p' hl') hu hu' hb
  · intro j o u b hj hl hu hb
    rcases cut j o hj with ⟨rfl, rfl⟩ | ⟨hji, p, hj', rfl⟩
    · simp [AO.live] at hl
    · obtain ⟨a1, a2, a3⟩ := hh.own j p u b hj' (livesub p hl) hu hb
      refine ⟨?_, a2, a3⟩
      rw [hother b fun e => hh.sep j i p _ u v b hji hj' hL (livesub p hl) rfl hu hv hb e]
      exact a1
  · unfold substE at hr
    split at hr
    · rename_i r' hr'
      cases hr
      obtain ⟨u, hu1, hu2⟩ := he t r' hr'
      exact ⟨u, hu1, AV.subst_rep hsub r' u (ARep.mono hle (RhoLe.refl ρ) r' u hu2)⟩
    · cases hr
theorem ok_freeze {P : Program} {N n0 : Nat} {ρ0 : List Value} {w0 : World} {μ0 : Mem} {ro : Option Nat} {df : List Deferred} {c : Code} {Q : Exit → Act → World → Prop} {E : Env} {L : List AO} (i : Nat) {T sz : Nat} {xs : List D} (hL : L[i]? = some (.row T sz xs)) (hpl : ∀ x ∈ xs, x.plain = true)
    (h : CodeOk ⟨P, N, w0, μ0, fun _ => False, n0, ρ0, ro, df⟩ c Q (substE i (.list sz xs) E) ((L.map (AO.subst i (.list sz xs))).set i .dead)) : CodeOk ⟨P, N, w0, μ0, fun _ => False, n0, ρ0, ro, df⟩ c Q E L :=
  fun a w s => h a w (sim_freeze (fun _ => id) hL hpl s)
theorem ex_freeze {P : Program} {N n0 : Nat} {ρ0 : List Value} {w0 : World} {μ0 : Mem} {ro : Option Nat} {df : List Deferred} {e : Exit} {Q : Exit → Act → World → Prop} {E : Env} {L : List AO} (i : Nat) {T sz : Nat} {xs : List D} (hL : L[i]? = some (.row T sz xs)) (hpl : ∀ x ∈ xs, x.plain = true)
    (h : ExOk ⟨P, N, w0, μ0, fun _ => False, n0, ρ0, ro, df⟩ e Q (substE i (.list sz xs) E) ((L.map (AO.subst i (.list sz xs))).set i .dead)) : ExOk ⟨P, N, w0, μ0, fun _ => False, n0, ρ0, ro, df⟩ e Q E L :=
  fun a w s => h a w (sim_freeze (fun _ => id) hL hpl s)
end Go.Aw
