/- Contracts of functions of the program, walked: . By an AI agent. -/
import Derived.Test.YtknekkemmbgceaaGreatDoorW30
import Derived.Test.YtknekkemmbgceaaGreatDoorSp
set_option linter.all false
/-! W31 -/
namespace Go.Aw
open Go.RowKit Go.Proofs
set_option maxRecDepth 20000
def evC (a : Ev) : List D := [I a.kind, I a.node, I a.rng, I a.op, I a.m.table, I a.m.kind, .str a.m.key, .str a.m.end_, .str a.m.val, I a.m.expiry, I a.m.at_.phys, I a.m.at_.logic, I a.m.at_.who, .list 3 (a.m.over.map St.d), mus a.c.cells, mus a.c.wipes, mus a.c.sibs, I a.s.phys, I a.s.logic, I a.s.who, I a.base.phys, I a.base.logic, I a.base.who, .bool a.quar, I a.why, ints a.q, ints a.nos, I a.no, I a.table, .str a.key, .str a.end_, .list 5 (a.rows.map Ro.d), .list 3 (a.ctx.map St.d)]
theorem cod23 : Cod Pr 23 1 (fun n : Int => [.int .i64 n]) (fun _ => True) := cod_int (by kernel_rfl) (by kernel_rfl)
theorem cod3 : Cod Pr 3 1 (fun n : Int => [.int .i64 n]) (fun _ => True) := cod_int (by kernel_rfl) (by kernel_rfl)
theorem cod26 : Cod Pr 26 1 (fun n : Int => [.int .i64 n]) (fun _ => True) := cod_int (by kernel_rfl) (by kernel_rfl)
theorem cod27 : Cod Pr 27 1 (fun n : Int => [.int .i64 n]) (fun _ => True) := cod_int (by kernel_rfl) (by kernel_rfl)
theorem cod9 : Cod Pr 9 1 (fun s : ByteArray => [.str s]) (fun _ => True) := cod_str (by kernel_rfl) (by kernel_rfl)
theorem cod29 : Cod Pr 29 3 (fun a : St => [I a.phys, I a.logic, I a.who]) (fun a => True) := by
  refine ⟨by kernel_rfl, fun {H enc w spare held} fuel cs x h hw => ?_⟩
  have hT := Tryz.underlying29
  have hl : cs.length = 3 := (struct_len hT h).trans (by kernel_rfl)
  obtain ⟨a0, r0, k0⟩ := fld_read hT h hw 0 _ rfl cod3
  obtain ⟨a1, r1, k1⟩ := fld_read hT h hw 1 _ rfl cod3
  obtain ⟨a2, r2, k2⟩ := fld_read hT h hw 2 _ rfl cod3
  have ch := (repsO_seg (o := 0) (k := 1) rfl r0 (repsO_seg (o := 1) (k := 1) rfl r1 (repsO_seg (o := 2) (k := 1) rfl r2 (repsO_end hl))))
  rw [List.drop_zero] at ch
  exact ⟨⟨a0, a1, a2⟩, ch.1, trivial, ch.2⟩
theorem cod30 : Cod Pr 30 1 (fun l : List St => [.list 3 (l.map St.d)]) (fun l => l.length * Pr.bytesOf 29 ≤ reachBytes ∧ ∀ a ∈ l, True) := cod_slice (by kernel_rfl) (by kernel_rfl) cod29 (by decide) (fun μ a cs h hl ho => el_agg (f := fun a : St => [I a.phys, I a.logic, I a.who]) μ a cs h ho) (fun _ => rfl)
theorem cod32 : Cod Pr 32 10 (fun a : Mu => [I a.table, I a.kind, .str a.key, .str a.end_, .str a.val, I a.expiry, I a.at_.phys, I a.at_.logic, I a.at_.who, .list 3 (a.over.map St.d)]) (fun a => True) := by
  refine ⟨by kernel_rfl, fun {H enc w spare held} fuel cs x h hw => ?_⟩
  have hT := Tryz.underlying32
  have hl : cs.length = 10 := (struct_len hT h).trans (by kernel_rfl)
  obtain ⟨a0, r0, k0⟩ := fld_read hT h hw 0 _ rfl cod26
  obtain ⟨a1, r1, k1⟩ := fld_read hT h hw 1 _ rfl cod27
  obtain ⟨a2, r2, k2⟩ := fld_read hT h hw 2 _ rfl cod9
  obtain ⟨a3, r3, k3⟩ := fld_read hT h hw 3 _ rfl cod9
  obtain ⟨a4, r4, k4⟩ := fld_read hT h hw 4 _ rfl cod9
  obtain ⟨a5, r5, k5⟩ := fld_read hT h hw 5 _ rfl cod3
  obtain ⟨a6, r6, k6⟩ := fld_read hT h hw 6 _ rfl cod29
  obtain ⟨a7, r7, k7⟩ := fld_read hT h hw 7 _ rfl cod30
  have ch := (repsO_seg (o := 0) (k := 1) rfl r0 (repsO_seg (o := 1) (k := 1) rfl r1 (repsO_seg (o := 2) (k := 1) rfl r2 (repsO_seg (o := 3) (k := 1) rfl r3 (repsO_seg (o := 4) (k := 1) rfl r4 (repsO_seg (o := 5) (k := 1) rfl r5 (repsO_seg (o := 6) (k := 3) rfl r6 (repsO_seg (o := 9) (k := 1) rfl r7 (repsO_end hl)))))))))
  rw [List.drop_zero] at ch
  exact ⟨⟨a0, a1, a2, a3, a4, a5, a6, a7⟩, ch.1, trivial, ch.2⟩
theorem cod33 : Cod Pr 33 1 (fun l : List Mu => [.list 10 (l.map Mu.d)]) (fun l => l.length * Pr.bytesOf 32 ≤ reachBytes ∧ ∀ a ∈ l, True) := cod_slice (by kernel_rfl) (by kernel_rfl) cod32 (by decide) (fun μ a cs h hl ho => el_agg (f := fun a : Mu => [I a.table, I a.kind, .str a.key, .str a.end_, .str a.val, I a.expiry, I a.at_.phys, I a.at_.logic, I a.at_.who, .list 3 (a.over.map St.d)]) μ a cs h ho) (fun _ => rfl)
theorem cod35 : Cod Pr 35 3 (fun a : Ct => [mus a.cells, mus a.wipes, mus a.sibs]) (fun a => (a.cells.length * Pr.bytesOf 32 ≤ reachBytes ∧ a.wipes.length * Pr.bytesOf 32 ≤ reachBytes ∧ a.sibs.length * Pr.bytesOf 32 ≤ reachBytes)) := by
  refine ⟨by kernel_rfl, fun {H enc w spare held} fuel cs x h hw => ?_⟩
  have hT := Tryz.underlying35
  have hl : cs.length = 3 := (struct_len hT h).trans (by kernel_rfl)
  obtain ⟨a0, r0, k0⟩ := fld_read hT h hw 0 _ rfl cod33
  obtain ⟨a1, r1, k1⟩ := fld_read hT h hw 1 _ rfl cod33
  obtain ⟨a2, r2, k2⟩ := fld_read hT h hw 2 _ rfl cod33
  have ch := (repsO_seg (o := 0) (k := 1) rfl r0 (repsO_seg (o := 1) (k := 1) rfl r1 (repsO_seg (o := 2) (k := 1) rfl r2 (repsO_end hl))))
  rw [List.drop_zero] at ch
  exact ⟨⟨a0, a1, a2⟩, ch.1, ⟨k0.1, k1.1, k2.1⟩, ch.2⟩
theorem cod4 : Cod Pr 4 1 (fun b : Bool => [.bool b]) (fun _ => True) := cod_bool (by kernel_rfl) (by kernel_rfl)
theorem cod36 : Cod Pr 36 1 (fun n : Int => [.int .i64 n]) (fun _ => True) := cod_int (by kernel_rfl) (by kernel_rfl)
theorem cod24 : Cod Pr 24 1 (fun l : List Int => [.list 1 (l.map I)]) (fun l => l.length * Pr.bytesOf 3 ≤ reachBytes ∧ ∀ a ∈ l, True) := cod_slice (f := fun n : Int => [.int .i64 n]) (by kernel_rfl) (by kernel_rfl) cod3 (by decide) (fun μ a cs h hl ho => el_one μ a cs h hl ho (fun v hv _ => by simp only [I, Rep] at hv; subst hv; rfl)) (fun _ => rfl)
theorem cod49 : Cod Pr 49 5 (fun a : Ro => [.str a.key, .str a.val, I a.at_.phys, I a.at_.logic, I a.at_.who]) (fun a => True) := by
  refine ⟨by kernel_rfl, fun {H enc w spare held} fuel cs x h hw => ?_⟩
  have hT := Tryz.underlying49
  have hl : cs.length = 5 := (struct_len hT h).trans (by kernel_rfl)
  obtain ⟨a0, r0, k0⟩ := fld_read hT h hw 0 _ rfl cod9
  obtain ⟨a1, r1, k1⟩ := fld_read hT h hw 1 _ rfl cod9
  obtain ⟨a2, r2, k2⟩ := fld_read hT h hw 2 _ rfl cod29
  have ch := (repsO_seg (o := 0) (k := 1) rfl r0 (repsO_seg (o := 1) (k := 1) rfl r1 (repsO_seg (o := 2) (k := 3) rfl r2 (repsO_end hl))))
  rw [List.drop_zero] at ch
  exact ⟨⟨a0, a1, a2⟩, ch.1, trivial, ch.2⟩
theorem cod37 : Cod Pr 37 1 (fun l : List Ro => [.list 5 (l.map Ro.d)]) (fun l => l.length * Pr.bytesOf 49 ≤ reachBytes ∧ ∀ a ∈ l, True) := cod_slice (by kernel_rfl) (by kernel_rfl) cod49 (by decide) (fun μ a cs h hl ho => el_agg (f := fun a : Ro => [.str a.key, .str a.val, I a.at_.phys, I a.at_.logic, I a.at_.who]) μ a cs h ho) (fun _ => rfl)
theorem cod39 : Cod Pr 39 33 (fun a : Ev => evC a) (fun a => (a.rows.length * Pr.bytesOf 49 ≤ reachBytes ∧ a.nos.length * Pr.bytesOf 3 ≤ reachBytes ∧ (a.c.cells.length * Pr.bytesOf 32 ≤ reachBytes ∧ a.c.wipes.length * Pr.bytesOf 32 ≤ reachBytes ∧ a.c.sibs.length * Pr.bytesOf 32 ≤ reachBytes))) := by
  refine ⟨by kernel_rfl, fun {H enc w spare held} fuel cs x h hw => ?_⟩
  have hT := Tryz.underlying39
  have hl : cs.length = 33 := (struct_len hT h).trans (by kernel_rfl)
  obtain ⟨a0, r0, k0⟩ := fld_read hT h hw 0 _ rfl cod23
  obtain ⟨a1, r1, k1⟩ := fld_read hT h hw 1 _ rfl cod3
  obtain ⟨a2, r2, k2⟩ := fld_read hT h hw 2 _ rfl cod3
  obtain ⟨a3, r3, k3⟩ := fld_read hT h hw 3 _ rfl cod3
  obtain ⟨a4, r4, k4⟩ := fld_read hT h hw 4 _ rfl cod32
  obtain ⟨a5, r5, k5⟩ := fld_read hT h hw 5 _ rfl cod35
  obtain ⟨a6, r6, k6⟩ := fld_read hT h hw 6 _ rfl cod29
  obtain ⟨a7, r7, k7⟩ := fld_read hT h hw 7 _ rfl cod29
  obtain ⟨a8, r8, k8⟩ := fld_read hT h hw 8 _ rfl cod4
  obtain ⟨a9, r9, k9⟩ := fld_read hT h hw 9 _ rfl cod36
  obtain ⟨a10, r10, k10⟩ := fld_read hT h hw 10 _ rfl cod24
  obtain ⟨a11, r11, k11⟩ := fld_read hT h hw 11 _ rfl cod24
  obtain ⟨a12, r12, k12⟩ := fld_read hT h hw 12 _ rfl cod3
  obtain ⟨a13, r13, k13⟩ := fld_read hT h hw 13 _ rfl cod26
  obtain ⟨a14, r14, k14⟩ := fld_read hT h hw 14 _ rfl cod9
  obtain ⟨a15, r15, k15⟩ := fld_read hT h hw 15 _ rfl cod9
  obtain ⟨a16, r16, k16⟩ := fld_read hT h hw 16 _ rfl cod37
  obtain ⟨a17, r17, k17⟩ := fld_read hT h hw 17 _ rfl cod30
  have ch := (repsO_seg (o := 0) (k := 1) rfl r0 (repsO_seg (o := 1) (k := 1) rfl r1 (repsO_seg (o := 2) (k := 1) rfl r2 (repsO_seg (o := 3) (k := 1) rfl r3 (repsO_seg (o := 4) (k := 10) rfl r4 (repsO_seg (o := 14) (k := 3) rfl r5 (repsO_seg (o := 17) (k := 3) rfl r6 (repsO_seg (o := 20) (k := 3) rfl r7 (repsO_seg (o := 23) (k := 1) rfl r8 (repsO_seg (o := 24) (k := 1) rfl r9 (repsO_seg (o := 25) (k := 1) rfl r10 (repsO_seg (o := 26) (k := 1) rfl r11 (repsO_seg (o := 27) (k := 1) rfl r12 (repsO_seg (o := 28) (k := 1) rfl r13 (repsO_seg (o := 29) (k := 1) rfl r14 (repsO_seg (o := 30) (k := 1) rfl r15 (repsO_seg (o := 31) (k := 1) rfl r16 (repsO_seg (o := 32) (k := 1) rfl r17 (repsO_end hl)))))))))))))))))))
  rw [List.drop_zero] at ch
  exact ⟨⟨a0, a1, a2, a3, a4, a5, a6, a7, a8, a9, a10, a11, a12, a13, a14, a15, a16, a17⟩, ch.1, ⟨k16.1, k11.1, k5⟩, ch.2⟩
theorem cod22 : Cod Pr 22 1 (fun l : List Ev => [.list 33 (l.map Ev.d)]) (fun l => l.length * Pr.bytesOf 39 ≤ reachBytes ∧ ∀ a ∈ l, (a.rows.length * Pr.bytesOf 49 ≤ reachBytes ∧ a.nos.length * Pr.bytesOf 3 ≤ reachBytes ∧ (a.c.cells.length * Pr.bytesOf 32 ≤ reachBytes ∧ a.c.wipes.length * Pr.bytesOf 32 ≤ reachBytes ∧ a.c.sibs.length * Pr.bytesOf 32 ≤ reachBytes))) := cod_slice (by kernel_rfl) (by kernel_rfl) cod39 (by decide) (fun μ a cs h hl ho => el_agg (f := fun a : Ev => evC a) μ a cs h ho) (fun _ => rfl)
end Go.Aw
