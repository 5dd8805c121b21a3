/- The reading of a set of tasks that came in as an argument. -/
import Derived.Test.YtbeofioghdapbaaDoorBx0
import Derived.WalkKit
import Derived.ProofKit
import Derived.OpenShut
import Derived.ShutString
import Derived.ChangeOld
import Derived.Carry
import Derived.Deep.Slices
import Derived.Lib.SmallJoins
namespace Go.Proofs.YtbeofioghdapbaaDoor.H
open Go.RowKit Go.ChangeShapes Go.WideShapes Go.ChangeAt Go.Deep Go.Proofs.YtbeofioghdapbaaDoorW.PrintWords Go.Proofs.YtbeofioghdapbaaDoorW.PrintLast Go.Proofs.YtbeofioghdapbaaDoorW.PrintMore Go.Proofs.YtbeofioghdapbaaDoor.B
set_option linter.unusedVariables false

section
variable {H : Type} {enc : TypeId × Value → H} {w : World} {base : Nat} {spare : Nat → Bool} {held : Bool}

theorem leaf_int {t : TypeId} {k : IntKind} {n : Nat} {c : Value} {y : DataW H × List MemPlace} (ht : Tryd.prog.underlying t = some (.int k)) (h : DataW.trod enc Tryd.prog w base spare held n t [c] = some y) : ∃ z : Int, c = .int k z ∧ (Lit.int k z).wf = true := by
  cases n with
  | zero => simp [DataW.trod] at h
  | succ n =>
    unfold DataW.trod at h
    rw [ht] at h
    cases c <;> simp at h
    obtain ⟨⟨rfl, hw⟩, _⟩ := h
    exact ⟨_, rfl, hw⟩
theorem leaf_string {t : TypeId} {n : Nat} {c : Value} {y : DataW H × List MemPlace} (ht : Tryd.prog.underlying t = some .string) (h : DataW.trod enc Tryd.prog w base spare held n t [c] = some y) : ∃ s : ByteArray, c = .string s ∧ s.size ≤ maxLen := by
  cases n with
  | zero => simp [DataW.trod] at h
  | succ n =>
    unfold DataW.trod at h
    rw [ht] at h
    cases c <;> simp at h
    exact ⟨_, rfl, h.1⟩

/-- The numbers of a task that was read are whole numbers of the machine. -/
def WfT (t : S36) : Prop := t.f0.size ≤ maxLen ∧ (Lit.int .i64 t.f1).wf = true ∧ (Lit.int .i64 t.f2).wf = true ∧ (Lit.int .i64 t.f3).wf = true ∧ (Lit.int .i64 t.f4).wf = true ∧ (Lit.int .i64 t.f5).wf = true ∧ (Lit.int .i64 t.f6).wf = true ∧ (Lit.int .i64 t.f7).wf = true ∧ (Lit.int .i64 t.f8).wf = true ∧ (Lit.int .i64 t.f9).wf = true ∧ (Lit.int .i64 t.f10).wf = true

theorem list11 {α : Type} {l : List α} (h : l.length = 11) : ∃ a0 a1 a2 a3 a4 a5 a6 a7 a8 a9 a10, l = [a0, a1, a2, a3, a4, a5, a6, a7, a8, a9, a10] := by
  match l, h with
  | [a0, a1, a2, a3, a4, a5, a6, a7, a8, a9, a10], _ => exact ⟨a0, a1, a2, a3, a4, a5, a6, a7, a8, a9, a10, rfl⟩

theorem leaf_task {n : Nat} {cs : List Value} {y : DataW H × List MemPlace} (h : DataW.trod enc Tryd.prog w base spare held n 36 cs = some y) : ∃ t : S36, cs = [.string t.f0, .int .i64 t.f1, .int .i64 t.f2, .int .i64 t.f3, .int .i64 t.f4, .int .i64 t.f5, .int .i64 t.f6, .int .i64 t.f7, .int .i64 t.f8, .int .i64 t.f9, .int .i64 t.f10] ∧ WfT t := by
  have c3 : Tryd.prog.cellsOf 3 = 1 := by kernel_rfl
  have c9 : Tryd.prog.cellsOf 9 = 1 := by kernel_rfl
  obtain ⟨xs, m, rfl, _, hl, hxl, hf⟩ := DataW.trod_struct Tryd.underlying36 h
  have c36 : Tryd.prog.cellsOf 36 = 11 := by kernel_rfl
  rw [c36] at hl
  obtain ⟨a0, a1, a2, a3, a4, a5, a6, a7, a8, a9, a10, rfl⟩ := list11 hl
  obtain ⟨b0, b1, b2, b3, b4, b5, b6, b7, b8, b9, b10, rfl⟩ := list11 (l := xs) hxl
  have g0 : DataW.trod enc Tryd.prog w base spare held m 9 [a0] = some b0 := by have := hf 0 _ rfl; simpa [c3, c9] using this
  have g1 : DataW.trod enc Tryd.prog w base spare held m 3 [a1] = some b1 := by have := hf 1 _ rfl; simpa [c3, c9] using this
  have g2 : DataW.trod enc Tryd.prog w base spare held m 3 [a2] = some b2 := by have := hf 2 _ rfl; simpa [c3, c9] using this
  have g3 : DataW.trod enc Tryd.prog w base spare held m 3 [a3] = some b3 := by have := hf 3 _ rfl; simpa [c3, c9] using this
  have g4 : DataW.trod enc Tryd.prog w base spare held m 3 [a4] = some b4 := by have := hf 4 _ rfl; simpa [c3, c9] using this
  have g5 : DataW.trod enc Tryd.prog w base spare held m 3 [a5] = some b5 := by have := hf 5 _ rfl; simpa [c3, c9] using this
  have g6 : DataW.trod enc Tryd.prog w base spare held m 3 [a6] = some b6 := by have := hf 6 _ rfl; simpa [c3, c9] using this
  have g7 : DataW.trod enc Tryd.prog w base spare held m 3 [a7] = some b7 := by have := hf 7 _ rfl; simpa [c3, c9] using this
  have g8 : DataW.trod enc Tryd.prog w base spare held m 3 [a8] = some b8 := by have := hf 8 _ rfl; simpa [c3, c9] using this
  have g9 : DataW.trod enc Tryd.prog w base spare held m 3 [a9] = some b9 := by have := hf 9 _ rfl; simpa [c3, c9] using this
  have g10 : DataW.trod enc Tryd.prog w base spare held m 3 [a10] = some b10 := by have := hf 10 _ rfl; simpa [c3, c9] using this
  obtain ⟨z0, rfl, w0⟩ := leaf_string Tryd.underlying9 g0
  obtain ⟨z1, rfl, w1⟩ := leaf_int Tryd.underlying3 g1
  obtain ⟨z2, rfl, w2⟩ := leaf_int Tryd.underlying3 g2
  obtain ⟨z3, rfl, w3⟩ := leaf_int Tryd.underlying3 g3
  obtain ⟨z4, rfl, w4⟩ := leaf_int Tryd.underlying3 g4
  obtain ⟨z5, rfl, w5⟩ := leaf_int Tryd.underlying3 g5
  obtain ⟨z6, rfl, w6⟩ := leaf_int Tryd.underlying3 g6
  obtain ⟨z7, rfl, w7⟩ := leaf_int Tryd.underlying3 g7
  obtain ⟨z8, rfl, w8⟩ := leaf_int Tryd.underlying3 g8
  obtain ⟨z9, rfl, w9⟩ := leaf_int Tryd.underlying3 g9
  obtain ⟨z10, rfl, w10⟩ := leaf_int Tryd.underlying3 g10
  exact ⟨⟨z0, z1, z2, z3, z4, z5, z6, z7, z8, z9, z10⟩, rfl, w0, w1, w2, w3, w4, w5, w6, w7, w8, w9, w10⟩

set_option maxRecDepth 100000 in
theorem leaf_tasks {n : Nat} {c : Value} {y : DataW H × List MemPlace} (h : DataW.trod enc Tryd.prog w base spare held n 24 [c] = some y) : ∃ (A : Option Addr) (cap : Nat) (l : List S36), c = .slice A l.length cap ∧ l.length ≤ cap ∧ cap ≤ maxLen ∧ Kd.C k36 w A l.length l ∧ ∀ t ∈ l, WfT t := by
  rcases open_slice Tryd.underlying24 h with ⟨hc, _⟩ | ⟨a, len, cap, m, n', D, Pl, hc, hb, hl, hm, hmm, _, hx⟩
  · simp only [List.cons.injEq, and_true] at hc
    exact ⟨none, 0, [], hc, Nat.le_refl _, Nat.zero_le _, Kd.C_nil _ _, fun t ht => by simp at ht⟩
  · simp only [List.cons.injEq, and_true] at hc
    have hlm : len ≤ m := by rw [hmm]; split <;> omega
    have c36 : Tryd.prog.cellsOf 36 = 11 := by kernel_rfl
    rw [c36] at hx
    haveI : Inhabited S36 := ⟨z36⟩
    obtain ⟨F, hF⟩ := choose_lt (α := S36) (n := len) (p := fun i t => (∀ j u, ([.string t.f0, .int .i64 t.f1, .int .i64 t.f2, .int .i64 t.f3, .int .i64 t.f4, .int .i64 t.f5, .int .i64 t.f6, .int .i64 t.f7, .int .i64 t.f8, .int .i64 t.f9, .int .i64 t.f10] : List Value)[j]? = some u → w.cell? (a.add (i * 11 + j)) = some u) ∧ WfT t) (fun i hi => by
      obtain ⟨cs', h1, h2⟩ := hx i (by omega)
      obtain ⟨t, rfl, ht⟩ := leaf_task h2
      obtain ⟨_, _, hcell⟩ := World.cells?_some h1
      refine ⟨t, fun j u hj => ?_, ht⟩
      have hj11 : j < 11 := by
        have := (List.getElem?_eq_some_iff.1 hj).1
        simpa using this
      have := hcell j hj11
      rw [hj] at this
      rw [← this, Go.Deep.add_add])
    have hlen : ((List.range len).map F).length = len := by simp
    refine ⟨some a, cap, (List.range len).map F, by rw [hlen]; exact hc, by rw [hlen]; exact hl, hm, ⟨rfl, by rw [hlen]; exact Nat.le_trans hl (Nat.le_trans hm (by decide)), fun _ => ⟨a, rfl, fun j p hj => ?_⟩⟩, fun t ht => ?_⟩
    · have hjl : j < len := by
        have := (List.getElem?_eq_some_iff.1 hj).1
        simpa using this
      have : p = F j := by
        rw [List.getElem?_map, List.getElem?_range hjl] at hj
        simpa using hj.symm
      subst this
      exact ⟨_, rfl, k36_mk _ _, (hF j hjl).1⟩
    · obtain ⟨i, hi, rfl⟩ := List.mem_map.1 ht
      exact (hF i (by simpa using hi)).2

set_option maxRecDepth 100000 in
theorem open_set {r : Reach} {b0 : Nat} {v : Value} {d : DataW H} {p : List MemPlace} (hv : Value.okWide Tryd.prog w r b0 26 v) (h : DataW.Trod enc Tryd.prog w base spare held 26 v d p) :
    ∃ (b : Int) (A : Option Addr) (cap : Nat) (l : List S36), v = .agg #[.int .i64 b, .slice A l.length cap] ∧ l.length ≤ cap ∧ cap ≤ maxLen ∧ Kd.C k36 w A l.length l ∧ (∀ t ∈ l, WfT t) ∧ (Lit.int .i64 b).wf = true := by
  obtain ⟨v0, v1, y0, y1, n, rfl, _, _, h0, h1⟩ := Go.Joins.open_agg2 Tryd.underlying26 (by kernel_rfl) (by kernel_rfl) hv h
  obtain ⟨b, rfl, wb⟩ := leaf_int Tryd.underlying3 h0
  obtain ⟨A, cap, l, rfl, hl, hc, hC, hw⟩ := leaf_tasks h1
  exact ⟨b, A, cap, l, rfl, hl, hc, hC, hw, wb⟩
end
end Go.Proofs.YtbeofioghdapbaaDoor.H
