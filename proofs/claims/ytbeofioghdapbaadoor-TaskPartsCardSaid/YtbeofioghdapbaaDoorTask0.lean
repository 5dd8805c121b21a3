/- Plain words on tasks, and the walks of the tests that the package task makes of one task. -/
import Derived.Test.YtbeofioghdapbaaDoorBx0
import Derived.Test.YtbeofioghdapbaaDoorBx7
import Derived.Test.YtbeofioghdapbaaDoorBx8
import Derived.Test.YtbeofioghdapbaaDoorBx9
import Derived.Test.YtbeofioghdapbaaDoorShTrim
import Derived.WalkLawsBesides
import Derived.Lib.Hide
namespace Go.Proofs.YtbeofioghdapbaaDoor.H
open Go.RowKit Go.Proofs.YtbeofioghdapbaaDoorW.PrintWords Go.Proofs.YtbeofioghdapbaaDoorW.PrintLast Go.Proofs.YtbeofioghdapbaaDoorW.PrintMore Go.Proofs.YtbeofioghdapbaaDoor.B
set_option linter.unusedVariables false
set_option linter.unusedSimpArgs false

abbrev tv (t : S36) : Value := .agg #[.string t.f0, .int .i64 t.f1, .int .i64 t.f2, .int .i64 t.f3, .int .i64 t.f4, .int .i64 t.f5, .int .i64 t.f6, .int .i64 t.f7, .int .i64 t.f8, .int .i64 t.f9, .int .i64 t.f10]
def lets : List UInt8 := [97, 98, 99, 100, 101, 102, 103, 104, 105, 106, 107, 108, 109, 110, 111, 112, 113, 114, 115, 116, 117, 118, 119, 120, 121, 122]
def others : List UInt8 := lets ++ [48, 49, 50, 51, 52, 53, 54, 55, 56, 57, 95]
/-- Is a text a name? -/
def nameOk (s : ByteArray) : Bool := decide (1 ≤ s.size) && (decide (s.size ≤ 12) && ((s.data.toList.take 1).all (lets.contains ·) && s.data.toList.all (others.contains ·)))

theorem dropWhile_nil_iff (l : List UInt8) (p : UInt8 → Bool) : (l.dropWhile p).isEmpty = l.all p := by
  induction l with
  | nil => rfl
  | cons a l ih => simp only [List.dropWhile_cons, List.all_cons]; cases h : p a <;> simp [ih]
theorem trimS_nil (l cs : List UInt8) : (Lib.trimS l cs).isEmpty = l.all (cs.contains ·) := by
  unfold Lib.trimS Lib.trimLeftS Lib.trimRightS
  rw [dropWhile_nil_iff, List.all_reverse]
  have key : ∀ m : List UInt8, (m.dropWhile (cs.contains ·)).all (cs.contains ·) = m.all (cs.contains ·) := by
    intro m
    induction m with
    | nil => rfl
    | cons a m ih =>
      simp only [List.dropWhile_cons, List.all_cons]
      cases h : cs.contains a
      · simp only [Bool.false_eq_true, if_false, List.all_cons, h, Bool.false_and]
      · simp only [if_true, ih, Bool.true_and]
  rw [key, List.all_reverse]

theorem trim134 (s cs : ByteArray) (w : World) (hs : s.size ≤ 9223372036854775807) (hcs : cs.size < 4294967281) (ha : cs.data.toList.all (fun b => decide (b.toNat < 128)) = true) :
    Calls Tryd.prog 134 #[.string s, .string cs] w fun e w' => e = .returned (.string ⟨(Lib.trimS s.data.toList cs.data.toList).toArray⟩) ∧ Below w.heap.size w w' :=
  Any.strings_Trim_laid Tryd.lays160 (by kernel_rfl) s cs w hs hcs (ascii_of_all ha)
theorem size_data (s : ByteArray) : s.data.toList.length = s.size := by rw [Array.length_toList]; rfl

set_option maxHeartbeats 2000000 in
theorem named107 (s : ByteArray) (w : World) (hs : s.size ≤ 9223372036854775807) :
    Calls Tryd.prog 107 #[.string s] w fun e w' => e = .returned (.bool (nameOk s)) ∧ Below w.heap.size w w' := by
  by_cases h1 : 1 ≤ s.size
  · by_cases h2 : s.size ≤ 12
    · obtain ⟨r1, hr1⟩ : ∃ r, r = Lib.trimS (s.extract 0 1).data.toList lets := ⟨_, rfl⟩
      obtain ⟨r2, hr2⟩ : ∃ r, r = Lib.trimS s.data.toList others := ⟨_, rfl⟩
      have e1 : r1.isEmpty = (s.data.toList.take 1).all (lets.contains ·) := by rw [hr1, trimS_nil]; simp
      have e2 : r2.isEmpty = s.data.toList.all (others.contains ·) := by rw [hr2, trimS_nil]
      have hx := fun (W : World) => trim134 (s.extract 0 1) ⟨#[97, 98, 99, 100, 101, 102, 103, 104, 105, 106, 107, 108, 109, 110, 111, 112, 113, 114, 115, 116, 117, 118, 119, 120, 121, 122]⟩ W (by simp; omega) (by decide) (by decide)
      have hy := fun (W : World) => trim134 s ⟨#[97, 98, 99, 100, 101, 102, 103, 104, 105, 106, 107, 108, 109, 110, 111, 112, 113, 114, 115, 116, 117, 118, 119, 120, 121, 122, 48, 49, 50, 51, 52, 53, 54, 55, 56, 57, 95]⟩ W hs (by decide) (by decide)
      change ∀ W : World, Calls Tryd.prog 134 _ W (fun e w' => e = .returned (.string ⟨(Lib.trimS (s.extract 0 1).data.toList lets).toArray⟩) ∧ Below W.heap.size W w') at hx
      change ∀ W : World, Calls Tryd.prog 134 _ W (fun e w' => e = .returned (.string ⟨(Lib.trimS s.data.toList others).toArray⟩) ∧ Below W.heap.size W w') at hy
      rw [← hr1] at hx
      rw [← hr2] at hy
      have HX := Aside0.mk hx
      have HY := Aside0.mk hy
      have hfin : nameOk s = (r1.isEmpty && r2.isEmpty) := by unfold nameOk; rw [e1, e2]; simp [h1, h2]
      rw [hfin]
      clear hx hy e1 e2 hr1 hr2 hfin
      go_enter Tryd.func107, Tryd.ntmps107
      go_wp2_with fail
      refine (HX.out _).mono ?_
      rintro e w1 ⟨rfl, hb1⟩
      cases r1 with
      | nil =>
        go_wp2_with fail
        refine (HY.out _).mono ?_
        rintro e w2 ⟨rfl, hb2⟩
        have HB := Aside0.mk (below_step hb1 hb2)
        clear hb1 hb2
        cases r2 with
        | nil =>
          go_wp2_with fail
          go_ret
          exact ⟨rfl, HB.out⟩
        | cons a r2 =>
          go_wp2_with fail
          go_ret
          exact ⟨rfl, HB.out⟩
      | cons a r1 =>
        go_wp2_with fail
        go_ret
        exact ⟨rfl, hb1⟩
    · go_enter Tryd.func107, Tryd.ntmps107
      go_wp2_with fail
      go_ret
      exact ⟨by simp [nameOk, h2], Below.refl _ _⟩
  · go_enter Tryd.func107, Tryd.ntmps107
    go_wp2_with fail
    go_ret
    exact ⟨by simp [nameOk, h1], Below.refl _ _⟩
end Go.Proofs.YtbeofioghdapbaaDoor.H
