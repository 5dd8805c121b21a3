/- The walks of layer 5's own words: that the program is awake, and the law on a right set's parts. -/
import Derived.Test.YtbeofioghdapbaaDoorTask5
import Derived.Test.YtbeofioghdapbaaDoorBx16
import Derived.Test.YtbeofioghdapbaaDoorBx21
namespace Go.Proofs.YtbeofioghdapbaaDoor.H
open Go.RowKit Go.Proofs.YtbeofioghdapbaaDoorW.PrintWords Go.Proofs.YtbeofioghdapbaaDoorW.PrintLast Go.Proofs.YtbeofioghdapbaaDoorW.PrintMore Go.Proofs.YtbeofioghdapbaaDoor.B
set_option linter.unusedVariables false
set_option linter.unusedSimpArgs false

def ta : S36 := ⟨⟨#[97]⟩, 9, 8, 3, 0, 2, 0, 1, 2, 1, 5⟩
def tb : S36 := ⟨⟨#[98]⟩, 9, 9, 1, 1, 0, 0, 1, 1, 3, 2⟩
theorem why_ab : why 1 [ta, tb] = (0, -1) := by decide +kernel
theorem why_none : why 1 [] = (2, -1) := by decide +kernel

def flat (l : List S36) : List Value := l.flatMap fun t => (tcs t).toList
theorem flat_get (l : List S36) : ∀ (j : Nat) (p : S36) (i : Nat), l[j]? = some p → i < 11 → (flat l)[j * 11 + i]? = (tcs p).toList[i]? := by
  induction l with
  | nil => intro j p i h; simp at h
  | cons t l ih =>
    intro j p i h hi
    have e : flat (t :: l) = (tcs t).toList ++ flat l := rfl
    rw [e]
    cases j with
    | zero =>
      simp only [List.getElem?_cons_zero, Option.some.injEq] at h
      subst h
      rw [Nat.zero_mul, Nat.zero_add, List.getElem?_append_left (by simpa using hi)]
    | succ j =>
      simp only [List.getElem?_cons_succ] at h
      rw [List.getElem?_append_right (by simp; omega), show (j + 1) * 11 + i - (tcs t).toList.length = j * 11 + i by simp; omega]
      exact ih j p i h hi
theorem C_block (l : List S36) (g : Nat) (cs : Array Value) (w : World) (h : w.heap[g]? = some (.cells cs 36 (0, 0))) (hcs : ∀ i, i < l.length * 11 → cs[i]? = (flat l)[i]?) (hl : l.length ≤ 9223372036854775807) : Kd.C k36 w (some ⟨g, 0, none⟩) l.length l := by
  refine ⟨rfl, hl, fun _ => ⟨⟨g, 0, none⟩, rfl, fun j p hj => ⟨(tcs p).toList, rfl, k36_mk _ p, fun i u hi => ?_⟩⟩⟩
  have hi' : i < 11 := by
    have := (List.getElem?_eq_some_iff.1 hi).1
    simpa using this
  have hj' := (List.getElem?_eq_some_iff.1 hj).1
  rw [add_plain, blk_cell h]
  show cs[j * 11 + i]? = some u
  rw [hcs _ (by omega), flat_get l j p i hj hi']
  exact hi

theorem order_ab (ord : List Int) (h : IsOrder [ta, tb] ord) : ord = [1, 0] := by
  have hp : ord.Perm [0, 1] := h.perm
  have hl := hp.length_eq
  match ord, hl with
  | [a, b], _ =>
    have ha : a ∈ [(0 : Int), 1] := hp.subset (by simp)
    have hb : b ∈ [(0 : Int), 1] := hp.subset (by simp)
    have hn : a ≠ b := by
      have := hp.nodup_iff.2 (by decide)
      simp at this
      exact this
    have hs : (rd_T36 [ta, tb] a).f10 ≤ (rd_T36 [ta, tb] b).f10 := by
      have := h.sorted
      simp at this
      exact this
    simp at ha hb
    rcases ha with rfl | rfl <;> rcases hb with rfl | rfl
    · exact absurd rfl hn
    · exact absurd hs (by decide)
    · rfl
    · exact absurd rfl hn

set_option maxHeartbeats 4000000 in
set_option maxRecDepth 100000 in
theorem awake29 (w : World) : Calls Tryd.prog 29 #[] w fun e w' => e = .returned (.bool true) ∧ Below w.heap.size w w' := by
  have hu26 := Tryd.underlying26
  have hu36 := Tryd.underlying36
  obtain ⟨W0, hW0⟩ : ∃ W, W = (w.alloc (.cells (tcs ta ++ tcs tb) 36)).alloc (.cells #[.int .i64 1, .slice (some ⟨w.heap.size, 0, none⟩) 2 2] 26) := ⟨_, rfl⟩
  have hB0 : Below w.heap.size w W0 := by rw [hW0]; exact below_alloc (below_alloc (Below.refl _ _) _) _
  have hT0 : W0.heap[w.heap.size]? = some (.cells (tcs ta ++ tcs tb) 36 (0, 0)) := by rw [hW0]; exact blk_alloc (blk_new _ _) _
  have hS0 : W0.heap[w.heap.size + 1]? = some (.cells #[.int .i64 1, .slice (some ⟨w.heap.size, 0, none⟩) 2 2] 26 (0, 0)) := by
    rw [hW0]
    have := blk_new (w.alloc (.cells (tcs ta ++ tcs tb) 36)) (.cells #[.int .i64 1, .slice (some ⟨w.heap.size, 0, none⟩) 2 2] 26)
    simpa using this
  have hC : ∀ W : World, W.heap[w.heap.size]? = some (.cells (tcs ta ++ tcs tb) 36 (0, 0)) → Kd.C k36 W (some ⟨w.heap.size, 0, none⟩) [ta, tb].length [ta, tb] := fun W h => C_block [ta, tb] _ _ W h (fun i hi => by
    have : (flat [ta, tb]) = (tcs ta ++ tcs tb).toList := rfl
    rw [this, Array.getElem?_toList]) (by decide)
  have hsz : ∀ t ∈ [ta, tb], t.f0.size ≤ 9223372036854775807 := by decide
  have HC := Aside0.mk hC
  have HT0 := Aside0.mk hT0
  have HS0 := Aside0.mk hS0
  have HB0 := Aside0.mk hB0
  have HX := Aside0.mk (why31 1 (some ⟨w.heap.size, 0, none⟩) 2 [ta, tb] W0 hsz (hC W0 hT0) (by decide) (by decide))
  rw [why_ab, hW0] at HX
  have HW0 := Aside0.mk hW0
  have HSZ := Aside0.mk hsz
  clear hC hT0 hS0 hB0 hW0 hsz
  go_enter Tryd.func29, Tryd.ntmps29
  go_wp2_with fail
  refine HX.out.mono ?_
  rintro e w1 ⟨rfl, hb1⟩
  rw [← HW0.out] at hb1
  have HT1 := Aside0.mk (blk_below HT0.out hb1)
  have HS1 := Aside0.mk (blk_below HS0.out hb1)
  have HB1 := Aside0.mk (below_step HB0.out hb1)
  clear hb1
  go_wp2_with fail
  refine (why31 1 none 0 [] w1 (by simp) (Kd.C_nil _ _) (by decide) (by decide)).mono ?_
  rw [why_none]
  rintro e w2 ⟨rfl, hb2⟩
  have HT2 := Aside0.mk (blk_below HT1.out hb2)
  have HS2 := Aside0.mk (blk_below HS1.out hb2)
  have HB2 := Aside0.mk (below_step HB1.out hb2)
  clear hb2
  have hz0 : w2.cell? ⟨w.heap.size + 1, 0, none⟩ = some (.int .i64 1) := (blk_cell HS2.out 0).trans rfl
  have hz1 : w2.cell? ⟨w.heap.size + 1, 1, none⟩ = some (.slice (some ⟨w.heap.size, 0, none⟩) 2 2) := (blk_cell HS2.out 1).trans rfl
  go_wp2_with fail
  refine (order60 1 (some ⟨w.heap.size, 0, none⟩) 2 [ta, tb] w2 (by decide) (by decide) (HC.out w2 HT2.out)).mono ?_
  rintro e w3 ⟨hb3, ord, A', c', hord, rfl, hlc, hCo⟩
  obtain rfl := order_ab ord hord
  obtain ⟨ad, rfl, hx⟩ := Kd.at_int hCo 0 (by decide) (by decide)
  have hx' : w3.cell? ad = some (.int .i64 1) := by
    have : w3.cell? (ad.add 0) = some (.int .i64 1) := hx
    rwa [Addr.add_zero'] at this
  have HX3 := Aside0.mk hx'
  have HT3 := Aside0.mk (blk_below HT2.out hb3)
  have HS3 := Aside0.mk (blk_below HS2.out hb3)
  have HB3 := Aside0.mk (below_step HB2.out hb3)
  clear hb3 hx hx' hCo hlc hord
  have hz0' : w3.cell? ⟨w.heap.size + 1, 0, none⟩ = some (.int .i64 1) := (blk_cell HS3.out 0).trans rfl
  have hz1' : w3.cell? ⟨w.heap.size + 1, 1, none⟩ = some (.slice (some ⟨w.heap.size, 0, none⟩) 2 2) := (blk_cell HS3.out 1).trans rfl
  clear hz0 hz1
  go_wp2_with fail
  have hr30 := right30 1 (some ⟨w.heap.size, 0, none⟩) 2 [ta, tb] w3 HSZ.out (HC.out w3 HT3.out) (by decide) (by decide)
  rw [show rightB 1 [ta, tb] = true by unfold rightB; rw [why_ab]; rfl] at hr30
  refine hr30.mono ?_
  rintro e w4 ⟨rfl, hb4⟩
  have HT4 := Aside0.mk (blk_below HT3.out hb4)
  have HS4 := Aside0.mk (blk_below HS3.out hb4)
  have HB4 := Aside0.mk (below_step HB3.out hb4)
  have hx4 : w4.cell? ad = some (.int .i64 1) := (hb4.cell (World.block_lt_of_cell? _ _ HX3.out)).trans HX3.out
  have hz4 : w4.cell? ⟨w.heap.size + 1, 1, none⟩ = some (.slice (some ⟨w.heap.size, 0, none⟩) 2 2) := (blk_cell HS4.out 1).trans rfl
  have hy0 : w4.cell? ⟨w.heap.size, 0, none⟩ = some (.string ⟨#[97]⟩) := (blk_cell HT4.out 0).trans rfl
  have hy1 : w4.cell? ⟨w.heap.size, 1, none⟩ = some (.int .i64 9) := (blk_cell HT4.out 1).trans rfl
  have hy2 : w4.cell? ⟨w.heap.size, 2, none⟩ = some (.int .i64 8) := (blk_cell HT4.out 2).trans rfl
  have hy3 : w4.cell? ⟨w.heap.size, 3, none⟩ = some (.int .i64 3) := (blk_cell HT4.out 3).trans rfl
  have hy4 : w4.cell? ⟨w.heap.size, 4, none⟩ = some (.int .i64 0) := (blk_cell HT4.out 4).trans rfl
  have hy5 : w4.cell? ⟨w.heap.size, 5, none⟩ = some (.int .i64 2) := (blk_cell HT4.out 5).trans rfl
  have hy6 : w4.cell? ⟨w.heap.size, 6, none⟩ = some (.int .i64 0) := (blk_cell HT4.out 6).trans rfl
  have hy7 : w4.cell? ⟨w.heap.size, 7, none⟩ = some (.int .i64 1) := (blk_cell HT4.out 7).trans rfl
  have hy8 : w4.cell? ⟨w.heap.size, 8, none⟩ = some (.int .i64 2) := (blk_cell HT4.out 8).trans rfl
  have hy9 : w4.cell? ⟨w.heap.size, 9, none⟩ = some (.int .i64 1) := (blk_cell HT4.out 9).trans rfl
  have hy10 : w4.cell? ⟨w.heap.size, 10, none⟩ = some (.int .i64 5) := (blk_cell HT4.out 10).trans rfl
  have hy11 : w4.cell? ⟨w.heap.size, 11, none⟩ = some (.string ⟨#[98]⟩) := (blk_cell HT4.out 11).trans rfl
  have hy12 : w4.cell? ⟨w.heap.size, 12, none⟩ = some (.int .i64 9) := (blk_cell HT4.out 12).trans rfl
  have hy13 : w4.cell? ⟨w.heap.size, 13, none⟩ = some (.int .i64 9) := (blk_cell HT4.out 13).trans rfl
  have hy14 : w4.cell? ⟨w.heap.size, 14, none⟩ = some (.int .i64 1) := (blk_cell HT4.out 14).trans rfl
  have hy15 : w4.cell? ⟨w.heap.size, 15, none⟩ = some (.int .i64 1) := (blk_cell HT4.out 15).trans rfl
  have hy16 : w4.cell? ⟨w.heap.size, 16, none⟩ = some (.int .i64 0) := (blk_cell HT4.out 16).trans rfl
  have hy17 : w4.cell? ⟨w.heap.size, 17, none⟩ = some (.int .i64 0) := (blk_cell HT4.out 17).trans rfl
  have hy18 : w4.cell? ⟨w.heap.size, 18, none⟩ = some (.int .i64 1) := (blk_cell HT4.out 18).trans rfl
  have hy19 : w4.cell? ⟨w.heap.size, 19, none⟩ = some (.int .i64 1) := (blk_cell HT4.out 19).trans rfl
  have hy20 : w4.cell? ⟨w.heap.size, 20, none⟩ = some (.int .i64 3) := (blk_cell HT4.out 20).trans rfl
  have hy21 : w4.cell? ⟨w.heap.size, 21, none⟩ = some (.int .i64 2) := (blk_cell HT4.out 21).trans rfl
  clear hb4 hz0' hz1'
  go_wp2_with fail
  refine (task_Hard.calls ⟨#[98]⟩ 9 9 1 1 0 0 1 1 3 2 true w4 (by decide)).mono ?_
  rintro e w5 ⟨rfl, hb5⟩
  have HT5 := Aside0.mk (blk_below HT4.out hb5)
  have HS5 := Aside0.mk (blk_below HS4.out hb5)
  have HB5 := Aside0.mk (below_step HB4.out hb5)
  have hz5 : w5.cell? ⟨w.heap.size + 1, 1, none⟩ = some (.slice (some ⟨w.heap.size, 0, none⟩) 2 2) := (blk_cell HS5.out 1).trans rfl
  clear hb5 hx4 hz4 hy0 hy1 hy2 hy3 hy4 hy5 hy6 hy7 hy8 hy9 hy10 hy11 hy12 hy13 hy14 hy15 hy16 hy17 hy18 hy19 hy20 hy21
  have hv0 : w5.cell? ⟨w.heap.size, 0, none⟩ = some (.string ⟨#[97]⟩) := (blk_cell HT5.out 0).trans rfl
  have hv1 : w5.cell? ⟨w.heap.size, 1, none⟩ = some (.int .i64 9) := (blk_cell HT5.out 1).trans rfl
  have hv2 : w5.cell? ⟨w.heap.size, 2, none⟩ = some (.int .i64 8) := (blk_cell HT5.out 2).trans rfl
  have hv3 : w5.cell? ⟨w.heap.size, 3, none⟩ = some (.int .i64 3) := (blk_cell HT5.out 3).trans rfl
  have hv4 : w5.cell? ⟨w.heap.size, 4, none⟩ = some (.int .i64 0) := (blk_cell HT5.out 4).trans rfl
  have hv5 : w5.cell? ⟨w.heap.size, 5, none⟩ = some (.int .i64 2) := (blk_cell HT5.out 5).trans rfl
  have hv6 : w5.cell? ⟨w.heap.size, 6, none⟩ = some (.int .i64 0) := (blk_cell HT5.out 6).trans rfl
  have hv7 : w5.cell? ⟨w.heap.size, 7, none⟩ = some (.int .i64 1) := (blk_cell HT5.out 7).trans rfl
  have hv8 : w5.cell? ⟨w.heap.size, 8, none⟩ = some (.int .i64 2) := (blk_cell HT5.out 8).trans rfl
  have hv9 : w5.cell? ⟨w.heap.size, 9, none⟩ = some (.int .i64 1) := (blk_cell HT5.out 9).trans rfl
  have hv10 : w5.cell? ⟨w.heap.size, 10, none⟩ = some (.int .i64 5) := (blk_cell HT5.out 10).trans rfl
  go_wp2_with fail
  refine (task_Hard.calls ⟨#[97]⟩ 9 8 3 0 2 0 1 2 1 5 false w5 (by decide)).mono ?_
  rintro e w6 ⟨rfl, hb6⟩
  have HB6 := Aside0.mk (below_step HB5.out hb6)
  clear hb6
  go_wp2_with fail
  go_ret
  exact ⟨rfl, HB6.out⟩
end Go.Proofs.YtbeofioghdapbaaDoor.H
