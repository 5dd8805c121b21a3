/- The walks of the searches that the package task makes in a set's earlier tasks. -/
import Derived.Test.YtbeofioghdapbaaDoorTask0
namespace Go.Proofs.YtbeofioghdapbaaDoor.H
open Go.RowKit Go.Proofs.YtbeofioghdapbaaDoorW.PrintWords Go.Proofs.YtbeofioghdapbaaDoorW.PrintLast Go.Proofs.YtbeofioghdapbaaDoorW.PrintMore Go.Proofs.YtbeofioghdapbaaDoor.B
set_option linter.unusedVariables false
set_option linter.unusedSimpArgs false

abbrev tcs (t : S36) : Array Value := #[.string t.f0, .int .i64 t.f1, .int .i64 t.f2, .int .i64 t.f3, .int .i64 t.f4, .int .i64 t.f5, .int .i64 t.f6, .int .i64 t.f7, .int .i64 t.f8, .int .i64 t.f9, .int .i64 t.f10]

set_option maxHeartbeats 2000000 in
theorem c109 (x t : S36) (B : Nat) (w : World) (hb : w.heap[B]? = some (.cells (tcs t) 36 (0, 0))) :
    Calls Tryd.prog 109 #[tv x, .pointer (some ⟨B, 0, none⟩)] w fun e w' => e = .returned (.bool (x.f0.toList == t.f0.toList)) ∧ Below w.heap.size w w' := by
  have hu36 := Tryd.underlying36
  have hs := blk_lt hb
  have h0 : w.cell? ⟨B, 0, none⟩ = some (.string t.f0) := (blk_cell hb 0).trans rfl
  clear hb
  go_enter Tryd.func109, Tryd.ntmps109
  go_wp2
  go_ret
  exact ⟨rfl, below_alloc (Below.refl _ _) _⟩
set_option maxHeartbeats 2000000 in
theorem c110 (x t : S36) (B : Nat) (w : World) (hb : w.heap[B]? = some (.cells (tcs t) 36 (0, 0))) :
    Calls Tryd.prog 110 #[tv x, .pointer (some ⟨B, 0, none⟩)] w fun e w' => e = .returned (.bool (x.f10 == t.f10)) ∧ Below w.heap.size w w' := by
  have hu36 := Tryd.underlying36
  have hs := blk_lt hb
  have h0 : w.cell? ⟨B, 10, none⟩ = some (.int .i64 t.f10) := (blk_cell hb 10).trans rfl
  clear hb
  go_enter Tryd.func110, Tryd.ntmps110
  go_wp2
  go_ret
  exact ⟨rfl, below_alloc (Below.refl _ _) _⟩

/-- A function value that tells p of a task, in every later world. -/
def PredB (g : Nat) (lb : Array Value) (p : S36 → Bool) (w : World) : Prop :=
  ∀ (W : World) (x : S36), Below w.heap.size w W → Calls Tryd.prog g (#[tv x] ++ lb) W fun e w' => e = .returned (.bool (p x)) ∧ Below w.heap.size w w'
theorem rd_get (l : List S36) (k : Nat) (h : k < l.length) : rd_T36 l k = l[k] := by simp [rd_T36, h]
theorem take_snoc (l : List S36) (k : Nat) (h : k < l.length) : l.take (k + 1) = l.take k ++ [rd_T36 l k] := by
  rw [rd_get l k h, List.take_succ_eq_append_getElem h]
theorem tcells {w wr : World} {A : Option Addr} {l : List S36} (h : Kd.C k36 w A l.length l) (hb : Below w.heap.size w wr) (k : Nat) (hk : k < l.length) : ∃ ad, A = some ad ∧ wr.cell? (ad.add (k * 11)) = some (.string (rd_T36 l k).f0) ∧ wr.cell? ⟨(ad.add (k * 11)).block, (ad.add (k * 11)).off + 1, none⟩ = some (.int .i64 (rd_T36 l k).f1) ∧ wr.cell? ⟨(ad.add (k * 11)).block, (ad.add (k * 11)).off + 2, none⟩ = some (.int .i64 (rd_T36 l k).f2) ∧ wr.cell? ⟨(ad.add (k * 11)).block, (ad.add (k * 11)).off + 3, none⟩ = some (.int .i64 (rd_T36 l k).f3) ∧ wr.cell? ⟨(ad.add (k * 11)).block, (ad.add (k * 11)).off + 4, none⟩ = some (.int .i64 (rd_T36 l k).f4) ∧ wr.cell? ⟨(ad.add (k * 11)).block, (ad.add (k * 11)).off + 5, none⟩ = some (.int .i64 (rd_T36 l k).f5) ∧ wr.cell? ⟨(ad.add (k * 11)).block, (ad.add (k * 11)).off + 6, none⟩ = some (.int .i64 (rd_T36 l k).f6) ∧ wr.cell? ⟨(ad.add (k * 11)).block, (ad.add (k * 11)).off + 7, none⟩ = some (.int .i64 (rd_T36 l k).f7) ∧ wr.cell? ⟨(ad.add (k * 11)).block, (ad.add (k * 11)).off + 8, none⟩ = some (.int .i64 (rd_T36 l k).f8) ∧ wr.cell? ⟨(ad.add (k * 11)).block, (ad.add (k * 11)).off + 9, none⟩ = some (.int .i64 (rd_T36 l k).f9) ∧ wr.cell? ⟨(ad.add (k * 11)).block, (ad.add (k * 11)).off + 10, none⟩ = some (.int .i64 (rd_T36 l k).f10) := by
  obtain ⟨ad, e, h0, h1, h2, h3, h4, h5, h6, h7, h8, h9, h10⟩ := at_T36 h (k : Int) (by omega) (by omega)
  rw [Int.toNat_natCast] at h0 h1 h2 h3 h4 h5 h6 h7 h8 h9 h10
  have g : ∀ {p : Addr} {v : Value}, w.cell? p = some v → wr.cell? p = some v := fun hq => (hb.cell (World.block_lt_of_cell? w _ hq)).trans hq
  exact ⟨ad, e, g h0, g h1, g h2, g h3, g h4, g h5, g h6, g h7, g h8, g h9, g h10⟩

set_option maxHeartbeats 2000000 in
theorem idx135 (g : Nat) (lb : Array Value) (p : S36 → Bool) (A : Option Addr) (c : Nat) (l : List S36) (w : World) (eg : ∀ args w, (callFunc g args).run Tryd.prog w = .ok (.enter g args) w)
    (hp : PredB g lb p w) (hr : Kd.C k36 w A l.length l) (hl : l.length ≤ 1000) :
    Calls Tryd.prog 135 #[.slice A l.length c, .func (.func g) #[] lb] w fun e w' => (∃ r : Int, e = .returned (.int .i64 r) ∧ decide (r ≥ 0) = l.any p) ∧ Below w.heap.size w w' := by
  have HR := Aside0.mk hr
  have HP := Aside0.mk hp
  clear hr hp
  go_enter Tryd.func135, Tryd.ntmps135
  go_wp2
  go_loopw [5, 8] (fun _ v8 wr => ∃ k : Nat, k ≤ l.length ∧ v8 = .int .i64 k ∧ Aside0 ((l.take k).any p = false) ∧ Aside0 (Below w.heap.size w wr)) (fun _ v8 _ => l.length - (intOf v8).toNat)
  case atStart => exact ⟨0, Nat.zero_le _, rfl, ⟨rfl⟩, ⟨Below.refl _ _⟩⟩
  case round =>
    obtain ⟨k, hk, rfl, HN, HB⟩ := hrel
    by_cases hlt : k < l.length
    · obtain ⟨ad, eA, hx0, hx1, hx2, hx3, hx4, hx5, hx6, hx7, hx8, hx9, hx10⟩ := tcells HR.out HB.out k hlt
      cases eA
      have hcall := HP.out wr (rd_T36 l k) HB.out
      have HS := Aside0.mk (take_snoc l k hlt)
      cases hq : p (rd_T36 l k) with
      | true =>
        rw [hq] at hcall
        have HC := Aside0.mk hcall
        have HQ := Aside0.mk hq
        clear hcall hq
        go_wp2_with (go_at_fn g; refine HC.out.mono ?_; rintro e w' ⟨rfl, hb'⟩)
        go_ret
        refine ⟨⟨k, rfl, ?_⟩, hb'⟩
        have : l.any p = true := List.any_eq_true.2 ⟨rd_T36 l k, by rw [rd_get l k hlt]; exact List.getElem_mem hlt, HQ.out⟩
        rw [this]; simp
      | false =>
        rw [hq] at hcall
        have HC := Aside0.mk hcall
        have HQ := Aside0.mk hq
        clear hcall hq
        go_wp2_with (go_at_fn g; refine HC.out.mono ?_; rintro e w' ⟨rfl, hb'⟩)
        go_roundw
        case measure => simp [intOf]; omega
        case rel => exact ⟨k + 1, by omega, by go_num, ⟨by rw [HS.out, List.any_append, HN.out]; simp [HQ.out]⟩, ⟨hb'⟩⟩
    · go_wp2
      go_ret
      refine ⟨⟨-1, rfl, ?_⟩, HB.out⟩
      rw [List.take_of_length_le (by omega)] at HN
      rw [HN.out]; rfl

set_option maxHeartbeats 2000000 in
theorem any108 (g : Nat) (lb : Array Value) (p : S36 → Bool) (A : Option Addr) (c : Nat) (l : List S36) (w : World) (eg : ∀ args w, (callFunc g args).run Tryd.prog w = .ok (.enter g args) w)
    (hp : PredB g lb p w) (hr : Kd.C k36 w A l.length l) (hl : l.length ≤ 1000) :
    Calls Tryd.prog 108 #[.slice A l.length c, .func (.func g) #[] lb] w fun e w' => e = .returned (.bool (l.any p)) ∧ Below w.heap.size w w' := by
  have HX := Aside0.mk (idx135 g lb p A c l w eg hp hr hl)
  clear hr hp eg
  go_enter Tryd.func108, Tryd.ntmps108
  go_wp2_with fail
  refine HX.out.mono ?_
  rintro e w' ⟨⟨r, rfl, hr⟩, hb⟩
  have HR := Aside0.mk hr
  clear hr
  go_wp2_with fail
  go_ret
  refine ⟨?_, hb⟩
  rw [← HR.out]; rfl
end Go.Proofs.YtbeofioghdapbaaDoor.H
