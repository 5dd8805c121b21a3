/- The walks of why a set isn't right: the five tests of a task, all of them in order, and the set. -/
import Derived.Test.YtbeofioghdapbaaDoorTask1
namespace Go.Proofs.YtbeofioghdapbaaDoor.H
open Go.RowKit Go.Proofs.YtbeofioghdapbaaDoorW.PrintWords Go.Proofs.YtbeofioghdapbaaDoorW.PrintLast Go.Proofs.YtbeofioghdapbaaDoorW.PrintMore Go.Proofs.YtbeofioghdapbaaDoor.B
set_option linter.unusedVariables false
set_option linter.unusedSimpArgs false

def sameName (t x : S36) : Bool := x.f0.toList == t.f0.toList
def samePrio (t x : S36) : Bool := x.f10 == t.f10
def namedB (t : S36) (ahead : List S36) : Bool := nameOk t.f0 && !ahead.any (sameName t)
def inB (n a b : Int) : Bool := decide (a ≤ n) && decide (n ≤ b)
def timedB (t : S36) : Bool := inB t.f1 1 1048576 && (inB t.f2 1 t.f1 && (inB t.f3 1 t.f2 && inB t.f6 0 1000))
def modedB (t : S36) : Bool := if t.f9 = 1 then inB t.f5 1 t.f3 && t.f4 == 0 else inB t.f9 2 3 && (inB t.f4 1 t.f2 && t.f5 == 0)
def firmB (t : S36) : Bool := inB t.f8 1 64 && inB t.f7 1 t.f8
def rankedB (t : S36) (ahead : List S36) : Bool := inB t.f10 0 255 && !ahead.any (samePrio t)

theorem in62 (n a b : Int) (w : World) : Calls Tryd.prog 62 #[.int .i64 n, .int .i64 a, .int .i64 b] w fun e w' => e = .returned (.bool (inB n a b)) ∧ Drawn0 w w' :=
  task_in.calls n a b _ w (by unfold task_in.f inB; split <;> simp <;> omega)
theorem pred109 (t : S36) (B : Nat) (w : World) (hb : w.heap[B]? = some (.cells (tcs t) 36 (0, 0))) : PredB 109 #[.pointer (some ⟨B, 0, none⟩)] (sameName t) w :=
  fun W x h => (c109 x t B W (blk_below hb h)).mono fun _ _ ⟨he, hq⟩ => ⟨he, below_step h hq⟩
theorem pred110 (t : S36) (B : Nat) (w : World) (hb : w.heap[B]? = some (.cells (tcs t) 36 (0, 0))) : PredB 110 #[.pointer (some ⟨B, 0, none⟩)] (samePrio t) w :=
  fun W x h => (c110 x t B W (blk_below hb h)).mono fun _ _ ⟨he, hq⟩ => ⟨he, below_step h hq⟩

set_option maxHeartbeats 2000000 in
theorem named87 (t : S36) (A : Option Addr) (c : Nat) (l : List S36) (w : World) (hs : t.f0.size ≤ 9223372036854775807) (hr : Kd.C k36 w A l.length l) (hl : l.length ≤ 1000) :
    Calls Tryd.prog 87 #[tv t, .slice A l.length c] w fun e w' => e = .returned (.bool (namedB t l)) ∧ Below w.heap.size w w' := by
  have hu36 := Tryd.underlying36
  have HR := Aside0.mk hr
  clear hr
  have hfin : namedB t l = (nameOk t.f0 && !l.any (sameName t)) := rfl
  rw [hfin]
  clear hfin
  have HX := Aside0.mk (fun W => named107 t.f0 W hs)
  cases hq : nameOk t.f0 with
  | false =>
    rw [hq] at HX
    have HQ := Aside0.mk hq
    clear hq
    go_enter Tryd.func87, Tryd.ntmps87
    go_wp2_with fail
    refine (HX.out _).mono ?_
    rintro e w1 ⟨rfl, hb1⟩
    go_wp2_with fail
    go_ret
    exact ⟨rfl, below_step (below_alloc (Below.refl _ _) _) hb1⟩
  | true =>
    rw [hq] at HX
    have HQ := Aside0.mk hq
    clear hq
    go_enter Tryd.func87, Tryd.ntmps87
    go_wp2_with fail
    refine (HX.out _).mono ?_
    rintro e w1 ⟨rfl, hb1⟩
    have HK := Aside0.mk (blk_below (blk_new w (.cells (tcs t) 36 (0, 0))) hb1)
    have HB := Aside0.mk (below_step (below_alloc (Below.refl _ _) _) hb1)
    clear hb1
    go_wp2_with fail
    refine (any108 109 #[.pointer (some ⟨w.heap.size, 0, none⟩)] (sameName t) A c l w1 (enters_of Tryd.func109 (by kernel_rfl) rfl) (pred109 t _ w1 HK.out) (Kd.C_below HR.out HB.out) hl).mono ?_
    rintro e w2 ⟨rfl, hb2⟩
    have HB2 := Aside0.mk (below_step HB.out hb2)
    clear hb2
    go_wp2_with fail
    go_ret
    exact ⟨rfl, HB2.out⟩

set_option maxHeartbeats 2000000 in
theorem ranked91 (t : S36) (A : Option Addr) (c : Nat) (l : List S36) (w : World) (hr : Kd.C k36 w A l.length l) (hl : l.length ≤ 1000) :
    Calls Tryd.prog 91 #[tv t, .slice A l.length c] w fun e w' => e = .returned (.bool (rankedB t l)) ∧ Below w.heap.size w w' := by
  have hu36 := Tryd.underlying36
  have HR := Aside0.mk hr
  clear hr
  have hfin : rankedB t l = (inB t.f10 0 255 && !l.any (samePrio t)) := rfl
  rw [hfin]
  clear hfin
  have HX := Aside0.mk (fun W => in62 t.f10 0 255 W)
  cases hq : inB t.f10 0 255 with
  | false =>
    rw [hq] at HX
    have HQ := Aside0.mk hq
    clear hq
    go_enter Tryd.func91, Tryd.ntmps91
    go_wp2_with fail
    refine (HX.out _).mono ?_
    rintro e w1 ⟨rfl, hb1⟩
    have HB := Aside0.mk (below_step (below_alloc (Below.refl w.heap.size w) _) hb1.below)
    clear hb1
    go_wp2_with fail
    go_ret
    exact ⟨rfl, HB.out⟩
  | true =>
    rw [hq] at HX
    have HQ := Aside0.mk hq
    clear hq
    go_enter Tryd.func91, Tryd.ntmps91
    go_wp2_with fail
    refine (HX.out _).mono ?_
    rintro e w1 ⟨rfl, hb1⟩
    have HK := Aside0.mk (blk_below (blk_new w (.cells (tcs t) 36 (0, 0))) hb1.below)
    have HB := Aside0.mk (below_step (below_alloc (Below.refl w.heap.size w) _) hb1.below)
    clear hb1
    go_wp2_with fail
    refine (any108 110 #[.pointer (some ⟨w.heap.size, 0, none⟩)] (samePrio t) A c l w1 (enters_of Tryd.func110 (by kernel_rfl) rfl) (pred110 t _ w1 HK.out) (Kd.C_below HR.out HB.out) hl).mono ?_
    rintro e w2 ⟨rfl, hb2⟩
    have HB2 := Aside0.mk (below_step HB.out hb2)
    clear hb2
    go_wp2_with fail
    go_ret
    exact ⟨rfl, HB2.out⟩

set_option maxHeartbeats 2000000 in
theorem all63 (w : World) :
    Calls Tryd.prog 63 #[] w fun e w' => e = .returned (.slice (some ⟨w.heap.size, 0, none⟩) 5 5) ∧ w' = w.alloc (.cells #[.int .i64 3, .func (.func 87) #[] #[], .int .i64 4, .func (.func 88) #[] #[], .int .i64 5, .func (.func 89) #[] #[], .int .i64 6, .func (.func 90) #[] #[], .int .i64 7, .func (.func 91) #[] #[]] 94) := by
  go_enter Tryd.func63, Tryd.ntmps63
  go_wp2_with fail
  go_ret
  exact ⟨rfl, rfl⟩
end Go.Proofs.YtbeofioghdapbaaDoor.H
