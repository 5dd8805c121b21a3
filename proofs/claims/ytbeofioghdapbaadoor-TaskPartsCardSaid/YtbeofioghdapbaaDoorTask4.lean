/- The walks of whether a set is right, and of tasks' order by priority. -/
import Derived.Test.YtbeofioghdapbaaDoorTask3
namespace Go.Proofs.YtbeofioghdapbaaDoor.H
open Go.RowKit Go.Proofs.YtbeofioghdapbaaDoorW.PrintWords Go.Proofs.YtbeofioghdapbaaDoorW.PrintLast Go.Proofs.YtbeofioghdapbaaDoorW.PrintMore Go.Proofs.YtbeofioghdapbaaDoor.B
set_option linter.unusedVariables false
set_option linter.unusedSimpArgs false

def rightB (b : Int) (l : List S36) : Bool := (why b l).1 == 0

set_option maxHeartbeats 2000000 in
theorem right30 (b : Int) (A : Option Addr) (c : Nat) (l : List S36) (w : World) (hs : ∀ t ∈ l, t.f0.size ≤ 9223372036854775807) (hr : Kd.C k36 w A l.length l) (hc : l.length ≤ c) (hm : l.length ≤ 9223372036854775807) :
    Calls Tryd.prog 30 #[.agg #[.int .i64 b, .slice A l.length c]] w fun e w' => e = .returned (.bool (rightB b l)) ∧ Below w.heap.size w w' := by
  have hu26 := Tryd.underlying26
  have HX := Aside0.mk (why31 b A c l (w.alloc (.cells #[.int .i64 b, .slice A l.length c] 26)) hs (Kd.C_below hr (below_alloc (Below.refl _ _) _)) hc hm)
  clear hr
  go_enter Tryd.func30, Tryd.ntmps30
  go_wp2_with fail
  refine HX.out.mono ?_
  rintro e w1 ⟨rfl, hb1⟩
  have HB := Aside0.mk (below_step (below_alloc (Below.refl w.heap.size w) _) hb1)
  clear hb1
  go_wp2_with fail
  go_ret
  exact ⟨rfl, HB.out⟩
end Go.Proofs.YtbeofioghdapbaaDoor.H
