/- The row of the law on a right set's parts, and its tied card, proved. -/
import Derived.Test.YtbeofioghdapbaaDoorRows
import Derived.Test.YtbeofioghdapbaaDoorCards
import Derived.Test.YtbeofioghdapbaaDoorTie
import Derived.Test.YtbeofioghdapbaaDoorRow0
import Derived.Test.YtbeofioghdapbaaDoorLaw05W
import Derived.WalkKit
import Derived.ProofKit
import Derived.OpenShut
import Derived.LaidMore
import Derived.Lay
import Derived.SevenTiedAt
import Derived.Stop.Joined
namespace Go.Proofs.YtbeofioghdapbaaDoor.taskParts
open Go.ChangeShapes Go.WideShapes Go.ChangeAt Go.RowKit Go.Proofs.YtbeofioghdapbaaDoorW.PrintWords Go.Proofs.YtbeofioghdapbaaDoor.B Go.Proofs.YtbeofioghdapbaaDoor.H
set_option linter.unusedVariables false
theorem own : ownKnob Tryd.prog.godebug = none := by kernel_rfl
theorem laidOut : laidOutB Tryd.prog = true := by kernel_rfl

theorem walk (b : Int) (A : Option Addr) (c : Nat) (l : List S36) (a1 : Int) (w : World) (hr : Kd.C k36 w A l.length l) (hc : l.length ≤ c) (ha : 0 ≤ a1 ∧ a1 < 256) :
    Calls Tryd.prog 7 #[.agg #[.int .i64 b, .slice A l.length c], .int .u8 a1] w fun e w' => e = .returned (.bool true) ∧ Below w.heap.size w w' := by
  cases hf : fewB l with
  | false => exact parts7_early b A c l a1 w hr hc (Or.inl hf)
  | true =>
    have hs : ∀ t ∈ l, t.f0.size ≤ 9223372036854775807 := fun t ht => Nat.le_trans (few_names l hf t ht) (by decide)
    cases hq : rightB b l with
    | false => exact parts7_early b A c l a1 w hr hc (Or.inr ⟨hf, hq⟩)
    | true =>
      obtain ⟨_, ⟨h1, h16⟩, _⟩ := right_parts b l hq
      have hj0 : 0 ≤ Int.tmod a1 l.length := Int.tmod_nonneg _ ha.1
      have hj1 : Int.tmod a1 l.length < l.length := Int.tmod_lt_of_pos _ (by omega)
      obtain ⟨k, hk⟩ : ∃ k : Nat, 1 + Int.tmod a1 l.length = (k : Int) := ⟨(1 + Int.tmod a1 l.length).toNat, by omega⟩
      have k1 : 1 ≤ k := by omega
      have k2 : k ≤ l.length := by omega
      obtain ⟨t1, t2, e1, e2⟩ := why_twice b l k hq k1 k2
      have hlk : (l.take k).length = k := by rw [List.length_take]; omega
      have hsk : ∀ t ∈ l.take k, t.f0.size ≤ 9223372036854775807 := fun t ht => hs t (List.mem_of_mem_take ht)
      have hx : (rd_T36 l ((k : Int) - 1)).f0.size ≤ 9223372036854775807 := by
        have : ((k : Int) - 1) = ((k - 1 : Nat) : Int) := by omega
        rw [this, rd_get l (k - 1) (by omega)]
        exact hs _ (List.getElem_mem _)
      refine parts7_right b A c l a1 w hr hc h16 h1 ha (k : Int) hk.symm (l.take k) (l.take k ++ [rd_T36 l ((k : Int) - 1)]) (by rw [Int.toNat_natCast]) rfl t1 t2
        (fun A c w g1 g2 => hf ▸ few22 b A c l w g1 g2) ⟨hq, hs, by omega⟩ ⟨right_take b l k hq k1 k2, hsk, by omega⟩ ⟨right_none l, hs, by omega⟩ ⟨e1, ?_, ?_⟩ e2
      · intro t ht
        rcases List.mem_append.1 ht with h | h
        · exact hsk t h
        · obtain rfl := List.mem_singleton.1 h
          exact hx
      · rw [List.length_append, hlk]; simp; omega

set_option maxRecDepth 100000 in
theorem lifted (os : Os) (started : os.Started) (H : Type) (enc : TypeId × Value → H) :
    ReturnsInHanded {} Tryd.checked os 7 .any (fun w args => (Rows.taskPartsSpec.pre enc Tryd.prog Tryd.f7 Rows.taskPartsRow.domain false w args ∧ laidMetH Tryd.prog Rows.taskPartsRow.laid w) ∧ sizedMet enc Tryd.prog Tryd.f7 (OpenSpec.ofChange Rows.taskPartsSpec) false w args)
      (Rows.taskPartsSpec.post enc Tryd.prog Tryd.f7 false true false false) := by
  refine returnsInHanded_of_change_and (C := Tryd.checked) (X := fun w _ => laidMetH Tryd.prog Rows.taskPartsRow.laid w) (fun _ _ _ hh h => h.of_heap hh) own started (by kernel_rfl) Tryd.func7
    (ChangeSpec.witness_shaped (enc := enc) (C := Tryd.checked) (os := os) (X := fun w _ => laidMetH Tryd.prog Rows.taskPartsRow.laid w) false (World.laidAll Tryd.prog os Rows.taskPartsRow.laid) #[.agg #[.int .i64 0, .slice none 0 0], .int .u8 0] 8 (World.laidAll_os _ _ _)
      (World.shaped_of_ZipB (by kernel_rfl) (by kernel_rfl)) (by kernel_rfl) (by kernel_rfl) (by kernel_rfl)
      (by rw [MakeChecks.laidMetH_plain _ _ _ (by kernel_rfl)]; exact laidMet_laidAll _ (by kernel_rfl) (by kernel_rfl))) ?_
  intro W base args ds gs before hval0 hW hcnd _ hL _
  have hval : ∀ (j : Nat) t v, Tryd.f7.params[j]? = some t → args[j]? = some v → Value.okWide Tryd.prog W .any base t v := hval0
  have hW' := hW
  obtain ⟨p, q, hA0, hV, rfl, hfz, hnd⟩ := hW
  have hA : DataW.TrodAll enc Tryd.prog W 0 (fun _ => true) true Tryd.f7.params.toList args.toList ds p := hA0
  rw [Tryd.params7] at hA hval
  obtain ⟨v0, vs0, d0, ds0, p0, q0, hargs, rfl, rfl, h0, r0⟩ := trodAll_cons hA
  obtain ⟨v1, vs1, d1, ds1, p1, q1, rfl, rfl, rfl, h1, r1⟩ := trodAll_cons r0
  obtain ⟨rfl, rfl, rfl⟩ := trodAll_nil r1
  obtain rfl : args = #[v0, v1] := by cases args; simp_all
  obtain ⟨rfl, rfl⟩ := trodVars_none hV
  obtain ⟨b, A, cap, l, rfl, hl, _, hC, _, _⟩ := open_set (hval 0 26 v0 rfl rfl) h0
  have lt0 : ∀ x ∈ p0, x.block < W.heap.size := by obtain ⟨m, hm⟩ := h0; exact DataW.trod_lt m _ _ _ hm
  obtain ⟨x, rfl, rfl, rfl, wx⟩ := open_int Tryd.underlying5 (hval 1 5 v1 rfl rfl) h1
  have hx : 0 ≤ x ∧ x < 256 := by
    have := wx
    simp [Lit.wf, IntKind.min, IntKind.max, IntKind.signed, IntKind.bits] at this
    omega
  clear hA0 hval0
  refine (walk b A cap l x W hC hl hx).mono fun e W' ⟨he, bel⟩ => ?_
  subst he
  exact ⟨_, rfl, _, _, _, [], _, [], hW', trodAll_mk1 (shut_bool Tryd.underlying4 _), (trodAll_cons_mk (Below.trod laidOut (by kernel_rfl) (of_decide_eq_true (by kernel_rfl)) h0 bel lt0) (trodAll_cons_mk (shut_int Tryd.underlying5 wx) trodAll_mk0)), rfl, bel.frame _, fun h => by cases h⟩
theorem proved : Rows.TaskPartsSaid :=
  OpenClaim.holds_of_wide 7 Tryd.f7 rfl rfl rfl rfl rfl rfl rfl ⟨rfl, rfl, rfl, rfl, rfl⟩ rfl rfl rfl rfl rfl (by kernel_rfl) Tryd.func7 (by kernel_rfl)
    (of_decide_eq_true (by kernel_rfl)) (by unfold Func.isWrapper; first | (rw [if_pos (by decide +kernel)]; kernel_rfl) | (rw [if_neg (by decide +kernel)]; exact ⟨rfl, rfl⟩))
    (fun os started H enc _ => lifted os started H enc)
theorem plain (f : FuncId) (fn : Func) (hf : Tryd.pinned.checked.prog.funcNamed "pendulum/pendulumlaw05.TaskParts" = some f) (hfn : Tryd.pinned.checked.prog.funcs[f]? = some fn) :
    false = Tryd.pinned.checked.prog.looks [] ∧ ∀ (j : Nat) t, fn.params[j]? = some t → Tryd.pinned.checked.prog.wantsStandIn t = false := by
  obtain rfl : f = 7 := Option.some.inj ((show Tryd.prog.funcNamed "pendulum/pendulumlaw05.TaskParts" = some 7 by kernel_rfl).symm.trans hf) |>.symm
  obtain rfl : fn = Tryd.f7 := (Option.some.inj (Tryd.func7.symm.trans hfn)).symm
  refine ⟨by kernel_rfl, fun j t ht => ?_⟩
  rw [Tryd.params7] at ht
  have hm : t ∈ [26, 5] := by simpa using Array.mem_of_getElem? ht
  have hall : ([26, 5].all fun u => !Tryd.prog.wantsStandIn u) = true := by kernel_rfl
  exact (show Tryd.prog.wantsStandIn t = false by simpa using List.all_eq_true.1 hall t hm)
theorem card : Rows.TaskPartsCardSaid :=
  Claim7.holds_tied_plain_at .later [] _ _ _ _ proved (fun _ h => by cases h) (by kernel_rfl) (fun _ h => by cases h) taskParts_row_tie rfl ⟨rfl, rfl⟩ (by kernel_rfl) rfl plain (by kernel_rfl)
end Go.Proofs.YtbeofioghdapbaaDoor.taskParts
namespace Go.Proofs.YtbeofioghdapbaaDoor
/-- The card, under a short name, for the claim. -/
theorem taskParts_card : Rows.TaskPartsCardSaid := taskParts.card
#print axioms taskParts_card
end Go.Proofs.YtbeofioghdapbaaDoor
