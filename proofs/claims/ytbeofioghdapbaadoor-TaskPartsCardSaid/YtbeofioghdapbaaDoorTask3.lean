/- The walk of why a set isn't right. -/
import Derived.Test.YtbeofioghdapbaaDoorTask2
import Derived.StillTailTactics
import Derived.Laws.EntriesVeiled
namespace Go.Proofs.YtbeofioghdapbaaDoor.H
open Go.RowKit Go.Proofs.YtbeofioghdapbaaDoorW.PrintWords Go.Proofs.YtbeofioghdapbaaDoorW.PrintLast Go.Proofs.YtbeofioghdapbaaDoorW.PrintMore Go.Proofs.YtbeofioghdapbaaDoor.B
set_option linter.unusedVariables false
set_option linter.unusedSimpArgs false

theorem in_f (n a b : Int) : task_in.f n a b = some (inB n a b) := by
  unfold task_in.f inB
  split <;> simp <;> omega
theorem timed88 (t : S36) (A : Option Addr) (c : Nat) (l : List S36) (w : World) (hr : Kd.C k36 w A l.length l) (hc : l.length ≤ c) :
    Calls Tryd.prog 88 #[tv t, .slice A l.length c] w fun e w' => e = .returned (.bool (timedB t)) ∧ Below w.heap.size w w' :=
  task_timed.calls t.f0 t.f1 t.f2 t.f3 t.f4 t.f5 t.f6 t.f7 t.f8 t.f9 t.f10 A c l _ w hr hc (by
    unfold task_timed.f timedB
    simp only [in_f, Option.bind_some]
    cases inB t.f1 1 1048576 <;> cases inB t.f2 1 t.f1 <;> cases inB t.f3 1 t.f2 <;> rfl)
theorem moded89 (t : S36) (A : Option Addr) (c : Nat) (l : List S36) (w : World) (hr : Kd.C k36 w A l.length l) (hc : l.length ≤ c) :
    Calls Tryd.prog 89 #[tv t, .slice A l.length c] w fun e w' => e = .returned (.bool (modedB t)) ∧ Below w.heap.size w w' :=
  task_moded.calls t.f0 t.f1 t.f2 t.f3 t.f4 t.f5 t.f6 t.f7 t.f8 t.f9 t.f10 A c l _ w hr hc (by
    unfold task_moded.f modedB
    simp only [in_f, Option.bind_some]
    by_cases h : t.f9 = 1
    · simp only [h, if_true]
      cases inB t.f5 1 t.f3 <;> rfl
    · simp only [h, if_false]
      cases inB t.f9 2 3 <;> cases inB t.f4 1 t.f2 <;> rfl)
theorem firm90 (t : S36) (A : Option Addr) (c : Nat) (l : List S36) (w : World) (hr : Kd.C k36 w A l.length l) (hc : l.length ≤ c) :
    Calls Tryd.prog 90 #[tv t, .slice A l.length c] w fun e w' => e = .returned (.bool (firmB t)) ∧ Below w.heap.size w w' :=
  task_firm.calls t.f0 t.f1 t.f2 t.f3 t.f4 t.f5 t.f6 t.f7 t.f8 t.f9 t.f10 A c l _ w hr hc (by
    unfold task_firm.f firmB
    simp only [in_f, Option.bind_some]
    cases inB t.f8 1 64 <;> rfl)
/-- What is asked of a task, in order. -/
def chk (t : S36) (l : List S36) : Nat → Bool
  | 0 => namedB t l
  | 1 => timedB t
  | 2 => modedB t
  | 3 => firmB t
  | _ => rankedB t l
theorem chk_calls (j : Nat) (hj : j < 5) (t : S36) (A : Option Addr) (c : Nat) (l : List S36) (w : World) (hs : t.f0.size ≤ 9223372036854775807) (hr : Kd.C k36 w A l.length l) (hc : l.length ≤ c) (hl : l.length ≤ 1000) :
    Calls Tryd.prog (87 + j) #[tv t, .slice A l.length c] w fun e w' => e = .returned (.bool (chk t l j)) ∧ Below w.heap.size w w' := by
  rcases j with _ | _ | _ | _ | _ | j
  · exact named87 t A c l w hs hr hl
  · exact timed88 t A c l w hr hc
  · exact moded89 t A c l w hr hc
  · exact firm90 t A c l w hr hc
  · exact ranked91 t A c l w hr hl
  · omega
theorem chk_enters (j : Nat) (hj : j < 5) : ∀ args w, (callFunc (87 + j) args).run Tryd.prog w = .ok (.enter (87 + j) args) w := by
  rcases j with _ | _ | _ | _ | _ | j
  · exact enters_of Tryd.func87 (by kernel_rfl) rfl
  · exact enters_of Tryd.func88 (by kernel_rfl) rfl
  · exact enters_of Tryd.func89 (by kernel_rfl) rfl
  · exact enters_of Tryd.func90 (by kernel_rfl) rfl
  · exact enters_of Tryd.func91 (by kernel_rfl) rfl
  · omega

abbrev asks : Array Value := #[.int .i64 3, .func (.func 87) #[] #[], .int .i64 4, .func (.func 88) #[] #[], .int .i64 5, .func (.func 89) #[] #[], .int .i64 6, .func (.func 90) #[] #[], .int .i64 7, .func (.func 91) #[] #[]]
def whyOne (t : S36) (l : List S36) : Int :=
  if namedB t l = false then 3 else if timedB t = false then 4 else if modedB t = false then 5 else if firmB t = false then 6 else if rankedB t l = false then 7 else 0
/-- Why the tasks from place k on aren't right, and which. -/
def whyGo (l : List S36) : Nat → Nat → Int × Int
  | _, 0 => (0, -1)
  | k, n + 1 => if whyOne (rd_T36 l k) (l.take k) = 0 then whyGo l (k + 1) n else (whyOne (rd_T36 l k) (l.take k), k)
/-- Why a set isn't right, and where. -/
def why (b : Int) (l : List S36) : Int × Int :=
  if inB b 1 1000 = false then (1, -1) else if inB l.length 1 16 = false then (2, -1) else whyGo l 0 l.length
theorem whyOne_chk (t : S36) (l : List S36) (j : Nat) (hj : j < 5) (h : ∀ i, i < j → chk t l i = true) (hn : chk t l j = false) : whyOne t l = 3 + j := by
  unfold whyOne
  rcases j with _ | _ | _ | _ | _ | j
  · have a : namedB t l = false := hn
    rw [if_pos a]; rfl
  · have a : namedB t l = true := h 0 (by omega)
    have b : timedB t = false := hn
    rw [if_neg (by simp [a]), if_pos b]; rfl
  · have a : namedB t l = true := h 0 (by omega)
    have b : timedB t = true := h 1 (by omega)
    have c : modedB t = false := hn
    rw [if_neg (by simp [a]), if_neg (by simp [b]), if_pos c]; rfl
  · have a : namedB t l = true := h 0 (by omega)
    have b : timedB t = true := h 1 (by omega)
    have c : modedB t = true := h 2 (by omega)
    have d : firmB t = false := hn
    rw [if_neg (by simp [a]), if_neg (by simp [b]), if_neg (by simp [c]), if_pos d]; rfl
  · have a : namedB t l = true := h 0 (by omega)
    have b : timedB t = true := h 1 (by omega)
    have c : modedB t = true := h 2 (by omega)
    have d : firmB t = true := h 3 (by omega)
    have e : rankedB t l = false := hn
    rw [if_neg (by simp [a]), if_neg (by simp [b]), if_neg (by simp [c]), if_neg (by simp [d]), if_pos e]; rfl
  · omega
theorem whyOne_fine (t : S36) (l : List S36) (h : ∀ i, i < 5 → chk t l i = true) : whyOne t l = 0 := by
  unfold whyOne
  have a : namedB t l = true := h 0 (by omega)
  have b : timedB t = true := h 1 (by omega)
  have c : modedB t = true := h 2 (by omega)
  have d : firmB t = true := h 3 (by omega)
  have e : rankedB t l = true := h 4 (by omega)
  rw [if_neg (by simp [a]), if_neg (by simp [b]), if_neg (by simp [c]), if_neg (by simp [d]), if_neg (by simp [e])]

set_option maxHeartbeats 4000000 in
set_option maxRecDepth 100000 in
theorem why31 (b : Int) (A : Option Addr) (c : Nat) (l : List S36) (w : World) (hs : ∀ t ∈ l, t.f0.size ≤ 9223372036854775807) (hr : Kd.C k36 w A l.length l) (hc : l.length ≤ c) (hm : l.length ≤ 9223372036854775807) :
    Calls Tryd.prog 31 #[.agg #[.int .i64 b, .slice A l.length c]] w fun e w' => e = .returned (.tuple #[.int .i64 (why b l).1, .int .i64 (why b l).2]) ∧ Below w.heap.size w w' := by
  have hu26 := Tryd.underlying26
  have hu36 := Tryd.underlying36
  have hu94 := Tryd.underlying94
  have HR := Aside0.mk hr
  have HS := Aside0.mk hs
  have HC := Aside0.mk hc
  clear hr hs hc
  have HB0 : Aside0 (Below w.heap.size w (w.alloc (Obj.cells #[.int .i64 b, .slice A l.length c] 26))) := ⟨below_alloc (Below.refl _ _) _⟩
  cases hb : inB b 1 1000 with
  | false =>
    have e : why b l = (1, -1) := by unfold why; rw [if_pos hb]
    rw [e]
    have HX := Aside0.mk (fun W => in62 b 1 1000 W)
    rw [hb] at HX
    clear hb e
    go_enter Tryd.func31, Tryd.ntmps31
    go_wp2_with fail
    refine (HX.out _).mono ?_
    rintro e w1 ⟨rfl, hb1⟩
    have HB := Aside0.mk (below_step HB0.out hb1.below)
    clear hb1
    go_wp2_with fail
    go_ret2
    exact ⟨rfl, HB.out⟩
  | true =>
    have HX := Aside0.mk (fun W => in62 b 1 1000 W)
    rw [hb] at HX
    have hw : why b l = if inB l.length 1 16 = false then (2, -1) else whyGo l 0 l.length := by unfold why; rw [if_neg (by simp [hb])]
    rw [hw]
    clear hb hw
    have HY := Aside0.mk (fun W => in62 l.length 1 16 W)
    cases hn : inB l.length 1 16 with
    | false =>
      rw [hn] at HY
      clear hn
      rw [if_pos rfl]
      go_enter Tryd.func31, Tryd.ntmps31
      go_wp2_with fail
      refine (HX.out _).mono ?_
      rintro e w1 ⟨rfl, hb1⟩
      have HB := Aside0.mk (below_step HB0.out hb1.below)
      have BK := blk_below (blk_new w (.cells #[.int .i64 b, .slice A l.length c] 26 (0, 0))) hb1.below
      have hcz0 : w1.cell? ⟨w.heap.size, 0, none⟩ = some (.int .i64 b) := (blk_cell BK 0).trans rfl
      have hcz1 : w1.cell? ⟨w.heap.size, 1, none⟩ = some (.slice A l.length c) := (blk_cell BK 1).trans rfl
      clear hb1 BK
      go_wp2_with fail
      refine (HY.out _).mono ?_
      rintro e w2 ⟨rfl, hb2⟩
      have HB2 := Aside0.mk (below_step HB.out hb2.below)
      clear hb2
      go_wp2_with fail
      go_ret2
      exact ⟨rfl, HB2.out⟩
    | true =>
      rw [hn] at HY
      have hl16 : l.length ≤ 16 := by
        unfold inB at hn
        simp at hn
        omega
      clear hn
      rw [if_neg (by simp)]
      go_enter Tryd.func31, Tryd.ntmps31
      go_wp2_with fail
      refine (HX.out _).mono ?_
      rintro e w1 ⟨rfl, hb1⟩
      have HB := Aside0.mk (below_step HB0.out hb1.below)
      have BK := Aside0.mk (blk_below (blk_new w (.cells #[.int .i64 b, .slice A l.length c] 26 (0, 0))) hb1.below)
      have hcz0 : w1.cell? ⟨w.heap.size, 0, none⟩ = some (.int .i64 b) := (blk_cell BK.out 0).trans rfl
      have hcz1 : w1.cell? ⟨w.heap.size, 1, none⟩ = some (.slice A l.length c) := (blk_cell BK.out 1).trans rfl
      clear hb1
      go_wp2_with fail
      refine (HY.out _).mono ?_
      rintro e w2 ⟨rfl, hb2⟩
      have HB2 := Aside0.mk (below_step HB.out hb2.below)
      have BK2 := Aside0.mk (blk_below BK.out hb2.below)
      have hcz2 : w2.cell? ⟨w.heap.size, 1, none⟩ = some (.slice A l.length c) := (blk_cell BK2.out 1).trans rfl
      clear hb2 hcz0 hcz1
      go_wp2_with fail
      clear hcz2 HX HY HB0 HB BK
      go_loopw [22] (fun v22 wr => ∃ k : Nat, k ≤ l.length ∧ v22 = .int .i64 k ∧ Aside0 (whyGo l 0 l.length = whyGo l k (l.length - k)) ∧ Aside0 (wr.heap[w.heap.size]? = some (.cells #[.int .i64 b, .slice A l.length c] 26 (0, 0))) ∧ Aside0 (Below w.heap.size w wr)) (fun v22 _ => l.length - (intOf v22).toNat)
      case atStart => exact ⟨0, Nat.zero_le _, rfl, ⟨rfl⟩, BK2, HB2⟩
      case round =>
        clear HB2 BK2
        obtain ⟨k, hk, rfl, HW, BK, HB⟩ := hrel
        by_cases hlt : k < l.length
        · obtain ⟨ad, eA, hx0, hx1, hx2, hx3, hx4, hx5, hx6, hx7, hx8, hx9, hx10⟩ := tcells HR.out HB.out k hlt
          cases eA
          go_wp2_with fail
          refine (all63 _).mono ?_
          rintro e w3 ⟨rfl, rfl⟩
          go_wp2_with fail
          obtain ⟨t, ht⟩ : ∃ t, t = rd_T36 l k := ⟨_, rfl⟩
          rw [← ht] at hx0 hx1 hx2 hx3 hx4 hx5 hx6 hx7 hx8 hx9 hx10 ⊢
          have HT := Aside0.mk ht
          clear ht hx0 hx1 hx2 hx3 hx4 hx5 hx6 hx7 hx8 hx9 hx10
          obtain ⟨wo, hwo⟩ : ∃ wo : World, wo = wr := ⟨_, rfl⟩
          subst hwo
          have hgt : w.heap.size < wo.heap.size := blk_lt BK.out
          have hgt2 := Aside0.mk hgt
          have BKa : Aside0 (((wo.alloc (.cells (tcs t) 36)).alloc (.cells asks 94)).heap[w.heap.size]? = some (.cells #[.int .i64 b, .slice (some ad) l.length c] 26 (0, 0))) := ⟨blk_alloc (blk_alloc BK.out _) _⟩
          have BTa : Aside0 (((wo.alloc (.cells (tcs t) 36)).alloc (.cells asks 94)).heap[wo.heap.size]? = some (.cells (tcs t) 36 (0, 0))) := ⟨blk_alloc (blk_new wo _) _⟩
          have BAa : Aside0 (((wo.alloc (.cells (tcs t) 36)).alloc (.cells asks 94)).heap[wo.heap.size + 1]? = some (.cells asks 94 (0, 0))) := ⟨by have := blk_new (wo.alloc (.cells (tcs t) 36)) (.cells asks 94); simpa using this⟩
          have HBa : Aside0 (Below w.heap.size w ((wo.alloc (.cells (tcs t) 36)).alloc (.cells asks 94))) := ⟨below_alloc (below_alloc HB.out _) _⟩
          clear hgt
          go_loopw [29] (fun v29 wr => ∃ j : Nat, j ≤ 5 ∧ v29 = .int .i64 j ∧ Aside0 (∀ i, i < j → chk t (l.take k) i = true) ∧ Aside0 (wr.heap[w.heap.size]? = some (.cells #[.int .i64 b, .slice (some ad) l.length c] 26 (0, 0))) ∧ Aside0 (wr.heap[wo.heap.size]? = some (.cells (tcs t) 36 (0, 0))) ∧ Aside0 (wr.heap[wo.heap.size + 1]? = some (.cells asks 94 (0, 0))) ∧ Aside0 (Below w.heap.size w wr)) (fun v29 _ => 5 - (intOf v29).toNat)
          case atStart => exact ⟨0, by omega, rfl, ⟨fun i hi => absurd hi (Nat.not_lt_zero _)⟩, BKa, BTa, BAa, HBa⟩
          case round =>
            clear BKa BTa BAa HBa HB BK
            obtain ⟨j, hj, rfl, HJ, BK, BT, BA, HB⟩ := hrel
            by_cases hj5 : j < 5
            · have hq0 : wr.cell? ⟨wo.heap.size + 1, j * 2, none⟩ = some (.int .i64 (3 + j)) := by
                rw [blk_cell BA.out]
                rcases j with _ | _ | _ | _ | _ | j <;> first | rfl | omega
              have hq1 : wr.cell? ⟨wo.heap.size + 1, j * 2 + 1, none⟩ = some (.func (.func (87 + j)) #[] #[]) := by
                rw [blk_cell BA.out]
                rcases j with _ | _ | _ | _ | _ | j <;> first | rfl | omega
              have hy0 : wr.cell? ⟨wo.heap.size, 0, none⟩ = some (.string t.f0) := (blk_cell BT.out 0).trans rfl
              have hy1 : wr.cell? ⟨wo.heap.size, 1, none⟩ = some (.int .i64 t.f1) := (blk_cell BT.out 1).trans rfl
              have hy2 : wr.cell? ⟨wo.heap.size, 2, none⟩ = some (.int .i64 t.f2) := (blk_cell BT.out 2).trans rfl
              have hy3 : wr.cell? ⟨wo.heap.size, 3, none⟩ = some (.int .i64 t.f3) := (blk_cell BT.out 3).trans rfl
              have hy4 : wr.cell? ⟨wo.heap.size, 4, none⟩ = some (.int .i64 t.f4) := (blk_cell BT.out 4).trans rfl
              have hy5 : wr.cell? ⟨wo.heap.size, 5, none⟩ = some (.int .i64 t.f5) := (blk_cell BT.out 5).trans rfl
              have hy6 : wr.cell? ⟨wo.heap.size, 6, none⟩ = some (.int .i64 t.f6) := (blk_cell BT.out 6).trans rfl
              have hy7 : wr.cell? ⟨wo.heap.size, 7, none⟩ = some (.int .i64 t.f7) := (blk_cell BT.out 7).trans rfl
              have hy8 : wr.cell? ⟨wo.heap.size, 8, none⟩ = some (.int .i64 t.f8) := (blk_cell BT.out 8).trans rfl
              have hy9 : wr.cell? ⟨wo.heap.size, 9, none⟩ = some (.int .i64 t.f9) := (blk_cell BT.out 9).trans rfl
              have hy10 : wr.cell? ⟨wo.heap.size, 10, none⟩ = some (.int .i64 t.f10) := (blk_cell BT.out 10).trans rfl
              have hcz1 : wr.cell? ⟨w.heap.size, 1, none⟩ = some (.slice (some ad) l.length c) := (blk_cell BK.out 1).trans rfl
              have hs1 : wo.heap.size < wr.heap.size := blk_lt BT.out
              have hs2 : w.heap.size < wr.heap.size := blk_lt BK.out
              have hs3 : wo.heap.size + 1 < wr.heap.size := blk_lt BA.out
              have hkc : k ≤ c := by have := HC.out; omega
              go_wp2_with fail
              refine wp_region_still_tail 7 (by kernel_rfl) (by kernel_rfl) ?_
              simp only [List.take_succ_cons, List.take_zero, List.drop_succ_cons, List.drop_zero]
              change wpStill _ _ (World.drew _) (fun a' => wpList _ _ _ _ a' (World.drew _)) _ _
              repeat still_step
              refine wpStill_nil ?_
              have hw5 : Below w.heap.size w (wr.alloc (.cells #[.int .i64 (3 + j), .func (.func (87 + j)) #[] #[]] 94)).drew := below_drew1 (below_alloc HB.out _)
              have hcall := chk_calls j hj5 t (some ad) c (l.take k) _ (HS.out t (by rw [HT.out, rd_get l k hlt]; exact List.getElem_mem hlt)) (Kd.C_below (Kd.C_take HR.out (m := k) (by omega)) hw5) (by rw [List.length_take]; omega) (by rw [List.length_take]; omega)
              rw [List.length_take, Nat.min_eq_left hk] at hcall
              have BK5 := Aside0.mk (blk_drew (blk_alloc BK.out (.cells #[.int .i64 (3 + j), .func (.func (87 + j)) #[] #[]] 94)))
              have BT5 := Aside0.mk (blk_drew (blk_alloc BT.out (.cells #[.int .i64 (3 + j), .func (.func (87 + j)) #[] #[]] 94)))
              have BA5 := Aside0.mk (blk_drew (blk_alloc BA.out (.cells #[.int .i64 (3 + j), .func (.func (87 + j)) #[] #[]] 94)))
              have BN5 := Aside0.mk (blk_drew (blk_new wr (.cells #[.int .i64 (3 + j), .func (.func (87 + j)) #[] #[]] 94)))
              have HB5 := Aside0.mk hw5
              clear hw5 hy0 hy1 hy2 hy3 hy4 hy5 hy6 hy7 hy8 hy9 hy10 hcz1 hq0 hq1 HB BK BT BA
              have eg := chk_enters j hj5
              cases hq : chk t (l.take k) j with
              | true =>
                rw [hq] at hcall
                have HCL := Aside0.mk hcall
                have HQ := Aside0.mk hq
                clear hcall hq
                go_wp2_with (go_at_fn (87 + j); refine HCL.out.mono ?_; rintro e w6 ⟨rfl, hb6⟩; have BK6 := Aside0.mk (blk_below BK5.out hb6); have BT6 := Aside0.mk (blk_below BT5.out hb6); have BA6 := Aside0.mk (blk_below BA5.out hb6); have HB6 := Aside0.mk (below_step HB5.out hb6); clear hb6)
                go_roundw
                case measure => simp [intOf]; omega
                case rel => exact ⟨j + 1, by omega, by go_num, ⟨fun i hi => by
                  by_cases e : i = j
                  · rw [e]; exact HQ.out
                  · exact HJ.out i (by omega)⟩, BK6, BT6, BA6, HB6⟩
              | false =>
                rw [hq] at hcall
                have HCL := Aside0.mk hcall
                have HQ := Aside0.mk hq
                clear hcall hq
                go_wp2_with (go_at_fn (87 + j); refine HCL.out.mono ?_; rintro e w6 ⟨rfl, hb6⟩; have hn6 : w6.cell? ⟨wr.heap.size, 0, none⟩ = some (.int .i64 (3 + j)) := (blk_cell (blk_below BN5.out hb6) 0).trans rfl; have HB6 := Aside0.mk (below_step HB5.out hb6); clear hb6)
                go_ret2
                refine ⟨?_, HB6.out⟩
                have hw1 := whyOne_chk t (l.take k) j hj5 HJ.out HQ.out
                have hw2 : whyGo l 0 l.length = ((3 : Int) + (j : Int), (k : Int)) := by
                  rw [HW.out, show l.length - k = (l.length - k - 1) + 1 by omega]
                  unfold whyGo
                  rw [← HT.out, hw1, if_neg (by omega)]
                rw [hw2]
                rfl
            · have hj5' : j = 5 := by omega
              subst hj5'
              have hw1 := whyOne_fine t (l.take k) HJ.out
              have hw2 : Aside0 (whyGo l 0 l.length = whyGo l (k + 1) (l.length - (k + 1))) := ⟨by
                rw [HW.out, show l.length - k = (l.length - (k + 1)) + 1 by omega]
                conv => lhs; unfold whyGo
                rw [← HT.out, hw1, if_pos rfl]⟩
              clear hw1
              go_wp2_with fail
              go_roundw
              case measure => simp [intOf]; omega
              case rel => exact ⟨k + 1, by omega, by go_num, hw2, BK, HB⟩
        · have hk' : k = l.length := by omega
          subst hk'
          go_wp2_with fail
          go_ret2
          refine ⟨?_, HB.out⟩
          rw [HW.out, Nat.sub_self]
          rfl
end Go.Proofs.YtbeofioghdapbaaDoor.H
