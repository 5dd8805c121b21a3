/- The walk of the law on a right set's parts. -/
import Derived.Test.YtbeofioghdapbaaDoorLaw05P
namespace Go.Proofs.YtbeofioghdapbaaDoor.H
open Go.RowKit Go.Proofs.YtbeofioghdapbaaDoorW.PrintWords Go.Proofs.YtbeofioghdapbaaDoorW.PrintLast Go.Proofs.YtbeofioghdapbaaDoorW.PrintMore Go.Proofs.YtbeofioghdapbaaDoor.B
attribute [local go_sem] max2_int min2_int max_two min_two max_three min_three max_four min_four   -- for this text's walks alone
set_option linter.unusedVariables false
set_option linter.unusedSimpArgs false

theorem info36 : (Tryd.prog.info? 36).map (fun i => (i.zero, i.size, i.bytes)) = some (some (.agg #[(.string ⟨#[]⟩), (.int .i64 0), (.int .i64 0), (.int .i64 0), (.int .i64 0), (.int .i64 0), (.int .i64 0), (.int .i64 0), (.int .i64 0), (.int .i64 0), (.int .i64 0)]), 11, 96) := by kernel_rfl
def parts7_T4 : Bool × List (List Nat × List Nat) := (true, [([], []), ([0], [0]), ([], []), ([2], [2]), ([], []), ([3, 4], [3, 4]), ([1, 5], [1, 5]), ([], []), ([7, 6, 0, 1, 2, 3, 4, 5, 6, 7], [6, 7])])
def parts7_B4 : List Nat := [0, 1, 0, 4, 0, 28, 63, 0, 255]
theorem parts7_tab4 : rtab .any (opsOf Tryd.f7 4) = parts7_T4 := by kernel_rfl
theorem parts7_bits4 : waitsOk parts7_T4.2 parts7_B4 = true := by kernel_rfl
def parts7_T5 : Bool × List (List Nat × List Nat) := (true, [([], []), ([0], [0]), ([], []), ([], []), ([3], [3]), ([], []), ([4, 5], [4, 5]), ([2, 6], [2, 6]), ([], []), ([8], [8]), ([], []), ([10], [10]), ([9, 11], [9, 11]), ([12], [12]), ([13], [13]), ([7, 14, 7], [7, 14]), ([1, 15], [1, 15]), ([], []), ([17, 16, 15, 0, 1, 2, 3, 4, 5, 6, 7, 8, 9, 10, 11, 12, 13, 14, 15, 16, 17], [16, 17])])
def parts7_B5 : List Nat := [0, 1, 0, 0, 8, 0, 56, 124, 0, 256, 0, 1024, 3840, 7936, 16128, 32764, 65535, 0, 262143]
theorem parts7_tab5 : rtab .any (opsOf Tryd.f7 5) = parts7_T5 := by kernel_rfl
theorem parts7_bits5 : waitsOk parts7_T5.2 parts7_B5 = true := by kernel_rfl
set_option maxHeartbeats 8000000 in
set_option maxRecDepth 100000 in
theorem parts7_right (a0_0 : Int) (A0_1 : Option Addr) (c0_1 : Nat) (l0_1 : List (S36)) (a1 : Int) (w : World) (hr0_1 : Kd.C k36 w A0_1 l0_1.length l0_1) (hc0_1 : l0_1.length ≤ c0_1) (hn16 : l0_1.length ≤ 16) (hn1 : 1 ≤ l0_1.length) (ha : 0 ≤ a1 ∧ a1 < 256)
    (ji23 : Int) (hji : ji23 = 1 + Int.tmod a1 l0_1.length) (y131 y150 : List S36) (hy131 : y131 = l0_1.take ji23.toNat) (hy150 : y150 = y131 ++ [rd_T36 l0_1 (ji23 - 1)]) (t154 t155 : Int)
    (hfew : FewC a0_0 l0_1 true) (hright : W30 a0_0 l0_1 true) (hpart : W30 a0_0 y131 true) (hnone : W30 0 l0_1 false) (htwice : W31 a0_0 y150 t154 t155)
    (hend : (ji23 = 16 ∧ t154 = 2) ∨ (ji23 < 16 ∧ t154 = 3 ∧ t155 = ji23)) :
    Calls Tryd.prog 7 #[.agg #[.int .i64 a0_0, .slice A0_1 l0_1.length c0_1], .int .u8 a1] w fun e w' => e = .returned (.bool true) ∧ Below w.heap.size w w' := by
  have hu26 := Tryd.underlying26
  have hu36 := Tryd.underlying36
  have HR0_1 := Aside0.mk hr0_1
  have HC0_1 := Aside0.mk hc0_1
  have HFEW := Aside0.mk hfew
  have HRIGHT := Aside0.mk hright
  have A33 := Aside0.mk htwice
  have A34 := Aside0.mk hpart
  have A36 := Aside0.mk hnone
  have HEND := Aside0.mk hend
  clear hr0_1 hc0_1 hfew hright htwice hpart hnone hend
  have HB := Aside0.mk (Below.refl w.heap.size w)
  have hj0 : 0 ≤ Int.tmod a1 l0_1.length := Int.tmod_nonneg _ ha.1
  have hj1 : Int.tmod a1 l0_1.length < l0_1.length := Int.tmod_lt_of_pos _ (by omega)
  have hw1 : wrap64 a1 = a1 := wrap64_in (by omega) (by omega)
  have hji23 : wrap64 (1 + (Int.tmod (wrap64 (a1)) (l0_1.length : Int))) = ji23 := by
    rw [hw1, hji]; exact wrap64_in (by omega) (by omega)
  have hji23w : (IntKind.i64.wrap (1 + (Int.tmod (wrap64 (a1)) (l0_1.length : Int)))) = ji23 := (i64_w _).trans hji23
  obtain ⟨ji29, hji29'⟩ : ∃ j_ : Int, j_ = ji23 - 1 := ⟨_, rfl⟩
  have hji29 : wrap64 ((ji23) - 1) = ji29 := by rw [hji29']; exact wrap64_in (by omega) (by omega)
  have hji29w : (IntKind.i64.wrap ((ji23) - 1)) = ji29 := (i64_w _).trans hji29
  have c22 : ¬ (l0_1.length : Int) = 0 := by omega
  have c22b0 : ((l0_1.length : Int) == 0) = false := beq_eq_false_iff_ne.mpr c22
  have c22b1 : ((l0_1.length : Int) != 0) = true := bne_iff_ne.mpr c22
  have c22b2 : ¬ (l0_1 = []) := fun h_ => c22 (by rw [h_]; rfl)
  have c24 : 0 ≤ ji23 := by omega
  have c25 : ji23 ≤ (l0_1.length : Int) := by omega
  have c24b0 := eq_true c24
  have c24b1 : decide (0 ≤ (ji23)) = true := decide_eq_true c24
  have c25b0 := eq_true c25
  have c25b1 : decide ((ji23) ≤ (l0_1.length : Int)) = true := decide_eq_true c25
  have Ny131 := Aside0.mk hy131
  obtain ⟨y136, hy136⟩ : ∃ y_ : List (S36), y_ = (([] : List (S36))) := ⟨_, rfl⟩
  have Ny136 := Aside0.mk hy136
  have c26b0 := eq_true (of_decide_eq_true (by first | (with_reducible assumption) | assumption) : 0 ≤ (ji23))
  have c27b0 := eq_true (of_decide_eq_true (by first | (with_reducible assumption) | assumption) : (ji23) ≤ (l0_1.length : Int))
  obtain ⟨y139, hy139⟩ : ∃ y_ : List (S36), y_ = (l0_1.take ((ji23) : Int).toNat) := ⟨_, rfl⟩
  have Ny139 := Aside0.mk hy139
  have LMc28 : Aside0 (y136.length + y139.length < 1466015503701) := ⟨by rw [hy136, hy139, List.length_take, List.length_nil]; omega⟩
  obtain ⟨y143, hy143⟩ : ∃ y_ : List (S36), y_ = (y136 ++ y139) := ⟨_, rfl⟩
  have Ny143 := Aside0.mk hy143
  have c30 : 0 ≤ ji29 := by omega
  have c30b0 : decide (0 ≤ (ji29)) = true := decide_eq_true c30
  have c31 : ji29 < (l0_1.length : Int) := by omega
  have c31b0 : decide ((ji29) < (l0_1.length : Int)) = true := decide_eq_true c31
  obtain ⟨y147, hy147⟩ : ∃ y_ : List (S36), y_ = (([(⟨(rd_T36 l0_1 (ji29)).f0, (rd_T36 l0_1 (ji29)).f1, (rd_T36 l0_1 (ji29)).f2, (rd_T36 l0_1 (ji29)).f3, (rd_T36 l0_1 (ji29)).f4, (rd_T36 l0_1 (ji29)).f5, (rd_T36 l0_1 (ji29)).f6, (rd_T36 l0_1 (ji29)).f7, (rd_T36 l0_1 (ji29)).f8, (rd_T36 l0_1 (ji29)).f9, (rd_T36 l0_1 (ji29)).f10⟩ : S36)] : List (S36))) := ⟨_, rfl⟩
  have Ny147 := Aside0.mk hy147
  have LMc32 : Aside0 (y143.length + y147.length < 1466015503701) := ⟨by rw [hy143, hy147, hy136, hy139, List.nil_append, List.length_take]; simp only [List.length_cons, List.length_nil]; omega⟩
  have Ny150 : Aside0 (y150 = (y143 ++ y147)) := ⟨by rw [hy150, hy143, hy147, hy131, hy139, hy136, hji29']; rfl⟩
  have HT16 := Aside0.mk (show ji23 = 16 ∨ ji23 < 16 by omega)
  clear hji hji29' c22 c24 c25 hy131 hy136 hy139 hy143 hy147 hy150 c30 c31 hn16 hn1 ha hj0 hj1 hw1
  go_enter Tryd.func7, Tryd.ntmps7
  go_upto_region 1 with (first | ((with_reducible refine gate_dst (N := 2) rfl ?_); refine box_event ?hg (N := 2) ?hd (cs := #[.int .i64 a0_0, .slice A0_1 l0_1.length c0_1]) (t := 26) ?hr ?_; (case hd => rfl); (case hg => rfl); (case hr => first | (go_simp; done) | (go_simp; rfl)); intro gb126 hg w4 hbox hb; have n0_ := Aside0.mk (below_step (by repeat (first | (with_reducible first | exact HB.out | apply below_alloc | apply pw_below_drewN | apply below_drew1) | exact HB.out)) hb); have n1_ := Aside0.mk (hbox); have n2_ := Aside0.mk ((by rw [hg]; exact (below_size (by repeat (first | (with_reducible first | exact HB.out | apply below_alloc | apply pw_below_drewN | apply below_drew1) | exact HB.out))) : w.heap.size ≤ gb126)); have n3_ := Aside0.mk ((by rw [hg]; exact (below_size (by repeat (first | (with_reducible first | exact HB.out | apply below_alloc | apply pw_below_drewN | apply below_drew1) | exact HB.out))) : w.heap.size ≤ gb126)); clear HB; have HB := n0_; have BK126 := n1_; have GW126 := n2_; have GE126 := n3_; clear n0_ n1_ n2_ n3_; clear hb hbox hg))
  (try simp only [Act.put, List.setIfInBounds_toArray, List.set_cons_zero, List.set_cons_succ])
  go_wp2_with fail
  refine (awake29 _).mono ?_
  rintro e wa ⟨rfl, hba⟩
  have BKa := Aside0.mk (blk_below BK126.out hba)
  have HBa := Aside0.mk (below_step HB.out hba)
  have hca0 : wa.cell? ⟨gb126, 0, none⟩ = some (.int .i64 a0_0) := (blk_cell BKa.out 0).trans rfl
  have hca1 : wa.cell? ⟨gb126, 1, none⟩ = some (.slice A0_1 l0_1.length c0_1) := (blk_cell BKa.out 1).trans rfl
  clear hba
  go_wp2_with fail
  refine (HFEW.out _ _ _ (Kd.C_below HR0_1.out HBa.out) HC0_1.out).mono ?_
  rintro e wb ⟨rfl, hbb⟩
  have BKb := Aside0.mk (blk_below BKa.out hbb)
  have HBb := Aside0.mk (below_step HBa.out hbb)
  clear hbb hca0 hca1
  have hcb0 : wb.cell? ⟨gb126, 0, none⟩ = some (.int .i64 a0_0) := (blk_cell BKb.out 0).trans rfl
  have hcb1 : wb.cell? ⟨gb126, 1, none⟩ = some (.slice A0_1 l0_1.length c0_1) := (blk_cell BKb.out 1).trans rfl
  go_wp2_with fail
  refine (rightC a0_0 _ _ l0_1 true _ (Kd.C_below HR0_1.out HBb.out) HC0_1.out HRIGHT.out).mono ?_
  rintro e wc ⟨rfl, hbc⟩
  have BKc := Aside0.mk (blk_below BKb.out hbc)
  have HBc := Aside0.mk (below_step HBb.out hbc)
  clear hbc hcb0 hcb1 BK126 HB BKa BKb HBa HBb
  have BK126 := BKc
  have HB := HBc
  clear BKc HBc
  have hcz38_0 : wc.cell? ⟨gb126, 0, none⟩ = some (.int .i64 a0_0) := (blk_cell BK126.out 0).trans rfl
  have hcz38_1 : wc.cell? ⟨gb126, 1, none⟩ = some (.slice A0_1 l0_1.length c0_1) := (blk_cell BK126.out 1).trans rfl
  have hfz38_0 := blk_frozen BK126.out 0
  have hfz38_1 := blk_frozen BK126.out 1
  try go_wp2
  have n0_ := Aside0.mk (blk_drew BK126.out)
  have n1_ := Aside0.mk (below_drew1 HB.out)
  clear BK126
  clear HB
  have BK126 := n0_
  have HB := n1_
  clear n0_ n1_
  have q40 : ((ji23) : Int) ≤ ((l0_1.length : Int) : Int) := of_decide_eq_true (by first | (with_reducible assumption) | assumption)
  obtain ⟨i040, hi040, _, hsz40, _⟩ := info_parts info36
  have hroom40 : l0_1.length ≤ c0_1 := HC0_1.out
  have hC40 : Kd.C k36 _ A0_1 l0_1.length l0_1 := HR0_1.out
  have hcut40 := cut_to (P := Tryd.prog) 24 36 .i64 Tryd.underlying24 hi040 A0_1 l0_1.length c0_1 (ji23) (of_decide_eq_true (by first | (with_reducible assumption) | assumption)) q40 hroom40
  have hr40 := Kd.C_take (m := ((ji23) : Int).toNat) hC40 (by omega)
  have hy40 : y131.length = ((ji23) : Int).toNat := (by rw [Ny131.out, List.length_take]; omega)
  rw [← Ny131.out] at hr40
  rw [← hy40] at hcut40
  have HR134 := Aside0.mk hr40
  have HC134 := Aside0.mk (show y131.length ≤ c0_1 from by omega)
  clear hr40 hC40 hroom40 hi040 hsz40
  have KY40 := Aside0.mk hy40
  clear hy40
  replace q40 := eq_true q40
  refine start_ (n := 9) (S := fun w' => w'.cell? ⟨gb126, 0, none⟩ = some (.int .i64 a0_0) ∧ w'.cell? ⟨gb126, 1, none⟩ = some (.slice A0_1 l0_1.length c0_1)) (ds := []) #[false, false, false, false, false, false, false, false, false] (by kernel_rfl) rfl rfl ⟨(blk_cell BK126.out 0).trans rfl, (blk_cell BK126.out 1).trans rfl⟩ (fun hHeld => ?_); refine with_tabW parts7_tab4 parts7_bits4 (fun HT_ HW_ => ?_)
  generalize wc.drew = w39 at BK126 HB HR134 hHeld ⊢
  refine pure_ (i := 0) (N := some 30) (v := ?_) (a' := ?_) #[true, false, false, false, false, false, false, false, false] rfl rfl (any_of HT_.out (by kernel_rfl)) (fun _ _ _ h => h) (Or.inl ⟨by rfl, ?_⟩) ?_ ?_
  rotate_left
  · intro w'
    go_simp
    with_reducible rfl
  rotate_left
  · simp only [Act.put, List.setIfInBounds_toArray, List.set_cons_zero, List.set_cons_succ, i64_w, i32_w]
    rfl
  refine pure_ (i := 2) (N := some 32) (v := ?_) (a' := ?_) #[true, false, true, false, false, false, false, false, false] rfl rfl (any_of HT_.out (by kernel_rfl)) (fun _ _ _ h => h) (Or.inl ⟨by rfl, ?_⟩) ?_ ?_
  rotate_left
  · intro w'
    go_simp
    with_reducible rfl
  rotate_left
  · simp only [Act.put, List.setIfInBounds_toArray, List.set_cons_zero, List.set_cons_succ, i64_w, i32_w]
    rfl
  refine pure_ (i := 4) (N := some 34) (v := ?_) (a' := ?_) #[true, false, true, false, true, false, false, false, false] rfl rfl (any_of HT_.out (by kernel_rfl)) (fun _ _ _ h => h) (Or.inl ⟨by rfl, ?_⟩) ?_ ?_
  rotate_left
  · intro w'
    go_simp
    with_reducible rfl
  rotate_left
  · simp only [Act.put, List.setIfInBounds_toArray, List.set_cons_zero, List.set_cons_succ, i64_w, i32_w]
    rfl
  refine take_ (i := 1) (N := some 31) (v := ?_) (a' := ?_) #[true, true, true, false, true, false, false, false, false] rfl rfl (take_ofW HT_.out HW_.out (by kernel_rfl)) (fun _ _ _ h => h) (Or.inl ⟨by rfl, ?_⟩) hHeld ?_ ?_
  rotate_left
  · rintro w' ⟨s0, s1⟩
    go_simp
    with_reducible rfl
  rotate_left
  · simp only [Act.put, List.setIfInBounds_toArray, List.set_cons_zero, List.set_cons_succ, i64_w, i32_w]
    rfl
  refine take_ (i := 3) (N := some 33) (v := ?_) (a' := ?_) #[true, true, true, true, true, false, false, false, false] rfl rfl (take_ofW HT_.out HW_.out (by kernel_rfl)) (fun _ _ _ h => h) (Or.inl ⟨by rfl, ?_⟩) hHeld ?_ ?_
  rotate_left
  · rintro w' ⟨s0, s1⟩
    go_simp
    with_reducible rfl
  rotate_left
  · simp only [Act.put, List.setIfInBounds_toArray, List.set_cons_zero, List.set_cons_succ, i64_w, i32_w]
    rfl
  refine pure_ (i := 5) (N := some 35) (v := ?_) (a' := ?_) #[true, true, true, true, true, true, false, false, false] rfl rfl (any_of HT_.out (by kernel_rfl)) (fun _ _ _ h => h) (Or.inl ⟨by rfl, ?_⟩) ?_ ?_
  rotate_left
  · intro w'
    go_simp
    with_reducible rfl
  rotate_left
  · simp only [Act.put, List.setIfInBounds_toArray, List.set_cons_zero, List.set_cons_succ, i64_w, i32_w]
    rfl
  refine pure_ (i := 6) (N := some 36) (v := ?_) (a' := ?_) #[true, true, true, true, true, true, true, false, false] rfl rfl (any_of HT_.out (by kernel_rfl)) (fun _ _ _ h => h) (Or.inl ⟨by rfl, ?_⟩) ?_ ?_
  rotate_left
  · intro w'
    go_simp
    with_reducible rfl
  rotate_left
  · simp only [Act.put, List.setIfInBounds_toArray, List.set_cons_zero, List.set_cons_succ, i64_w, i32_w]
    rfl
  refine one_ (i := 7) (N := some 6) #[true, true, true, true, true, true, true, true, false] rfl rfl (one_of HT_.out (by kernel_rfl)) (by decide) (fun K hK => ?_)
  refine box_step ?hg (N := 6) ?hd (cs := #[.int .i64 0, .slice none 0 0]) (t := 26) ?hr ?_; (case hd => rfl); (case hg => rfl); (case hr => first | (go_simp; done) | (go_simp; rfl))
  intro gb135 hg w41 hbox hb
  have n0_ := Aside0.mk (blk_below (g := gb126) (o := .cells #[.int .i64 a0_0, .slice A0_1 l0_1.length c0_1] 26 (0, 0)) (by (with_reducible repeat (first | refine blk_drewN ?_ _ | refine blk_drew ?_ | refine blk_alloc ?_ _)); exact BK126.out) hb)
  have n1_ := Aside0.mk (below_step (by repeat (first | (with_reducible first | exact HB.out | apply below_alloc | apply pw_below_drewN | apply below_drew1 | refine below_set ?_ GE126.out) | exact HB.out)) hb)
  have n2_ := Aside0.mk (hbox)
  have n3_ := Aside0.mk ((by rw [hg]; exact (below_size (by repeat (first | (with_reducible first | exact HB.out | apply below_alloc | apply pw_below_drewN | apply below_drew1 | refine below_set ?_ GE126.out) | exact HB.out))) : w.heap.size ≤ gb135))
  have n4_ := Aside0.mk ((by rw [hg]; exact (below_size (by repeat (first | (with_reducible first | exact HB.out | apply below_alloc | apply pw_below_drewN | apply below_drew1 | refine below_set ?_ GE126.out) | exact HB.out))) : w.heap.size ≤ gb135))
  have n5_ := Aside0.mk ((by rw [hg]; exact Nat.ne_of_lt (blk_lt (g := gb126) (o := .cells #[.int .i64 a0_0, .slice A0_1 l0_1.length c0_1] 26 (0, 0)) (by (with_reducible repeat (first | refine blk_drewN ?_ _ | refine blk_drew ?_ | refine blk_alloc ?_ _)); exact BK126.out)) : gb126 ≠ gb135))
  have n6_ := Aside0.mk ((by rw [hg]; exact Nat.ne_of_gt (blk_lt (g := gb126) (o := .cells #[.int .i64 a0_0, .slice A0_1 l0_1.length c0_1] 26 (0, 0)) (by (with_reducible repeat (first | refine blk_drewN ?_ _ | refine blk_drew ?_ | refine blk_alloc ?_ _)); exact BK126.out)) : gb135 ≠ gb126))
  clear BK126
  clear HB
  have BK126 := n0_
  have HB := n1_
  have BK135 := n2_
  have GW135 := n3_
  have GE135 := n4_
  have NB126_135 := n5_
  have NB135_126 := n6_
  clear n0_ n1_ n2_ n3_ n4_ n5_ n6_
  clear hb hbox hg
  refine hK.out _ _ ⟨(blk_cell BK126.out 0).trans rfl, (blk_cell BK126.out 1).trans rfl⟩ (fun hHeld => ?_)
  clear hK K
  refine norm_ (a' := ?_) ?_ ?_
  rotate_left
  · show Act.put _ (some 6) _ = _
    simp only [Act.put, List.setIfInBounds_toArray, List.set_cons_zero, List.set_cons_succ, i64_w, i32_w]
    rfl
  refine one_ (i := 8) (N := none) #[true, true, true, true, true, true, true, true, true] rfl rfl (one_of HT_.out (by kernel_rfl)) (by decide) (fun K hK => ?_)
  have hs42 : w41.cell? ⟨gb135, 0, none⟩ = some (.int .i64 0) := (blk_cell BK135.out 0).trans rfl
  have hfs42 := blk_frozen BK135.out 0
  have hns42_0 := NB126_135.out
  have hms42_0 := NB135_126.out
  have hs43 : w41.cell? ⟨gb135, 1, none⟩ = some (.slice none 0 0) := (blk_cell BK135.out 1).trans rfl
  have hfs43 := blk_frozen BK135.out 1
  have hns43_0 := NB126_135.out
  have hms43_0 := NB135_126.out
  refine skip_ (w1 := ?_) (by rfl) rfl ?_ ?_
  rotate_left
  · go_simp
    rfl
  refine hK.out _ _ ⟨((cell_far (p := ⟨gb135, _, none⟩) NB126_135.out _).trans (((cell_far (p := ⟨gb135, _, none⟩) NB126_135.out _).trans (hHeld.1)))), ((cell_far (p := ⟨gb135, _, none⟩) NB126_135.out _).trans (((cell_far (p := ⟨gb135, _, none⟩) NB126_135.out _).trans (hHeld.2))))⟩ (fun hHeld => ?_)
  clear hK K
  refine done_ (done_of HT_.out (by kernel_rfl)) ?_
  try go_wp2
  have n0_ : Aside0 (((w41.setCell ⟨gb135, 0, none⟩ (.int .i64 a0_0)).setCell ⟨gb135, 1, none⟩ (.slice A0_1 y131.length c0_1)).heap[gb126]? = some (.cells #[.int .i64 a0_0, .slice A0_1 l0_1.length c0_1] 26 (0, 0))) := ⟨by (with_reducible repeat (first | refine blk_drewN ?_ _ | refine blk_drew ?_ | refine blk_alloc ?_ _)); refine blk_far ?_ NB126_135.out _; (with_reducible repeat (first | refine blk_drewN ?_ _ | refine blk_drew ?_ | refine blk_alloc ?_ _)); refine blk_far ?_ NB126_135.out _; (with_reducible repeat (first | refine blk_drewN ?_ _ | refine blk_drew ?_ | refine blk_alloc ?_ _)); exact BK126.out⟩
  have n1_ : Aside0 (((w41.setCell ⟨gb135, 0, none⟩ (.int .i64 a0_0)).setCell ⟨gb135, 1, none⟩ (.slice A0_1 y131.length c0_1)).heap[gb135]? = some (.cells #[.int .i64 a0_0, .slice A0_1 y131.length c0_1] 26 (0, 0))) := ⟨by (with_reducible repeat (first | refine blk_drewN ?_ _ | refine blk_drew ?_ | refine blk_alloc ?_ _)); refine blk_put (cs := #[.int .i64 a0_0, .slice none 0 0]) ?_ 1 _ rfl; (with_reducible repeat (first | refine blk_drewN ?_ _ | refine blk_drew ?_ | refine blk_alloc ?_ _)); refine blk_put (cs := #[.int .i64 0, .slice none 0 0]) ?_ 0 _ rfl; (with_reducible repeat (first | refine blk_drewN ?_ _ | refine blk_drew ?_ | refine blk_alloc ?_ _)); exact BK135.out⟩
  have n2_ : Aside0 (Below w.heap.size w ((w41.setCell ⟨gb135, 0, none⟩ (.int .i64 a0_0)).setCell ⟨gb135, 1, none⟩ (.slice A0_1 y131.length c0_1))) := ⟨by repeat (first | (with_reducible first | exact HB.out | apply below_alloc | apply pw_below_drewN | apply below_drew1 | refine below_set ?_ GE126.out | refine below_set ?_ GE135.out) | exact HB.out)⟩
  (try clear BK126)
  (try clear BK135)
  (try clear HB)
  generalize ((w41.setCell ⟨gb135, 0, none⟩ (.int .i64 a0_0)).setCell ⟨gb135, 1, none⟩ (.slice A0_1 y131.length c0_1)) = w44 at n0_ n1_ n2_ ⊢
  have BK126 := n0_
  have BK135 := n1_
  have HB := n2_
  clear n0_ n1_ n2_
  have n0_ := Aside0.mk (blk_drew BK126.out)
  have n1_ := Aside0.mk (blk_drew BK135.out)
  have n2_ := Aside0.mk (below_drew1 HB.out)
  clear BK126
  clear BK135
  clear HB
  have BK126 := n0_
  have BK135 := n1_
  have HB := n2_
  clear n0_ n1_ n2_
  clear hcut40
  have q46 : ((ji23) : Int) ≤ ((l0_1.length : Int) : Int) := of_decide_eq_true (by first | (with_reducible assumption) | assumption)
  obtain ⟨i046, hi046, _, hsz46, _⟩ := info_parts info36
  have hroom46 : l0_1.length ≤ c0_1 := HC0_1.out
  have hC46 : Kd.C k36 _ A0_1 l0_1.length l0_1 := HR0_1.out
  have hcut46 := cut_to (P := Tryd.prog) 24 36 .i64 Tryd.underlying24 hi046 A0_1 l0_1.length c0_1 (ji23) (of_decide_eq_true (by first | (with_reducible assumption) | assumption)) q46 hroom46
  have hr46 := Kd.C_take (m := ((ji23) : Int).toNat) hC46 (by omega)
  have hy46 : y139.length = ((ji23) : Int).toNat := (by rw [Ny139.out, List.length_take]; omega)
  rw [← Ny139.out] at hr46
  rw [← hy46] at hcut46
  have HR142 := Aside0.mk hr46
  have HC142 := Aside0.mk (show y139.length ≤ c0_1 from by omega)
  clear hr46 hC46 hroom46 hi046 hsz46
  have KY46 := Aside0.mk hy46
  clear hy46
  replace q46 := eq_true q46
  have p146 : 0 ≤ ((ji29) : Int) := of_decide_eq_true (by first | (with_reducible assumption) | assumption)
  have q146 : (ji29) < (l0_1.length : Int) := of_decide_eq_true (by first | (with_reducible assumption) | assumption)
  obtain ⟨ad146, e146, hx146_0, hx146_1, hx146_2, hx146_3, hx146_4, hx146_5, hx146_6, hx146_7, hx146_8, hx146_9, hx146_10⟩ := at_T36 HR0_1.out (ji29) p146 q146
  have hw146_10 := hx146_10
  have hw146_9 := hx146_9
  have hw146_8 := hx146_8
  have hw146_7 := hx146_7
  have hw146_6 := hx146_6
  have hw146_5 := hx146_5
  have hw146_4 := hx146_4
  have hw146_3 := hx146_3
  have hw146_2 := hx146_2
  have hw146_1 := hx146_1
  have hw146_0 := hx146_0
  cases e146
  replace hx146_0 := (HB.out.cell (World.block_lt_of_cell? w _ hx146_0)).trans hx146_0
  replace hx146_1 := (HB.out.cell (World.block_lt_of_cell? w _ hx146_1)).trans hx146_1
  replace hx146_2 := (HB.out.cell (World.block_lt_of_cell? w _ hx146_2)).trans hx146_2
  replace hx146_3 := (HB.out.cell (World.block_lt_of_cell? w _ hx146_3)).trans hx146_3
  replace hx146_4 := (HB.out.cell (World.block_lt_of_cell? w _ hx146_4)).trans hx146_4
  replace hx146_5 := (HB.out.cell (World.block_lt_of_cell? w _ hx146_5)).trans hx146_5
  replace hx146_6 := (HB.out.cell (World.block_lt_of_cell? w _ hx146_6)).trans hx146_6
  replace hx146_7 := (HB.out.cell (World.block_lt_of_cell? w _ hx146_7)).trans hx146_7
  replace hx146_8 := (HB.out.cell (World.block_lt_of_cell? w _ hx146_8)).trans hx146_8
  replace hx146_9 := (HB.out.cell (World.block_lt_of_cell? w _ hx146_9)).trans hx146_9
  replace hx146_10 := (HB.out.cell (World.block_lt_of_cell? w _ hx146_10)).trans hx146_10
  replace p146 := eq_true p146
  replace q146 := eq_true q146
  refine start_ (n := 19) (S := fun w' => w'.cell? ⟨gb126, 0, none⟩ = some (.int .i64 a0_0) ∧ w'.cell? ⟨gb126, 1, none⟩ = some (.slice (some ad146) l0_1.length c0_1) ∧ w'.cell? (ad146.add (((ji29)).toNat * 11)) = some (.string ((rd_T36 l0_1 (ji29)).f0)) ∧ w'.cell? ⟨(ad146.add (((ji29)).toNat * 11)).block, (ad146.add (((ji29)).toNat * 11)).off + 1, none⟩ = some (.int .i64 ((rd_T36 l0_1 (ji29)).f1)) ∧ w'.cell? ⟨(ad146.add (((ji29)).toNat * 11)).block, (ad146.add (((ji29)).toNat * 11)).off + 2, none⟩ = some (.int .i64 ((rd_T36 l0_1 (ji29)).f2)) ∧ w'.cell? ⟨(ad146.add (((ji29)).toNat * 11)).block, (ad146.add (((ji29)).toNat * 11)).off + 3, none⟩ = some (.int .i64 ((rd_T36 l0_1 (ji29)).f3)) ∧ w'.cell? ⟨(ad146.add (((ji29)).toNat * 11)).block, (ad146.add (((ji29)).toNat * 11)).off + 4, none⟩ = some (.int .i64 ((rd_T36 l0_1 (ji29)).f4)) ∧ w'.cell? ⟨(ad146.add (((ji29)).toNat * 11)).block, (ad146.add (((ji29)).toNat * 11)).off + 5, none⟩ = some (.int .i64 ((rd_T36 l0_1 (ji29)).f5)) ∧ w'.cell? ⟨(ad146.add (((ji29)).toNat * 11)).block, (ad146.add (((ji29)).toNat * 11)).off + 6, none⟩ = some (.int .i64 ((rd_T36 l0_1 (ji29)).f6)) ∧ w'.cell? ⟨(ad146.add (((ji29)).toNat * 11)).block, (ad146.add (((ji29)).toNat * 11)).off + 7, none⟩ = some (.int .i64 ((rd_T36 l0_1 (ji29)).f7)) ∧ w'.cell? ⟨(ad146.add (((ji29)).toNat * 11)).block, (ad146.add (((ji29)).toNat * 11)).off + 8, none⟩ = some (.int .i64 ((rd_T36 l0_1 (ji29)).f8)) ∧ w'.cell? ⟨(ad146.add (((ji29)).toNat * 11)).block, (ad146.add (((ji29)).toNat * 11)).off + 9, none⟩ = some (.int .i64 ((rd_T36 l0_1 (ji29)).f9)) ∧ w'.cell? ⟨(ad146.add (((ji29)).toNat * 11)).block, (ad146.add (((ji29)).toNat * 11)).off + 10, none⟩ = some (.int .i64 ((rd_T36 l0_1 (ji29)).f10))) (ds := []) #[false, false, false, false, false, false, false, false, false, false, false, false, false, false, false, false, false, false, false] (by kernel_rfl) rfl rfl ⟨(blk_cell BK126.out 0).trans rfl, (blk_cell BK126.out 1).trans rfl, ((HB.out.cell (World.block_lt_of_cell? w _ hw146_0)).trans hw146_0), ((HB.out.cell (World.block_lt_of_cell? w _ hw146_1)).trans hw146_1), ((HB.out.cell (World.block_lt_of_cell? w _ hw146_2)).trans hw146_2), ((HB.out.cell (World.block_lt_of_cell? w _ hw146_3)).trans hw146_3), ((HB.out.cell (World.block_lt_of_cell? w _ hw146_4)).trans hw146_4), ((HB.out.cell (World.block_lt_of_cell? w _ hw146_5)).trans hw146_5), ((HB.out.cell (World.block_lt_of_cell? w _ hw146_6)).trans hw146_6), ((HB.out.cell (World.block_lt_of_cell? w _ hw146_7)).trans hw146_7), ((HB.out.cell (World.block_lt_of_cell? w _ hw146_8)).trans hw146_8), ((HB.out.cell (World.block_lt_of_cell? w _ hw146_9)).trans hw146_9), ((HB.out.cell (World.block_lt_of_cell? w _ hw146_10)).trans hw146_10)⟩ (fun hHeld => ?_); refine with_tabW parts7_tab5 parts7_bits5 (fun HT_ HW_ => ?_)
  generalize w44.drew = w45 at BK126 BK135 HB HR142 hx146_0 hx146_1 hx146_10 hx146_2 hx146_3 hx146_4 hx146_5 hx146_6 hx146_7 hx146_8 hx146_9 hHeld ⊢
  refine pure_ (i := 0) (N := some 37) (v := ?_) (a' := ?_) #[true, false, false, false, false, false, false, false, false, false, false, false, false, false, false, false, false, false, false] rfl rfl (any_of HT_.out (by kernel_rfl)) (fun _ _ _ h => h) (Or.inl ⟨by rfl, ?_⟩) ?_ ?_
  rotate_left
  · intro w'
    go_simp
    with_reducible rfl
  rotate_left
  · simp only [Act.put, List.setIfInBounds_toArray, List.set_cons_zero, List.set_cons_succ, i64_w, i32_w]
    rfl
  refine pure_ (i := 3) (N := some 40) (v := ?_) (a' := ?_) #[true, false, false, true, false, false, false, false, false, false, false, false, false, false, false, false, false, false, false] rfl rfl (any_of HT_.out (by kernel_rfl)) (fun _ _ _ h => h) (Or.inl ⟨by rfl, ?_⟩) ?_ ?_
  rotate_left
  · intro w'
    go_simp
    with_reducible rfl
  rotate_left
  · simp only [Act.put, List.setIfInBounds_toArray, List.set_cons_zero, List.set_cons_succ, i64_w, i32_w]
    rfl
  refine pure_ (i := 5) (N := some 42) (v := ?_) (a' := ?_) #[true, false, false, true, false, true, false, false, false, false, false, false, false, false, false, false, false, false, false] rfl rfl (any_of HT_.out (by kernel_rfl)) (fun _ _ _ h => h) (Or.inl ⟨by rfl, ?_⟩) ?_ ?_
  rotate_left
  · intro w'
    go_simp
    with_reducible rfl
  rotate_left
  · simp only [Act.put, List.setIfInBounds_toArray, List.set_cons_zero, List.set_cons_succ, i64_w, i32_w]
    rfl
  refine pure_ (i := 8) (N := some 45) (v := ?_) (a' := ?_) #[true, false, false, true, false, true, false, false, true, false, false, false, false, false, false, false, false, false, false] rfl rfl (any_of HT_.out (by kernel_rfl)) (fun _ _ _ h => h) (Or.inl ⟨by rfl, ?_⟩) ?_ ?_
  rotate_left
  · intro w'
    go_simp
    with_reducible rfl
  rotate_left
  · simp only [Act.put, List.setIfInBounds_toArray, List.set_cons_zero, List.set_cons_succ, i64_w, i32_w]
    rfl
  refine pure_ (i := 10) (N := some 47) (v := ?_) (a' := ?_) #[true, false, false, true, false, true, false, false, true, false, true, false, false, false, false, false, false, false, false] rfl rfl (any_of HT_.out (by kernel_rfl)) (fun _ _ _ h => h) (Or.inl ⟨by rfl, ?_⟩) ?_ ?_
  rotate_left
  · intro w'
    go_simp
    with_reducible rfl
  rotate_left
  · simp only [Act.put, List.setIfInBounds_toArray, List.set_cons_zero, List.set_cons_succ, i64_w, i32_w]
    rfl
  refine pure_ (i := 11) (N := some 48) (v := ?_) (a' := ?_) #[true, false, false, true, false, true, false, false, true, false, true, true, false, false, false, false, false, false, false] rfl rfl (any_of HT_.out (by kernel_rfl)) (fun _ _ _ h => h) (Or.inl ⟨by rfl, ?_⟩) ?_ ?_
  rotate_left
  · intro w'
    go_simp
    with_reducible rfl
  rotate_left
  · simp only [Act.put, List.setIfInBounds_toArray, List.set_cons_zero, List.set_cons_succ, i64_w, i32_w]
    rfl
  refine take_ (i := 1) (N := some 38) (v := ?_) (a' := ?_) #[true, true, false, true, false, true, false, false, true, false, true, true, false, false, false, false, false, false, false] rfl rfl (take_ofW HT_.out HW_.out (by kernel_rfl)) (fun _ _ _ h => h) (Or.inl ⟨by rfl, ?_⟩) hHeld ?_ ?_
  rotate_left
  · rintro w' ⟨s0, s1, s2, s3, s4, s5, s6, s7, s8, s9, s10, s11, s12⟩
    go_simp
    with_reducible rfl
  rotate_left
  · simp only [Act.put, List.setIfInBounds_toArray, List.set_cons_zero, List.set_cons_succ, i64_w, i32_w]
    rfl
  refine take_ (i := 4) (N := some 41) (v := ?_) (a' := ?_) #[true, true, false, true, true, true, false, false, true, false, true, true, false, false, false, false, false, false, false] rfl rfl (take_ofW HT_.out HW_.out (by kernel_rfl)) (fun _ _ _ h => h) (Or.inl ⟨by rfl, ?_⟩) hHeld ?_ ?_
  rotate_left
  · rintro w' ⟨s0, s1, s2, s3, s4, s5, s6, s7, s8, s9, s10, s11, s12⟩
    go_simp
    with_reducible rfl
  rotate_left
  · simp only [Act.put, List.setIfInBounds_toArray, List.set_cons_zero, List.set_cons_succ, i64_w, i32_w]
    rfl
  refine pure_ (i := 6) (N := some 43) (v := ?_) (a' := ?_) #[true, true, false, true, true, true, true, false, true, false, true, true, false, false, false, false, false, false, false] rfl rfl (any_of HT_.out (by kernel_rfl)) (fun _ _ _ h => h) (Or.inl ⟨by rfl, ?_⟩) ?_ ?_
  rotate_left
  · intro w'
    go_simp
    with_reducible rfl
  rotate_left
  · simp only [Act.put, List.setIfInBounds_toArray, List.set_cons_zero, List.set_cons_succ, i64_w, i32_w]
    rfl
  refine take_ (i := 9) (N := some 46) (v := ?_) (a' := ?_) #[true, true, false, true, true, true, true, false, true, true, true, true, false, false, false, false, false, false, false] rfl rfl (take_ofW HT_.out HW_.out (by kernel_rfl)) (fun _ _ _ h => h) (Or.inl ⟨by rfl, ?_⟩) hHeld ?_ ?_
  rotate_left
  · rintro w' ⟨s0, s1, s2, s3, s4, s5, s6, s7, s8, s9, s10, s11, s12⟩
    go_simp
    with_reducible rfl
  rotate_left
  · simp only [Act.put, List.setIfInBounds_toArray, List.set_cons_zero, List.set_cons_succ, i64_w, i32_w]
    rfl
  refine pure_ (i := 12) (N := some 49) (v := ?_) (a' := ?_) #[true, true, false, true, true, true, true, false, true, true, true, true, true, false, false, false, false, false, false] rfl rfl (any_of HT_.out (by kernel_rfl)) (fun _ _ _ h => h) (Or.inl ⟨by rfl, ?_⟩) ?_ ?_
  rotate_left
  · intro w'
    go_simp
    with_reducible rfl
  rotate_left
  · simp only [Act.put, List.setIfInBounds_toArray, List.set_cons_zero, List.set_cons_succ, i64_w, i32_w]
    rfl
  refine take_ (i := 13) (N := some 50) (v := ?_) (a' := ?_) #[true, true, false, true, true, true, true, false, true, true, true, true, true, true, false, false, false, false, false] rfl rfl (take_ofW HT_.out HW_.out (by kernel_rfl)) (fun _ _ _ h => h) (Or.inl ⟨by rfl, ?_⟩) hHeld ?_ ?_
  rotate_left
  · rintro w' ⟨s0, s1, s2, s3, s4, s5, s6, s7, s8, s9, s10, s11, s12⟩
    go_simp
    with_reducible rfl
  rotate_left
  · simp only [Act.put, List.setIfInBounds_toArray, List.set_cons_zero, List.set_cons_succ, i64_w, i32_w]
    rfl
  refine join_ (σ := Value × Value × Value × Value × Nat) 1 #[true, true, true, true, true, true, true, true, true, true, true, true, true, true, true, true, true, true, false] (fun s_ => [(39, s_.1), (44, s_.2.1), (51, s_.2.2.1), (52, s_.2.2.2.1), (7, .pointer (some ⟨s_.2.2.2.2, 0, none⟩)), (53, .agg #[.int .i64 a0_0, s_.2.2.2.1])]) (fun s_ w' => (w'.cell? ⟨gb126, 0, none⟩ = some (.int .i64 a0_0) ∧ w'.cell? ⟨gb126, 1, none⟩ = some (.slice (some ad146) l0_1.length c0_1) ∧ w'.cell? (ad146.add (((ji29)).toNat * 11)) = some (.string ((rd_T36 l0_1 (ji29)).f0)) ∧ w'.cell? ⟨(ad146.add (((ji29)).toNat * 11)).block, (ad146.add (((ji29)).toNat * 11)).off + 1, none⟩ = some (.int .i64 ((rd_T36 l0_1 (ji29)).f1)) ∧ w'.cell? ⟨(ad146.add (((ji29)).toNat * 11)).block, (ad146.add (((ji29)).toNat * 11)).off + 2, none⟩ = some (.int .i64 ((rd_T36 l0_1 (ji29)).f2)) ∧ w'.cell? ⟨(ad146.add (((ji29)).toNat * 11)).block, (ad146.add (((ji29)).toNat * 11)).off + 3, none⟩ = some (.int .i64 ((rd_T36 l0_1 (ji29)).f3)) ∧ w'.cell? ⟨(ad146.add (((ji29)).toNat * 11)).block, (ad146.add (((ji29)).toNat * 11)).off + 4, none⟩ = some (.int .i64 ((rd_T36 l0_1 (ji29)).f4)) ∧ w'.cell? ⟨(ad146.add (((ji29)).toNat * 11)).block, (ad146.add (((ji29)).toNat * 11)).off + 5, none⟩ = some (.int .i64 ((rd_T36 l0_1 (ji29)).f5)) ∧ w'.cell? ⟨(ad146.add (((ji29)).toNat * 11)).block, (ad146.add (((ji29)).toNat * 11)).off + 6, none⟩ = some (.int .i64 ((rd_T36 l0_1 (ji29)).f6)) ∧ w'.cell? ⟨(ad146.add (((ji29)).toNat * 11)).block, (ad146.add (((ji29)).toNat * 11)).off + 7, none⟩ = some (.int .i64 ((rd_T36 l0_1 (ji29)).f7)) ∧ w'.cell? ⟨(ad146.add (((ji29)).toNat * 11)).block, (ad146.add (((ji29)).toNat * 11)).off + 8, none⟩ = some (.int .i64 ((rd_T36 l0_1 (ji29)).f8)) ∧ w'.cell? ⟨(ad146.add (((ji29)).toNat * 11)).block, (ad146.add (((ji29)).toNat * 11)).off + 9, none⟩ = some (.int .i64 ((rd_T36 l0_1 (ji29)).f9)) ∧ w'.cell? ⟨(ad146.add (((ji29)).toNat * 11)).block, (ad146.add (((ji29)).toNat * 11)).off + 10, none⟩ = some (.int .i64 ((rd_T36 l0_1 (ji29)).f10))) ∧ (Kd.R k36 36 w' w.heap.size (fun k_ => some k_ ≠ (s_.2.2.2.1 : Value).ownBlock) s_.2.2.1 y147) ∧ (Kd.R k36 36 w' w.heap.size (fun k_ => some k_ ≠ (s_.2.2.1 : Value).ownBlock) s_.2.2.2.1 y150) ∧ (w'.heap[gb126]? = some (.cells #[.int .i64 a0_0, .slice (some ad146) l0_1.length c0_1] 26 (0, 0))) ∧ (w'.heap[gb135]? = some (.cells #[.int .i64 a0_0, .slice (some ad146) y131.length c0_1] 26 (0, 0))) ∧ (w'.heap[s_.2.2.2.2]? = some (.cells #[.int .i64 0, .slice none 0 0] 26 (0, 0))) ∧ (w.heap.size ≤ s_.2.2.2.2) ∧ (w.heap.size ≤ s_.2.2.2.2) ∧ (gb126 ≠ s_.2.2.2.2) ∧ (s_.2.2.2.2 ≠ gb126) ∧ (gb135 ≠ s_.2.2.2.2) ∧ (s_.2.2.2.2 ≠ gb135) ∧ (Below w.heap.size w w')) ?_ ?_
  rotate_left
  · intro hJ2_7_14_15_17
    refine join_ (σ := Value × Value × Value × Value) 2 #[true, true, true, true, true, true, true, true, true, true, true, true, true, true, true, true, true, false, false] (fun s_ => [(39, s_.1), (44, s_.2.1), (51, s_.2.2.1), (52, s_.2.2.2), (53, .agg #[.int .i64 a0_0, s_.2.2.2])]) (fun s_ w' => (w'.cell? ⟨gb126, 0, none⟩ = some (.int .i64 a0_0) ∧ w'.cell? ⟨gb126, 1, none⟩ = some (.slice (some ad146) l0_1.length c0_1) ∧ w'.cell? (ad146.add (((ji29)).toNat * 11)) = some (.string ((rd_T36 l0_1 (ji29)).f0)) ∧ w'.cell? ⟨(ad146.add (((ji29)).toNat * 11)).block, (ad146.add (((ji29)).toNat * 11)).off + 1, none⟩ = some (.int .i64 ((rd_T36 l0_1 (ji29)).f1)) ∧ w'.cell? ⟨(ad146.add (((ji29)).toNat * 11)).block, (ad146.add (((ji29)).toNat * 11)).off + 2, none⟩ = some (.int .i64 ((rd_T36 l0_1 (ji29)).f2)) ∧ w'.cell? ⟨(ad146.add (((ji29)).toNat * 11)).block, (ad146.add (((ji29)).toNat * 11)).off + 3, none⟩ = some (.int .i64 ((rd_T36 l0_1 (ji29)).f3)) ∧ w'.cell? ⟨(ad146.add (((ji29)).toNat * 11)).block, (ad146.add (((ji29)).toNat * 11)).off + 4, none⟩ = some (.int .i64 ((rd_T36 l0_1 (ji29)).f4)) ∧ w'.cell? ⟨(ad146.add (((ji29)).toNat * 11)).block, (ad146.add (((ji29)).toNat * 11)).off + 5, none⟩ = some (.int .i64 ((rd_T36 l0_1 (ji29)).f5)) ∧ w'.cell? ⟨(ad146.add (((ji29)).toNat * 11)).block, (ad146.add (((ji29)).toNat * 11)).off + 6, none⟩ = some (.int .i64 ((rd_T36 l0_1 (ji29)).f6)) ∧ w'.cell? ⟨(ad146.add (((ji29)).toNat * 11)).block, (ad146.add (((ji29)).toNat * 11)).off + 7, none⟩ = some (.int .i64 ((rd_T36 l0_1 (ji29)).f7)) ∧ w'.cell? ⟨(ad146.add (((ji29)).toNat * 11)).block, (ad146.add (((ji29)).toNat * 11)).off + 8, none⟩ = some (.int .i64 ((rd_T36 l0_1 (ji29)).f8)) ∧ w'.cell? ⟨(ad146.add (((ji29)).toNat * 11)).block, (ad146.add (((ji29)).toNat * 11)).off + 9, none⟩ = some (.int .i64 ((rd_T36 l0_1 (ji29)).f9)) ∧ w'.cell? ⟨(ad146.add (((ji29)).toNat * 11)).block, (ad146.add (((ji29)).toNat * 11)).off + 10, none⟩ = some (.int .i64 ((rd_T36 l0_1 (ji29)).f10))) ∧ (Kd.R k36 36 w' w.heap.size (fun k_ => some k_ ≠ (s_.2.2.2 : Value).ownBlock) s_.2.2.1 y147) ∧ (Kd.R k36 36 w' w.heap.size (fun k_ => some k_ ≠ (s_.2.2.1 : Value).ownBlock) s_.2.2.2 y150) ∧ (w'.heap[gb126]? = some (.cells #[.int .i64 a0_0, .slice (some ad146) l0_1.length c0_1] 26 (0, 0))) ∧ (w'.heap[gb135]? = some (.cells #[.int .i64 a0_0, .slice (some ad146) y131.length c0_1] 26 (0, 0))) ∧ (Below w.heap.size w w')) ?_ ?_
    rotate_left
    · intro hJ2_7_14_15
      refine join_ (σ := Value × Value × Value × Nat) 3 #[true, true, true, true, true, true, true, true, true, true, true, true, true, true, true, false, false, true, false] (fun s_ => [(39, s_.1), (44, s_.2.1), (51, s_.2.2.1), (7, .pointer (some ⟨s_.2.2.2, 0, none⟩))]) (fun s_ w' => (w'.cell? ⟨gb126, 0, none⟩ = some (.int .i64 a0_0) ∧ w'.cell? ⟨gb126, 1, none⟩ = some (.slice (some ad146) l0_1.length c0_1) ∧ w'.cell? (ad146.add (((ji29)).toNat * 11)) = some (.string ((rd_T36 l0_1 (ji29)).f0)) ∧ w'.cell? ⟨(ad146.add (((ji29)).toNat * 11)).block, (ad146.add (((ji29)).toNat * 11)).off + 1, none⟩ = some (.int .i64 ((rd_T36 l0_1 (ji29)).f1)) ∧ w'.cell? ⟨(ad146.add (((ji29)).toNat * 11)).block, (ad146.add (((ji29)).toNat * 11)).off + 2, none⟩ = some (.int .i64 ((rd_T36 l0_1 (ji29)).f2)) ∧ w'.cell? ⟨(ad146.add (((ji29)).toNat * 11)).block, (ad146.add (((ji29)).toNat * 11)).off + 3, none⟩ = some (.int .i64 ((rd_T36 l0_1 (ji29)).f3)) ∧ w'.cell? ⟨(ad146.add (((ji29)).toNat * 11)).block, (ad146.add (((ji29)).toNat * 11)).off + 4, none⟩ = some (.int .i64 ((rd_T36 l0_1 (ji29)).f4)) ∧ w'.cell? ⟨(ad146.add (((ji29)).toNat * 11)).block, (ad146.add (((ji29)).toNat * 11)).off + 5, none⟩ = some (.int .i64 ((rd_T36 l0_1 (ji29)).f5)) ∧ w'.cell? ⟨(ad146.add (((ji29)).toNat * 11)).block, (ad146.add (((ji29)).toNat * 11)).off + 6, none⟩ = some (.int .i64 ((rd_T36 l0_1 (ji29)).f6)) ∧ w'.cell? ⟨(ad146.add (((ji29)).toNat * 11)).block, (ad146.add (((ji29)).toNat * 11)).off + 7, none⟩ = some (.int .i64 ((rd_T36 l0_1 (ji29)).f7)) ∧ w'.cell? ⟨(ad146.add (((ji29)).toNat * 11)).block, (ad146.add (((ji29)).toNat * 11)).off + 8, none⟩ = some (.int .i64 ((rd_T36 l0_1 (ji29)).f8)) ∧ w'.cell? ⟨(ad146.add (((ji29)).toNat * 11)).block, (ad146.add (((ji29)).toNat * 11)).off + 9, none⟩ = some (.int .i64 ((rd_T36 l0_1 (ji29)).f9)) ∧ w'.cell? ⟨(ad146.add (((ji29)).toNat * 11)).block, (ad146.add (((ji29)).toNat * 11)).off + 10, none⟩ = some (.int .i64 ((rd_T36 l0_1 (ji29)).f10))) ∧ (Kd.R k36 36 w' w.heap.size (fun k_ => some k_ ≠ (s_.2.2.1 : Value).ownBlock) s_.2.1 y143) ∧ (Kd.R k36 36 w' w.heap.size (fun k_ => some k_ ≠ (s_.2.1 : Value).ownBlock) s_.2.2.1 y147) ∧ (w'.heap[gb126]? = some (.cells #[.int .i64 a0_0, .slice (some ad146) l0_1.length c0_1] 26 (0, 0))) ∧ (w'.heap[gb135]? = some (.cells #[.int .i64 a0_0, .slice (some ad146) y131.length c0_1] 26 (0, 0))) ∧ (w'.heap[s_.2.2.2]? = some (.cells #[.int .i64 0, .slice none 0 0] 26 (0, 0))) ∧ (w.heap.size ≤ s_.2.2.2) ∧ (w.heap.size ≤ s_.2.2.2) ∧ (gb126 ≠ s_.2.2.2) ∧ (s_.2.2.2 ≠ gb126) ∧ (gb135 ≠ s_.2.2.2) ∧ (s_.2.2.2 ≠ gb135) ∧ (Below w.heap.size w w')) ?_ ?_
      rotate_left
      · intro hJ2_7_14_17
        refine join_ (σ := Value × Value × Value) 4 #[true, true, true, true, true, true, true, true, true, true, true, true, true, true, true, false, false, false, false] (fun s_ => [(39, s_.1), (44, s_.2.1), (51, s_.2.2)]) (fun s_ w' => (w'.cell? ⟨gb126, 0, none⟩ = some (.int .i64 a0_0) ∧ w'.cell? ⟨gb126, 1, none⟩ = some (.slice (some ad146) l0_1.length c0_1) ∧ w'.cell? (ad146.add (((ji29)).toNat * 11)) = some (.string ((rd_T36 l0_1 (ji29)).f0)) ∧ w'.cell? ⟨(ad146.add (((ji29)).toNat * 11)).block, (ad146.add (((ji29)).toNat * 11)).off + 1, none⟩ = some (.int .i64 ((rd_T36 l0_1 (ji29)).f1)) ∧ w'.cell? ⟨(ad146.add (((ji29)).toNat * 11)).block, (ad146.add (((ji29)).toNat * 11)).off + 2, none⟩ = some (.int .i64 ((rd_T36 l0_1 (ji29)).f2)) ∧ w'.cell? ⟨(ad146.add (((ji29)).toNat * 11)).block, (ad146.add (((ji29)).toNat * 11)).off + 3, none⟩ = some (.int .i64 ((rd_T36 l0_1 (ji29)).f3)) ∧ w'.cell? ⟨(ad146.add (((ji29)).toNat * 11)).block, (ad146.add (((ji29)).toNat * 11)).off + 4, none⟩ = some (.int .i64 ((rd_T36 l0_1 (ji29)).f4)) ∧ w'.cell? ⟨(ad146.add (((ji29)).toNat * 11)).block, (ad146.add (((ji29)).toNat * 11)).off + 5, none⟩ = some (.int .i64 ((rd_T36 l0_1 (ji29)).f5)) ∧ w'.cell? ⟨(ad146.add (((ji29)).toNat * 11)).block, (ad146.add (((ji29)).toNat * 11)).off + 6, none⟩ = some (.int .i64 ((rd_T36 l0_1 (ji29)).f6)) ∧ w'.cell? ⟨(ad146.add (((ji29)).toNat * 11)).block, (ad146.add (((ji29)).toNat * 11)).off + 7, none⟩ = some (.int .i64 ((rd_T36 l0_1 (ji29)).f7)) ∧ w'.cell? ⟨(ad146.add (((ji29)).toNat * 11)).block, (ad146.add (((ji29)).toNat * 11)).off + 8, none⟩ = some (.int .i64 ((rd_T36 l0_1 (ji29)).f8)) ∧ w'.cell? ⟨(ad146.add (((ji29)).toNat * 11)).block, (ad146.add (((ji29)).toNat * 11)).off + 9, none⟩ = some (.int .i64 ((rd_T36 l0_1 (ji29)).f9)) ∧ w'.cell? ⟨(ad146.add (((ji29)).toNat * 11)).block, (ad146.add (((ji29)).toNat * 11)).off + 10, none⟩ = some (.int .i64 ((rd_T36 l0_1 (ji29)).f10))) ∧ (Kd.R k36 36 w' w.heap.size (fun k_ => some k_ ≠ (s_.2.2 : Value).ownBlock) s_.2.1 y143) ∧ (Kd.R k36 36 w' w.heap.size (fun k_ => some k_ ≠ (s_.2.1 : Value).ownBlock) s_.2.2 y147) ∧ (w'.heap[gb126]? = some (.cells #[.int .i64 a0_0, .slice (some ad146) l0_1.length c0_1] 26 (0, 0))) ∧ (w'.heap[gb135]? = some (.cells #[.int .i64 a0_0, .slice (some ad146) y131.length c0_1] 26 (0, 0))) ∧ (Below w.heap.size w w')) ?_ ?_
        rotate_left
        · intro hJ2_7_14
          refine join_ (σ := Value × Value × Nat) 4 #[true, true, true, true, true, true, true, true, true, true, true, true, true, true, false, false, false, true, false] (fun s_ => [(39, s_.1), (44, s_.2.1), (7, .pointer (some ⟨s_.2.2, 0, none⟩))]) (fun s_ w' => (w'.cell? ⟨gb126, 0, none⟩ = some (.int .i64 a0_0) ∧ w'.cell? ⟨gb126, 1, none⟩ = some (.slice (some ad146) l0_1.length c0_1) ∧ w'.cell? (ad146.add (((ji29)).toNat * 11)) = some (.string ((rd_T36 l0_1 (ji29)).f0)) ∧ w'.cell? ⟨(ad146.add (((ji29)).toNat * 11)).block, (ad146.add (((ji29)).toNat * 11)).off + 1, none⟩ = some (.int .i64 ((rd_T36 l0_1 (ji29)).f1)) ∧ w'.cell? ⟨(ad146.add (((ji29)).toNat * 11)).block, (ad146.add (((ji29)).toNat * 11)).off + 2, none⟩ = some (.int .i64 ((rd_T36 l0_1 (ji29)).f2)) ∧ w'.cell? ⟨(ad146.add (((ji29)).toNat * 11)).block, (ad146.add (((ji29)).toNat * 11)).off + 3, none⟩ = some (.int .i64 ((rd_T36 l0_1 (ji29)).f3)) ∧ w'.cell? ⟨(ad146.add (((ji29)).toNat * 11)).block, (ad146.add (((ji29)).toNat * 11)).off + 4, none⟩ = some (.int .i64 ((rd_T36 l0_1 (ji29)).f4)) ∧ w'.cell? ⟨(ad146.add (((ji29)).toNat * 11)).block, (ad146.add (((ji29)).toNat * 11)).off + 5, none⟩ = some (.int .i64 ((rd_T36 l0_1 (ji29)).f5)) ∧ w'.cell? ⟨(ad146.add (((ji29)).toNat * 11)).block, (ad146.add (((ji29)).toNat * 11)).off + 6, none⟩ = some (.int .i64 ((rd_T36 l0_1 (ji29)).f6)) ∧ w'.cell? ⟨(ad146.add (((ji29)).toNat * 11)).block, (ad146.add (((ji29)).toNat * 11)).off + 7, none⟩ = some (.int .i64 ((rd_T36 l0_1 (ji29)).f7)) ∧ w'.cell? ⟨(ad146.add (((ji29)).toNat * 11)).block, (ad146.add (((ji29)).toNat * 11)).off + 8, none⟩ = some (.int .i64 ((rd_T36 l0_1 (ji29)).f8)) ∧ w'.cell? ⟨(ad146.add (((ji29)).toNat * 11)).block, (ad146.add (((ji29)).toNat * 11)).off + 9, none⟩ = some (.int .i64 ((rd_T36 l0_1 (ji29)).f9)) ∧ w'.cell? ⟨(ad146.add (((ji29)).toNat * 11)).block, (ad146.add (((ji29)).toNat * 11)).off + 10, none⟩ = some (.int .i64 ((rd_T36 l0_1 (ji29)).f10))) ∧ (Kd.R k36 36 w' w.heap.size (fun _ => True) s_.2.1 y143) ∧ (w'.heap[gb126]? = some (.cells #[.int .i64 a0_0, .slice (some ad146) l0_1.length c0_1] 26 (0, 0))) ∧ (w'.heap[gb135]? = some (.cells #[.int .i64 a0_0, .slice (some ad146) y131.length c0_1] 26 (0, 0))) ∧ (w'.heap[s_.2.2]? = some (.cells #[.int .i64 0, .slice none 0 0] 26 (0, 0))) ∧ (w.heap.size ≤ s_.2.2) ∧ (w.heap.size ≤ s_.2.2) ∧ (gb126 ≠ s_.2.2) ∧ (s_.2.2 ≠ gb126) ∧ (gb135 ≠ s_.2.2) ∧ (s_.2.2 ≠ gb135) ∧ (Below w.heap.size w w')) ?_ ?_
          rotate_left
          · intro hJ2_7_17
            refine join_ (σ := Value × Value × Nat) 4 #[true, true, true, true, true, true, true, false, true, true, true, true, true, true, true, false, false, true, false] (fun s_ => [(39, s_.1), (51, s_.2.1), (7, .pointer (some ⟨s_.2.2, 0, none⟩))]) (fun s_ w' => (w'.cell? ⟨gb126, 0, none⟩ = some (.int .i64 a0_0) ∧ w'.cell? ⟨gb126, 1, none⟩ = some (.slice (some ad146) l0_1.length c0_1) ∧ w'.cell? (ad146.add (((ji29)).toNat * 11)) = some (.string ((rd_T36 l0_1 (ji29)).f0)) ∧ w'.cell? ⟨(ad146.add (((ji29)).toNat * 11)).block, (ad146.add (((ji29)).toNat * 11)).off + 1, none⟩ = some (.int .i64 ((rd_T36 l0_1 (ji29)).f1)) ∧ w'.cell? ⟨(ad146.add (((ji29)).toNat * 11)).block, (ad146.add (((ji29)).toNat * 11)).off + 2, none⟩ = some (.int .i64 ((rd_T36 l0_1 (ji29)).f2)) ∧ w'.cell? ⟨(ad146.add (((ji29)).toNat * 11)).block, (ad146.add (((ji29)).toNat * 11)).off + 3, none⟩ = some (.int .i64 ((rd_T36 l0_1 (ji29)).f3)) ∧ w'.cell? ⟨(ad146.add (((ji29)).toNat * 11)).block, (ad146.add (((ji29)).toNat * 11)).off + 4, none⟩ = some (.int .i64 ((rd_T36 l0_1 (ji29)).f4)) ∧ w'.cell? ⟨(ad146.add (((ji29)).toNat * 11)).block, (ad146.add (((ji29)).toNat * 11)).off + 5, none⟩ = some (.int .i64 ((rd_T36 l0_1 (ji29)).f5)) ∧ w'.cell? ⟨(ad146.add (((ji29)).toNat * 11)).block, (ad146.add (((ji29)).toNat * 11)).off + 6, none⟩ = some (.int .i64 ((rd_T36 l0_1 (ji29)).f6)) ∧ w'.cell? ⟨(ad146.add (((ji29)).toNat * 11)).block, (ad146.add (((ji29)).toNat * 11)).off + 7, none⟩ = some (.int .i64 ((rd_T36 l0_1 (ji29)).f7)) ∧ w'.cell? ⟨(ad146.add (((ji29)).toNat * 11)).block, (ad146.add (((ji29)).toNat * 11)).off + 8, none⟩ = some (.int .i64 ((rd_T36 l0_1 (ji29)).f8)) ∧ w'.cell? ⟨(ad146.add (((ji29)).toNat * 11)).block, (ad146.add (((ji29)).toNat * 11)).off + 9, none⟩ = some (.int .i64 ((rd_T36 l0_1 (ji29)).f9)) ∧ w'.cell? ⟨(ad146.add (((ji29)).toNat * 11)).block, (ad146.add (((ji29)).toNat * 11)).off + 10, none⟩ = some (.int .i64 ((rd_T36 l0_1 (ji29)).f10))) ∧ (Kd.R k36 36 w' w.heap.size (fun k_ => some k_ ≠ (s_.2.1 : Value).ownBlock) s_.1 y136) ∧ (Kd.R k36 36 w' w.heap.size (fun k_ => some k_ ≠ (s_.1 : Value).ownBlock) s_.2.1 y147) ∧ (w'.heap[gb126]? = some (.cells #[.int .i64 a0_0, .slice (some ad146) l0_1.length c0_1] 26 (0, 0))) ∧ (w'.heap[gb135]? = some (.cells #[.int .i64 a0_0, .slice (some ad146) y131.length c0_1] 26 (0, 0))) ∧ (w'.heap[s_.2.2]? = some (.cells #[.int .i64 0, .slice none 0 0] 26 (0, 0))) ∧ (w.heap.size ≤ s_.2.2) ∧ (w.heap.size ≤ s_.2.2) ∧ (gb126 ≠ s_.2.2) ∧ (s_.2.2 ≠ gb126) ∧ (gb135 ≠ s_.2.2) ∧ (s_.2.2 ≠ gb135) ∧ (Below w.heap.size w w')) ?_ ?_
            rotate_left
            · intro hJ2_14_17
              refine join_ (σ := Value × Value) 5 #[true, true, true, true, true, true, true, true, true, true, true, true, true, true, false, false, false, false, false] (fun s_ => [(39, s_.1), (44, s_.2)]) (fun s_ w' => (w'.cell? ⟨gb126, 0, none⟩ = some (.int .i64 a0_0) ∧ w'.cell? ⟨gb126, 1, none⟩ = some (.slice (some ad146) l0_1.length c0_1) ∧ w'.cell? (ad146.add (((ji29)).toNat * 11)) = some (.string ((rd_T36 l0_1 (ji29)).f0)) ∧ w'.cell? ⟨(ad146.add (((ji29)).toNat * 11)).block, (ad146.add (((ji29)).toNat * 11)).off + 1, none⟩ = some (.int .i64 ((rd_T36 l0_1 (ji29)).f1)) ∧ w'.cell? ⟨(ad146.add (((ji29)).toNat * 11)).block, (ad146.add (((ji29)).toNat * 11)).off + 2, none⟩ = some (.int .i64 ((rd_T36 l0_1 (ji29)).f2)) ∧ w'.cell? ⟨(ad146.add (((ji29)).toNat * 11)).block, (ad146.add (((ji29)).toNat * 11)).off + 3, none⟩ = some (.int .i64 ((rd_T36 l0_1 (ji29)).f3)) ∧ w'.cell? ⟨(ad146.add (((ji29)).toNat * 11)).block, (ad146.add (((ji29)).toNat * 11)).off + 4, none⟩ = some (.int .i64 ((rd_T36 l0_1 (ji29)).f4)) ∧ w'.cell? ⟨(ad146.add (((ji29)).toNat * 11)).block, (ad146.add (((ji29)).toNat * 11)).off + 5, none⟩ = some (.int .i64 ((rd_T36 l0_1 (ji29)).f5)) ∧ w'.cell? ⟨(ad146.add (((ji29)).toNat * 11)).block, (ad146.add (((ji29)).toNat * 11)).off + 6, none⟩ = some (.int .i64 ((rd_T36 l0_1 (ji29)).f6)) ∧ w'.cell? ⟨(ad146.add (((ji29)).toNat * 11)).block, (ad146.add (((ji29)).toNat * 11)).off + 7, none⟩ = some (.int .i64 ((rd_T36 l0_1 (ji29)).f7)) ∧ w'.cell? ⟨(ad146.add (((ji29)).toNat * 11)).block, (ad146.add (((ji29)).toNat * 11)).off + 8, none⟩ = some (.int .i64 ((rd_T36 l0_1 (ji29)).f8)) ∧ w'.cell? ⟨(ad146.add (((ji29)).toNat * 11)).block, (ad146.add (((ji29)).toNat * 11)).off + 9, none⟩ = some (.int .i64 ((rd_T36 l0_1 (ji29)).f9)) ∧ w'.cell? ⟨(ad146.add (((ji29)).toNat * 11)).block, (ad146.add (((ji29)).toNat * 11)).off + 10, none⟩ = some (.int .i64 ((rd_T36 l0_1 (ji29)).f10))) ∧ (Kd.R k36 36 w' w.heap.size (fun _ => True) s_.2 y143) ∧ (w'.heap[gb126]? = some (.cells #[.int .i64 a0_0, .slice (some ad146) l0_1.length c0_1] 26 (0, 0))) ∧ (w'.heap[gb135]? = some (.cells #[.int .i64 a0_0, .slice (some ad146) y131.length c0_1] 26 (0, 0))) ∧ (Below w.heap.size w w')) ?_ ?_
              rotate_left
              · intro hJ2_7
                refine join_ (σ := Value × Value) 5 #[true, true, true, true, true, true, true, false, true, true, true, true, true, true, true, false, false, false, false] (fun s_ => [(39, s_.1), (51, s_.2)]) (fun s_ w' => (w'.cell? ⟨gb126, 0, none⟩ = some (.int .i64 a0_0) ∧ w'.cell? ⟨gb126, 1, none⟩ = some (.slice (some ad146) l0_1.length c0_1) ∧ w'.cell? (ad146.add (((ji29)).toNat * 11)) = some (.string ((rd_T36 l0_1 (ji29)).f0)) ∧ w'.cell? ⟨(ad146.add (((ji29)).toNat * 11)).block, (ad146.add (((ji29)).toNat * 11)).off + 1, none⟩ = some (.int .i64 ((rd_T36 l0_1 (ji29)).f1)) ∧ w'.cell? ⟨(ad146.add (((ji29)).toNat * 11)).block, (ad146.add (((ji29)).toNat * 11)).off + 2, none⟩ = some (.int .i64 ((rd_T36 l0_1 (ji29)).f2)) ∧ w'.cell? ⟨(ad146.add (((ji29)).toNat * 11)).block, (ad146.add (((ji29)).toNat * 11)).off + 3, none⟩ = some (.int .i64 ((rd_T36 l0_1 (ji29)).f3)) ∧ w'.cell? ⟨(ad146.add (((ji29)).toNat * 11)).block, (ad146.add (((ji29)).toNat * 11)).off + 4, none⟩ = some (.int .i64 ((rd_T36 l0_1 (ji29)).f4)) ∧ w'.cell? ⟨(ad146.add (((ji29)).toNat * 11)).block, (ad146.add (((ji29)).toNat * 11)).off + 5, none⟩ = some (.int .i64 ((rd_T36 l0_1 (ji29)).f5)) ∧ w'.cell? ⟨(ad146.add (((ji29)).toNat * 11)).block, (ad146.add (((ji29)).toNat * 11)).off + 6, none⟩ = some (.int .i64 ((rd_T36 l0_1 (ji29)).f6)) ∧ w'.cell? ⟨(ad146.add (((ji29)).toNat * 11)).block, (ad146.add (((ji29)).toNat * 11)).off + 7, none⟩ = some (.int .i64 ((rd_T36 l0_1 (ji29)).f7)) ∧ w'.cell? ⟨(ad146.add (((ji29)).toNat * 11)).block, (ad146.add (((ji29)).toNat * 11)).off + 8, none⟩ = some (.int .i64 ((rd_T36 l0_1 (ji29)).f8)) ∧ w'.cell? ⟨(ad146.add (((ji29)).toNat * 11)).block, (ad146.add (((ji29)).toNat * 11)).off + 9, none⟩ = some (.int .i64 ((rd_T36 l0_1 (ji29)).f9)) ∧ w'.cell? ⟨(ad146.add (((ji29)).toNat * 11)).block, (ad146.add (((ji29)).toNat * 11)).off + 10, none⟩ = some (.int .i64 ((rd_T36 l0_1 (ji29)).f10))) ∧ (Kd.R k36 36 w' w.heap.size (fun k_ => some k_ ≠ (s_.2 : Value).ownBlock) s_.1 y136) ∧ (Kd.R k36 36 w' w.heap.size (fun k_ => some k_ ≠ (s_.1 : Value).ownBlock) s_.2 y147) ∧ (w'.heap[gb126]? = some (.cells #[.int .i64 a0_0, .slice (some ad146) l0_1.length c0_1] 26 (0, 0))) ∧ (w'.heap[gb135]? = some (.cells #[.int .i64 a0_0, .slice (some ad146) y131.length c0_1] 26 (0, 0))) ∧ (Below w.heap.size w w')) ?_ ?_
                rotate_left
                · intro hJ2_14
                  refine join_ (σ := Value × Nat) 5 #[true, true, true, true, true, true, true, false, true, true, true, true, true, true, false, false, false, true, false] (fun s_ => [(39, s_.1), (7, .pointer (some ⟨s_.2, 0, none⟩))]) (fun s_ w' => (w'.cell? ⟨gb126, 0, none⟩ = some (.int .i64 a0_0) ∧ w'.cell? ⟨gb126, 1, none⟩ = some (.slice (some ad146) l0_1.length c0_1) ∧ w'.cell? (ad146.add (((ji29)).toNat * 11)) = some (.string ((rd_T36 l0_1 (ji29)).f0)) ∧ w'.cell? ⟨(ad146.add (((ji29)).toNat * 11)).block, (ad146.add (((ji29)).toNat * 11)).off + 1, none⟩ = some (.int .i64 ((rd_T36 l0_1 (ji29)).f1)) ∧ w'.cell? ⟨(ad146.add (((ji29)).toNat * 11)).block, (ad146.add (((ji29)).toNat * 11)).off + 2, none⟩ = some (.int .i64 ((rd_T36 l0_1 (ji29)).f2)) ∧ w'.cell? ⟨(ad146.add (((ji29)).toNat * 11)).block, (ad146.add (((ji29)).toNat * 11)).off + 3, none⟩ = some (.int .i64 ((rd_T36 l0_1 (ji29)).f3)) ∧ w'.cell? ⟨(ad146.add (((ji29)).toNat * 11)).block, (ad146.add (((ji29)).toNat * 11)).off + 4, none⟩ = some (.int .i64 ((rd_T36 l0_1 (ji29)).f4)) ∧ w'.cell? ⟨(ad146.add (((ji29)).toNat * 11)).block, (ad146.add (((ji29)).toNat * 11)).off + 5, none⟩ = some (.int .i64 ((rd_T36 l0_1 (ji29)).f5)) ∧ w'.cell? ⟨(ad146.add (((ji29)).toNat * 11)).block, (ad146.add (((ji29)).toNat * 11)).off + 6, none⟩ = some (.int .i64 ((rd_T36 l0_1 (ji29)).f6)) ∧ w'.cell? ⟨(ad146.add (((ji29)).toNat * 11)).block, (ad146.add (((ji29)).toNat * 11)).off + 7, none⟩ = some (.int .i64 ((rd_T36 l0_1 (ji29)).f7)) ∧ w'.cell? ⟨(ad146.add (((ji29)).toNat * 11)).block, (ad146.add (((ji29)).toNat * 11)).off + 8, none⟩ = some (.int .i64 ((rd_T36 l0_1 (ji29)).f8)) ∧ w'.cell? ⟨(ad146.add (((ji29)).toNat * 11)).block, (ad146.add (((ji29)).toNat * 11)).off + 9, none⟩ = some (.int .i64 ((rd_T36 l0_1 (ji29)).f9)) ∧ w'.cell? ⟨(ad146.add (((ji29)).toNat * 11)).block, (ad146.add (((ji29)).toNat * 11)).off + 10, none⟩ = some (.int .i64 ((rd_T36 l0_1 (ji29)).f10))) ∧ (Kd.R k36 36 w' w.heap.size (fun _ => True) s_.1 y136) ∧ (w'.heap[gb126]? = some (.cells #[.int .i64 a0_0, .slice (some ad146) l0_1.length c0_1] 26 (0, 0))) ∧ (w'.heap[gb135]? = some (.cells #[.int .i64 a0_0, .slice (some ad146) y131.length c0_1] 26 (0, 0))) ∧ (w'.heap[s_.2]? = some (.cells #[.int .i64 0, .slice none 0 0] 26 (0, 0))) ∧ (w.heap.size ≤ s_.2) ∧ (w.heap.size ≤ s_.2) ∧ (gb126 ≠ s_.2) ∧ (s_.2 ≠ gb126) ∧ (gb135 ≠ s_.2) ∧ (s_.2 ≠ gb135) ∧ (Below w.heap.size w w')) ?_ ?_
                  rotate_left
                  · intro hJ2_17
                    refine join_ (σ := Value × Nat) 5 #[true, true, false, true, true, true, true, false, true, true, true, true, true, true, true, false, false, true, false] (fun s_ => [(51, s_.1), (7, .pointer (some ⟨s_.2, 0, none⟩))]) (fun s_ w' => (w'.cell? ⟨gb126, 0, none⟩ = some (.int .i64 a0_0) ∧ w'.cell? ⟨gb126, 1, none⟩ = some (.slice (some ad146) l0_1.length c0_1) ∧ w'.cell? (ad146.add (((ji29)).toNat * 11)) = some (.string ((rd_T36 l0_1 (ji29)).f0)) ∧ w'.cell? ⟨(ad146.add (((ji29)).toNat * 11)).block, (ad146.add (((ji29)).toNat * 11)).off + 1, none⟩ = some (.int .i64 ((rd_T36 l0_1 (ji29)).f1)) ∧ w'.cell? ⟨(ad146.add (((ji29)).toNat * 11)).block, (ad146.add (((ji29)).toNat * 11)).off + 2, none⟩ = some (.int .i64 ((rd_T36 l0_1 (ji29)).f2)) ∧ w'.cell? ⟨(ad146.add (((ji29)).toNat * 11)).block, (ad146.add (((ji29)).toNat * 11)).off + 3, none⟩ = some (.int .i64 ((rd_T36 l0_1 (ji29)).f3)) ∧ w'.cell? ⟨(ad146.add (((ji29)).toNat * 11)).block, (ad146.add (((ji29)).toNat * 11)).off + 4, none⟩ = some (.int .i64 ((rd_T36 l0_1 (ji29)).f4)) ∧ w'.cell? ⟨(ad146.add (((ji29)).toNat * 11)).block, (ad146.add (((ji29)).toNat * 11)).off + 5, none⟩ = some (.int .i64 ((rd_T36 l0_1 (ji29)).f5)) ∧ w'.cell? ⟨(ad146.add (((ji29)).toNat * 11)).block, (ad146.add (((ji29)).toNat * 11)).off + 6, none⟩ = some (.int .i64 ((rd_T36 l0_1 (ji29)).f6)) ∧ w'.cell? ⟨(ad146.add (((ji29)).toNat * 11)).block, (ad146.add (((ji29)).toNat * 11)).off + 7, none⟩ = some (.int .i64 ((rd_T36 l0_1 (ji29)).f7)) ∧ w'.cell? ⟨(ad146.add (((ji29)).toNat * 11)).block, (ad146.add (((ji29)).toNat * 11)).off + 8, none⟩ = some (.int .i64 ((rd_T36 l0_1 (ji29)).f8)) ∧ w'.cell? ⟨(ad146.add (((ji29)).toNat * 11)).block, (ad146.add (((ji29)).toNat * 11)).off + 9, none⟩ = some (.int .i64 ((rd_T36 l0_1 (ji29)).f9)) ∧ w'.cell? ⟨(ad146.add (((ji29)).toNat * 11)).block, (ad146.add (((ji29)).toNat * 11)).off + 10, none⟩ = some (.int .i64 ((rd_T36 l0_1 (ji29)).f10))) ∧ (Kd.R k36 36 w' w.heap.size (fun _ => True) s_.1 y147) ∧ (w'.heap[gb126]? = some (.cells #[.int .i64 a0_0, .slice (some ad146) l0_1.length c0_1] 26 (0, 0))) ∧ (w'.heap[gb135]? = some (.cells #[.int .i64 a0_0, .slice (some ad146) y131.length c0_1] 26 (0, 0))) ∧ (w'.heap[s_.2]? = some (.cells #[.int .i64 0, .slice none 0 0] 26 (0, 0))) ∧ (w.heap.size ≤ s_.2) ∧ (w.heap.size ≤ s_.2) ∧ (gb126 ≠ s_.2) ∧ (s_.2 ≠ gb126) ∧ (gb135 ≠ s_.2) ∧ (s_.2 ≠ gb135) ∧ (Below w.heap.size w w')) ?_ ?_
                    rotate_left
                    · intro hJ14_17
                      refine join_ (σ := Value) 6 #[true, true, true, true, true, true, true, false, true, true, true, true, true, true, false, false, false, false, false] (fun s_ => [(39, s_)]) (fun s_ w' => (w'.cell? ⟨gb126, 0, none⟩ = some (.int .i64 a0_0) ∧ w'.cell? ⟨gb126, 1, none⟩ = some (.slice (some ad146) l0_1.length c0_1) ∧ w'.cell? (ad146.add (((ji29)).toNat * 11)) = some (.string ((rd_T36 l0_1 (ji29)).f0)) ∧ w'.cell? ⟨(ad146.add (((ji29)).toNat * 11)).block, (ad146.add (((ji29)).toNat * 11)).off + 1, none⟩ = some (.int .i64 ((rd_T36 l0_1 (ji29)).f1)) ∧ w'.cell? ⟨(ad146.add (((ji29)).toNat * 11)).block, (ad146.add (((ji29)).toNat * 11)).off + 2, none⟩ = some (.int .i64 ((rd_T36 l0_1 (ji29)).f2)) ∧ w'.cell? ⟨(ad146.add (((ji29)).toNat * 11)).block, (ad146.add (((ji29)).toNat * 11)).off + 3, none⟩ = some (.int .i64 ((rd_T36 l0_1 (ji29)).f3)) ∧ w'.cell? ⟨(ad146.add (((ji29)).toNat * 11)).block, (ad146.add (((ji29)).toNat * 11)).off + 4, none⟩ = some (.int .i64 ((rd_T36 l0_1 (ji29)).f4)) ∧ w'.cell? ⟨(ad146.add (((ji29)).toNat * 11)).block, (ad146.add (((ji29)).toNat * 11)).off + 5, none⟩ = some (.int .i64 ((rd_T36 l0_1 (ji29)).f5)) ∧ w'.cell? ⟨(ad146.add (((ji29)).toNat * 11)).block, (ad146.add (((ji29)).toNat * 11)).off + 6, none⟩ = some (.int .i64 ((rd_T36 l0_1 (ji29)).f6)) ∧ w'.cell? ⟨(ad146.add (((ji29)).toNat * 11)).block, (ad146.add (((ji29)).toNat * 11)).off + 7, none⟩ = some (.int .i64 ((rd_T36 l0_1 (ji29)).f7)) ∧ w'.cell? ⟨(ad146.add (((ji29)).toNat * 11)).block, (ad146.add (((ji29)).toNat * 11)).off + 8, none⟩ = some (.int .i64 ((rd_T36 l0_1 (ji29)).f8)) ∧ w'.cell? ⟨(ad146.add (((ji29)).toNat * 11)).block, (ad146.add (((ji29)).toNat * 11)).off + 9, none⟩ = some (.int .i64 ((rd_T36 l0_1 (ji29)).f9)) ∧ w'.cell? ⟨(ad146.add (((ji29)).toNat * 11)).block, (ad146.add (((ji29)).toNat * 11)).off + 10, none⟩ = some (.int .i64 ((rd_T36 l0_1 (ji29)).f10))) ∧ (Kd.R k36 36 w' w.heap.size (fun _ => True) s_ y136) ∧ (w'.heap[gb126]? = some (.cells #[.int .i64 a0_0, .slice (some ad146) l0_1.length c0_1] 26 (0, 0))) ∧ (w'.heap[gb135]? = some (.cells #[.int .i64 a0_0, .slice (some ad146) y131.length c0_1] 26 (0, 0))) ∧ (Below w.heap.size w w')) ?_ ?_
                      rotate_left
                      · intro hJ2
                        refine join_ (σ := Value) 6 #[true, true, false, true, true, true, true, false, true, true, true, true, true, true, true, false, false, false, false] (fun s_ => [(51, s_)]) (fun s_ w' => (w'.cell? ⟨gb126, 0, none⟩ = some (.int .i64 a0_0) ∧ w'.cell? ⟨gb126, 1, none⟩ = some (.slice (some ad146) l0_1.length c0_1) ∧ w'.cell? (ad146.add (((ji29)).toNat * 11)) = some (.string ((rd_T36 l0_1 (ji29)).f0)) ∧ w'.cell? ⟨(ad146.add (((ji29)).toNat * 11)).block, (ad146.add (((ji29)).toNat * 11)).off + 1, none⟩ = some (.int .i64 ((rd_T36 l0_1 (ji29)).f1)) ∧ w'.cell? ⟨(ad146.add (((ji29)).toNat * 11)).block, (ad146.add (((ji29)).toNat * 11)).off + 2, none⟩ = some (.int .i64 ((rd_T36 l0_1 (ji29)).f2)) ∧ w'.cell? ⟨(ad146.add (((ji29)).toNat * 11)).block, (ad146.add (((ji29)).toNat * 11)).off + 3, none⟩ = some (.int .i64 ((rd_T36 l0_1 (ji29)).f3)) ∧ w'.cell? ⟨(ad146.add (((ji29)).toNat * 11)).block, (ad146.add (((ji29)).toNat * 11)).off + 4, none⟩ = some (.int .i64 ((rd_T36 l0_1 (ji29)).f4)) ∧ w'.cell? ⟨(ad146.add (((ji29)).toNat * 11)).block, (ad146.add (((ji29)).toNat * 11)).off + 5, none⟩ = some (.int .i64 ((rd_T36 l0_1 (ji29)).f5)) ∧ w'.cell? ⟨(ad146.add (((ji29)).toNat * 11)).block, (ad146.add (((ji29)).toNat * 11)).off + 6, none⟩ = some (.int .i64 ((rd_T36 l0_1 (ji29)).f6)) ∧ w'.cell? ⟨(ad146.add (((ji29)).toNat * 11)).block, (ad146.add (((ji29)).toNat * 11)).off + 7, none⟩ = some (.int .i64 ((rd_T36 l0_1 (ji29)).f7)) ∧ w'.cell? ⟨(ad146.add (((ji29)).toNat * 11)).block, (ad146.add (((ji29)).toNat * 11)).off + 8, none⟩ = some (.int .i64 ((rd_T36 l0_1 (ji29)).f8)) ∧ w'.cell? ⟨(ad146.add (((ji29)).toNat * 11)).block, (ad146.add (((ji29)).toNat * 11)).off + 9, none⟩ = some (.int .i64 ((rd_T36 l0_1 (ji29)).f9)) ∧ w'.cell? ⟨(ad146.add (((ji29)).toNat * 11)).block, (ad146.add (((ji29)).toNat * 11)).off + 10, none⟩ = some (.int .i64 ((rd_T36 l0_1 (ji29)).f10))) ∧ (Kd.R k36 36 w' w.heap.size (fun _ => True) s_ y147) ∧ (w'.heap[gb126]? = some (.cells #[.int .i64 a0_0, .slice (some ad146) l0_1.length c0_1] 26 (0, 0))) ∧ (w'.heap[gb135]? = some (.cells #[.int .i64 a0_0, .slice (some ad146) y131.length c0_1] 26 (0, 0))) ∧ (Below w.heap.size w w')) ?_ ?_
                        rotate_left
                        · intro hJ14
                          refine join_ (σ := Nat) 6 #[true, true, false, true, true, true, true, false, true, true, true, true, true, true, false, false, false, true, false] (fun s_ => [(7, .pointer (some ⟨s_, 0, none⟩))]) (fun s_ w' => (w'.cell? ⟨gb126, 0, none⟩ = some (.int .i64 a0_0) ∧ w'.cell? ⟨gb126, 1, none⟩ = some (.slice (some ad146) l0_1.length c0_1) ∧ w'.cell? (ad146.add (((ji29)).toNat * 11)) = some (.string ((rd_T36 l0_1 (ji29)).f0)) ∧ w'.cell? ⟨(ad146.add (((ji29)).toNat * 11)).block, (ad146.add (((ji29)).toNat * 11)).off + 1, none⟩ = some (.int .i64 ((rd_T36 l0_1 (ji29)).f1)) ∧ w'.cell? ⟨(ad146.add (((ji29)).toNat * 11)).block, (ad146.add (((ji29)).toNat * 11)).off + 2, none⟩ = some (.int .i64 ((rd_T36 l0_1 (ji29)).f2)) ∧ w'.cell? ⟨(ad146.add (((ji29)).toNat * 11)).block, (ad146.add (((ji29)).toNat * 11)).off + 3, none⟩ = some (.int .i64 ((rd_T36 l0_1 (ji29)).f3)) ∧ w'.cell? ⟨(ad146.add (((ji29)).toNat * 11)).block, (ad146.add (((ji29)).toNat * 11)).off + 4, none⟩ = some (.int .i64 ((rd_T36 l0_1 (ji29)).f4)) ∧ w'.cell? ⟨(ad146.add (((ji29)).toNat * 11)).block, (ad146.add (((ji29)).toNat * 11)).off + 5, none⟩ = some (.int .i64 ((rd_T36 l0_1 (ji29)).f5)) ∧ w'.cell? ⟨(ad146.add (((ji29)).toNat * 11)).block, (ad146.add (((ji29)).toNat * 11)).off + 6, none⟩ = some (.int .i64 ((rd_T36 l0_1 (ji29)).f6)) ∧ w'.cell? ⟨(ad146.add (((ji29)).toNat * 11)).block, (ad146.add (((ji29)).toNat * 11)).off + 7, none⟩ = some (.int .i64 ((rd_T36 l0_1 (ji29)).f7)) ∧ w'.cell? ⟨(ad146.add (((ji29)).toNat * 11)).block, (ad146.add (((ji29)).toNat * 11)).off + 8, none⟩ = some (.int .i64 ((rd_T36 l0_1 (ji29)).f8)) ∧ w'.cell? ⟨(ad146.add (((ji29)).toNat * 11)).block, (ad146.add (((ji29)).toNat * 11)).off + 9, none⟩ = some (.int .i64 ((rd_T36 l0_1 (ji29)).f9)) ∧ w'.cell? ⟨(ad146.add (((ji29)).toNat * 11)).block, (ad146.add (((ji29)).toNat * 11)).off + 10, none⟩ = some (.int .i64 ((rd_T36 l0_1 (ji29)).f10))) ∧ (w'.heap[gb126]? = some (.cells #[.int .i64 a0_0, .slice (some ad146) l0_1.length c0_1] 26 (0, 0))) ∧ (w'.heap[gb135]? = some (.cells #[.int .i64 a0_0, .slice (some ad146) y131.length c0_1] 26 (0, 0))) ∧ (w'.heap[s_]? = some (.cells #[.int .i64 0, .slice none 0 0] 26 (0, 0))) ∧ (w.heap.size ≤ s_) ∧ (w.heap.size ≤ s_) ∧ (gb126 ≠ s_) ∧ (s_ ≠ gb126) ∧ (gb135 ≠ s_) ∧ (s_ ≠ gb135) ∧ (Below w.heap.size w w')) ?_ ?_
                          rotate_left
                          · intro hJ17
                            refine three_ (i := 2) (j := 14) (k := 17) (Ni := some 39) (Nj := some 51) (Nk := some 7) #[true, true, true, true, true, true, true, false, true, true, true, true, true, true, false, false, false, false, false] #[true, true, false, true, true, true, true, false, true, true, true, true, true, true, true, false, false, false, false] #[true, true, false, true, true, true, true, false, true, true, true, true, true, true, false, false, false, true, false] rfl rfl rfl rfl rfl rfl (three_of HT_.out (by kernel_rfl)) (by decide) (by decide) (by decide) (fun K hK => ?_) (fun K hK => ?_) (fun K hK => ?_)
                            · skip
                              refine Kd.R_lit_step k36 _ 36 ?hg (N := 39) ?hd (xs := ([] : List (S36))) (inner := []) (ok := fun _ => True) (okp := fun _ => True) ?hr ?hp (fun _ hk => hk) trivial (Below.refl _ _) (Nat.le_refl _) (by simp) ?_; (case hd => rfl); (case hg => rfl); (case hr => first | (go_simp; done) | (go_simp; rfl)); (case hp => exact (Reps.none _ _))
                              intro v137 w47 ho48 hb hg_ hnew_
                              clear hg_ hnew_
                              (first | rw [← Ny136.out] at ho48 | (simp only [Int.reduceToNat] at ho48; rw [← Ny136.out] at ho48))
                              have n0_ := Aside0.mk (Kd.R_lower ho48 (below_size (by repeat (first | (with_reducible first | exact HB.out | apply below_alloc | apply pw_below_drewN | apply below_drew1 | refine below_set ?_ GE126.out | refine below_set ?_ GE135.out) | exact HB.out))))
                              have n1_ := Aside0.mk (blk_below (g := gb126) (o := .cells #[.int .i64 a0_0, .slice (some ad146) l0_1.length c0_1] 26 (0, 0)) (by (with_reducible repeat (first | refine blk_drewN ?_ _ | refine blk_drew ?_ | refine blk_alloc ?_ _)); exact BK126.out) hb)
                              have n2_ := Aside0.mk (blk_below (g := gb135) (o := .cells #[.int .i64 a0_0, .slice (some ad146) y131.length c0_1] 26 (0, 0)) (by (with_reducible repeat (first | refine blk_drewN ?_ _ | refine blk_drew ?_ | refine blk_alloc ?_ _)); exact BK135.out) hb)
                              have n3_ := Aside0.mk (below_step (by repeat (first | (with_reducible first | exact HB.out | apply below_alloc | apply pw_below_drewN | apply below_drew1 | refine below_set ?_ GE126.out | refine below_set ?_ GE135.out) | exact HB.out)) hb)
                              clear BK126
                              clear BK135
                              clear HB
                              have HO138 := n0_
                              have BK126 := n1_
                              have BK135 := n2_
                              have HB := n3_
                              clear n0_ n1_ n2_ n3_
                              clear hb ho48
                              refine hK.out _ _ ⟨(blk_cell BK126.out 0).trans rfl, (blk_cell BK126.out 1).trans rfl, ((HB.out.cell (World.block_lt_of_cell? w _ hw146_0)).trans hw146_0), ((HB.out.cell (World.block_lt_of_cell? w _ hw146_1)).trans hw146_1), ((HB.out.cell (World.block_lt_of_cell? w _ hw146_2)).trans hw146_2), ((HB.out.cell (World.block_lt_of_cell? w _ hw146_3)).trans hw146_3), ((HB.out.cell (World.block_lt_of_cell? w _ hw146_4)).trans hw146_4), ((HB.out.cell (World.block_lt_of_cell? w _ hw146_5)).trans hw146_5), ((HB.out.cell (World.block_lt_of_cell? w _ hw146_6)).trans hw146_6), ((HB.out.cell (World.block_lt_of_cell? w _ hw146_7)).trans hw146_7), ((HB.out.cell (World.block_lt_of_cell? w _ hw146_8)).trans hw146_8), ((HB.out.cell (World.block_lt_of_cell? w _ hw146_9)).trans hw146_9), ((HB.out.cell (World.block_lt_of_cell? w _ hw146_10)).trans hw146_10)⟩ (fun hHeld => ?_)
                              clear hK K
                              refine norm_ (a' := ?_) ?_ ?_
                              rotate_left
                              · show Act.put _ (some 39) _ = _
                                simp only [Act.put, List.setIfInBounds_toArray, List.set_cons_zero, List.set_cons_succ, i64_w, i32_w]
                                rfl
                              exact norm_ (by first | (simp only [putAll, Act.put, List.setIfInBounds_toArray, List.set_cons_zero, List.set_cons_succ]; done) | (simp only [putAll, Act.put, List.setIfInBounds_toArray, List.set_cons_zero, List.set_cons_succ]; rfl)) (hJ2 (v137) _ ⟨hHeld, (by (with_reducible repeat (first | apply Kd.R_alloc | apply Kd.R_drewN | apply Kd.R_drew)); exact HO138.out), (by (with_reducible repeat (first | refine blk_drewN ?_ _ | refine blk_drew ?_ | refine blk_alloc ?_ _)); exact BK126.out), (by (with_reducible repeat (first | refine blk_drewN ?_ _ | refine blk_drew ?_ | refine blk_alloc ?_ _)); exact BK135.out), (by repeat (first | (with_reducible first | exact HB.out | apply below_alloc | apply pw_below_drewN | apply below_drew1 | refine below_set ?_ GE126.out | refine below_set ?_ GE135.out) | exact HB.out))⟩)
                            · skip
                              refine Kd.R_lit_step k36 _ 36 ?hg (N := 51) ?hd (xs := ([(⟨(rd_T36 l0_1 (ji29)).f0, (rd_T36 l0_1 (ji29)).f1, (rd_T36 l0_1 (ji29)).f2, (rd_T36 l0_1 (ji29)).f3, (rd_T36 l0_1 (ji29)).f4, (rd_T36 l0_1 (ji29)).f5, (rd_T36 l0_1 (ji29)).f6, (rd_T36 l0_1 (ji29)).f7, (rd_T36 l0_1 (ji29)).f8, (rd_T36 l0_1 (ji29)).f9, (rd_T36 l0_1 (ji29)).f10⟩ : S36)] : List (S36))) (inner := [.string ((rd_T36 l0_1 (ji29)).f0), .int .i64 ((rd_T36 l0_1 (ji29)).f1), .int .i64 ((rd_T36 l0_1 (ji29)).f2), .int .i64 ((rd_T36 l0_1 (ji29)).f3), .int .i64 ((rd_T36 l0_1 (ji29)).f4), .int .i64 ((rd_T36 l0_1 (ji29)).f5), .int .i64 ((rd_T36 l0_1 (ji29)).f6), .int .i64 ((rd_T36 l0_1 (ji29)).f7), .int .i64 ((rd_T36 l0_1 (ji29)).f8), .int .i64 ((rd_T36 l0_1 (ji29)).f9), .int .i64 ((rd_T36 l0_1 (ji29)).f10)]) (ok := fun _ => True) (okp := fun _ => True) ?hr ?hp (fun _ hk => hk) trivial (Below.refl _ _) (Nat.le_refl _) (by simp) ?_; (case hd => rfl); (case hg => rfl); (case hr => first | (go_simp; done) | (go_simp; rfl)); (case hp => exact (Reps.front (show Kd.M k36 _ _ _ (⟨(rd_T36 l0_1 (ji29)).f0, (rd_T36 l0_1 (ji29)).f1, (rd_T36 l0_1 (ji29)).f2, (rd_T36 l0_1 (ji29)).f3, (rd_T36 l0_1 (ji29)).f4, (rd_T36 l0_1 (ji29)).f5, (rd_T36 l0_1 (ji29)).f6, (rd_T36 l0_1 (ji29)).f7, (rd_T36 l0_1 (ji29)).f8, (rd_T36 l0_1 (ji29)).f9, (rd_T36 l0_1 (ji29)).f10⟩ : S36) [.string ((rd_T36 l0_1 (ji29)).f0), .int .i64 ((rd_T36 l0_1 (ji29)).f1), .int .i64 ((rd_T36 l0_1 (ji29)).f2), .int .i64 ((rd_T36 l0_1 (ji29)).f3), .int .i64 ((rd_T36 l0_1 (ji29)).f4), .int .i64 ((rd_T36 l0_1 (ji29)).f5), .int .i64 ((rd_T36 l0_1 (ji29)).f6), .int .i64 ((rd_T36 l0_1 (ji29)).f7), .int .i64 ((rd_T36 l0_1 (ji29)).f8), .int .i64 ((rd_T36 l0_1 (ji29)).f9), .int .i64 ((rd_T36 l0_1 (ji29)).f10)] from (k36_mkM _ _ _ (⟨(rd_T36 l0_1 (ji29)).f0, (rd_T36 l0_1 (ji29)).f1, (rd_T36 l0_1 (ji29)).f2, (rd_T36 l0_1 (ji29)).f3, (rd_T36 l0_1 (ji29)).f4, (rd_T36 l0_1 (ji29)).f5, (rd_T36 l0_1 (ji29)).f6, (rd_T36 l0_1 (ji29)).f7, (rd_T36 l0_1 (ji29)).f8, (rd_T36 l0_1 (ji29)).f9, (rd_T36 l0_1 (ji29)).f10⟩ : S36) )) rfl (Reps.none _ _) rfl))
                              intro v148 w47 ho48 hb hg_ hnew_
                              clear hg_ hnew_
                              (first | rw [← Ny147.out] at ho48 | (simp only [Int.reduceToNat] at ho48; rw [← Ny147.out] at ho48))
                              have n0_ := Aside0.mk (Kd.R_lower ho48 (below_size (by repeat (first | (with_reducible first | exact HB.out | apply below_alloc | apply pw_below_drewN | apply below_drew1 | refine below_set ?_ GE126.out | refine below_set ?_ GE135.out) | exact HB.out))))
                              have n1_ := Aside0.mk (blk_below (g := gb126) (o := .cells #[.int .i64 a0_0, .slice (some ad146) l0_1.length c0_1] 26 (0, 0)) (by (with_reducible repeat (first | refine blk_drewN ?_ _ | refine blk_drew ?_ | refine blk_alloc ?_ _)); exact BK126.out) hb)
                              have n2_ := Aside0.mk (blk_below (g := gb135) (o := .cells #[.int .i64 a0_0, .slice (some ad146) y131.length c0_1] 26 (0, 0)) (by (with_reducible repeat (first | refine blk_drewN ?_ _ | refine blk_drew ?_ | refine blk_alloc ?_ _)); exact BK135.out) hb)
                              have n3_ := Aside0.mk (below_step (by repeat (first | (with_reducible first | exact HB.out | apply below_alloc | apply pw_below_drewN | apply below_drew1 | refine below_set ?_ GE126.out | refine below_set ?_ GE135.out) | exact HB.out)) hb)
                              clear BK126
                              clear BK135
                              clear HB
                              have HO149 := n0_
                              have BK126 := n1_
                              have BK135 := n2_
                              have HB := n3_
                              clear n0_ n1_ n2_ n3_
                              clear hb ho48
                              refine hK.out _ _ ⟨(blk_cell BK126.out 0).trans rfl, (blk_cell BK126.out 1).trans rfl, ((HB.out.cell (World.block_lt_of_cell? w _ hw146_0)).trans hw146_0), ((HB.out.cell (World.block_lt_of_cell? w _ hw146_1)).trans hw146_1), ((HB.out.cell (World.block_lt_of_cell? w _ hw146_2)).trans hw146_2), ((HB.out.cell (World.block_lt_of_cell? w _ hw146_3)).trans hw146_3), ((HB.out.cell (World.block_lt_of_cell? w _ hw146_4)).trans hw146_4), ((HB.out.cell (World.block_lt_of_cell? w _ hw146_5)).trans hw146_5), ((HB.out.cell (World.block_lt_of_cell? w _ hw146_6)).trans hw146_6), ((HB.out.cell (World.block_lt_of_cell? w _ hw146_7)).trans hw146_7), ((HB.out.cell (World.block_lt_of_cell? w _ hw146_8)).trans hw146_8), ((HB.out.cell (World.block_lt_of_cell? w _ hw146_9)).trans hw146_9), ((HB.out.cell (World.block_lt_of_cell? w _ hw146_10)).trans hw146_10)⟩ (fun hHeld => ?_)
                              clear hK K
                              refine norm_ (a' := ?_) ?_ ?_
                              rotate_left
                              · show Act.put _ (some 51) _ = _
                                simp only [Act.put, List.setIfInBounds_toArray, List.set_cons_zero, List.set_cons_succ, i64_w, i32_w]
                                rfl
                              exact norm_ (by first | (simp only [putAll, Act.put, List.setIfInBounds_toArray, List.set_cons_zero, List.set_cons_succ]; done) | (simp only [putAll, Act.put, List.setIfInBounds_toArray, List.set_cons_zero, List.set_cons_succ]; rfl)) (hJ14 (v148) _ ⟨hHeld, (by (with_reducible repeat (first | apply Kd.R_alloc | apply Kd.R_drewN | apply Kd.R_drew)); exact HO149.out), (by (with_reducible repeat (first | refine blk_drewN ?_ _ | refine blk_drew ?_ | refine blk_alloc ?_ _)); exact BK126.out), (by (with_reducible repeat (first | refine blk_drewN ?_ _ | refine blk_drew ?_ | refine blk_alloc ?_ _)); exact BK135.out), (by repeat (first | (with_reducible first | exact HB.out | apply below_alloc | apply pw_below_drewN | apply below_drew1 | refine below_set ?_ GE126.out | refine below_set ?_ GE135.out) | exact HB.out))⟩)
                            · skip
                              refine box_step ?hg (N := 7) ?hd (cs := #[.int .i64 0, .slice none 0 0]) (t := 26) ?hr ?_; (case hd => rfl); (case hg => rfl); (case hr => first | (go_simp; done) | (go_simp; rfl))
                              intro gb153 hg w47 hbox hb
                              have n0_ := Aside0.mk (blk_below (g := gb126) (o := .cells #[.int .i64 a0_0, .slice (some ad146) l0_1.length c0_1] 26 (0, 0)) (by (with_reducible repeat (first | refine blk_drewN ?_ _ | refine blk_drew ?_ | refine blk_alloc ?_ _)); exact BK126.out) hb)
                              have n1_ := Aside0.mk (blk_below (g := gb135) (o := .cells #[.int .i64 a0_0, .slice (some ad146) y131.length c0_1] 26 (0, 0)) (by (with_reducible repeat (first | refine blk_drewN ?_ _ | refine blk_drew ?_ | refine blk_alloc ?_ _)); exact BK135.out) hb)
                              have n2_ := Aside0.mk (below_step (by repeat (first | (with_reducible first | exact HB.out | apply below_alloc | apply pw_below_drewN | apply below_drew1 | refine below_set ?_ GE126.out | refine below_set ?_ GE135.out) | exact HB.out)) hb)
                              have n3_ := Aside0.mk (hbox)
                              have n4_ := Aside0.mk ((by rw [hg]; exact (below_size (by repeat (first | (with_reducible first | exact HB.out | apply below_alloc | apply pw_below_drewN | apply below_drew1 | refine below_set ?_ GE126.out | refine below_set ?_ GE135.out) | exact HB.out))) : w.heap.size ≤ gb153))
                              have n5_ := Aside0.mk ((by rw [hg]; exact (below_size (by repeat (first | (with_reducible first | exact HB.out | apply below_alloc | apply pw_below_drewN | apply below_drew1 | refine below_set ?_ GE126.out | refine below_set ?_ GE135.out) | exact HB.out))) : w.heap.size ≤ gb153))
                              have n6_ := Aside0.mk ((by rw [hg]; exact Nat.ne_of_lt (blk_lt (g := gb126) (o := .cells #[.int .i64 a0_0, .slice (some ad146) l0_1.length c0_1] 26 (0, 0)) (by (with_reducible repeat (first | refine blk_drewN ?_ _ | refine blk_drew ?_ | refine blk_alloc ?_ _)); exact BK126.out)) : gb126 ≠ gb153))
                              have n7_ := Aside0.mk ((by rw [hg]; exact Nat.ne_of_gt (blk_lt (g := gb126) (o := .cells #[.int .i64 a0_0, .slice (some ad146) l0_1.length c0_1] 26 (0, 0)) (by (with_reducible repeat (first | refine blk_drewN ?_ _ | refine blk_drew ?_ | refine blk_alloc ?_ _)); exact BK126.out)) : gb153 ≠ gb126))
                              have n8_ := Aside0.mk ((by rw [hg]; exact Nat.ne_of_lt (blk_lt (g := gb135) (o := .cells #[.int .i64 a0_0, .slice (some ad146) y131.length c0_1] 26 (0, 0)) (by (with_reducible repeat (first | refine blk_drewN ?_ _ | refine blk_drew ?_ | refine blk_alloc ?_ _)); exact BK135.out)) : gb135 ≠ gb153))
                              have n9_ := Aside0.mk ((by rw [hg]; exact Nat.ne_of_gt (blk_lt (g := gb135) (o := .cells #[.int .i64 a0_0, .slice (some ad146) y131.length c0_1] 26 (0, 0)) (by (with_reducible repeat (first | refine blk_drewN ?_ _ | refine blk_drew ?_ | refine blk_alloc ?_ _)); exact BK135.out)) : gb153 ≠ gb135))
                              clear BK126
                              clear BK135
                              clear HB
                              have BK126 := n0_
                              have BK135 := n1_
                              have HB := n2_
                              have BK153 := n3_
                              have GW153 := n4_
                              have GE153 := n5_
                              have NB126_153 := n6_
                              have NB153_126 := n7_
                              have NB135_153 := n8_
                              have NB153_135 := n9_
                              clear n0_ n1_ n2_ n3_ n4_ n5_ n6_ n7_ n8_ n9_
                              clear hb hbox hg
                              refine hK.out _ _ ⟨(blk_cell BK126.out 0).trans rfl, (blk_cell BK126.out 1).trans rfl, ((HB.out.cell (World.block_lt_of_cell? w _ hw146_0)).trans hw146_0), ((HB.out.cell (World.block_lt_of_cell? w _ hw146_1)).trans hw146_1), ((HB.out.cell (World.block_lt_of_cell? w _ hw146_2)).trans hw146_2), ((HB.out.cell (World.block_lt_of_cell? w _ hw146_3)).trans hw146_3), ((HB.out.cell (World.block_lt_of_cell? w _ hw146_4)).trans hw146_4), ((HB.out.cell (World.block_lt_of_cell? w _ hw146_5)).trans hw146_5), ((HB.out.cell (World.block_lt_of_cell? w _ hw146_6)).trans hw146_6), ((HB.out.cell (World.block_lt_of_cell? w _ hw146_7)).trans hw146_7), ((HB.out.cell (World.block_lt_of_cell? w _ hw146_8)).trans hw146_8), ((HB.out.cell (World.block_lt_of_cell? w _ hw146_9)).trans hw146_9), ((HB.out.cell (World.block_lt_of_cell? w _ hw146_10)).trans hw146_10)⟩ (fun hHeld => ?_)
                              clear hK K
                              refine norm_ (a' := ?_) ?_ ?_
                              rotate_left
                              · show Act.put _ (some 7) _ = _
                                simp only [Act.put, List.setIfInBounds_toArray, List.set_cons_zero, List.set_cons_succ, i64_w, i32_w]
                                rfl
                              exact norm_ (by first | (simp only [putAll, Act.put, List.setIfInBounds_toArray, List.set_cons_zero, List.set_cons_succ]; done) | (simp only [putAll, Act.put, List.setIfInBounds_toArray, List.set_cons_zero, List.set_cons_succ]; rfl)) (hJ17 (gb153) _ ⟨hHeld, (by (with_reducible repeat (first | refine blk_drewN ?_ _ | refine blk_drew ?_ | refine blk_alloc ?_ _)); exact BK126.out), (by (with_reducible repeat (first | refine blk_drewN ?_ _ | refine blk_drew ?_ | refine blk_alloc ?_ _)); exact BK135.out), (by (with_reducible repeat (first | refine blk_drewN ?_ _ | refine blk_drew ?_ | refine blk_alloc ?_ _)); exact BK153.out), GW153.out, GE153.out, NB126_153.out, NB153_126.out, NB135_153.out, NB153_135.out, (by repeat (first | (with_reducible first | exact HB.out | apply below_alloc | apply pw_below_drewN | apply below_drew1 | refine below_set ?_ GE126.out | refine below_set ?_ GE135.out | refine below_set ?_ GE153.out) | exact HB.out))⟩)
                          · skip
                            rintro gb153 w48 ⟨hS_, h0_, h1_, h2_, h3_, h4_, h5_, h6_, h7_, h8_, h9_⟩
                            have n0_ : Aside0 (w48.heap[gb126]? = some (.cells #[.int .i64 a0_0, .slice (some ad146) l0_1.length c0_1] 26 (0, 0))) := ⟨h0_⟩
                            have n1_ : Aside0 (w48.heap[gb135]? = some (.cells #[.int .i64 a0_0, .slice (some ad146) y131.length c0_1] 26 (0, 0))) := ⟨h1_⟩
                            have n2_ : Aside0 (w48.heap[gb153]? = some (.cells #[.int .i64 0, .slice none 0 0] 26 (0, 0))) := ⟨h2_⟩
                            have n3_ : Aside0 (w.heap.size ≤ gb153) := ⟨h3_⟩
                            have n4_ : Aside0 (w.heap.size ≤ gb153) := ⟨h4_⟩
                            have n5_ : Aside0 (gb126 ≠ gb153) := ⟨h5_⟩
                            have n6_ : Aside0 (gb153 ≠ gb126) := ⟨h6_⟩
                            have n7_ : Aside0 (gb135 ≠ gb153) := ⟨h7_⟩
                            have n8_ : Aside0 (gb153 ≠ gb135) := ⟨h8_⟩
                            have n9_ : Aside0 (Below w.heap.size w w48) := ⟨h9_⟩
                            clear BK126
                            clear BK135
                            clear HB
                            clear h0_ h1_ h2_ h3_ h4_ h5_ h6_ h7_ h8_ h9_
                            have BK126 := n0_
                            have BK135 := n1_
                            have BK153 := n2_
                            have GW153 := n3_
                            have GE153 := n4_
                            have NB126_153 := n5_
                            have NB153_126 := n6_
                            have NB135_153 := n7_
                            have NB153_135 := n8_
                            have HB := n9_
                            clear n0_ n1_ n2_ n3_ n4_ n5_ n6_ n7_ n8_ n9_
                            have hHeld : w48.cell? ⟨gb126, 0, none⟩ = some (.int .i64 a0_0) ∧ w48.cell? ⟨gb126, 1, none⟩ = some (.slice (some ad146) l0_1.length c0_1) ∧ w48.cell? (ad146.add (((ji29)).toNat * 11)) = some (.string ((rd_T36 l0_1 (ji29)).f0)) ∧ w48.cell? ⟨(ad146.add (((ji29)).toNat * 11)).block, (ad146.add (((ji29)).toNat * 11)).off + 1, none⟩ = some (.int .i64 ((rd_T36 l0_1 (ji29)).f1)) ∧ w48.cell? ⟨(ad146.add (((ji29)).toNat * 11)).block, (ad146.add (((ji29)).toNat * 11)).off + 2, none⟩ = some (.int .i64 ((rd_T36 l0_1 (ji29)).f2)) ∧ w48.cell? ⟨(ad146.add (((ji29)).toNat * 11)).block, (ad146.add (((ji29)).toNat * 11)).off + 3, none⟩ = some (.int .i64 ((rd_T36 l0_1 (ji29)).f3)) ∧ w48.cell? ⟨(ad146.add (((ji29)).toNat * 11)).block, (ad146.add (((ji29)).toNat * 11)).off + 4, none⟩ = some (.int .i64 ((rd_T36 l0_1 (ji29)).f4)) ∧ w48.cell? ⟨(ad146.add (((ji29)).toNat * 11)).block, (ad146.add (((ji29)).toNat * 11)).off + 5, none⟩ = some (.int .i64 ((rd_T36 l0_1 (ji29)).f5)) ∧ w48.cell? ⟨(ad146.add (((ji29)).toNat * 11)).block, (ad146.add (((ji29)).toNat * 11)).off + 6, none⟩ = some (.int .i64 ((rd_T36 l0_1 (ji29)).f6)) ∧ w48.cell? ⟨(ad146.add (((ji29)).toNat * 11)).block, (ad146.add (((ji29)).toNat * 11)).off + 7, none⟩ = some (.int .i64 ((rd_T36 l0_1 (ji29)).f7)) ∧ w48.cell? ⟨(ad146.add (((ji29)).toNat * 11)).block, (ad146.add (((ji29)).toNat * 11)).off + 8, none⟩ = some (.int .i64 ((rd_T36 l0_1 (ji29)).f8)) ∧ w48.cell? ⟨(ad146.add (((ji29)).toNat * 11)).block, (ad146.add (((ji29)).toNat * 11)).off + 9, none⟩ = some (.int .i64 ((rd_T36 l0_1 (ji29)).f9)) ∧ w48.cell? ⟨(ad146.add (((ji29)).toNat * 11)).block, (ad146.add (((ji29)).toNat * 11)).off + 10, none⟩ = some (.int .i64 ((rd_T36 l0_1 (ji29)).f10)) := hS_
                            refine norm_ (a' := ?_) ?_ ?_
                            rotate_left
                            · simp only [putAll, Act.put, List.setIfInBounds_toArray, List.set_cons_zero, List.set_cons_succ]
                              rfl
                            refine two_ (i := 2) (j := 14) (Ni := some 39) (Nj := some 51) #[true, true, true, true, true, true, true, false, true, true, true, true, true, true, false, false, false, true, false] #[true, true, false, true, true, true, true, false, true, true, true, true, true, true, true, false, false, true, false] rfl rfl rfl rfl (two_of HT_.out (by kernel_rfl)) (by decide) (by decide) (fun K hK => ?_) (fun K hK => ?_)
                            · skip
                              refine Kd.R_lit_step k36 _ 36 ?hg (N := 39) ?hd (xs := ([] : List (S36))) (inner := []) (ok := fun _ => True) (okp := fun _ => True) ?hr ?hp (fun _ hk => hk) trivial (Below.refl _ _) (Nat.le_refl _) (by simp) ?_; (case hd => rfl); (case hg => rfl); (case hr => first | (go_simp; done) | (go_simp; rfl)); (case hp => exact (Reps.none _ _))
                              intro v137 w49 ho50 hb hg_ hnew_
                              clear hg_ hnew_
                              (first | rw [← Ny136.out] at ho50 | (simp only [Int.reduceToNat] at ho50; rw [← Ny136.out] at ho50))
                              have n0_ := Aside0.mk (Kd.R_lower ho50 (below_size (by repeat (first | (with_reducible first | exact HB.out | apply below_alloc | apply pw_below_drewN | apply below_drew1 | refine below_set ?_ GE126.out | refine below_set ?_ GE135.out | refine below_set ?_ GE153.out) | exact HB.out))))
                              have n1_ := Aside0.mk (blk_below (g := gb126) (o := .cells #[.int .i64 a0_0, .slice (some ad146) l0_1.length c0_1] 26 (0, 0)) (by (with_reducible repeat (first | refine blk_drewN ?_ _ | refine blk_drew ?_ | refine blk_alloc ?_ _)); exact BK126.out) hb)
                              have n2_ := Aside0.mk (blk_below (g := gb135) (o := .cells #[.int .i64 a0_0, .slice (some ad146) y131.length c0_1] 26 (0, 0)) (by (with_reducible repeat (first | refine blk_drewN ?_ _ | refine blk_drew ?_ | refine blk_alloc ?_ _)); exact BK135.out) hb)
                              have n3_ := Aside0.mk (blk_below (g := gb153) (o := .cells #[.int .i64 0, .slice none 0 0] 26 (0, 0)) (by (with_reducible repeat (first | refine blk_drewN ?_ _ | refine blk_drew ?_ | refine blk_alloc ?_ _)); exact BK153.out) hb)
                              have n4_ := Aside0.mk (below_step (by repeat (first | (with_reducible first | exact HB.out | apply below_alloc | apply pw_below_drewN | apply below_drew1 | refine below_set ?_ GE126.out | refine below_set ?_ GE135.out | refine below_set ?_ GE153.out) | exact HB.out)) hb)
                              clear BK126
                              clear BK135
                              clear BK153
                              clear HB
                              have HO138 := n0_
                              have BK126 := n1_
                              have BK135 := n2_
                              have BK153 := n3_
                              have HB := n4_
                              clear n0_ n1_ n2_ n3_ n4_
                              clear hb ho50
                              refine hK.out _ _ ⟨(blk_cell BK126.out 0).trans rfl, (blk_cell BK126.out 1).trans rfl, ((HB.out.cell (World.block_lt_of_cell? w _ hw146_0)).trans hw146_0), ((HB.out.cell (World.block_lt_of_cell? w _ hw146_1)).trans hw146_1), ((HB.out.cell (World.block_lt_of_cell? w _ hw146_2)).trans hw146_2), ((HB.out.cell (World.block_lt_of_cell? w _ hw146_3)).trans hw146_3), ((HB.out.cell (World.block_lt_of_cell? w _ hw146_4)).trans hw146_4), ((HB.out.cell (World.block_lt_of_cell? w _ hw146_5)).trans hw146_5), ((HB.out.cell (World.block_lt_of_cell? w _ hw146_6)).trans hw146_6), ((HB.out.cell (World.block_lt_of_cell? w _ hw146_7)).trans hw146_7), ((HB.out.cell (World.block_lt_of_cell? w _ hw146_8)).trans hw146_8), ((HB.out.cell (World.block_lt_of_cell? w _ hw146_9)).trans hw146_9), ((HB.out.cell (World.block_lt_of_cell? w _ hw146_10)).trans hw146_10)⟩ (fun hHeld => ?_)
                              clear hK K
                              refine norm_ (a' := ?_) ?_ ?_
                              rotate_left
                              · show Act.put _ (some 39) _ = _
                                simp only [Act.put, List.setIfInBounds_toArray, List.set_cons_zero, List.set_cons_succ, i64_w, i32_w]
                                rfl
                              exact norm_ (by first | (simp only [putAll, Act.put, List.setIfInBounds_toArray, List.set_cons_zero, List.set_cons_succ]; done) | (simp only [putAll, Act.put, List.setIfInBounds_toArray, List.set_cons_zero, List.set_cons_succ]; rfl)) (hJ2_17 (v137, gb153) _ ⟨hHeld, (by (with_reducible repeat (first | apply Kd.R_alloc | apply Kd.R_drewN | apply Kd.R_drew)); exact HO138.out), (by (with_reducible repeat (first | refine blk_drewN ?_ _ | refine blk_drew ?_ | refine blk_alloc ?_ _)); exact BK126.out), (by (with_reducible repeat (first | refine blk_drewN ?_ _ | refine blk_drew ?_ | refine blk_alloc ?_ _)); exact BK135.out), (by (with_reducible repeat (first | refine blk_drewN ?_ _ | refine blk_drew ?_ | refine blk_alloc ?_ _)); exact BK153.out), GW153.out, GE153.out, NB126_153.out, NB153_126.out, NB135_153.out, NB153_135.out, (by repeat (first | (with_reducible first | exact HB.out | apply below_alloc | apply pw_below_drewN | apply below_drew1 | refine below_set ?_ GE126.out | refine below_set ?_ GE135.out | refine below_set ?_ GE153.out) | exact HB.out))⟩)
                            · skip
                              refine Kd.R_lit_step k36 _ 36 ?hg (N := 51) ?hd (xs := ([(⟨(rd_T36 l0_1 (ji29)).f0, (rd_T36 l0_1 (ji29)).f1, (rd_T36 l0_1 (ji29)).f2, (rd_T36 l0_1 (ji29)).f3, (rd_T36 l0_1 (ji29)).f4, (rd_T36 l0_1 (ji29)).f5, (rd_T36 l0_1 (ji29)).f6, (rd_T36 l0_1 (ji29)).f7, (rd_T36 l0_1 (ji29)).f8, (rd_T36 l0_1 (ji29)).f9, (rd_T36 l0_1 (ji29)).f10⟩ : S36)] : List (S36))) (inner := [.string ((rd_T36 l0_1 (ji29)).f0), .int .i64 ((rd_T36 l0_1 (ji29)).f1), .int .i64 ((rd_T36 l0_1 (ji29)).f2), .int .i64 ((rd_T36 l0_1 (ji29)).f3), .int .i64 ((rd_T36 l0_1 (ji29)).f4), .int .i64 ((rd_T36 l0_1 (ji29)).f5), .int .i64 ((rd_T36 l0_1 (ji29)).f6), .int .i64 ((rd_T36 l0_1 (ji29)).f7), .int .i64 ((rd_T36 l0_1 (ji29)).f8), .int .i64 ((rd_T36 l0_1 (ji29)).f9), .int .i64 ((rd_T36 l0_1 (ji29)).f10)]) (ok := fun _ => True) (okp := fun _ => True) ?hr ?hp (fun _ hk => hk) trivial (Below.refl _ _) (Nat.le_refl _) (by simp) ?_; (case hd => rfl); (case hg => rfl); (case hr => first | (go_simp; done) | (go_simp; rfl)); (case hp => exact (Reps.front (show Kd.M k36 _ _ _ (⟨(rd_T36 l0_1 (ji29)).f0, (rd_T36 l0_1 (ji29)).f1, (rd_T36 l0_1 (ji29)).f2, (rd_T36 l0_1 (ji29)).f3, (rd_T36 l0_1 (ji29)).f4, (rd_T36 l0_1 (ji29)).f5, (rd_T36 l0_1 (ji29)).f6, (rd_T36 l0_1 (ji29)).f7, (rd_T36 l0_1 (ji29)).f8, (rd_T36 l0_1 (ji29)).f9, (rd_T36 l0_1 (ji29)).f10⟩ : S36) [.string ((rd_T36 l0_1 (ji29)).f0), .int .i64 ((rd_T36 l0_1 (ji29)).f1), .int .i64 ((rd_T36 l0_1 (ji29)).f2), .int .i64 ((rd_T36 l0_1 (ji29)).f3), .int .i64 ((rd_T36 l0_1 (ji29)).f4), .int .i64 ((rd_T36 l0_1 (ji29)).f5), .int .i64 ((rd_T36 l0_1 (ji29)).f6), .int .i64 ((rd_T36 l0_1 (ji29)).f7), .int .i64 ((rd_T36 l0_1 (ji29)).f8), .int .i64 ((rd_T36 l0_1 (ji29)).f9), .int .i64 ((rd_T36 l0_1 (ji29)).f10)] from (k36_mkM _ _ _ (⟨(rd_T36 l0_1 (ji29)).f0, (rd_T36 l0_1 (ji29)).f1, (rd_T36 l0_1 (ji29)).f2, (rd_T36 l0_1 (ji29)).f3, (rd_T36 l0_1 (ji29)).f4, (rd_T36 l0_1 (ji29)).f5, (rd_T36 l0_1 (ji29)).f6, (rd_T36 l0_1 (ji29)).f7, (rd_T36 l0_1 (ji29)).f8, (rd_T36 l0_1 (ji29)).f9, (rd_T36 l0_1 (ji29)).f10⟩ : S36) )) rfl (Reps.none _ _) rfl))
                              intro v148 w49 ho50 hb hg_ hnew_
                              clear hg_ hnew_
                              (first | rw [← Ny147.out] at ho50 | (simp only [Int.reduceToNat] at ho50; rw [← Ny147.out] at ho50))
                              have n0_ := Aside0.mk (Kd.R_lower ho50 (below_size (by repeat (first | (with_reducible first | exact HB.out | apply below_alloc | apply pw_below_drewN | apply below_drew1 | refine below_set ?_ GE126.out | refine below_set ?_ GE135.out | refine below_set ?_ GE153.out) | exact HB.out))))
                              have n1_ := Aside0.mk (blk_below (g := gb126) (o := .cells #[.int .i64 a0_0, .slice (some ad146) l0_1.length c0_1] 26 (0, 0)) (by (with_reducible repeat (first | refine blk_drewN ?_ _ | refine blk_drew ?_ | refine blk_alloc ?_ _)); exact BK126.out) hb)
                              have n2_ := Aside0.mk (blk_below (g := gb135) (o := .cells #[.int .i64 a0_0, .slice (some ad146) y131.length c0_1] 26 (0, 0)) (by (with_reducible repeat (first | refine blk_drewN ?_ _ | refine blk_drew ?_ | refine blk_alloc ?_ _)); exact BK135.out) hb)
                              have n3_ := Aside0.mk (blk_below (g := gb153) (o := .cells #[.int .i64 0, .slice none 0 0] 26 (0, 0)) (by (with_reducible repeat (first | refine blk_drewN ?_ _ | refine blk_drew ?_ | refine blk_alloc ?_ _)); exact BK153.out) hb)
                              have n4_ := Aside0.mk (below_step (by repeat (first | (with_reducible first | exact HB.out | apply below_alloc | apply pw_below_drewN | apply below_drew1 | refine below_set ?_ GE126.out | refine below_set ?_ GE135.out | refine below_set ?_ GE153.out) | exact HB.out)) hb)
                              clear BK126
                              clear BK135
                              clear BK153
                              clear HB
                              have HO149 := n0_
                              have BK126 := n1_
                              have BK135 := n2_
                              have BK153 := n3_
                              have HB := n4_
                              clear n0_ n1_ n2_ n3_ n4_
                              clear hb ho50
                              refine hK.out _ _ ⟨(blk_cell BK126.out 0).trans rfl, (blk_cell BK126.out 1).trans rfl, ((HB.out.cell (World.block_lt_of_cell? w _ hw146_0)).trans hw146_0), ((HB.out.cell (World.block_lt_of_cell? w _ hw146_1)).trans hw146_1), ((HB.out.cell (World.block_lt_of_cell? w _ hw146_2)).trans hw146_2), ((HB.out.cell (World.block_lt_of_cell? w _ hw146_3)).trans hw146_3), ((HB.out.cell (World.block_lt_of_cell? w _ hw146_4)).trans hw146_4), ((HB.out.cell (World.block_lt_of_cell? w _ hw146_5)).trans hw146_5), ((HB.out.cell (World.block_lt_of_cell? w _ hw146_6)).trans hw146_6), ((HB.out.cell (World.block_lt_of_cell? w _ hw146_7)).trans hw146_7), ((HB.out.cell (World.block_lt_of_cell? w _ hw146_8)).trans hw146_8), ((HB.out.cell (World.block_lt_of_cell? w _ hw146_9)).trans hw146_9), ((HB.out.cell (World.block_lt_of_cell? w _ hw146_10)).trans hw146_10)⟩ (fun hHeld => ?_)
                              clear hK K
                              refine norm_ (a' := ?_) ?_ ?_
                              rotate_left
                              · show Act.put _ (some 51) _ = _
                                simp only [Act.put, List.setIfInBounds_toArray, List.set_cons_zero, List.set_cons_succ, i64_w, i32_w]
                                rfl
                              exact norm_ (by first | (simp only [putAll, Act.put, List.setIfInBounds_toArray, List.set_cons_zero, List.set_cons_succ]; done) | (simp only [putAll, Act.put, List.setIfInBounds_toArray, List.set_cons_zero, List.set_cons_succ]; rfl)) (hJ14_17 (v148, gb153) _ ⟨hHeld, (by (with_reducible repeat (first | apply Kd.R_alloc | apply Kd.R_drewN | apply Kd.R_drew)); exact HO149.out), (by (with_reducible repeat (first | refine blk_drewN ?_ _ | refine blk_drew ?_ | refine blk_alloc ?_ _)); exact BK126.out), (by (with_reducible repeat (first | refine blk_drewN ?_ _ | refine blk_drew ?_ | refine blk_alloc ?_ _)); exact BK135.out), (by (with_reducible repeat (first | refine blk_drewN ?_ _ | refine blk_drew ?_ | refine blk_alloc ?_ _)); exact BK153.out), GW153.out, GE153.out, NB126_153.out, NB153_126.out, NB135_153.out, NB153_135.out, (by repeat (first | (with_reducible first | exact HB.out | apply below_alloc | apply pw_below_drewN | apply below_drew1 | refine below_set ?_ GE126.out | refine below_set ?_ GE135.out | refine below_set ?_ GE153.out) | exact HB.out))⟩)
                        · skip
                          rintro v148 w49 ⟨hS_, h0_, h1_, h2_, h3_⟩
                          have n0_ : Aside0 (Kd.R k36 36 w49 w.heap.size (fun _ => True) v148 y147) := ⟨h0_⟩
                          have n1_ : Aside0 (w49.heap[gb126]? = some (.cells #[.int .i64 a0_0, .slice (some ad146) l0_1.length c0_1] 26 (0, 0))) := ⟨h1_⟩
                          have n2_ : Aside0 (w49.heap[gb135]? = some (.cells #[.int .i64 a0_0, .slice (some ad146) y131.length c0_1] 26 (0, 0))) := ⟨h2_⟩
                          have n3_ : Aside0 (Below w.heap.size w w49) := ⟨h3_⟩
                          clear BK126
                          clear BK135
                          clear HB
                          clear h0_ h1_ h2_ h3_
                          have HO149 := n0_
                          have BK126 := n1_
                          have BK135 := n2_
                          have HB := n3_
                          clear n0_ n1_ n2_ n3_
                          have hHeld : w49.cell? ⟨gb126, 0, none⟩ = some (.int .i64 a0_0) ∧ w49.cell? ⟨gb126, 1, none⟩ = some (.slice (some ad146) l0_1.length c0_1) ∧ w49.cell? (ad146.add (((ji29)).toNat * 11)) = some (.string ((rd_T36 l0_1 (ji29)).f0)) ∧ w49.cell? ⟨(ad146.add (((ji29)).toNat * 11)).block, (ad146.add (((ji29)).toNat * 11)).off + 1, none⟩ = some (.int .i64 ((rd_T36 l0_1 (ji29)).f1)) ∧ w49.cell? ⟨(ad146.add (((ji29)).toNat * 11)).block, (ad146.add (((ji29)).toNat * 11)).off + 2, none⟩ = some (.int .i64 ((rd_T36 l0_1 (ji29)).f2)) ∧ w49.cell? ⟨(ad146.add (((ji29)).toNat * 11)).block, (ad146.add (((ji29)).toNat * 11)).off + 3, none⟩ = some (.int .i64 ((rd_T36 l0_1 (ji29)).f3)) ∧ w49.cell? ⟨(ad146.add (((ji29)).toNat * 11)).block, (ad146.add (((ji29)).toNat * 11)).off + 4, none⟩ = some (.int .i64 ((rd_T36 l0_1 (ji29)).f4)) ∧ w49.cell? ⟨(ad146.add (((ji29)).toNat * 11)).block, (ad146.add (((ji29)).toNat * 11)).off + 5, none⟩ = some (.int .i64 ((rd_T36 l0_1 (ji29)).f5)) ∧ w49.cell? ⟨(ad146.add (((ji29)).toNat * 11)).block, (ad146.add (((ji29)).toNat * 11)).off + 6, none⟩ = some (.int .i64 ((rd_T36 l0_1 (ji29)).f6)) ∧ w49.cell? ⟨(ad146.add (((ji29)).toNat * 11)).block, (ad146.add (((ji29)).toNat * 11)).off + 7, none⟩ = some (.int .i64 ((rd_T36 l0_1 (ji29)).f7)) ∧ w49.cell? ⟨(ad146.add (((ji29)).toNat * 11)).block, (ad146.add (((ji29)).toNat * 11)).off + 8, none⟩ = some (.int .i64 ((rd_T36 l0_1 (ji29)).f8)) ∧ w49.cell? ⟨(ad146.add (((ji29)).toNat * 11)).block, (ad146.add (((ji29)).toNat * 11)).off + 9, none⟩ = some (.int .i64 ((rd_T36 l0_1 (ji29)).f9)) ∧ w49.cell? ⟨(ad146.add (((ji29)).toNat * 11)).block, (ad146.add (((ji29)).toNat * 11)).off + 10, none⟩ = some (.int .i64 ((rd_T36 l0_1 (ji29)).f10)) := hS_
                          refine norm_ (a' := ?_) ?_ ?_
                          rotate_left
                          · simp only [putAll, Act.put, List.setIfInBounds_toArray, List.set_cons_zero, List.set_cons_succ]
                            rfl
                          refine two_ (i := 2) (j := 17) (Ni := some 39) (Nj := some 7) #[true, true, true, true, true, true, true, false, true, true, true, true, true, true, true, false, false, false, false] #[true, true, false, true, true, true, true, false, true, true, true, true, true, true, true, false, false, true, false] rfl rfl rfl rfl (two_of HT_.out (by kernel_rfl)) (by decide) (by decide) (fun K hK => ?_) (fun K hK => ?_)
                          · skip
                            refine Kd.R_lit_step k36 _ 36 ?hg (N := 39) ?hd (xs := ([] : List (S36))) (inner := []) (ok := fun _ => True) (okp := fun _ => True) ?hr ?hp (fun _ hk => hk) trivial (Below.refl _ _) (Nat.le_refl _) (by simp) ?_; (case hd => rfl); (case hg => rfl); (case hr => first | (go_simp; done) | (go_simp; rfl)); (case hp => exact (Reps.none _ _))
                            intro v137 w50 ho51 hb hg_ hnew_
                            clear hg_ hnew_
                            (first | rw [← Ny136.out] at ho51 | (simp only [Int.reduceToNat] at ho51; rw [← Ny136.out] at ho51))
                            have n0_ := Aside0.mk (Kd.R_elder' (by (with_reducible repeat (first | apply Kd.R_alloc | apply Kd.R_drewN | apply Kd.R_drew)); exact HO149.out) (Kd.R_base ho51) hb)
                            have n1_ := Aside0.mk (Kd.R_lower (Kd.R_new' ho51 (Kd.R_lt (by (with_reducible repeat (first | apply Kd.R_alloc | apply Kd.R_drewN | apply Kd.R_drew)); exact HO149.out))) (below_size (by repeat (first | (with_reducible first | exact HB.out | apply below_alloc | apply pw_below_drewN | apply below_drew1 | refine below_set ?_ GE126.out | refine below_set ?_ GE135.out) | exact HB.out))))
                            have n2_ := Aside0.mk (blk_below (g := gb126) (o := .cells #[.int .i64 a0_0, .slice (some ad146) l0_1.length c0_1] 26 (0, 0)) (by (with_reducible repeat (first | refine blk_drewN ?_ _ | refine blk_drew ?_ | refine blk_alloc ?_ _)); exact BK126.out) hb)
                            have n3_ := Aside0.mk (blk_below (g := gb135) (o := .cells #[.int .i64 a0_0, .slice (some ad146) y131.length c0_1] 26 (0, 0)) (by (with_reducible repeat (first | refine blk_drewN ?_ _ | refine blk_drew ?_ | refine blk_alloc ?_ _)); exact BK135.out) hb)
                            have n4_ := Aside0.mk (below_step (by repeat (first | (with_reducible first | exact HB.out | apply below_alloc | apply pw_below_drewN | apply below_drew1 | refine below_set ?_ GE126.out | refine below_set ?_ GE135.out) | exact HB.out)) hb)
                            clear HO149
                            clear BK126
                            clear BK135
                            clear HB
                            have HO149 := n0_
                            have HO138 := n1_
                            have BK126 := n2_
                            have BK135 := n3_
                            have HB := n4_
                            clear n0_ n1_ n2_ n3_ n4_
                            clear hb ho51
                            refine hK.out _ _ ⟨(blk_cell BK126.out 0).trans rfl, (blk_cell BK126.out 1).trans rfl, ((HB.out.cell (World.block_lt_of_cell? w _ hw146_0)).trans hw146_0), ((HB.out.cell (World.block_lt_of_cell? w _ hw146_1)).trans hw146_1), ((HB.out.cell (World.block_lt_of_cell? w _ hw146_2)).trans hw146_2), ((HB.out.cell (World.block_lt_of_cell? w _ hw146_3)).trans hw146_3), ((HB.out.cell (World.block_lt_of_cell? w _ hw146_4)).trans hw146_4), ((HB.out.cell (World.block_lt_of_cell? w _ hw146_5)).trans hw146_5), ((HB.out.cell (World.block_lt_of_cell? w _ hw146_6)).trans hw146_6), ((HB.out.cell (World.block_lt_of_cell? w _ hw146_7)).trans hw146_7), ((HB.out.cell (World.block_lt_of_cell? w _ hw146_8)).trans hw146_8), ((HB.out.cell (World.block_lt_of_cell? w _ hw146_9)).trans hw146_9), ((HB.out.cell (World.block_lt_of_cell? w _ hw146_10)).trans hw146_10)⟩ (fun hHeld => ?_)
                            clear hK K
                            refine norm_ (a' := ?_) ?_ ?_
                            rotate_left
                            · show Act.put _ (some 39) _ = _
                              simp only [Act.put, List.setIfInBounds_toArray, List.set_cons_zero, List.set_cons_succ, i64_w, i32_w]
                              rfl
                            exact norm_ (by first | (simp only [putAll, Act.put, List.setIfInBounds_toArray, List.set_cons_zero, List.set_cons_succ]; done) | (simp only [putAll, Act.put, List.setIfInBounds_toArray, List.set_cons_zero, List.set_cons_succ]; rfl)) (hJ2_14 (v137, v148) _ ⟨hHeld, (by (with_reducible repeat (first | apply Kd.R_alloc | apply Kd.R_drewN | apply Kd.R_drew)); exact Kd.R_mono HO138.out (fun _ hk => hk.2)), (by (with_reducible repeat (first | apply Kd.R_alloc | apply Kd.R_drewN | apply Kd.R_drew)); exact Kd.R_mono HO149.out (fun _ hk => hk.2)), (by (with_reducible repeat (first | refine blk_drewN ?_ _ | refine blk_drew ?_ | refine blk_alloc ?_ _)); exact BK126.out), (by (with_reducible repeat (first | refine blk_drewN ?_ _ | refine blk_drew ?_ | refine blk_alloc ?_ _)); exact BK135.out), (by repeat (first | (with_reducible first | exact HB.out | apply below_alloc | apply pw_below_drewN | apply below_drew1 | refine below_set ?_ GE126.out | refine below_set ?_ GE135.out) | exact HB.out))⟩)
                          · skip
                            refine box_step ?hg (N := 7) ?hd (cs := #[.int .i64 0, .slice none 0 0]) (t := 26) ?hr ?_; (case hd => rfl); (case hg => rfl); (case hr => first | (go_simp; done) | (go_simp; rfl))
                            intro gb153 hg w50 hbox hb
                            have n0_ := Aside0.mk (Kd.R_below (by (with_reducible repeat (first | apply Kd.R_alloc | apply Kd.R_drewN | apply Kd.R_drew)); exact HO149.out) hb)
                            have n1_ := Aside0.mk (blk_below (g := gb126) (o := .cells #[.int .i64 a0_0, .slice (some ad146) l0_1.length c0_1] 26 (0, 0)) (by (with_reducible repeat (first | refine blk_drewN ?_ _ | refine blk_drew ?_ | refine blk_alloc ?_ _)); exact BK126.out) hb)
                            have n2_ := Aside0.mk (blk_below (g := gb135) (o := .cells #[.int .i64 a0_0, .slice (some ad146) y131.length c0_1] 26 (0, 0)) (by (with_reducible repeat (first | refine blk_drewN ?_ _ | refine blk_drew ?_ | refine blk_alloc ?_ _)); exact BK135.out) hb)
                            have n3_ := Aside0.mk (below_step (by repeat (first | (with_reducible first | exact HB.out | apply below_alloc | apply pw_below_drewN | apply below_drew1 | refine below_set ?_ GE126.out | refine below_set ?_ GE135.out) | exact HB.out)) hb)
                            have n4_ := Aside0.mk (hbox)
                            have n5_ := Aside0.mk ((by rw [hg]; exact (below_size (by repeat (first | (with_reducible first | exact HB.out | apply below_alloc | apply pw_below_drewN | apply below_drew1 | refine below_set ?_ GE126.out | refine below_set ?_ GE135.out) | exact HB.out))) : w.heap.size ≤ gb153))
                            have n6_ := Aside0.mk ((by rw [hg]; exact (below_size (by repeat (first | (with_reducible first | exact HB.out | apply below_alloc | apply pw_below_drewN | apply below_drew1 | refine below_set ?_ GE126.out | refine below_set ?_ GE135.out) | exact HB.out))) : w.heap.size ≤ gb153))
                            have n7_ := Aside0.mk ((by rw [hg]; exact Nat.ne_of_lt (blk_lt (g := gb126) (o := .cells #[.int .i64 a0_0, .slice (some ad146) l0_1.length c0_1] 26 (0, 0)) (by (with_reducible repeat (first | refine blk_drewN ?_ _ | refine blk_drew ?_ | refine blk_alloc ?_ _)); exact BK126.out)) : gb126 ≠ gb153))
                            have n8_ := Aside0.mk ((by rw [hg]; exact Nat.ne_of_gt (blk_lt (g := gb126) (o := .cells #[.int .i64 a0_0, .slice (some ad146) l0_1.length c0_1] 26 (0, 0)) (by (with_reducible repeat (first | refine blk_drewN ?_ _ | refine blk_drew ?_ | refine blk_alloc ?_ _)); exact BK126.out)) : gb153 ≠ gb126))
                            have n9_ := Aside0.mk ((by rw [hg]; exact Nat.ne_of_lt (blk_lt (g := gb135) (o := .cells #[.int .i64 a0_0, .slice (some ad146) y131.length c0_1] 26 (0, 0)) (by (with_reducible repeat (first | refine blk_drewN ?_ _ | refine blk_drew ?_ | refine blk_alloc ?_ _)); exact BK135.out)) : gb135 ≠ gb153))
                            have n10_ := Aside0.mk ((by rw [hg]; exact Nat.ne_of_gt (blk_lt (g := gb135) (o := .cells #[.int .i64 a0_0, .slice (some ad146) y131.length c0_1] 26 (0, 0)) (by (with_reducible repeat (first | refine blk_drewN ?_ _ | refine blk_drew ?_ | refine blk_alloc ?_ _)); exact BK135.out)) : gb153 ≠ gb135))
                            clear HO149
                            clear BK126
                            clear BK135
                            clear HB
                            have HO149 := n0_
                            have BK126 := n1_
                            have BK135 := n2_
                            have HB := n3_
                            have BK153 := n4_
                            have GW153 := n5_
                            have GE153 := n6_
                            have NB126_153 := n7_
                            have NB153_126 := n8_
                            have NB135_153 := n9_
                            have NB153_135 := n10_
                            clear n0_ n1_ n2_ n3_ n4_ n5_ n6_ n7_ n8_ n9_ n10_
                            clear hb hbox hg
                            refine hK.out _ _ ⟨(blk_cell BK126.out 0).trans rfl, (blk_cell BK126.out 1).trans rfl, ((HB.out.cell (World.block_lt_of_cell? w _ hw146_0)).trans hw146_0), ((HB.out.cell (World.block_lt_of_cell? w _ hw146_1)).trans hw146_1), ((HB.out.cell (World.block_lt_of_cell? w _ hw146_2)).trans hw146_2), ((HB.out.cell (World.block_lt_of_cell? w _ hw146_3)).trans hw146_3), ((HB.out.cell (World.block_lt_of_cell? w _ hw146_4)).trans hw146_4), ((HB.out.cell (World.block_lt_of_cell? w _ hw146_5)).trans hw146_5), ((HB.out.cell (World.block_lt_of_cell? w _ hw146_6)).trans hw146_6), ((HB.out.cell (World.block_lt_of_cell? w _ hw146_7)).trans hw146_7), ((HB.out.cell (World.block_lt_of_cell? w _ hw146_8)).trans hw146_8), ((HB.out.cell (World.block_lt_of_cell? w _ hw146_9)).trans hw146_9), ((HB.out.cell (World.block_lt_of_cell? w _ hw146_10)).trans hw146_10)⟩ (fun hHeld => ?_)
                            clear hK K
                            refine norm_ (a' := ?_) ?_ ?_
                            rotate_left
                            · show Act.put _ (some 7) _ = _
                              simp only [Act.put, List.setIfInBounds_toArray, List.set_cons_zero, List.set_cons_succ, i64_w, i32_w]
                              rfl
                            exact norm_ (by first | (simp only [putAll, Act.put, List.setIfInBounds_toArray, List.set_cons_zero, List.set_cons_succ]; done) | (simp only [putAll, Act.put, List.setIfInBounds_toArray, List.set_cons_zero, List.set_cons_succ]; rfl)) (hJ14_17 (v148, gb153) _ ⟨hHeld, (by (with_reducible repeat (first | apply Kd.R_alloc | apply Kd.R_drewN | apply Kd.R_drew)); exact HO149.out), (by (with_reducible repeat (first | refine blk_drewN ?_ _ | refine blk_drew ?_ | refine blk_alloc ?_ _)); exact BK126.out), (by (with_reducible repeat (first | refine blk_drewN ?_ _ | refine blk_drew ?_ | refine blk_alloc ?_ _)); exact BK135.out), (by (with_reducible repeat (first | refine blk_drewN ?_ _ | refine blk_drew ?_ | refine blk_alloc ?_ _)); exact BK153.out), GW153.out, GE153.out, NB126_153.out, NB153_126.out, NB135_153.out, NB153_135.out, (by repeat (first | (with_reducible first | exact HB.out | apply below_alloc | apply pw_below_drewN | apply below_drew1 | refine below_set ?_ GE126.out | refine below_set ?_ GE135.out | refine below_set ?_ GE153.out) | exact HB.out))⟩)
                      · skip
                        rintro v137 w49 ⟨hS_, h0_, h1_, h2_, h3_⟩
                        have n0_ : Aside0 (Kd.R k36 36 w49 w.heap.size (fun _ => True) v137 y136) := ⟨h0_⟩
                        have n1_ : Aside0 (w49.heap[gb126]? = some (.cells #[.int .i64 a0_0, .slice (some ad146) l0_1.length c0_1] 26 (0, 0))) := ⟨h1_⟩
                        have n2_ : Aside0 (w49.heap[gb135]? = some (.cells #[.int .i64 a0_0, .slice (some ad146) y131.length c0_1] 26 (0, 0))) := ⟨h2_⟩
                        have n3_ : Aside0 (Below w.heap.size w w49) := ⟨h3_⟩
                        clear BK126
                        clear BK135
                        clear HB
                        clear h0_ h1_ h2_ h3_
                        have HO138 := n0_
                        have BK126 := n1_
                        have BK135 := n2_
                        have HB := n3_
                        clear n0_ n1_ n2_ n3_
                        have hHeld : w49.cell? ⟨gb126, 0, none⟩ = some (.int .i64 a0_0) ∧ w49.cell? ⟨gb126, 1, none⟩ = some (.slice (some ad146) l0_1.length c0_1) ∧ w49.cell? (ad146.add (((ji29)).toNat * 11)) = some (.string ((rd_T36 l0_1 (ji29)).f0)) ∧ w49.cell? ⟨(ad146.add (((ji29)).toNat * 11)).block, (ad146.add (((ji29)).toNat * 11)).off + 1, none⟩ = some (.int .i64 ((rd_T36 l0_1 (ji29)).f1)) ∧ w49.cell? ⟨(ad146.add (((ji29)).toNat * 11)).block, (ad146.add (((ji29)).toNat * 11)).off + 2, none⟩ = some (.int .i64 ((rd_T36 l0_1 (ji29)).f2)) ∧ w49.cell? ⟨(ad146.add (((ji29)).toNat * 11)).block, (ad146.add (((ji29)).toNat * 11)).off + 3, none⟩ = some (.int .i64 ((rd_T36 l0_1 (ji29)).f3)) ∧ w49.cell? ⟨(ad146.add (((ji29)).toNat * 11)).block, (ad146.add (((ji29)).toNat * 11)).off + 4, none⟩ = some (.int .i64 ((rd_T36 l0_1 (ji29)).f4)) ∧ w49.cell? ⟨(ad146.add (((ji29)).toNat * 11)).block, (ad146.add (((ji29)).toNat * 11)).off + 5, none⟩ = some (.int .i64 ((rd_T36 l0_1 (ji29)).f5)) ∧ w49.cell? ⟨(ad146.add (((ji29)).toNat * 11)).block, (ad146.add (((ji29)).toNat * 11)).off + 6, none⟩ = some (.int .i64 ((rd_T36 l0_1 (ji29)).f6)) ∧ w49.cell? ⟨(ad146.add (((ji29)).toNat * 11)).block, (ad146.add (((ji29)).toNat * 11)).off + 7, none⟩ = some (.int .i64 ((rd_T36 l0_1 (ji29)).f7)) ∧ w49.cell? ⟨(ad146.add (((ji29)).toNat * 11)).block, (ad146.add (((ji29)).toNat * 11)).off + 8, none⟩ = some (.int .i64 ((rd_T36 l0_1 (ji29)).f8)) ∧ w49.cell? ⟨(ad146.add (((ji29)).toNat * 11)).block, (ad146.add (((ji29)).toNat * 11)).off + 9, none⟩ = some (.int .i64 ((rd_T36 l0_1 (ji29)).f9)) ∧ w49.cell? ⟨(ad146.add (((ji29)).toNat * 11)).block, (ad146.add (((ji29)).toNat * 11)).off + 10, none⟩ = some (.int .i64 ((rd_T36 l0_1 (ji29)).f10)) := hS_
                        refine norm_ (a' := ?_) ?_ ?_
                        rotate_left
                        · simp only [putAll, Act.put, List.setIfInBounds_toArray, List.set_cons_zero, List.set_cons_succ]
                          rfl
                        refine three_ (i := 7) (j := 14) (k := 17) (Ni := some 44) (Nj := some 51) (Nk := some 7) #[true, true, true, true, true, true, true, true, true, true, true, true, true, true, false, false, false, false, false] #[true, true, true, true, true, true, true, false, true, true, true, true, true, true, true, false, false, false, false] #[true, true, true, true, true, true, true, false, true, true, true, true, true, true, false, false, false, true, false] rfl rfl rfl rfl rfl rfl (three_of HT_.out (by kernel_rfl)) (by decide) (by decide) (by decide) (fun K hK => ?_) (fun K hK => ?_) (fun K hK => ?_)
                        · skip
                          refine Kd.R_append_rows_step k36 (w0 := w) w.heap.size (by rfl) (.tmp 39) (.tmp 43) 24 36 (.agg #[(.string ⟨#[]⟩), (.int .i64 0), (.int .i64 0), (.int .i64 0), (.int .i64 0), (.int .i64 0), (.int .i64 0), (.int .i64 0), (.int .i64 0), (.int .i64 0), (.int .i64 0)]) 96 rfl Tryd.underlying24 info36 rfl (by decide) (by omega) v137 y136 y139 _ _ _ (fun _ => True) (fun _ => False) rfl rfl ?aO ?aR (fun _ _ h => h) (fun _ h => h.elim) ?aF ?aB ?aS ?aL ?_
                          (case aR => repeat (first | exact (Kd.C_below HR142.out HB.out) | (with_reducible refine Kd.C_alloc ?_ _) | (with_reducible refine Kd.C_drewN ?_ _) | (with_reducible refine Kd.C_drew ?_)))
                          (case aB => exact (by repeat (first | (with_reducible first | exact HB.out | apply below_alloc | apply pw_below_drewN | apply below_drew1 | refine below_set ?_ GE126.out | refine below_set ?_ GE135.out) | exact HB.out)))
                          (case aF => exact (fun _ _ => trivial))
                          (case aO => exact (by (with_reducible repeat (first | apply Kd.R_alloc | apply Kd.R_drewN | apply Kd.R_drew)); exact HO138.out))
                          (case aS => exact (below_size (by repeat (first | (with_reducible first | exact HB.out | apply below_alloc | apply pw_below_drewN | apply below_drew1 | refine below_set ?_ GE126.out | refine below_set ?_ GE135.out) | exact HB.out))))
                          (case aL => have := LMc28.out; omega)
                          intro v144 w50 ho hb hg hat
                          rw [← Ny143.out] at ho
                          have n0_ := Aside0.mk (blk_grown (g := gb126) (o := .cells #[.int .i64 a0_0, .slice (some ad146) l0_1.length c0_1] 26 (0, 0)) (by (with_reducible repeat (first | refine blk_drewN ?_ _ | refine blk_drew ?_ | refine blk_alloc ?_ _)); exact BK126.out) hg (Kd.R_ne HO138.out BK126.out (by decide)))
                          have n1_ := Aside0.mk (blk_grown (g := gb135) (o := .cells #[.int .i64 a0_0, .slice (some ad146) y131.length c0_1] 26 (0, 0)) (by (with_reducible repeat (first | refine blk_drewN ?_ _ | refine blk_drew ?_ | refine blk_alloc ?_ _)); exact BK135.out) hg (Kd.R_ne HO138.out BK135.out (by decide)))
                          have n2_ := Aside0.mk (hb)
                          have n3_ := Aside0.mk (ho)
                          clear BK126
                          clear BK135
                          clear HB
                          clear HO138
                          have BK126 := n0_
                          have BK135 := n1_
                          have HB := n2_
                          have HO145 := n3_
                          clear n0_ n1_ n2_ n3_
                          clear ho hb hg hat
                          refine hK.out _ _ ⟨(blk_cell BK126.out 0).trans rfl, (blk_cell BK126.out 1).trans rfl, ((HB.out.cell (World.block_lt_of_cell? w _ hw146_0)).trans hw146_0), ((HB.out.cell (World.block_lt_of_cell? w _ hw146_1)).trans hw146_1), ((HB.out.cell (World.block_lt_of_cell? w _ hw146_2)).trans hw146_2), ((HB.out.cell (World.block_lt_of_cell? w _ hw146_3)).trans hw146_3), ((HB.out.cell (World.block_lt_of_cell? w _ hw146_4)).trans hw146_4), ((HB.out.cell (World.block_lt_of_cell? w _ hw146_5)).trans hw146_5), ((HB.out.cell (World.block_lt_of_cell? w _ hw146_6)).trans hw146_6), ((HB.out.cell (World.block_lt_of_cell? w _ hw146_7)).trans hw146_7), ((HB.out.cell (World.block_lt_of_cell? w _ hw146_8)).trans hw146_8), ((HB.out.cell (World.block_lt_of_cell? w _ hw146_9)).trans hw146_9), ((HB.out.cell (World.block_lt_of_cell? w _ hw146_10)).trans hw146_10)⟩ (fun hHeld => ?_)
                          clear hK K
                          refine norm_ (a' := ?_) ?_ ?_
                          rotate_left
                          · show Act.put _ (some 44) _ = _
                            simp only [Act.put, List.setIfInBounds_toArray, List.set_cons_zero, List.set_cons_succ, i64_w, i32_w]
                            rfl
                          exact norm_ (by first | (simp only [putAll, Act.put, List.setIfInBounds_toArray, List.set_cons_zero, List.set_cons_succ]; done) | (simp only [putAll, Act.put, List.setIfInBounds_toArray, List.set_cons_zero, List.set_cons_succ]; rfl)) (hJ2_7 (v137, v144) _ ⟨hHeld, (by (with_reducible repeat (first | apply Kd.R_alloc | apply Kd.R_drewN | apply Kd.R_drew)); exact HO145.out), (by (with_reducible repeat (first | refine blk_drewN ?_ _ | refine blk_drew ?_ | refine blk_alloc ?_ _)); exact BK126.out), (by (with_reducible repeat (first | refine blk_drewN ?_ _ | refine blk_drew ?_ | refine blk_alloc ?_ _)); exact BK135.out), (by repeat (first | (with_reducible first | exact HB.out | apply below_alloc | apply pw_below_drewN | apply below_drew1 | refine below_set ?_ GE126.out | refine below_set ?_ GE135.out) | exact HB.out))⟩)
                        · skip
                          refine Kd.R_lit_step k36 _ 36 ?hg (N := 51) ?hd (xs := ([(⟨(rd_T36 l0_1 (ji29)).f0, (rd_T36 l0_1 (ji29)).f1, (rd_T36 l0_1 (ji29)).f2, (rd_T36 l0_1 (ji29)).f3, (rd_T36 l0_1 (ji29)).f4, (rd_T36 l0_1 (ji29)).f5, (rd_T36 l0_1 (ji29)).f6, (rd_T36 l0_1 (ji29)).f7, (rd_T36 l0_1 (ji29)).f8, (rd_T36 l0_1 (ji29)).f9, (rd_T36 l0_1 (ji29)).f10⟩ : S36)] : List (S36))) (inner := [.string ((rd_T36 l0_1 (ji29)).f0), .int .i64 ((rd_T36 l0_1 (ji29)).f1), .int .i64 ((rd_T36 l0_1 (ji29)).f2), .int .i64 ((rd_T36 l0_1 (ji29)).f3), .int .i64 ((rd_T36 l0_1 (ji29)).f4), .int .i64 ((rd_T36 l0_1 (ji29)).f5), .int .i64 ((rd_T36 l0_1 (ji29)).f6), .int .i64 ((rd_T36 l0_1 (ji29)).f7), .int .i64 ((rd_T36 l0_1 (ji29)).f8), .int .i64 ((rd_T36 l0_1 (ji29)).f9), .int .i64 ((rd_T36 l0_1 (ji29)).f10)]) (ok := fun _ => True) (okp := fun _ => True) ?hr ?hp (fun _ hk => hk) trivial (Below.refl _ _) (Nat.le_refl _) (by simp) ?_; (case hd => rfl); (case hg => rfl); (case hr => first | (go_simp; done) | (go_simp; rfl)); (case hp => exact (Reps.front (show Kd.M k36 _ _ _ (⟨(rd_T36 l0_1 (ji29)).f0, (rd_T36 l0_1 (ji29)).f1, (rd_T36 l0_1 (ji29)).f2, (rd_T36 l0_1 (ji29)).f3, (rd_T36 l0_1 (ji29)).f4, (rd_T36 l0_1 (ji29)).f5, (rd_T36 l0_1 (ji29)).f6, (rd_T36 l0_1 (ji29)).f7, (rd_T36 l0_1 (ji29)).f8, (rd_T36 l0_1 (ji29)).f9, (rd_T36 l0_1 (ji29)).f10⟩ : S36) [.string ((rd_T36 l0_1 (ji29)).f0), .int .i64 ((rd_T36 l0_1 (ji29)).f1), .int .i64 ((rd_T36 l0_1 (ji29)).f2), .int .i64 ((rd_T36 l0_1 (ji29)).f3), .int .i64 ((rd_T36 l0_1 (ji29)).f4), .int .i64 ((rd_T36 l0_1 (ji29)).f5), .int .i64 ((rd_T36 l0_1 (ji29)).f6), .int .i64 ((rd_T36 l0_1 (ji29)).f7), .int .i64 ((rd_T36 l0_1 (ji29)).f8), .int .i64 ((rd_T36 l0_1 (ji29)).f9), .int .i64 ((rd_T36 l0_1 (ji29)).f10)] from (k36_mkM _ _ _ (⟨(rd_T36 l0_1 (ji29)).f0, (rd_T36 l0_1 (ji29)).f1, (rd_T36 l0_1 (ji29)).f2, (rd_T36 l0_1 (ji29)).f3, (rd_T36 l0_1 (ji29)).f4, (rd_T36 l0_1 (ji29)).f5, (rd_T36 l0_1 (ji29)).f6, (rd_T36 l0_1 (ji29)).f7, (rd_T36 l0_1 (ji29)).f8, (rd_T36 l0_1 (ji29)).f9, (rd_T36 l0_1 (ji29)).f10⟩ : S36) )) rfl (Reps.none _ _) rfl))
                          intro v148 w50 ho51 hb hg_ hnew_
                          clear hg_ hnew_
                          (first | rw [← Ny147.out] at ho51 | (simp only [Int.reduceToNat] at ho51; rw [← Ny147.out] at ho51))
                          have n0_ := Aside0.mk (Kd.R_elder' (by (with_reducible repeat (first | apply Kd.R_alloc | apply Kd.R_drewN | apply Kd.R_drew)); exact HO138.out) (Kd.R_base ho51) hb)
                          have n1_ := Aside0.mk (Kd.R_lower (Kd.R_new' ho51 (Kd.R_lt (by (with_reducible repeat (first | apply Kd.R_alloc | apply Kd.R_drewN | apply Kd.R_drew)); exact HO138.out))) (below_size (by repeat (first | (with_reducible first | exact HB.out | apply below_alloc | apply pw_below_drewN | apply below_drew1 | refine below_set ?_ GE126.out | refine below_set ?_ GE135.out) | exact HB.out))))
                          have n2_ := Aside0.mk (blk_below (g := gb126) (o := .cells #[.int .i64 a0_0, .slice (some ad146) l0_1.length c0_1] 26 (0, 0)) (by (with_reducible repeat (first | refine blk_drewN ?_ _ | refine blk_drew ?_ | refine blk_alloc ?_ _)); exact BK126.out) hb)
                          have n3_ := Aside0.mk (blk_below (g := gb135) (o := .cells #[.int .i64 a0_0, .slice (some ad146) y131.length c0_1] 26 (0, 0)) (by (with_reducible repeat (first | refine blk_drewN ?_ _ | refine blk_drew ?_ | refine blk_alloc ?_ _)); exact BK135.out) hb)
                          have n4_ := Aside0.mk (below_step (by repeat (first | (with_reducible first | exact HB.out | apply below_alloc | apply pw_below_drewN | apply below_drew1 | refine below_set ?_ GE126.out | refine below_set ?_ GE135.out) | exact HB.out)) hb)
                          clear HO138
                          clear BK126
                          clear BK135
                          clear HB
                          have HO138 := n0_
                          have HO149 := n1_
                          have BK126 := n2_
                          have BK135 := n3_
                          have HB := n4_
                          clear n0_ n1_ n2_ n3_ n4_
                          clear hb ho51
                          refine hK.out _ _ ⟨(blk_cell BK126.out 0).trans rfl, (blk_cell BK126.out 1).trans rfl, ((HB.out.cell (World.block_lt_of_cell? w _ hw146_0)).trans hw146_0), ((HB.out.cell (World.block_lt_of_cell? w _ hw146_1)).trans hw146_1), ((HB.out.cell (World.block_lt_of_cell? w _ hw146_2)).trans hw146_2), ((HB.out.cell (World.block_lt_of_cell? w _ hw146_3)).trans hw146_3), ((HB.out.cell (World.block_lt_of_cell? w _ hw146_4)).trans hw146_4), ((HB.out.cell (World.block_lt_of_cell? w _ hw146_5)).trans hw146_5), ((HB.out.cell (World.block_lt_of_cell? w _ hw146_6)).trans hw146_6), ((HB.out.cell (World.block_lt_of_cell? w _ hw146_7)).trans hw146_7), ((HB.out.cell (World.block_lt_of_cell? w _ hw146_8)).trans hw146_8), ((HB.out.cell (World.block_lt_of_cell? w _ hw146_9)).trans hw146_9), ((HB.out.cell (World.block_lt_of_cell? w _ hw146_10)).trans hw146_10)⟩ (fun hHeld => ?_)
                          clear hK K
                          refine norm_ (a' := ?_) ?_ ?_
                          rotate_left
                          · show Act.put _ (some 51) _ = _
                            simp only [Act.put, List.setIfInBounds_toArray, List.set_cons_zero, List.set_cons_succ, i64_w, i32_w]
                            rfl
                          exact norm_ (by first | (simp only [putAll, Act.put, List.setIfInBounds_toArray, List.set_cons_zero, List.set_cons_succ]; done) | (simp only [putAll, Act.put, List.setIfInBounds_toArray, List.set_cons_zero, List.set_cons_succ]; rfl)) (hJ2_14 (v137, v148) _ ⟨hHeld, (by (with_reducible repeat (first | apply Kd.R_alloc | apply Kd.R_drewN | apply Kd.R_drew)); exact Kd.R_mono HO138.out (fun _ hk => hk.2)), (by (with_reducible repeat (first | apply Kd.R_alloc | apply Kd.R_drewN | apply Kd.R_drew)); exact Kd.R_mono HO149.out (fun _ hk => hk.2)), (by (with_reducible repeat (first | refine blk_drewN ?_ _ | refine blk_drew ?_ | refine blk_alloc ?_ _)); exact BK126.out), (by (with_reducible repeat (first | refine blk_drewN ?_ _ | refine blk_drew ?_ | refine blk_alloc ?_ _)); exact BK135.out), (by repeat (first | (with_reducible first | exact HB.out | apply below_alloc | apply pw_below_drewN | apply below_drew1 | refine below_set ?_ GE126.out | refine below_set ?_ GE135.out) | exact HB.out))⟩)
                        · skip
                          refine box_step ?hg (N := 7) ?hd (cs := #[.int .i64 0, .slice none 0 0]) (t := 26) ?hr ?_; (case hd => rfl); (case hg => rfl); (case hr => first | (go_simp; done) | (go_simp; rfl))
                          intro gb153 hg w50 hbox hb
                          have n0_ := Aside0.mk (Kd.R_below (by (with_reducible repeat (first | apply Kd.R_alloc | apply Kd.R_drewN | apply Kd.R_drew)); exact HO138.out) hb)
                          have n1_ := Aside0.mk (blk_below (g := gb126) (o := .cells #[.int .i64 a0_0, .slice (some ad146) l0_1.length c0_1] 26 (0, 0)) (by (with_reducible repeat (first | refine blk_drewN ?_ _ | refine blk_drew ?_ | refine blk_alloc ?_ _)); exact BK126.out) hb)
                          have n2_ := Aside0.mk (blk_below (g := gb135) (o := .cells #[.int .i64 a0_0, .slice (some ad146) y131.length c0_1] 26 (0, 0)) (by (with_reducible repeat (first | refine blk_drewN ?_ _ | refine blk_drew ?_ | refine blk_alloc ?_ _)); exact BK135.out) hb)
                          have n3_ := Aside0.mk (below_step (by repeat (first | (with_reducible first | exact HB.out | apply below_alloc | apply pw_below_drewN | apply below_drew1 | refine below_set ?_ GE126.out | refine below_set ?_ GE135.out) | exact HB.out)) hb)
                          have n4_ := Aside0.mk (hbox)
                          have n5_ := Aside0.mk ((by rw [hg]; exact (below_size (by repeat (first | (with_reducible first | exact HB.out | apply below_alloc | apply pw_below_drewN | apply below_drew1 | refine below_set ?_ GE126.out | refine below_set ?_ GE135.out) | exact HB.out))) : w.heap.size ≤ gb153))
                          have n6_ := Aside0.mk ((by rw [hg]; exact (below_size (by repeat (first | (with_reducible first | exact HB.out | apply below_alloc | apply pw_below_drewN | apply below_drew1 | refine below_set ?_ GE126.out | refine below_set ?_ GE135.out) | exact HB.out))) : w.heap.size ≤ gb153))
                          have n7_ := Aside0.mk ((by rw [hg]; exact Nat.ne_of_lt (blk_lt (g := gb126) (o := .cells #[.int .i64 a0_0, .slice (some ad146) l0_1.length c0_1] 26 (0, 0)) (by (with_reducible repeat (first | refine blk_drewN ?_ _ | refine blk_drew ?_ | refine blk_alloc ?_ _)); exact BK126.out)) : gb126 ≠ gb153))
                          have n8_ := Aside0.mk ((by rw [hg]; exact Nat.ne_of_gt (blk_lt (g := gb126) (o := .cells #[.int .i64 a0_0, .slice (some ad146) l0_1.length c0_1] 26 (0, 0)) (by (with_reducible repeat (first | refine blk_drewN ?_ _ | refine blk_drew ?_ | refine blk_alloc ?_ _)); exact BK126.out)) : gb153 ≠ gb126))
                          have n9_ := Aside0.mk ((by rw [hg]; exact Nat.ne_of_lt (blk_lt (g := gb135) (o := .cells #[.int .i64 a0_0, .slice (some ad146) y131.length c0_1] 26 (0, 0)) (by (with_reducible repeat (first | refine blk_drewN ?_ _ | refine blk_drew ?_ | refine blk_alloc ?_ _)); exact BK135.out)) : gb135 ≠ gb153))
                          have n10_ := Aside0.mk ((by rw [hg]; exact Nat.ne_of_gt (blk_lt (g := gb135) (o := .cells #[.int .i64 a0_0, .slice (some ad146) y131.length c0_1] 26 (0, 0)) (by (with_reducible repeat (first | refine blk_drewN ?_ _ | refine blk_drew ?_ | refine blk_alloc ?_ _)); exact BK135.out)) : gb153 ≠ gb135))
                          clear HO138
                          clear BK126
                          clear BK135
                          clear HB
                          have HO138 := n0_
                          have BK126 := n1_
                          have BK135 := n2_
                          have HB := n3_
                          have BK153 := n4_
                          have GW153 := n5_
                          have GE153 := n6_
                          have NB126_153 := n7_
                          have NB153_126 := n8_
                          have NB135_153 := n9_
                          have NB153_135 := n10_
                          clear n0_ n1_ n2_ n3_ n4_ n5_ n6_ n7_ n8_ n9_ n10_
                          clear hb hbox hg
                          refine hK.out _ _ ⟨(blk_cell BK126.out 0).trans rfl, (blk_cell BK126.out 1).trans rfl, ((HB.out.cell (World.block_lt_of_cell? w _ hw146_0)).trans hw146_0), ((HB.out.cell (World.block_lt_of_cell? w _ hw146_1)).trans hw146_1), ((HB.out.cell (World.block_lt_of_cell? w _ hw146_2)).trans hw146_2), ((HB.out.cell (World.block_lt_of_cell? w _ hw146_3)).trans hw146_3), ((HB.out.cell (World.block_lt_of_cell? w _ hw146_4)).trans hw146_4), ((HB.out.cell (World.block_lt_of_cell? w _ hw146_5)).trans hw146_5), ((HB.out.cell (World.block_lt_of_cell? w _ hw146_6)).trans hw146_6), ((HB.out.cell (World.block_lt_of_cell? w _ hw146_7)).trans hw146_7), ((HB.out.cell (World.block_lt_of_cell? w _ hw146_8)).trans hw146_8), ((HB.out.cell (World.block_lt_of_cell? w _ hw146_9)).trans hw146_9), ((HB.out.cell (World.block_lt_of_cell? w _ hw146_10)).trans hw146_10)⟩ (fun hHeld => ?_)
                          clear hK K
                          refine norm_ (a' := ?_) ?_ ?_
                          rotate_left
                          · show Act.put _ (some 7) _ = _
                            simp only [Act.put, List.setIfInBounds_toArray, List.set_cons_zero, List.set_cons_succ, i64_w, i32_w]
                            rfl
                          exact norm_ (by first | (simp only [putAll, Act.put, List.setIfInBounds_toArray, List.set_cons_zero, List.set_cons_succ]; done) | (simp only [putAll, Act.put, List.setIfInBounds_toArray, List.set_cons_zero, List.set_cons_succ]; rfl)) (hJ2_17 (v137, gb153) _ ⟨hHeld, (by (with_reducible repeat (first | apply Kd.R_alloc | apply Kd.R_drewN | apply Kd.R_drew)); exact HO138.out), (by (with_reducible repeat (first | refine blk_drewN ?_ _ | refine blk_drew ?_ | refine blk_alloc ?_ _)); exact BK126.out), (by (with_reducible repeat (first | refine blk_drewN ?_ _ | refine blk_drew ?_ | refine blk_alloc ?_ _)); exact BK135.out), (by (with_reducible repeat (first | refine blk_drewN ?_ _ | refine blk_drew ?_ | refine blk_alloc ?_ _)); exact BK153.out), GW153.out, GE153.out, NB126_153.out, NB153_126.out, NB135_153.out, NB153_135.out, (by repeat (first | (with_reducible first | exact HB.out | apply below_alloc | apply pw_below_drewN | apply below_drew1 | refine below_set ?_ GE126.out | refine below_set ?_ GE135.out | refine below_set ?_ GE153.out) | exact HB.out))⟩)
                    · skip
                      rintro ⟨v148, gb153⟩ w50 ⟨hS_, h0_, h1_, h2_, h3_, h4_, h5_, h6_, h7_, h8_, h9_, h10_⟩
                      have n0_ : Aside0 (Kd.R k36 36 w50 w.heap.size (fun _ => True) v148 y147) := ⟨h0_⟩
                      have n1_ : Aside0 (w50.heap[gb126]? = some (.cells #[.int .i64 a0_0, .slice (some ad146) l0_1.length c0_1] 26 (0, 0))) := ⟨h1_⟩
                      have n2_ : Aside0 (w50.heap[gb135]? = some (.cells #[.int .i64 a0_0, .slice (some ad146) y131.length c0_1] 26 (0, 0))) := ⟨h2_⟩
                      have n3_ : Aside0 (w50.heap[gb153]? = some (.cells #[.int .i64 0, .slice none 0 0] 26 (0, 0))) := ⟨h3_⟩
                      have n4_ : Aside0 (w.heap.size ≤ gb153) := ⟨h4_⟩
                      have n5_ : Aside0 (w.heap.size ≤ gb153) := ⟨h5_⟩
                      have n6_ : Aside0 (gb126 ≠ gb153) := ⟨h6_⟩
                      have n7_ : Aside0 (gb153 ≠ gb126) := ⟨h7_⟩
                      have n8_ : Aside0 (gb135 ≠ gb153) := ⟨h8_⟩
                      have n9_ : Aside0 (gb153 ≠ gb135) := ⟨h9_⟩
                      have n10_ : Aside0 (Below w.heap.size w w50) := ⟨h10_⟩
                      clear BK126
                      clear BK135
                      clear HB
                      clear h0_ h1_ h2_ h3_ h4_ h5_ h6_ h7_ h8_ h9_ h10_
                      have HO149 := n0_
                      have BK126 := n1_
                      have BK135 := n2_
                      have BK153 := n3_
                      have GW153 := n4_
                      have GE153 := n5_
                      have NB126_153 := n6_
                      have NB153_126 := n7_
                      have NB135_153 := n8_
                      have NB153_135 := n9_
                      have HB := n10_
                      clear n0_ n1_ n2_ n3_ n4_ n5_ n6_ n7_ n8_ n9_ n10_
                      have hHeld : w50.cell? ⟨gb126, 0, none⟩ = some (.int .i64 a0_0) ∧ w50.cell? ⟨gb126, 1, none⟩ = some (.slice (some ad146) l0_1.length c0_1) ∧ w50.cell? (ad146.add (((ji29)).toNat * 11)) = some (.string ((rd_T36 l0_1 (ji29)).f0)) ∧ w50.cell? ⟨(ad146.add (((ji29)).toNat * 11)).block, (ad146.add (((ji29)).toNat * 11)).off + 1, none⟩ = some (.int .i64 ((rd_T36 l0_1 (ji29)).f1)) ∧ w50.cell? ⟨(ad146.add (((ji29)).toNat * 11)).block, (ad146.add (((ji29)).toNat * 11)).off + 2, none⟩ = some (.int .i64 ((rd_T36 l0_1 (ji29)).f2)) ∧ w50.cell? ⟨(ad146.add (((ji29)).toNat * 11)).block, (ad146.add (((ji29)).toNat * 11)).off + 3, none⟩ = some (.int .i64 ((rd_T36 l0_1 (ji29)).f3)) ∧ w50.cell? ⟨(ad146.add (((ji29)).toNat * 11)).block, (ad146.add (((ji29)).toNat * 11)).off + 4, none⟩ = some (.int .i64 ((rd_T36 l0_1 (ji29)).f4)) ∧ w50.cell? ⟨(ad146.add (((ji29)).toNat * 11)).block, (ad146.add (((ji29)).toNat * 11)).off + 5, none⟩ = some (.int .i64 ((rd_T36 l0_1 (ji29)).f5)) ∧ w50.cell? ⟨(ad146.add (((ji29)).toNat * 11)).block, (ad146.add (((ji29)).toNat * 11)).off + 6, none⟩ = some (.int .i64 ((rd_T36 l0_1 (ji29)).f6)) ∧ w50.cell? ⟨(ad146.add (((ji29)).toNat * 11)).block, (ad146.add (((ji29)).toNat * 11)).off + 7, none⟩ = some (.int .i64 ((rd_T36 l0_1 (ji29)).f7)) ∧ w50.cell? ⟨(ad146.add (((ji29)).toNat * 11)).block, (ad146.add (((ji29)).toNat * 11)).off + 8, none⟩ = some (.int .i64 ((rd_T36 l0_1 (ji29)).f8)) ∧ w50.cell? ⟨(ad146.add (((ji29)).toNat * 11)).block, (ad146.add (((ji29)).toNat * 11)).off + 9, none⟩ = some (.int .i64 ((rd_T36 l0_1 (ji29)).f9)) ∧ w50.cell? ⟨(ad146.add (((ji29)).toNat * 11)).block, (ad146.add (((ji29)).toNat * 11)).off + 10, none⟩ = some (.int .i64 ((rd_T36 l0_1 (ji29)).f10)) := hS_
                      refine norm_ (a' := ?_) ?_ ?_
                      rotate_left
                      · simp only [putAll, Act.put, List.setIfInBounds_toArray, List.set_cons_zero, List.set_cons_succ]
                        rfl
                      refine one_ (i := 2) (N := some 39) #[true, true, true, true, true, true, true, false, true, true, true, true, true, true, true, false, false, true, false] rfl rfl (one_of HT_.out (by kernel_rfl)) (by decide) (fun K hK => ?_)
                      refine Kd.R_lit_step k36 _ 36 ?hg (N := 39) ?hd (xs := ([] : List (S36))) (inner := []) (ok := fun _ => True) (okp := fun _ => True) ?hr ?hp (fun _ hk => hk) trivial (Below.refl _ _) (Nat.le_refl _) (by simp) ?_; (case hd => rfl); (case hg => rfl); (case hr => first | (go_simp; done) | (go_simp; rfl)); (case hp => exact (Reps.none _ _))
                      intro v137 w51 ho52 hb hg_ hnew_
                      clear hg_ hnew_
                      (first | rw [← Ny136.out] at ho52 | (simp only [Int.reduceToNat] at ho52; rw [← Ny136.out] at ho52))
                      have n0_ := Aside0.mk (Kd.R_elder' (by (with_reducible repeat (first | apply Kd.R_alloc | apply Kd.R_drewN | apply Kd.R_drew)); exact HO149.out) (Kd.R_base ho52) hb)
                      have n1_ := Aside0.mk (Kd.R_lower (Kd.R_new' ho52 (Kd.R_lt (by (with_reducible repeat (first | apply Kd.R_alloc | apply Kd.R_drewN | apply Kd.R_drew)); exact HO149.out))) (below_size (by repeat (first | (with_reducible first | exact HB.out | apply below_alloc | apply pw_below_drewN | apply below_drew1 | refine below_set ?_ GE126.out | refine below_set ?_ GE135.out | refine below_set ?_ GE153.out) | exact HB.out))))
                      have n2_ := Aside0.mk (blk_below (g := gb126) (o := .cells #[.int .i64 a0_0, .slice (some ad146) l0_1.length c0_1] 26 (0, 0)) (by (with_reducible repeat (first | refine blk_drewN ?_ _ | refine blk_drew ?_ | refine blk_alloc ?_ _)); exact BK126.out) hb)
                      have n3_ := Aside0.mk (blk_below (g := gb135) (o := .cells #[.int .i64 a0_0, .slice (some ad146) y131.length c0_1] 26 (0, 0)) (by (with_reducible repeat (first | refine blk_drewN ?_ _ | refine blk_drew ?_ | refine blk_alloc ?_ _)); exact BK135.out) hb)
                      have n4_ := Aside0.mk (blk_below (g := gb153) (o := .cells #[.int .i64 0, .slice none 0 0] 26 (0, 0)) (by (with_reducible repeat (first | refine blk_drewN ?_ _ | refine blk_drew ?_ | refine blk_alloc ?_ _)); exact BK153.out) hb)
                      have n5_ := Aside0.mk (below_step (by repeat (first | (with_reducible first | exact HB.out | apply below_alloc | apply pw_below_drewN | apply below_drew1 | refine below_set ?_ GE126.out | refine below_set ?_ GE135.out | refine below_set ?_ GE153.out) | exact HB.out)) hb)
                      clear HO149
                      clear BK126
                      clear BK135
                      clear BK153
                      clear HB
                      have HO149 := n0_
                      have HO138 := n1_
                      have BK126 := n2_
                      have BK135 := n3_
                      have BK153 := n4_
                      have HB := n5_
                      clear n0_ n1_ n2_ n3_ n4_ n5_
                      clear hb ho52
                      refine hK.out _ _ ⟨(blk_cell BK126.out 0).trans rfl, (blk_cell BK126.out 1).trans rfl, ((HB.out.cell (World.block_lt_of_cell? w _ hw146_0)).trans hw146_0), ((HB.out.cell (World.block_lt_of_cell? w _ hw146_1)).trans hw146_1), ((HB.out.cell (World.block_lt_of_cell? w _ hw146_2)).trans hw146_2), ((HB.out.cell (World.block_lt_of_cell? w _ hw146_3)).trans hw146_3), ((HB.out.cell (World.block_lt_of_cell? w _ hw146_4)).trans hw146_4), ((HB.out.cell (World.block_lt_of_cell? w _ hw146_5)).trans hw146_5), ((HB.out.cell (World.block_lt_of_cell? w _ hw146_6)).trans hw146_6), ((HB.out.cell (World.block_lt_of_cell? w _ hw146_7)).trans hw146_7), ((HB.out.cell (World.block_lt_of_cell? w _ hw146_8)).trans hw146_8), ((HB.out.cell (World.block_lt_of_cell? w _ hw146_9)).trans hw146_9), ((HB.out.cell (World.block_lt_of_cell? w _ hw146_10)).trans hw146_10)⟩ (fun hHeld => ?_)
                      clear hK K
                      refine norm_ (a' := ?_) ?_ ?_
                      rotate_left
                      · show Act.put _ (some 39) _ = _
                        simp only [Act.put, List.setIfInBounds_toArray, List.set_cons_zero, List.set_cons_succ, i64_w, i32_w]
                        rfl
                      exact norm_ (by first | (simp only [putAll, Act.put, List.setIfInBounds_toArray, List.set_cons_zero, List.set_cons_succ]; done) | (simp only [putAll, Act.put, List.setIfInBounds_toArray, List.set_cons_zero, List.set_cons_succ]; rfl)) (hJ2_14_17 (v137, v148, gb153) _ ⟨hHeld, (by (with_reducible repeat (first | apply Kd.R_alloc | apply Kd.R_drewN | apply Kd.R_drew)); exact Kd.R_mono HO138.out (fun _ hk => hk.2)), (by (with_reducible repeat (first | apply Kd.R_alloc | apply Kd.R_drewN | apply Kd.R_drew)); exact Kd.R_mono HO149.out (fun _ hk => hk.2)), (by (with_reducible repeat (first | refine blk_drewN ?_ _ | refine blk_drew ?_ | refine blk_alloc ?_ _)); exact BK126.out), (by (with_reducible repeat (first | refine blk_drewN ?_ _ | refine blk_drew ?_ | refine blk_alloc ?_ _)); exact BK135.out), (by (with_reducible repeat (first | refine blk_drewN ?_ _ | refine blk_drew ?_ | refine blk_alloc ?_ _)); exact BK153.out), GW153.out, GE153.out, NB126_153.out, NB153_126.out, NB135_153.out, NB153_135.out, (by repeat (first | (with_reducible first | exact HB.out | apply below_alloc | apply pw_below_drewN | apply below_drew1 | refine below_set ?_ GE126.out | refine below_set ?_ GE135.out | refine below_set ?_ GE153.out) | exact HB.out))⟩)
                  · skip
                    rintro ⟨v137, gb153⟩ w50 ⟨hS_, h0_, h1_, h2_, h3_, h4_, h5_, h6_, h7_, h8_, h9_, h10_⟩
                    have n0_ : Aside0 (Kd.R k36 36 w50 w.heap.size (fun _ => True) v137 y136) := ⟨h0_⟩
                    have n1_ : Aside0 (w50.heap[gb126]? = some (.cells #[.int .i64 a0_0, .slice (some ad146) l0_1.length c0_1] 26 (0, 0))) := ⟨h1_⟩
                    have n2_ : Aside0 (w50.heap[gb135]? = some (.cells #[.int .i64 a0_0, .slice (some ad146) y131.length c0_1] 26 (0, 0))) := ⟨h2_⟩
                    have n3_ : Aside0 (w50.heap[gb153]? = some (.cells #[.int .i64 0, .slice none 0 0] 26 (0, 0))) := ⟨h3_⟩
                    have n4_ : Aside0 (w.heap.size ≤ gb153) := ⟨h4_⟩
                    have n5_ : Aside0 (w.heap.size ≤ gb153) := ⟨h5_⟩
                    have n6_ : Aside0 (gb126 ≠ gb153) := ⟨h6_⟩
                    have n7_ : Aside0 (gb153 ≠ gb126) := ⟨h7_⟩
                    have n8_ : Aside0 (gb135 ≠ gb153) := ⟨h8_⟩
                    have n9_ : Aside0 (gb153 ≠ gb135) := ⟨h9_⟩
                    have n10_ : Aside0 (Below w.heap.size w w50) := ⟨h10_⟩
                    clear BK126
                    clear BK135
                    clear HB
                    clear h0_ h1_ h2_ h3_ h4_ h5_ h6_ h7_ h8_ h9_ h10_
                    have HO138 := n0_
                    have BK126 := n1_
                    have BK135 := n2_
                    have BK153 := n3_
                    have GW153 := n4_
                    have GE153 := n5_
                    have NB126_153 := n6_
                    have NB153_126 := n7_
                    have NB135_153 := n8_
                    have NB153_135 := n9_
                    have HB := n10_
                    clear n0_ n1_ n2_ n3_ n4_ n5_ n6_ n7_ n8_ n9_ n10_
                    have hHeld : w50.cell? ⟨gb126, 0, none⟩ = some (.int .i64 a0_0) ∧ w50.cell? ⟨gb126, 1, none⟩ = some (.slice (some ad146) l0_1.length c0_1) ∧ w50.cell? (ad146.add (((ji29)).toNat * 11)) = some (.string ((rd_T36 l0_1 (ji29)).f0)) ∧ w50.cell? ⟨(ad146.add (((ji29)).toNat * 11)).block, (ad146.add (((ji29)).toNat * 11)).off + 1, none⟩ = some (.int .i64 ((rd_T36 l0_1 (ji29)).f1)) ∧ w50.cell? ⟨(ad146.add (((ji29)).toNat * 11)).block, (ad146.add (((ji29)).toNat * 11)).off + 2, none⟩ = some (.int .i64 ((rd_T36 l0_1 (ji29)).f2)) ∧ w50.cell? ⟨(ad146.add (((ji29)).toNat * 11)).block, (ad146.add (((ji29)).toNat * 11)).off + 3, none⟩ = some (.int .i64 ((rd_T36 l0_1 (ji29)).f3)) ∧ w50.cell? ⟨(ad146.add (((ji29)).toNat * 11)).block, (ad146.add (((ji29)).toNat * 11)).off + 4, none⟩ = some (.int .i64 ((rd_T36 l0_1 (ji29)).f4)) ∧ w50.cell? ⟨(ad146.add (((ji29)).toNat * 11)).block, (ad146.add (((ji29)).toNat * 11)).off + 5, none⟩ = some (.int .i64 ((rd_T36 l0_1 (ji29)).f5)) ∧ w50.cell? ⟨(ad146.add (((ji29)).toNat * 11)).block, (ad146.add (((ji29)).toNat * 11)).off + 6, none⟩ = some (.int .i64 ((rd_T36 l0_1 (ji29)).f6)) ∧ w50.cell? ⟨(ad146.add (((ji29)).toNat * 11)).block, (ad146.add (((ji29)).toNat * 11)).off + 7, none⟩ = some (.int .i64 ((rd_T36 l0_1 (ji29)).f7)) ∧ w50.cell? ⟨(ad146.add (((ji29)).toNat * 11)).block, (ad146.add (((ji29)).toNat * 11)).off + 8, none⟩ = some (.int .i64 ((rd_T36 l0_1 (ji29)).f8)) ∧ w50.cell? ⟨(ad146.add (((ji29)).toNat * 11)).block, (ad146.add (((ji29)).toNat * 11)).off + 9, none⟩ = some (.int .i64 ((rd_T36 l0_1 (ji29)).f9)) ∧ w50.cell? ⟨(ad146.add (((ji29)).toNat * 11)).block, (ad146.add (((ji29)).toNat * 11)).off + 10, none⟩ = some (.int .i64 ((rd_T36 l0_1 (ji29)).f10)) := hS_
                    refine norm_ (a' := ?_) ?_ ?_
                    rotate_left
                    · simp only [putAll, Act.put, List.setIfInBounds_toArray, List.set_cons_zero, List.set_cons_succ]
                      rfl
                    refine two_ (i := 7) (j := 14) (Ni := some 44) (Nj := some 51) #[true, true, true, true, true, true, true, true, true, true, true, true, true, true, false, false, false, true, false] #[true, true, true, true, true, true, true, false, true, true, true, true, true, true, true, false, false, true, false] rfl rfl rfl rfl (two_of HT_.out (by kernel_rfl)) (by decide) (by decide) (fun K hK => ?_) (fun K hK => ?_)
                    · skip
                      refine Kd.R_append_rows_step k36 (w0 := w) w.heap.size (by rfl) (.tmp 39) (.tmp 43) 24 36 (.agg #[(.string ⟨#[]⟩), (.int .i64 0), (.int .i64 0), (.int .i64 0), (.int .i64 0), (.int .i64 0), (.int .i64 0), (.int .i64 0), (.int .i64 0), (.int .i64 0), (.int .i64 0)]) 96 rfl Tryd.underlying24 info36 rfl (by decide) (by omega) v137 y136 y139 _ _ _ (fun _ => True) (fun _ => False) rfl rfl ?aO ?aR (fun _ _ h => h) (fun _ h => h.elim) ?aF ?aB ?aS ?aL ?_
                      (case aR => repeat (first | exact (Kd.C_below HR142.out HB.out) | (with_reducible refine Kd.C_alloc ?_ _) | (with_reducible refine Kd.C_drewN ?_ _) | (with_reducible refine Kd.C_drew ?_)))
                      (case aB => exact (by repeat (first | (with_reducible first | exact HB.out | apply below_alloc | apply pw_below_drewN | apply below_drew1 | refine below_set ?_ GE126.out | refine below_set ?_ GE135.out | refine below_set ?_ GE153.out) | exact HB.out)))
                      (case aF => exact (fun _ _ => trivial))
                      (case aO => exact (by (with_reducible repeat (first | apply Kd.R_alloc | apply Kd.R_drewN | apply Kd.R_drew)); exact HO138.out))
                      (case aS => exact (below_size (by repeat (first | (with_reducible first | exact HB.out | apply below_alloc | apply pw_below_drewN | apply below_drew1 | refine below_set ?_ GE126.out | refine below_set ?_ GE135.out | refine below_set ?_ GE153.out) | exact HB.out))))
                      (case aL => have := LMc28.out; omega)
                      intro v144 w51 ho hb hg hat
                      rw [← Ny143.out] at ho
                      have n0_ := Aside0.mk (blk_grown (g := gb126) (o := .cells #[.int .i64 a0_0, .slice (some ad146) l0_1.length c0_1] 26 (0, 0)) (by (with_reducible repeat (first | refine blk_drewN ?_ _ | refine blk_drew ?_ | refine blk_alloc ?_ _)); exact BK126.out) hg (Kd.R_ne HO138.out BK126.out (by decide)))
                      have n1_ := Aside0.mk (blk_grown (g := gb135) (o := .cells #[.int .i64 a0_0, .slice (some ad146) y131.length c0_1] 26 (0, 0)) (by (with_reducible repeat (first | refine blk_drewN ?_ _ | refine blk_drew ?_ | refine blk_alloc ?_ _)); exact BK135.out) hg (Kd.R_ne HO138.out BK135.out (by decide)))
                      have n2_ := Aside0.mk (blk_grown (g := gb153) (o := .cells #[.int .i64 0, .slice none 0 0] 26 (0, 0)) (by (with_reducible repeat (first | refine blk_drewN ?_ _ | refine blk_drew ?_ | refine blk_alloc ?_ _)); exact BK153.out) hg (Kd.R_ne HO138.out BK153.out (by decide)))
                      have n3_ := Aside0.mk (hb)
                      have n4_ := Aside0.mk (ho)
                      clear BK126
                      clear BK135
                      clear BK153
                      clear HB
                      clear HO138
                      have BK126 := n0_
                      have BK135 := n1_
                      have BK153 := n2_
                      have HB := n3_
                      have HO145 := n4_
                      clear n0_ n1_ n2_ n3_ n4_
                      clear ho hb hg hat
                      refine hK.out _ _ ⟨(blk_cell BK126.out 0).trans rfl, (blk_cell BK126.out 1).trans rfl, ((HB.out.cell (World.block_lt_of_cell? w _ hw146_0)).trans hw146_0), ((HB.out.cell (World.block_lt_of_cell? w _ hw146_1)).trans hw146_1), ((HB.out.cell (World.block_lt_of_cell? w _ hw146_2)).trans hw146_2), ((HB.out.cell (World.block_lt_of_cell? w _ hw146_3)).trans hw146_3), ((HB.out.cell (World.block_lt_of_cell? w _ hw146_4)).trans hw146_4), ((HB.out.cell (World.block_lt_of_cell? w _ hw146_5)).trans hw146_5), ((HB.out.cell (World.block_lt_of_cell? w _ hw146_6)).trans hw146_6), ((HB.out.cell (World.block_lt_of_cell? w _ hw146_7)).trans hw146_7), ((HB.out.cell (World.block_lt_of_cell? w _ hw146_8)).trans hw146_8), ((HB.out.cell (World.block_lt_of_cell? w _ hw146_9)).trans hw146_9), ((HB.out.cell (World.block_lt_of_cell? w _ hw146_10)).trans hw146_10)⟩ (fun hHeld => ?_)
                      clear hK K
                      refine norm_ (a' := ?_) ?_ ?_
                      rotate_left
                      · show Act.put _ (some 44) _ = _
                        simp only [Act.put, List.setIfInBounds_toArray, List.set_cons_zero, List.set_cons_succ, i64_w, i32_w]
                        rfl
                      exact norm_ (by first | (simp only [putAll, Act.put, List.setIfInBounds_toArray, List.set_cons_zero, List.set_cons_succ]; done) | (simp only [putAll, Act.put, List.setIfInBounds_toArray, List.set_cons_zero, List.set_cons_succ]; rfl)) (hJ2_7_17 (v137, v144, gb153) _ ⟨hHeld, (by (with_reducible repeat (first | apply Kd.R_alloc | apply Kd.R_drewN | apply Kd.R_drew)); exact HO145.out), (by (with_reducible repeat (first | refine blk_drewN ?_ _ | refine blk_drew ?_ | refine blk_alloc ?_ _)); exact BK126.out), (by (with_reducible repeat (first | refine blk_drewN ?_ _ | refine blk_drew ?_ | refine blk_alloc ?_ _)); exact BK135.out), (by (with_reducible repeat (first | refine blk_drewN ?_ _ | refine blk_drew ?_ | refine blk_alloc ?_ _)); exact BK153.out), GW153.out, GE153.out, NB126_153.out, NB153_126.out, NB135_153.out, NB153_135.out, (by repeat (first | (with_reducible first | exact HB.out | apply below_alloc | apply pw_below_drewN | apply below_drew1 | refine below_set ?_ GE126.out | refine below_set ?_ GE135.out | refine below_set ?_ GE153.out) | exact HB.out))⟩)
                    · skip
                      refine Kd.R_lit_step k36 _ 36 ?hg (N := 51) ?hd (xs := ([(⟨(rd_T36 l0_1 (ji29)).f0, (rd_T36 l0_1 (ji29)).f1, (rd_T36 l0_1 (ji29)).f2, (rd_T36 l0_1 (ji29)).f3, (rd_T36 l0_1 (ji29)).f4, (rd_T36 l0_1 (ji29)).f5, (rd_T36 l0_1 (ji29)).f6, (rd_T36 l0_1 (ji29)).f7, (rd_T36 l0_1 (ji29)).f8, (rd_T36 l0_1 (ji29)).f9, (rd_T36 l0_1 (ji29)).f10⟩ : S36)] : List (S36))) (inner := [.string ((rd_T36 l0_1 (ji29)).f0), .int .i64 ((rd_T36 l0_1 (ji29)).f1), .int .i64 ((rd_T36 l0_1 (ji29)).f2), .int .i64 ((rd_T36 l0_1 (ji29)).f3), .int .i64 ((rd_T36 l0_1 (ji29)).f4), .int .i64 ((rd_T36 l0_1 (ji29)).f5), .int .i64 ((rd_T36 l0_1 (ji29)).f6), .int .i64 ((rd_T36 l0_1 (ji29)).f7), .int .i64 ((rd_T36 l0_1 (ji29)).f8), .int .i64 ((rd_T36 l0_1 (ji29)).f9), .int .i64 ((rd_T36 l0_1 (ji29)).f10)]) (ok := fun _ => True) (okp := fun _ => True) ?hr ?hp (fun _ hk => hk) trivial (Below.refl _ _) (Nat.le_refl _) (by simp) ?_; (case hd => rfl); (case hg => rfl); (case hr => first | (go_simp; done) | (go_simp; rfl)); (case hp => exact (Reps.front (show Kd.M k36 _ _ _ (⟨(rd_T36 l0_1 (ji29)).f0, (rd_T36 l0_1 (ji29)).f1, (rd_T36 l0_1 (ji29)).f2, (rd_T36 l0_1 (ji29)).f3, (rd_T36 l0_1 (ji29)).f4, (rd_T36 l0_1 (ji29)).f5, (rd_T36 l0_1 (ji29)).f6, (rd_T36 l0_1 (ji29)).f7, (rd_T36 l0_1 (ji29)).f8, (rd_T36 l0_1 (ji29)).f9, (rd_T36 l0_1 (ji29)).f10⟩ : S36) [.string ((rd_T36 l0_1 (ji29)).f0), .int .i64 ((rd_T36 l0_1 (ji29)).f1), .int .i64 ((rd_T36 l0_1 (ji29)).f2), .int .i64 ((rd_T36 l0_1 (ji29)).f3), .int .i64 ((rd_T36 l0_1 (ji29)).f4), .int .i64 ((rd_T36 l0_1 (ji29)).f5), .int .i64 ((rd_T36 l0_1 (ji29)).f6), .int .i64 ((rd_T36 l0_1 (ji29)).f7), .int .i64 ((rd_T36 l0_1 (ji29)).f8), .int .i64 ((rd_T36 l0_1 (ji29)).f9), .int .i64 ((rd_T36 l0_1 (ji29)).f10)] from (k36_mkM _ _ _ (⟨(rd_T36 l0_1 (ji29)).f0, (rd_T36 l0_1 (ji29)).f1, (rd_T36 l0_1 (ji29)).f2, (rd_T36 l0_1 (ji29)).f3, (rd_T36 l0_1 (ji29)).f4, (rd_T36 l0_1 (ji29)).f5, (rd_T36 l0_1 (ji29)).f6, (rd_T36 l0_1 (ji29)).f7, (rd_T36 l0_1 (ji29)).f8, (rd_T36 l0_1 (ji29)).f9, (rd_T36 l0_1 (ji29)).f10⟩ : S36) )) rfl (Reps.none _ _) rfl))
                      intro v148 w51 ho52 hb hg_ hnew_
                      clear hg_ hnew_
                      (first | rw [← Ny147.out] at ho52 | (simp only [Int.reduceToNat] at ho52; rw [← Ny147.out] at ho52))
                      have n0_ := Aside0.mk (Kd.R_elder' (by (with_reducible repeat (first | apply Kd.R_alloc | apply Kd.R_drewN | apply Kd.R_drew)); exact HO138.out) (Kd.R_base ho52) hb)
                      have n1_ := Aside0.mk (Kd.R_lower (Kd.R_new' ho52 (Kd.R_lt (by (with_reducible repeat (first | apply Kd.R_alloc | apply Kd.R_drewN | apply Kd.R_drew)); exact HO138.out))) (below_size (by repeat (first | (with_reducible first | exact HB.out | apply below_alloc | apply pw_below_drewN | apply below_drew1 | refine below_set ?_ GE126.out | refine below_set ?_ GE135.out | refine below_set ?_ GE153.out) | exact HB.out))))
                      have n2_ := Aside0.mk (blk_below (g := gb126) (o := .cells #[.int .i64 a0_0, .slice (some ad146) l0_1.length c0_1] 26 (0, 0)) (by (with_reducible repeat (first | refine blk_drewN ?_ _ | refine blk_drew ?_ | refine blk_alloc ?_ _)); exact BK126.out) hb)
                      have n3_ := Aside0.mk (blk_below (g := gb135) (o := .cells #[.int .i64 a0_0, .slice (some ad146) y131.length c0_1] 26 (0, 0)) (by (with_reducible repeat (first | refine blk_drewN ?_ _ | refine blk_drew ?_ | refine blk_alloc ?_ _)); exact BK135.out) hb)
                      have n4_ := Aside0.mk (blk_below (g := gb153) (o := .cells #[.int .i64 0, .slice none 0 0] 26 (0, 0)) (by (with_reducible repeat (first | refine blk_drewN ?_ _ | refine blk_drew ?_ | refine blk_alloc ?_ _)); exact BK153.out) hb)
                      have n5_ := Aside0.mk (below_step (by repeat (first | (with_reducible first | exact HB.out | apply below_alloc | apply pw_below_drewN | apply below_drew1 | refine below_set ?_ GE126.out | refine below_set ?_ GE135.out | refine below_set ?_ GE153.out) | exact HB.out)) hb)
                      clear HO138
                      clear BK126
                      clear BK135
                      clear BK153
                      clear HB
                      have HO138 := n0_
                      have HO149 := n1_
                      have BK126 := n2_
                      have BK135 := n3_
                      have BK153 := n4_
                      have HB := n5_
                      clear n0_ n1_ n2_ n3_ n4_ n5_
                      clear hb ho52
                      refine hK.out _ _ ⟨(blk_cell BK126.out 0).trans rfl, (blk_cell BK126.out 1).trans rfl, ((HB.out.cell (World.block_lt_of_cell? w _ hw146_0)).trans hw146_0), ((HB.out.cell (World.block_lt_of_cell? w _ hw146_1)).trans hw146_1), ((HB.out.cell (World.block_lt_of_cell? w _ hw146_2)).trans hw146_2), ((HB.out.cell (World.block_lt_of_cell? w _ hw146_3)).trans hw146_3), ((HB.out.cell (World.block_lt_of_cell? w _ hw146_4)).trans hw146_4), ((HB.out.cell (World.block_lt_of_cell? w _ hw146_5)).trans hw146_5), ((HB.out.cell (World.block_lt_of_cell? w _ hw146_6)).trans hw146_6), ((HB.out.cell (World.block_lt_of_cell? w _ hw146_7)).trans hw146_7), ((HB.out.cell (World.block_lt_of_cell? w _ hw146_8)).trans hw146_8), ((HB.out.cell (World.block_lt_of_cell? w _ hw146_9)).trans hw146_9), ((HB.out.cell (World.block_lt_of_cell? w _ hw146_10)).trans hw146_10)⟩ (fun hHeld => ?_)
                      clear hK K
                      refine norm_ (a' := ?_) ?_ ?_
                      rotate_left
                      · show Act.put _ (some 51) _ = _
                        simp only [Act.put, List.setIfInBounds_toArray, List.set_cons_zero, List.set_cons_succ, i64_w, i32_w]
                        rfl
                      exact norm_ (by first | (simp only [putAll, Act.put, List.setIfInBounds_toArray, List.set_cons_zero, List.set_cons_succ]; done) | (simp only [putAll, Act.put, List.setIfInBounds_toArray, List.set_cons_zero, List.set_cons_succ]; rfl)) (hJ2_14_17 (v137, v148, gb153) _ ⟨hHeld, (by (with_reducible repeat (first | apply Kd.R_alloc | apply Kd.R_drewN | apply Kd.R_drew)); exact Kd.R_mono HO138.out (fun _ hk => hk.2)), (by (with_reducible repeat (first | apply Kd.R_alloc | apply Kd.R_drewN | apply Kd.R_drew)); exact Kd.R_mono HO149.out (fun _ hk => hk.2)), (by (with_reducible repeat (first | refine blk_drewN ?_ _ | refine blk_drew ?_ | refine blk_alloc ?_ _)); exact BK126.out), (by (with_reducible repeat (first | refine blk_drewN ?_ _ | refine blk_drew ?_ | refine blk_alloc ?_ _)); exact BK135.out), (by (with_reducible repeat (first | refine blk_drewN ?_ _ | refine blk_drew ?_ | refine blk_alloc ?_ _)); exact BK153.out), GW153.out, GE153.out, NB126_153.out, NB153_126.out, NB135_153.out, NB153_135.out, (by repeat (first | (with_reducible first | exact HB.out | apply below_alloc | apply pw_below_drewN | apply below_drew1 | refine below_set ?_ GE126.out | refine below_set ?_ GE135.out | refine below_set ?_ GE153.out) | exact HB.out))⟩)
                · skip
                  rintro ⟨v137, v148⟩ w51 ⟨hS_, h0_, h1_, h2_, h3_, h4_⟩
                  have n0_ : Aside0 (Kd.R k36 36 w51 w.heap.size (fun k_ => some k_ ≠ (v148 : Value).ownBlock) v137 y136) := ⟨h0_⟩
                  have n1_ : Aside0 (Kd.R k36 36 w51 w.heap.size (fun k_ => some k_ ≠ (v137 : Value).ownBlock) v148 y147) := ⟨h1_⟩
                  have n2_ : Aside0 (w51.heap[gb126]? = some (.cells #[.int .i64 a0_0, .slice (some ad146) l0_1.length c0_1] 26 (0, 0))) := ⟨h2_⟩
                  have n3_ : Aside0 (w51.heap[gb135]? = some (.cells #[.int .i64 a0_0, .slice (some ad146) y131.length c0_1] 26 (0, 0))) := ⟨h3_⟩
                  have n4_ : Aside0 (Below w.heap.size w w51) := ⟨h4_⟩
                  clear BK126
                  clear BK135
                  clear HB
                  clear h0_ h1_ h2_ h3_ h4_
                  have HO138 := n0_
                  have HO149 := n1_
                  have BK126 := n2_
                  have BK135 := n3_
                  have HB := n4_
                  clear n0_ n1_ n2_ n3_ n4_
                  have hHeld : w51.cell? ⟨gb126, 0, none⟩ = some (.int .i64 a0_0) ∧ w51.cell? ⟨gb126, 1, none⟩ = some (.slice (some ad146) l0_1.length c0_1) ∧ w51.cell? (ad146.add (((ji29)).toNat * 11)) = some (.string ((rd_T36 l0_1 (ji29)).f0)) ∧ w51.cell? ⟨(ad146.add (((ji29)).toNat * 11)).block, (ad146.add (((ji29)).toNat * 11)).off + 1, none⟩ = some (.int .i64 ((rd_T36 l0_1 (ji29)).f1)) ∧ w51.cell? ⟨(ad146.add (((ji29)).toNat * 11)).block, (ad146.add (((ji29)).toNat * 11)).off + 2, none⟩ = some (.int .i64 ((rd_T36 l0_1 (ji29)).f2)) ∧ w51.cell? ⟨(ad146.add (((ji29)).toNat * 11)).block, (ad146.add (((ji29)).toNat * 11)).off + 3, none⟩ = some (.int .i64 ((rd_T36 l0_1 (ji29)).f3)) ∧ w51.cell? ⟨(ad146.add (((ji29)).toNat * 11)).block, (ad146.add (((ji29)).toNat * 11)).off + 4, none⟩ = some (.int .i64 ((rd_T36 l0_1 (ji29)).f4)) ∧ w51.cell? ⟨(ad146.add (((ji29)).toNat * 11)).block, (ad146.add (((ji29)).toNat * 11)).off + 5, none⟩ = some (.int .i64 ((rd_T36 l0_1 (ji29)).f5)) ∧ w51.cell? ⟨(ad146.add (((ji29)).toNat * 11)).block, (ad146.add (((ji29)).toNat * 11)).off + 6, none⟩ = some (.int .i64 ((rd_T36 l0_1 (ji29)).f6)) ∧ w51.cell? ⟨(ad146.add (((ji29)).toNat * 11)).block, (ad146.add (((ji29)).toNat * 11)).off + 7, none⟩ = some (.int .i64 ((rd_T36 l0_1 (ji29)).f7)) ∧ w51.cell? ⟨(ad146.add (((ji29)).toNat * 11)).block, (ad146.add (((ji29)).toNat * 11)).off + 8, none⟩ = some (.int .i64 ((rd_T36 l0_1 (ji29)).f8)) ∧ w51.cell? ⟨(ad146.add (((ji29)).toNat * 11)).block, (ad146.add (((ji29)).toNat * 11)).off + 9, none⟩ = some (.int .i64 ((rd_T36 l0_1 (ji29)).f9)) ∧ w51.cell? ⟨(ad146.add (((ji29)).toNat * 11)).block, (ad146.add (((ji29)).toNat * 11)).off + 10, none⟩ = some (.int .i64 ((rd_T36 l0_1 (ji29)).f10)) := hS_
                  refine norm_ (a' := ?_) ?_ ?_
                  rotate_left
                  · simp only [putAll, Act.put, List.setIfInBounds_toArray, List.set_cons_zero, List.set_cons_succ]
                    rfl
                  refine two_ (i := 7) (j := 17) (Ni := some 44) (Nj := some 7) #[true, true, true, true, true, true, true, true, true, true, true, true, true, true, true, false, false, false, false] #[true, true, true, true, true, true, true, false, true, true, true, true, true, true, true, false, false, true, false] rfl rfl rfl rfl (two_of HT_.out (by kernel_rfl)) (by decide) (by decide) (fun K hK => ?_) (fun K hK => ?_)
                  · skip
                    refine Kd.R_append_rows_step k36 (w0 := w) w.heap.size (by rfl) (.tmp 39) (.tmp 43) 24 36 (.agg #[(.string ⟨#[]⟩), (.int .i64 0), (.int .i64 0), (.int .i64 0), (.int .i64 0), (.int .i64 0), (.int .i64 0), (.int .i64 0), (.int .i64 0), (.int .i64 0), (.int .i64 0)]) 96 rfl Tryd.underlying24 info36 rfl (by decide) (by omega) v137 y136 y139 _ _ _ (fun k_ => some k_ ≠ (v148 : Value).ownBlock) (fun _ => False) rfl rfl ?aO ?aR (fun _ _ h => h) (fun _ h => h.elim) ?aF ?aB ?aS ?aL ?_
                    (case aR => repeat (first | exact (Kd.C_below HR142.out HB.out) | (with_reducible refine Kd.C_alloc ?_ _) | (with_reducible refine Kd.C_drewN ?_ _) | (with_reducible refine Kd.C_drew ?_)))
                    (case aB => exact (by repeat (first | (with_reducible first | exact HB.out | apply below_alloc | apply pw_below_drewN | apply below_drew1 | refine below_set ?_ GE126.out | refine below_set ?_ GE135.out) | exact HB.out)))
                    (case aF => exact (fun k_ hk => Kd.fresh' (Kd.R_lt (by (with_reducible repeat (first | apply Kd.R_alloc | apply Kd.R_drewN | apply Kd.R_drew)); exact HO149.out)) k_ hk))
                    (case aO => exact (by (with_reducible repeat (first | apply Kd.R_alloc | apply Kd.R_drewN | apply Kd.R_drew)); exact HO138.out))
                    (case aS => exact (below_size (by repeat (first | (with_reducible first | exact HB.out | apply below_alloc | apply pw_below_drewN | apply below_drew1 | refine below_set ?_ GE126.out | refine below_set ?_ GE135.out) | exact HB.out))))
                    (case aL => have := LMc28.out; omega)
                    intro v144 w52 ho hb hg hat
                    rw [← Ny143.out] at ho
                    have n0_ := Aside0.mk (blk_grown (g := gb126) (o := .cells #[.int .i64 a0_0, .slice (some ad146) l0_1.length c0_1] 26 (0, 0)) (by (with_reducible repeat (first | refine blk_drewN ?_ _ | refine blk_drew ?_ | refine blk_alloc ?_ _)); exact BK126.out) hg (Kd.R_ne HO138.out BK126.out (by decide)))
                    have n1_ := Aside0.mk (blk_grown (g := gb135) (o := .cells #[.int .i64 a0_0, .slice (some ad146) y131.length c0_1] 26 (0, 0)) (by (with_reducible repeat (first | refine blk_drewN ?_ _ | refine blk_drew ?_ | refine blk_alloc ?_ _)); exact BK135.out) hg (Kd.R_ne HO138.out BK135.out (by decide)))
                    have n2_ := Aside0.mk (Kd.R_after (ok := (fun _ => True)) (by (with_reducible repeat (first | apply Kd.R_alloc | apply Kd.R_drewN | apply Kd.R_drew)); exact Kd.R_mono HO149.out (fun _ hk => ⟨trivial, hk⟩)) hg hat)
                    have n3_ := Aside0.mk (hb)
                    have n4_ := Aside0.mk (ho)
                    clear BK126
                    clear BK135
                    clear HO149
                    clear HB
                    clear HO138
                    have BK126 := n0_
                    have BK135 := n1_
                    have HO149 := n2_
                    have HB := n3_
                    have HO145 := n4_
                    clear n0_ n1_ n2_ n3_ n4_
                    clear ho hb hg hat
                    refine hK.out _ _ ⟨(blk_cell BK126.out 0).trans rfl, (blk_cell BK126.out 1).trans rfl, ((HB.out.cell (World.block_lt_of_cell? w _ hw146_0)).trans hw146_0), ((HB.out.cell (World.block_lt_of_cell? w _ hw146_1)).trans hw146_1), ((HB.out.cell (World.block_lt_of_cell? w _ hw146_2)).trans hw146_2), ((HB.out.cell (World.block_lt_of_cell? w _ hw146_3)).trans hw146_3), ((HB.out.cell (World.block_lt_of_cell? w _ hw146_4)).trans hw146_4), ((HB.out.cell (World.block_lt_of_cell? w _ hw146_5)).trans hw146_5), ((HB.out.cell (World.block_lt_of_cell? w _ hw146_6)).trans hw146_6), ((HB.out.cell (World.block_lt_of_cell? w _ hw146_7)).trans hw146_7), ((HB.out.cell (World.block_lt_of_cell? w _ hw146_8)).trans hw146_8), ((HB.out.cell (World.block_lt_of_cell? w _ hw146_9)).trans hw146_9), ((HB.out.cell (World.block_lt_of_cell? w _ hw146_10)).trans hw146_10)⟩ (fun hHeld => ?_)
                    clear hK K
                    refine norm_ (a' := ?_) ?_ ?_
                    rotate_left
                    · show Act.put _ (some 44) _ = _
                      simp only [Act.put, List.setIfInBounds_toArray, List.set_cons_zero, List.set_cons_succ, i64_w, i32_w]
                      rfl
                    exact norm_ (by first | (simp only [putAll, Act.put, List.setIfInBounds_toArray, List.set_cons_zero, List.set_cons_succ]; done) | (simp only [putAll, Act.put, List.setIfInBounds_toArray, List.set_cons_zero, List.set_cons_succ]; rfl)) (hJ2_7_14 (v137, v144, v148) _ ⟨hHeld, (by (with_reducible repeat (first | apply Kd.R_alloc | apply Kd.R_drewN | apply Kd.R_drew)); exact HO145.out), (by (with_reducible repeat (first | apply Kd.R_alloc | apply Kd.R_drewN | apply Kd.R_drew)); exact Kd.R_mono HO149.out (fun _ hk => hk.2)), (by (with_reducible repeat (first | refine blk_drewN ?_ _ | refine blk_drew ?_ | refine blk_alloc ?_ _)); exact BK126.out), (by (with_reducible repeat (first | refine blk_drewN ?_ _ | refine blk_drew ?_ | refine blk_alloc ?_ _)); exact BK135.out), (by repeat (first | (with_reducible first | exact HB.out | apply below_alloc | apply pw_below_drewN | apply below_drew1 | refine below_set ?_ GE126.out | refine below_set ?_ GE135.out) | exact HB.out))⟩)
                  · skip
                    refine box_step ?hg (N := 7) ?hd (cs := #[.int .i64 0, .slice none 0 0]) (t := 26) ?hr ?_; (case hd => rfl); (case hg => rfl); (case hr => first | (go_simp; done) | (go_simp; rfl))
                    intro gb153 hg w52 hbox hb
                    have n0_ := Aside0.mk (Kd.R_below (by (with_reducible repeat (first | apply Kd.R_alloc | apply Kd.R_drewN | apply Kd.R_drew)); exact HO138.out) hb)
                    have n1_ := Aside0.mk (Kd.R_below (by (with_reducible repeat (first | apply Kd.R_alloc | apply Kd.R_drewN | apply Kd.R_drew)); exact HO149.out) hb)
                    have n2_ := Aside0.mk (blk_below (g := gb126) (o := .cells #[.int .i64 a0_0, .slice (some ad146) l0_1.length c0_1] 26 (0, 0)) (by (with_reducible repeat (first | refine blk_drewN ?_ _ | refine blk_drew ?_ | refine blk_alloc ?_ _)); exact BK126.out) hb)
                    have n3_ := Aside0.mk (blk_below (g := gb135) (o := .cells #[.int .i64 a0_0, .slice (some ad146) y131.length c0_1] 26 (0, 0)) (by (with_reducible repeat (first | refine blk_drewN ?_ _ | refine blk_drew ?_ | refine blk_alloc ?_ _)); exact BK135.out) hb)
                    have n4_ := Aside0.mk (below_step (by repeat (first | (with_reducible first | exact HB.out | apply below_alloc | apply pw_below_drewN | apply below_drew1 | refine below_set ?_ GE126.out | refine below_set ?_ GE135.out) | exact HB.out)) hb)
                    have n5_ := Aside0.mk (hbox)
                    have n6_ := Aside0.mk ((by rw [hg]; exact (below_size (by repeat (first | (with_reducible first | exact HB.out | apply below_alloc | apply pw_below_drewN | apply below_drew1 | refine below_set ?_ GE126.out | refine below_set ?_ GE135.out) | exact HB.out))) : w.heap.size ≤ gb153))
                    have n7_ := Aside0.mk ((by rw [hg]; exact (below_size (by repeat (first | (with_reducible first | exact HB.out | apply below_alloc | apply pw_below_drewN | apply below_drew1 | refine below_set ?_ GE126.out | refine below_set ?_ GE135.out) | exact HB.out))) : w.heap.size ≤ gb153))
                    have n8_ := Aside0.mk ((by rw [hg]; exact Nat.ne_of_lt (blk_lt (g := gb126) (o := .cells #[.int .i64 a0_0, .slice (some ad146) l0_1.length c0_1] 26 (0, 0)) (by (with_reducible repeat (first | refine blk_drewN ?_ _ | refine blk_drew ?_ | refine blk_alloc ?_ _)); exact BK126.out)) : gb126 ≠ gb153))
                    have n9_ := Aside0.mk ((by rw [hg]; exact Nat.ne_of_gt (blk_lt (g := gb126) (o := .cells #[.int .i64 a0_0, .slice (some ad146) l0_1.length c0_1] 26 (0, 0)) (by (with_reducible repeat (first | refine blk_drewN ?_ _ | refine blk_drew ?_ | refine blk_alloc ?_ _)); exact BK126.out)) : gb153 ≠ gb126))
                    have n10_ := Aside0.mk ((by rw [hg]; exact Nat.ne_of_lt (blk_lt (g := gb135) (o := .cells #[.int .i64 a0_0, .slice (some ad146) y131.length c0_1] 26 (0, 0)) (by (with_reducible repeat (first | refine blk_drewN ?_ _ | refine blk_drew ?_ | refine blk_alloc ?_ _)); exact BK135.out)) : gb135 ≠ gb153))
                    have n11_ := Aside0.mk ((by rw [hg]; exact Nat.ne_of_gt (blk_lt (g := gb135) (o := .cells #[.int .i64 a0_0, .slice (some ad146) y131.length c0_1] 26 (0, 0)) (by (with_reducible repeat (first | refine blk_drewN ?_ _ | refine blk_drew ?_ | refine blk_alloc ?_ _)); exact BK135.out)) : gb153 ≠ gb135))
                    clear HO138
                    clear HO149
                    clear BK126
                    clear BK135
                    clear HB
                    have HO138 := n0_
                    have HO149 := n1_
                    have BK126 := n2_
                    have BK135 := n3_
                    have HB := n4_
                    have BK153 := n5_
                    have GW153 := n6_
                    have GE153 := n7_
                    have NB126_153 := n8_
                    have NB153_126 := n9_
                    have NB135_153 := n10_
                    have NB153_135 := n11_
                    clear n0_ n1_ n2_ n3_ n4_ n5_ n6_ n7_ n8_ n9_ n10_ n11_
                    clear hb hbox hg
                    refine hK.out _ _ ⟨(blk_cell BK126.out 0).trans rfl, (blk_cell BK126.out 1).trans rfl, ((HB.out.cell (World.block_lt_of_cell? w _ hw146_0)).trans hw146_0), ((HB.out.cell (World.block_lt_of_cell? w _ hw146_1)).trans hw146_1), ((HB.out.cell (World.block_lt_of_cell? w _ hw146_2)).trans hw146_2), ((HB.out.cell (World.block_lt_of_cell? w _ hw146_3)).trans hw146_3), ((HB.out.cell (World.block_lt_of_cell? w _ hw146_4)).trans hw146_4), ((HB.out.cell (World.block_lt_of_cell? w _ hw146_5)).trans hw146_5), ((HB.out.cell (World.block_lt_of_cell? w _ hw146_6)).trans hw146_6), ((HB.out.cell (World.block_lt_of_cell? w _ hw146_7)).trans hw146_7), ((HB.out.cell (World.block_lt_of_cell? w _ hw146_8)).trans hw146_8), ((HB.out.cell (World.block_lt_of_cell? w _ hw146_9)).trans hw146_9), ((HB.out.cell (World.block_lt_of_cell? w _ hw146_10)).trans hw146_10)⟩ (fun hHeld => ?_)
                    clear hK K
                    refine norm_ (a' := ?_) ?_ ?_
                    rotate_left
                    · show Act.put _ (some 7) _ = _
                      simp only [Act.put, List.setIfInBounds_toArray, List.set_cons_zero, List.set_cons_succ, i64_w, i32_w]
                      rfl
                    exact norm_ (by first | (simp only [putAll, Act.put, List.setIfInBounds_toArray, List.set_cons_zero, List.set_cons_succ]; done) | (simp only [putAll, Act.put, List.setIfInBounds_toArray, List.set_cons_zero, List.set_cons_succ]; rfl)) (hJ2_14_17 (v137, v148, gb153) _ ⟨hHeld, (by (with_reducible repeat (first | apply Kd.R_alloc | apply Kd.R_drewN | apply Kd.R_drew)); exact HO138.out), (by (with_reducible repeat (first | apply Kd.R_alloc | apply Kd.R_drewN | apply Kd.R_drew)); exact HO149.out), (by (with_reducible repeat (first | refine blk_drewN ?_ _ | refine blk_drew ?_ | refine blk_alloc ?_ _)); exact BK126.out), (by (with_reducible repeat (first | refine blk_drewN ?_ _ | refine blk_drew ?_ | refine blk_alloc ?_ _)); exact BK135.out), (by (with_reducible repeat (first | refine blk_drewN ?_ _ | refine blk_drew ?_ | refine blk_alloc ?_ _)); exact BK153.out), GW153.out, GE153.out, NB126_153.out, NB153_126.out, NB135_153.out, NB153_135.out, (by repeat (first | (with_reducible first | exact HB.out | apply below_alloc | apply pw_below_drewN | apply below_drew1 | refine below_set ?_ GE126.out | refine below_set ?_ GE135.out | refine below_set ?_ GE153.out) | exact HB.out))⟩)
              · skip
                rintro ⟨v137, v144⟩ w50 ⟨hS_, h0_, h1_, h2_, h3_⟩
                have n0_ : Aside0 (Kd.R k36 36 w50 w.heap.size (fun _ => True) v144 y143) := ⟨h0_⟩
                have n1_ : Aside0 (w50.heap[gb126]? = some (.cells #[.int .i64 a0_0, .slice (some ad146) l0_1.length c0_1] 26 (0, 0))) := ⟨h1_⟩
                have n2_ : Aside0 (w50.heap[gb135]? = some (.cells #[.int .i64 a0_0, .slice (some ad146) y131.length c0_1] 26 (0, 0))) := ⟨h2_⟩
                have n3_ : Aside0 (Below w.heap.size w w50) := ⟨h3_⟩
                clear BK126
                clear BK135
                clear HB
                clear h0_ h1_ h2_ h3_
                have HO145 := n0_
                have BK126 := n1_
                have BK135 := n2_
                have HB := n3_
                clear n0_ n1_ n2_ n3_
                have hHeld : w50.cell? ⟨gb126, 0, none⟩ = some (.int .i64 a0_0) ∧ w50.cell? ⟨gb126, 1, none⟩ = some (.slice (some ad146) l0_1.length c0_1) ∧ w50.cell? (ad146.add (((ji29)).toNat * 11)) = some (.string ((rd_T36 l0_1 (ji29)).f0)) ∧ w50.cell? ⟨(ad146.add (((ji29)).toNat * 11)).block, (ad146.add (((ji29)).toNat * 11)).off + 1, none⟩ = some (.int .i64 ((rd_T36 l0_1 (ji29)).f1)) ∧ w50.cell? ⟨(ad146.add (((ji29)).toNat * 11)).block, (ad146.add (((ji29)).toNat * 11)).off + 2, none⟩ = some (.int .i64 ((rd_T36 l0_1 (ji29)).f2)) ∧ w50.cell? ⟨(ad146.add (((ji29)).toNat * 11)).block, (ad146.add (((ji29)).toNat * 11)).off + 3, none⟩ = some (.int .i64 ((rd_T36 l0_1 (ji29)).f3)) ∧ w50.cell? ⟨(ad146.add (((ji29)).toNat * 11)).block, (ad146.add (((ji29)).toNat * 11)).off + 4, none⟩ = some (.int .i64 ((rd_T36 l0_1 (ji29)).f4)) ∧ w50.cell? ⟨(ad146.add (((ji29)).toNat * 11)).block, (ad146.add (((ji29)).toNat * 11)).off + 5, none⟩ = some (.int .i64 ((rd_T36 l0_1 (ji29)).f5)) ∧ w50.cell? ⟨(ad146.add (((ji29)).toNat * 11)).block, (ad146.add (((ji29)).toNat * 11)).off + 6, none⟩ = some (.int .i64 ((rd_T36 l0_1 (ji29)).f6)) ∧ w50.cell? ⟨(ad146.add (((ji29)).toNat * 11)).block, (ad146.add (((ji29)).toNat * 11)).off + 7, none⟩ = some (.int .i64 ((rd_T36 l0_1 (ji29)).f7)) ∧ w50.cell? ⟨(ad146.add (((ji29)).toNat * 11)).block, (ad146.add (((ji29)).toNat * 11)).off + 8, none⟩ = some (.int .i64 ((rd_T36 l0_1 (ji29)).f8)) ∧ w50.cell? ⟨(ad146.add (((ji29)).toNat * 11)).block, (ad146.add (((ji29)).toNat * 11)).off + 9, none⟩ = some (.int .i64 ((rd_T36 l0_1 (ji29)).f9)) ∧ w50.cell? ⟨(ad146.add (((ji29)).toNat * 11)).block, (ad146.add (((ji29)).toNat * 11)).off + 10, none⟩ = some (.int .i64 ((rd_T36 l0_1 (ji29)).f10)) := hS_
                refine norm_ (a' := ?_) ?_ ?_
                rotate_left
                · simp only [putAll, Act.put, List.setIfInBounds_toArray, List.set_cons_zero, List.set_cons_succ]
                  rfl
                refine two_ (i := 14) (j := 17) (Ni := some 51) (Nj := some 7) #[true, true, true, true, true, true, true, true, true, true, true, true, true, true, true, false, false, false, false] #[true, true, true, true, true, true, true, true, true, true, true, true, true, true, false, false, false, true, false] rfl rfl rfl rfl (two_of HT_.out (by kernel_rfl)) (by decide) (by decide) (fun K hK => ?_) (fun K hK => ?_)
                · skip
                  refine Kd.R_lit_step k36 _ 36 ?hg (N := 51) ?hd (xs := ([(⟨(rd_T36 l0_1 (ji29)).f0, (rd_T36 l0_1 (ji29)).f1, (rd_T36 l0_1 (ji29)).f2, (rd_T36 l0_1 (ji29)).f3, (rd_T36 l0_1 (ji29)).f4, (rd_T36 l0_1 (ji29)).f5, (rd_T36 l0_1 (ji29)).f6, (rd_T36 l0_1 (ji29)).f7, (rd_T36 l0_1 (ji29)).f8, (rd_T36 l0_1 (ji29)).f9, (rd_T36 l0_1 (ji29)).f10⟩ : S36)] : List (S36))) (inner := [.string ((rd_T36 l0_1 (ji29)).f0), .int .i64 ((rd_T36 l0_1 (ji29)).f1), .int .i64 ((rd_T36 l0_1 (ji29)).f2), .int .i64 ((rd_T36 l0_1 (ji29)).f3), .int .i64 ((rd_T36 l0_1 (ji29)).f4), .int .i64 ((rd_T36 l0_1 (ji29)).f5), .int .i64 ((rd_T36 l0_1 (ji29)).f6), .int .i64 ((rd_T36 l0_1 (ji29)).f7), .int .i64 ((rd_T36 l0_1 (ji29)).f8), .int .i64 ((rd_T36 l0_1 (ji29)).f9), .int .i64 ((rd_T36 l0_1 (ji29)).f10)]) (ok := fun _ => True) (okp := fun _ => True) ?hr ?hp (fun _ hk => hk) trivial (Below.refl _ _) (Nat.le_refl _) (by simp) ?_; (case hd => rfl); (case hg => rfl); (case hr => first | (go_simp; done) | (go_simp; rfl)); (case hp => exact (Reps.front (show Kd.M k36 _ _ _ (⟨(rd_T36 l0_1 (ji29)).f0, (rd_T36 l0_1 (ji29)).f1, (rd_T36 l0_1 (ji29)).f2, (rd_T36 l0_1 (ji29)).f3, (rd_T36 l0_1 (ji29)).f4, (rd_T36 l0_1 (ji29)).f5, (rd_T36 l0_1 (ji29)).f6, (rd_T36 l0_1 (ji29)).f7, (rd_T36 l0_1 (ji29)).f8, (rd_T36 l0_1 (ji29)).f9, (rd_T36 l0_1 (ji29)).f10⟩ : S36) [.string ((rd_T36 l0_1 (ji29)).f0), .int .i64 ((rd_T36 l0_1 (ji29)).f1), .int .i64 ((rd_T36 l0_1 (ji29)).f2), .int .i64 ((rd_T36 l0_1 (ji29)).f3), .int .i64 ((rd_T36 l0_1 (ji29)).f4), .int .i64 ((rd_T36 l0_1 (ji29)).f5), .int .i64 ((rd_T36 l0_1 (ji29)).f6), .int .i64 ((rd_T36 l0_1 (ji29)).f7), .int .i64 ((rd_T36 l0_1 (ji29)).f8), .int .i64 ((rd_T36 l0_1 (ji29)).f9), .int .i64 ((rd_T36 l0_1 (ji29)).f10)] from (k36_mkM _ _ _ (⟨(rd_T36 l0_1 (ji29)).f0, (rd_T36 l0_1 (ji29)).f1, (rd_T36 l0_1 (ji29)).f2, (rd_T36 l0_1 (ji29)).f3, (rd_T36 l0_1 (ji29)).f4, (rd_T36 l0_1 (ji29)).f5, (rd_T36 l0_1 (ji29)).f6, (rd_T36 l0_1 (ji29)).f7, (rd_T36 l0_1 (ji29)).f8, (rd_T36 l0_1 (ji29)).f9, (rd_T36 l0_1 (ji29)).f10⟩ : S36) )) rfl (Reps.none _ _) rfl))
                  intro v148 w51 ho52 hb hg_ hnew_
                  clear hg_ hnew_
                  (first | rw [← Ny147.out] at ho52 | (simp only [Int.reduceToNat] at ho52; rw [← Ny147.out] at ho52))
                  have n0_ := Aside0.mk (Kd.R_elder' (by (with_reducible repeat (first | apply Kd.R_alloc | apply Kd.R_drewN | apply Kd.R_drew)); exact HO145.out) (Kd.R_base ho52) hb)
                  have n1_ := Aside0.mk (Kd.R_lower (Kd.R_new' ho52 (Kd.R_lt (by (with_reducible repeat (first | apply Kd.R_alloc | apply Kd.R_drewN | apply Kd.R_drew)); exact HO145.out))) (below_size (by repeat (first | (with_reducible first | exact HB.out | apply below_alloc | apply pw_below_drewN | apply below_drew1 | refine below_set ?_ GE126.out | refine below_set ?_ GE135.out) | exact HB.out))))
                  have n2_ := Aside0.mk (blk_below (g := gb126) (o := .cells #[.int .i64 a0_0, .slice (some ad146) l0_1.length c0_1] 26 (0, 0)) (by (with_reducible repeat (first | refine blk_drewN ?_ _ | refine blk_drew ?_ | refine blk_alloc ?_ _)); exact BK126.out) hb)
                  have n3_ := Aside0.mk (blk_below (g := gb135) (o := .cells #[.int .i64 a0_0, .slice (some ad146) y131.length c0_1] 26 (0, 0)) (by (with_reducible repeat (first | refine blk_drewN ?_ _ | refine blk_drew ?_ | refine blk_alloc ?_ _)); exact BK135.out) hb)
                  have n4_ := Aside0.mk (below_step (by repeat (first | (with_reducible first | exact HB.out | apply below_alloc | apply pw_below_drewN | apply below_drew1 | refine below_set ?_ GE126.out | refine below_set ?_ GE135.out) | exact HB.out)) hb)
                  clear HO145
                  clear BK126
                  clear BK135
                  clear HB
                  have HO145 := n0_
                  have HO149 := n1_
                  have BK126 := n2_
                  have BK135 := n3_
                  have HB := n4_
                  clear n0_ n1_ n2_ n3_ n4_
                  clear hb ho52
                  refine hK.out _ _ ⟨(blk_cell BK126.out 0).trans rfl, (blk_cell BK126.out 1).trans rfl, ((HB.out.cell (World.block_lt_of_cell? w _ hw146_0)).trans hw146_0), ((HB.out.cell (World.block_lt_of_cell? w _ hw146_1)).trans hw146_1), ((HB.out.cell (World.block_lt_of_cell? w _ hw146_2)).trans hw146_2), ((HB.out.cell (World.block_lt_of_cell? w _ hw146_3)).trans hw146_3), ((HB.out.cell (World.block_lt_of_cell? w _ hw146_4)).trans hw146_4), ((HB.out.cell (World.block_lt_of_cell? w _ hw146_5)).trans hw146_5), ((HB.out.cell (World.block_lt_of_cell? w _ hw146_6)).trans hw146_6), ((HB.out.cell (World.block_lt_of_cell? w _ hw146_7)).trans hw146_7), ((HB.out.cell (World.block_lt_of_cell? w _ hw146_8)).trans hw146_8), ((HB.out.cell (World.block_lt_of_cell? w _ hw146_9)).trans hw146_9), ((HB.out.cell (World.block_lt_of_cell? w _ hw146_10)).trans hw146_10)⟩ (fun hHeld => ?_)
                  clear hK K
                  refine norm_ (a' := ?_) ?_ ?_
                  rotate_left
                  · show Act.put _ (some 51) _ = _
                    simp only [Act.put, List.setIfInBounds_toArray, List.set_cons_zero, List.set_cons_succ, i64_w, i32_w]
                    rfl
                  exact norm_ (by first | (simp only [putAll, Act.put, List.setIfInBounds_toArray, List.set_cons_zero, List.set_cons_succ]; done) | (simp only [putAll, Act.put, List.setIfInBounds_toArray, List.set_cons_zero, List.set_cons_succ]; rfl)) (hJ2_7_14 (v137, v144, v148) _ ⟨hHeld, (by (with_reducible repeat (first | apply Kd.R_alloc | apply Kd.R_drewN | apply Kd.R_drew)); exact Kd.R_mono HO145.out (fun _ hk => hk.2)), (by (with_reducible repeat (first | apply Kd.R_alloc | apply Kd.R_drewN | apply Kd.R_drew)); exact Kd.R_mono HO149.out (fun _ hk => hk.2)), (by (with_reducible repeat (first | refine blk_drewN ?_ _ | refine blk_drew ?_ | refine blk_alloc ?_ _)); exact BK126.out), (by (with_reducible repeat (first | refine blk_drewN ?_ _ | refine blk_drew ?_ | refine blk_alloc ?_ _)); exact BK135.out), (by repeat (first | (with_reducible first | exact HB.out | apply below_alloc | apply pw_below_drewN | apply below_drew1 | refine below_set ?_ GE126.out | refine below_set ?_ GE135.out) | exact HB.out))⟩)
                · skip
                  refine box_step ?hg (N := 7) ?hd (cs := #[.int .i64 0, .slice none 0 0]) (t := 26) ?hr ?_; (case hd => rfl); (case hg => rfl); (case hr => first | (go_simp; done) | (go_simp; rfl))
                  intro gb153 hg w51 hbox hb
                  have n0_ := Aside0.mk (Kd.R_below (by (with_reducible repeat (first | apply Kd.R_alloc | apply Kd.R_drewN | apply Kd.R_drew)); exact HO145.out) hb)
                  have n1_ := Aside0.mk (blk_below (g := gb126) (o := .cells #[.int .i64 a0_0, .slice (some ad146) l0_1.length c0_1] 26 (0, 0)) (by (with_reducible repeat (first | refine blk_drewN ?_ _ | refine blk_drew ?_ | refine blk_alloc ?_ _)); exact BK126.out) hb)
                  have n2_ := Aside0.mk (blk_below (g := gb135) (o := .cells #[.int .i64 a0_0, .slice (some ad146) y131.length c0_1] 26 (0, 0)) (by (with_reducible repeat (first | refine blk_drewN ?_ _ | refine blk_drew ?_ | refine blk_alloc ?_ _)); exact BK135.out) hb)
                  have n3_ := Aside0.mk (below_step (by repeat (first | (with_reducible first | exact HB.out | apply below_alloc | apply pw_below_drewN | apply below_drew1 | refine below_set ?_ GE126.out | refine below_set ?_ GE135.out) | exact HB.out)) hb)
                  have n4_ := Aside0.mk (hbox)
                  have n5_ := Aside0.mk ((by rw [hg]; exact (below_size (by repeat (first | (with_reducible first | exact HB.out | apply below_alloc | apply pw_below_drewN | apply below_drew1 | refine below_set ?_ GE126.out | refine below_set ?_ GE135.out) | exact HB.out))) : w.heap.size ≤ gb153))
                  have n6_ := Aside0.mk ((by rw [hg]; exact (below_size (by repeat (first | (with_reducible first | exact HB.out | apply below_alloc | apply pw_below_drewN | apply below_drew1 | refine below_set ?_ GE126.out | refine below_set ?_ GE135.out) | exact HB.out))) : w.heap.size ≤ gb153))
                  have n7_ := Aside0.mk ((by rw [hg]; exact Nat.ne_of_lt (blk_lt (g := gb126) (o := .cells #[.int .i64 a0_0, .slice (some ad146) l0_1.length c0_1] 26 (0, 0)) (by (with_reducible repeat (first | refine blk_drewN ?_ _ | refine blk_drew ?_ | refine blk_alloc ?_ _)); exact BK126.out)) : gb126 ≠ gb153))
                  have n8_ := Aside0.mk ((by rw [hg]; exact Nat.ne_of_gt (blk_lt (g := gb126) (o := .cells #[.int .i64 a0_0, .slice (some ad146) l0_1.length c0_1] 26 (0, 0)) (by (with_reducible repeat (first | refine blk_drewN ?_ _ | refine blk_drew ?_ | refine blk_alloc ?_ _)); exact BK126.out)) : gb153 ≠ gb126))
                  have n9_ := Aside0.mk ((by rw [hg]; exact Nat.ne_of_lt (blk_lt (g := gb135) (o := .cells #[.int .i64 a0_0, .slice (some ad146) y131.length c0_1] 26 (0, 0)) (by (with_reducible repeat (first | refine blk_drewN ?_ _ | refine blk_drew ?_ | refine blk_alloc ?_ _)); exact BK135.out)) : gb135 ≠ gb153))
                  have n10_ := Aside0.mk ((by rw [hg]; exact Nat.ne_of_gt (blk_lt (g := gb135) (o := .cells #[.int .i64 a0_0, .slice (some ad146) y131.length c0_1] 26 (0, 0)) (by (with_reducible repeat (first | refine blk_drewN ?_ _ | refine blk_drew ?_ | refine blk_alloc ?_ _)); exact BK135.out)) : gb153 ≠ gb135))
                  clear HO145
                  clear BK126
                  clear BK135
                  clear HB
                  have HO145 := n0_
                  have BK126 := n1_
                  have BK135 := n2_
                  have HB := n3_
                  have BK153 := n4_
                  have GW153 := n5_
                  have GE153 := n6_
                  have NB126_153 := n7_
                  have NB153_126 := n8_
                  have NB135_153 := n9_
                  have NB153_135 := n10_
                  clear n0_ n1_ n2_ n3_ n4_ n5_ n6_ n7_ n8_ n9_ n10_
                  clear hb hbox hg
                  refine hK.out _ _ ⟨(blk_cell BK126.out 0).trans rfl, (blk_cell BK126.out 1).trans rfl, ((HB.out.cell (World.block_lt_of_cell? w _ hw146_0)).trans hw146_0), ((HB.out.cell (World.block_lt_of_cell? w _ hw146_1)).trans hw146_1), ((HB.out.cell (World.block_lt_of_cell? w _ hw146_2)).trans hw146_2), ((HB.out.cell (World.block_lt_of_cell? w _ hw146_3)).trans hw146_3), ((HB.out.cell (World.block_lt_of_cell? w _ hw146_4)).trans hw146_4), ((HB.out.cell (World.block_lt_of_cell? w _ hw146_5)).trans hw146_5), ((HB.out.cell (World.block_lt_of_cell? w _ hw146_6)).trans hw146_6), ((HB.out.cell (World.block_lt_of_cell? w _ hw146_7)).trans hw146_7), ((HB.out.cell (World.block_lt_of_cell? w _ hw146_8)).trans hw146_8), ((HB.out.cell (World.block_lt_of_cell? w _ hw146_9)).trans hw146_9), ((HB.out.cell (World.block_lt_of_cell? w _ hw146_10)).trans hw146_10)⟩ (fun hHeld => ?_)
                  clear hK K
                  refine norm_ (a' := ?_) ?_ ?_
                  rotate_left
                  · show Act.put _ (some 7) _ = _
                    simp only [Act.put, List.setIfInBounds_toArray, List.set_cons_zero, List.set_cons_succ, i64_w, i32_w]
                    rfl
                  exact norm_ (by first | (simp only [putAll, Act.put, List.setIfInBounds_toArray, List.set_cons_zero, List.set_cons_succ]; done) | (simp only [putAll, Act.put, List.setIfInBounds_toArray, List.set_cons_zero, List.set_cons_succ]; rfl)) (hJ2_7_17 (v137, v144, gb153) _ ⟨hHeld, (by (with_reducible repeat (first | apply Kd.R_alloc | apply Kd.R_drewN | apply Kd.R_drew)); exact HO145.out), (by (with_reducible repeat (first | refine blk_drewN ?_ _ | refine blk_drew ?_ | refine blk_alloc ?_ _)); exact BK126.out), (by (with_reducible repeat (first | refine blk_drewN ?_ _ | refine blk_drew ?_ | refine blk_alloc ?_ _)); exact BK135.out), (by (with_reducible repeat (first | refine blk_drewN ?_ _ | refine blk_drew ?_ | refine blk_alloc ?_ _)); exact BK153.out), GW153.out, GE153.out, NB126_153.out, NB153_126.out, NB135_153.out, NB153_135.out, (by repeat (first | (with_reducible first | exact HB.out | apply below_alloc | apply pw_below_drewN | apply below_drew1 | refine below_set ?_ GE126.out | refine below_set ?_ GE135.out | refine below_set ?_ GE153.out) | exact HB.out))⟩)
            · skip
              rintro ⟨v137, v148, gb153⟩ w52 ⟨hS_, h0_, h1_, h2_, h3_, h4_, h5_, h6_, h7_, h8_, h9_, h10_, h11_⟩
              have n0_ : Aside0 (Kd.R k36 36 w52 w.heap.size (fun k_ => some k_ ≠ (v148 : Value).ownBlock) v137 y136) := ⟨h0_⟩
              have n1_ : Aside0 (Kd.R k36 36 w52 w.heap.size (fun k_ => some k_ ≠ (v137 : Value).ownBlock) v148 y147) := ⟨h1_⟩
              have n2_ : Aside0 (w52.heap[gb126]? = some (.cells #[.int .i64 a0_0, .slice (some ad146) l0_1.length c0_1] 26 (0, 0))) := ⟨h2_⟩
              have n3_ : Aside0 (w52.heap[gb135]? = some (.cells #[.int .i64 a0_0, .slice (some ad146) y131.length c0_1] 26 (0, 0))) := ⟨h3_⟩
              have n4_ : Aside0 (w52.heap[gb153]? = some (.cells #[.int .i64 0, .slice none 0 0] 26 (0, 0))) := ⟨h4_⟩
              have n5_ : Aside0 (w.heap.size ≤ gb153) := ⟨h5_⟩
              have n6_ : Aside0 (w.heap.size ≤ gb153) := ⟨h6_⟩
              have n7_ : Aside0 (gb126 ≠ gb153) := ⟨h7_⟩
              have n8_ : Aside0 (gb153 ≠ gb126) := ⟨h8_⟩
              have n9_ : Aside0 (gb135 ≠ gb153) := ⟨h9_⟩
              have n10_ : Aside0 (gb153 ≠ gb135) := ⟨h10_⟩
              have n11_ : Aside0 (Below w.heap.size w w52) := ⟨h11_⟩
              clear BK126
              clear BK135
              clear HB
              clear h0_ h1_ h2_ h3_ h4_ h5_ h6_ h7_ h8_ h9_ h10_ h11_
              have HO138 := n0_
              have HO149 := n1_
              have BK126 := n2_
              have BK135 := n3_
              have BK153 := n4_
              have GW153 := n5_
              have GE153 := n6_
              have NB126_153 := n7_
              have NB153_126 := n8_
              have NB135_153 := n9_
              have NB153_135 := n10_
              have HB := n11_
              clear n0_ n1_ n2_ n3_ n4_ n5_ n6_ n7_ n8_ n9_ n10_ n11_
              have hHeld : w52.cell? ⟨gb126, 0, none⟩ = some (.int .i64 a0_0) ∧ w52.cell? ⟨gb126, 1, none⟩ = some (.slice (some ad146) l0_1.length c0_1) ∧ w52.cell? (ad146.add (((ji29)).toNat * 11)) = some (.string ((rd_T36 l0_1 (ji29)).f0)) ∧ w52.cell? ⟨(ad146.add (((ji29)).toNat * 11)).block, (ad146.add (((ji29)).toNat * 11)).off + 1, none⟩ = some (.int .i64 ((rd_T36 l0_1 (ji29)).f1)) ∧ w52.cell? ⟨(ad146.add (((ji29)).toNat * 11)).block, (ad146.add (((ji29)).toNat * 11)).off + 2, none⟩ = some (.int .i64 ((rd_T36 l0_1 (ji29)).f2)) ∧ w52.cell? ⟨(ad146.add (((ji29)).toNat * 11)).block, (ad146.add (((ji29)).toNat * 11)).off + 3, none⟩ = some (.int .i64 ((rd_T36 l0_1 (ji29)).f3)) ∧ w52.cell? ⟨(ad146.add (((ji29)).toNat * 11)).block, (ad146.add (((ji29)).toNat * 11)).off + 4, none⟩ = some (.int .i64 ((rd_T36 l0_1 (ji29)).f4)) ∧ w52.cell? ⟨(ad146.add (((ji29)).toNat * 11)).block, (ad146.add (((ji29)).toNat * 11)).off + 5, none⟩ = some (.int .i64 ((rd_T36 l0_1 (ji29)).f5)) ∧ w52.cell? ⟨(ad146.add (((ji29)).toNat * 11)).block, (ad146.add (((ji29)).toNat * 11)).off + 6, none⟩ = some (.int .i64 ((rd_T36 l0_1 (ji29)).f6)) ∧ w52.cell? ⟨(ad146.add (((ji29)).toNat * 11)).block, (ad146.add (((ji29)).toNat * 11)).off + 7, none⟩ = some (.int .i64 ((rd_T36 l0_1 (ji29)).f7)) ∧ w52.cell? ⟨(ad146.add (((ji29)).toNat * 11)).block, (ad146.add (((ji29)).toNat * 11)).off + 8, none⟩ = some (.int .i64 ((rd_T36 l0_1 (ji29)).f8)) ∧ w52.cell? ⟨(ad146.add (((ji29)).toNat * 11)).block, (ad146.add (((ji29)).toNat * 11)).off + 9, none⟩ = some (.int .i64 ((rd_T36 l0_1 (ji29)).f9)) ∧ w52.cell? ⟨(ad146.add (((ji29)).toNat * 11)).block, (ad146.add (((ji29)).toNat * 11)).off + 10, none⟩ = some (.int .i64 ((rd_T36 l0_1 (ji29)).f10)) := hS_
              refine norm_ (a' := ?_) ?_ ?_
              rotate_left
              · simp only [putAll, Act.put, List.setIfInBounds_toArray, List.set_cons_zero, List.set_cons_succ]
                rfl
              refine one_ (i := 7) (N := some 44) #[true, true, true, true, true, true, true, true, true, true, true, true, true, true, true, false, false, true, false] rfl rfl (one_of HT_.out (by kernel_rfl)) (by decide) (fun K hK => ?_)
              refine Kd.R_append_rows_step k36 (w0 := w) w.heap.size (by rfl) (.tmp 39) (.tmp 43) 24 36 (.agg #[(.string ⟨#[]⟩), (.int .i64 0), (.int .i64 0), (.int .i64 0), (.int .i64 0), (.int .i64 0), (.int .i64 0), (.int .i64 0), (.int .i64 0), (.int .i64 0), (.int .i64 0)]) 96 rfl Tryd.underlying24 info36 rfl (by decide) (by omega) v137 y136 y139 _ _ _ (fun k_ => some k_ ≠ (v148 : Value).ownBlock) (fun _ => False) rfl rfl ?aO ?aR (fun _ _ h => h) (fun _ h => h.elim) ?aF ?aB ?aS ?aL ?_
              (case aR => repeat (first | exact (Kd.C_below HR142.out HB.out) | (with_reducible refine Kd.C_alloc ?_ _) | (with_reducible refine Kd.C_drewN ?_ _) | (with_reducible refine Kd.C_drew ?_)))
              (case aB => exact (by repeat (first | (with_reducible first | exact HB.out | apply below_alloc | apply pw_below_drewN | apply below_drew1 | refine below_set ?_ GE126.out | refine below_set ?_ GE135.out | refine below_set ?_ GE153.out) | exact HB.out)))
              (case aF => exact (fun k_ hk => Kd.fresh' (Kd.R_lt (by (with_reducible repeat (first | apply Kd.R_alloc | apply Kd.R_drewN | apply Kd.R_drew)); exact HO149.out)) k_ hk))
              (case aO => exact (by (with_reducible repeat (first | apply Kd.R_alloc | apply Kd.R_drewN | apply Kd.R_drew)); exact HO138.out))
              (case aS => exact (below_size (by repeat (first | (with_reducible first | exact HB.out | apply below_alloc | apply pw_below_drewN | apply below_drew1 | refine below_set ?_ GE126.out | refine below_set ?_ GE135.out | refine below_set ?_ GE153.out) | exact HB.out))))
              (case aL => have := LMc28.out; omega)
              intro v144 w53 ho hb hg hat
              rw [← Ny143.out] at ho
              have n0_ := Aside0.mk (blk_grown (g := gb126) (o := .cells #[.int .i64 a0_0, .slice (some ad146) l0_1.length c0_1] 26 (0, 0)) (by (with_reducible repeat (first | refine blk_drewN ?_ _ | refine blk_drew ?_ | refine blk_alloc ?_ _)); exact BK126.out) hg (Kd.R_ne HO138.out BK126.out (by decide)))
              have n1_ := Aside0.mk (blk_grown (g := gb135) (o := .cells #[.int .i64 a0_0, .slice (some ad146) y131.length c0_1] 26 (0, 0)) (by (with_reducible repeat (first | refine blk_drewN ?_ _ | refine blk_drew ?_ | refine blk_alloc ?_ _)); exact BK135.out) hg (Kd.R_ne HO138.out BK135.out (by decide)))
              have n2_ := Aside0.mk (Kd.R_after (ok := (fun _ => True)) (by (with_reducible repeat (first | apply Kd.R_alloc | apply Kd.R_drewN | apply Kd.R_drew)); exact Kd.R_mono HO149.out (fun _ hk => ⟨trivial, hk⟩)) hg hat)
              have n3_ := Aside0.mk (blk_grown (g := gb153) (o := .cells #[.int .i64 0, .slice none 0 0] 26 (0, 0)) (by (with_reducible repeat (first | refine blk_drewN ?_ _ | refine blk_drew ?_ | refine blk_alloc ?_ _)); exact BK153.out) hg (Kd.R_ne HO138.out BK153.out (by decide)))
              have n4_ := Aside0.mk (hb)
              have n5_ := Aside0.mk (ho)
              clear BK126
              clear BK135
              clear HO149
              clear BK153
              clear HB
              clear HO138
              have BK126 := n0_
              have BK135 := n1_
              have HO149 := n2_
              have BK153 := n3_
              have HB := n4_
              have HO145 := n5_
              clear n0_ n1_ n2_ n3_ n4_ n5_
              clear ho hb hg hat
              refine hK.out _ _ ⟨(blk_cell BK126.out 0).trans rfl, (blk_cell BK126.out 1).trans rfl, ((HB.out.cell (World.block_lt_of_cell? w _ hw146_0)).trans hw146_0), ((HB.out.cell (World.block_lt_of_cell? w _ hw146_1)).trans hw146_1), ((HB.out.cell (World.block_lt_of_cell? w _ hw146_2)).trans hw146_2), ((HB.out.cell (World.block_lt_of_cell? w _ hw146_3)).trans hw146_3), ((HB.out.cell (World.block_lt_of_cell? w _ hw146_4)).trans hw146_4), ((HB.out.cell (World.block_lt_of_cell? w _ hw146_5)).trans hw146_5), ((HB.out.cell (World.block_lt_of_cell? w _ hw146_6)).trans hw146_6), ((HB.out.cell (World.block_lt_of_cell? w _ hw146_7)).trans hw146_7), ((HB.out.cell (World.block_lt_of_cell? w _ hw146_8)).trans hw146_8), ((HB.out.cell (World.block_lt_of_cell? w _ hw146_9)).trans hw146_9), ((HB.out.cell (World.block_lt_of_cell? w _ hw146_10)).trans hw146_10)⟩ (fun hHeld => ?_)
              clear hK K
              refine norm_ (a' := ?_) ?_ ?_
              rotate_left
              · show Act.put _ (some 44) _ = _
                simp only [Act.put, List.setIfInBounds_toArray, List.set_cons_zero, List.set_cons_succ, i64_w, i32_w]
                rfl
              exact norm_ (by first | (simp only [putAll, Act.put, List.setIfInBounds_toArray, List.set_cons_zero, List.set_cons_succ]; done) | (simp only [putAll, Act.put, List.setIfInBounds_toArray, List.set_cons_zero, List.set_cons_succ]; rfl)) (hJ2_7_14_17 (v137, v144, v148, gb153) _ ⟨hHeld, (by (with_reducible repeat (first | apply Kd.R_alloc | apply Kd.R_drewN | apply Kd.R_drew)); exact HO145.out), (by (with_reducible repeat (first | apply Kd.R_alloc | apply Kd.R_drewN | apply Kd.R_drew)); exact Kd.R_mono HO149.out (fun _ hk => hk.2)), (by (with_reducible repeat (first | refine blk_drewN ?_ _ | refine blk_drew ?_ | refine blk_alloc ?_ _)); exact BK126.out), (by (with_reducible repeat (first | refine blk_drewN ?_ _ | refine blk_drew ?_ | refine blk_alloc ?_ _)); exact BK135.out), (by (with_reducible repeat (first | refine blk_drewN ?_ _ | refine blk_drew ?_ | refine blk_alloc ?_ _)); exact BK153.out), GW153.out, GE153.out, NB126_153.out, NB153_126.out, NB135_153.out, NB153_135.out, (by repeat (first | (with_reducible first | exact HB.out | apply below_alloc | apply pw_below_drewN | apply below_drew1 | refine below_set ?_ GE126.out | refine below_set ?_ GE135.out | refine below_set ?_ GE153.out) | exact HB.out))⟩)
          · skip
            rintro ⟨v137, v144, gb153⟩ w51 ⟨hS_, h0_, h1_, h2_, h3_, h4_, h5_, h6_, h7_, h8_, h9_, h10_⟩
            have n0_ : Aside0 (Kd.R k36 36 w51 w.heap.size (fun _ => True) v144 y143) := ⟨h0_⟩
            have n1_ : Aside0 (w51.heap[gb126]? = some (.cells #[.int .i64 a0_0, .slice (some ad146) l0_1.length c0_1] 26 (0, 0))) := ⟨h1_⟩
            have n2_ : Aside0 (w51.heap[gb135]? = some (.cells #[.int .i64 a0_0, .slice (some ad146) y131.length c0_1] 26 (0, 0))) := ⟨h2_⟩
            have n3_ : Aside0 (w51.heap[gb153]? = some (.cells #[.int .i64 0, .slice none 0 0] 26 (0, 0))) := ⟨h3_⟩
            have n4_ : Aside0 (w.heap.size ≤ gb153) := ⟨h4_⟩
            have n5_ : Aside0 (w.heap.size ≤ gb153) := ⟨h5_⟩
            have n6_ : Aside0 (gb126 ≠ gb153) := ⟨h6_⟩
            have n7_ : Aside0 (gb153 ≠ gb126) := ⟨h7_⟩
            have n8_ : Aside0 (gb135 ≠ gb153) := ⟨h8_⟩
            have n9_ : Aside0 (gb153 ≠ gb135) := ⟨h9_⟩
            have n10_ : Aside0 (Below w.heap.size w w51) := ⟨h10_⟩
            clear BK126
            clear BK135
            clear HB
            clear h0_ h1_ h2_ h3_ h4_ h5_ h6_ h7_ h8_ h9_ h10_
            have HO145 := n0_
            have BK126 := n1_
            have BK135 := n2_
            have BK153 := n3_
            have GW153 := n4_
            have GE153 := n5_
            have NB126_153 := n6_
            have NB153_126 := n7_
            have NB135_153 := n8_
            have NB153_135 := n9_
            have HB := n10_
            clear n0_ n1_ n2_ n3_ n4_ n5_ n6_ n7_ n8_ n9_ n10_
            have hHeld : w51.cell? ⟨gb126, 0, none⟩ = some (.int .i64 a0_0) ∧ w51.cell? ⟨gb126, 1, none⟩ = some (.slice (some ad146) l0_1.length c0_1) ∧ w51.cell? (ad146.add (((ji29)).toNat * 11)) = some (.string ((rd_T36 l0_1 (ji29)).f0)) ∧ w51.cell? ⟨(ad146.add (((ji29)).toNat * 11)).block, (ad146.add (((ji29)).toNat * 11)).off + 1, none⟩ = some (.int .i64 ((rd_T36 l0_1 (ji29)).f1)) ∧ w51.cell? ⟨(ad146.add (((ji29)).toNat * 11)).block, (ad146.add (((ji29)).toNat * 11)).off + 2, none⟩ = some (.int .i64 ((rd_T36 l0_1 (ji29)).f2)) ∧ w51.cell? ⟨(ad146.add (((ji29)).toNat * 11)).block, (ad146.add (((ji29)).toNat * 11)).off + 3, none⟩ = some (.int .i64 ((rd_T36 l0_1 (ji29)).f3)) ∧ w51.cell? ⟨(ad146.add (((ji29)).toNat * 11)).block, (ad146.add (((ji29)).toNat * 11)).off + 4, none⟩ = some (.int .i64 ((rd_T36 l0_1 (ji29)).f4)) ∧ w51.cell? ⟨(ad146.add (((ji29)).toNat * 11)).block, (ad146.add (((ji29)).toNat * 11)).off + 5, none⟩ = some (.int .i64 ((rd_T36 l0_1 (ji29)).f5)) ∧ w51.cell? ⟨(ad146.add (((ji29)).toNat * 11)).block, (ad146.add (((ji29)).toNat * 11)).off + 6, none⟩ = some (.int .i64 ((rd_T36 l0_1 (ji29)).f6)) ∧ w51.cell? ⟨(ad146.add (((ji29)).toNat * 11)).block, (ad146.add (((ji29)).toNat * 11)).off + 7, none⟩ = some (.int .i64 ((rd_T36 l0_1 (ji29)).f7)) ∧ w51.cell? ⟨(ad146.add (((ji29)).toNat * 11)).block, (ad146.add (((ji29)).toNat * 11)).off + 8, none⟩ = some (.int .i64 ((rd_T36 l0_1 (ji29)).f8)) ∧ w51.cell? ⟨(ad146.add (((ji29)).toNat * 11)).block, (ad146.add (((ji29)).toNat * 11)).off + 9, none⟩ = some (.int .i64 ((rd_T36 l0_1 (ji29)).f9)) ∧ w51.cell? ⟨(ad146.add (((ji29)).toNat * 11)).block, (ad146.add (((ji29)).toNat * 11)).off + 10, none⟩ = some (.int .i64 ((rd_T36 l0_1 (ji29)).f10)) := hS_
            refine norm_ (a' := ?_) ?_ ?_
            rotate_left
            · simp only [putAll, Act.put, List.setIfInBounds_toArray, List.set_cons_zero, List.set_cons_succ]
              rfl
            refine one_ (i := 14) (N := some 51) #[true, true, true, true, true, true, true, true, true, true, true, true, true, true, true, false, false, true, false] rfl rfl (one_of HT_.out (by kernel_rfl)) (by decide) (fun K hK => ?_)
            refine Kd.R_lit_step k36 _ 36 ?hg (N := 51) ?hd (xs := ([(⟨(rd_T36 l0_1 (ji29)).f0, (rd_T36 l0_1 (ji29)).f1, (rd_T36 l0_1 (ji29)).f2, (rd_T36 l0_1 (ji29)).f3, (rd_T36 l0_1 (ji29)).f4, (rd_T36 l0_1 (ji29)).f5, (rd_T36 l0_1 (ji29)).f6, (rd_T36 l0_1 (ji29)).f7, (rd_T36 l0_1 (ji29)).f8, (rd_T36 l0_1 (ji29)).f9, (rd_T36 l0_1 (ji29)).f10⟩ : S36)] : List (S36))) (inner := [.string ((rd_T36 l0_1 (ji29)).f0), .int .i64 ((rd_T36 l0_1 (ji29)).f1), .int .i64 ((rd_T36 l0_1 (ji29)).f2), .int .i64 ((rd_T36 l0_1 (ji29)).f3), .int .i64 ((rd_T36 l0_1 (ji29)).f4), .int .i64 ((rd_T36 l0_1 (ji29)).f5), .int .i64 ((rd_T36 l0_1 (ji29)).f6), .int .i64 ((rd_T36 l0_1 (ji29)).f7), .int .i64 ((rd_T36 l0_1 (ji29)).f8), .int .i64 ((rd_T36 l0_1 (ji29)).f9), .int .i64 ((rd_T36 l0_1 (ji29)).f10)]) (ok := fun _ => True) (okp := fun _ => True) ?hr ?hp (fun _ hk => hk) trivial (Below.refl _ _) (Nat.le_refl _) (by simp) ?_; (case hd => rfl); (case hg => rfl); (case hr => first | (go_simp; done) | (go_simp; rfl)); (case hp => exact (Reps.front (show Kd.M k36 _ _ _ (⟨(rd_T36 l0_1 (ji29)).f0, (rd_T36 l0_1 (ji29)).f1, (rd_T36 l0_1 (ji29)).f2, (rd_T36 l0_1 (ji29)).f3, (rd_T36 l0_1 (ji29)).f4, (rd_T36 l0_1 (ji29)).f5, (rd_T36 l0_1 (ji29)).f6, (rd_T36 l0_1 (ji29)).f7, (rd_T36 l0_1 (ji29)).f8, (rd_T36 l0_1 (ji29)).f9, (rd_T36 l0_1 (ji29)).f10⟩ : S36) [.string ((rd_T36 l0_1 (ji29)).f0), .int .i64 ((rd_T36 l0_1 (ji29)).f1), .int .i64 ((rd_T36 l0_1 (ji29)).f2), .int .i64 ((rd_T36 l0_1 (ji29)).f3), .int .i64 ((rd_T36 l0_1 (ji29)).f4), .int .i64 ((rd_T36 l0_1 (ji29)).f5), .int .i64 ((rd_T36 l0_1 (ji29)).f6), .int .i64 ((rd_T36 l0_1 (ji29)).f7), .int .i64 ((rd_T36 l0_1 (ji29)).f8), .int .i64 ((rd_T36 l0_1 (ji29)).f9), .int .i64 ((rd_T36 l0_1 (ji29)).f10)] from (k36_mkM _ _ _ (⟨(rd_T36 l0_1 (ji29)).f0, (rd_T36 l0_1 (ji29)).f1, (rd_T36 l0_1 (ji29)).f2, (rd_T36 l0_1 (ji29)).f3, (rd_T36 l0_1 (ji29)).f4, (rd_T36 l0_1 (ji29)).f5, (rd_T36 l0_1 (ji29)).f6, (rd_T36 l0_1 (ji29)).f7, (rd_T36 l0_1 (ji29)).f8, (rd_T36 l0_1 (ji29)).f9, (rd_T36 l0_1 (ji29)).f10⟩ : S36) )) rfl (Reps.none _ _) rfl))
            intro v148 w52 ho53 hb hg_ hnew_
            clear hg_ hnew_
            (first | rw [← Ny147.out] at ho53 | (simp only [Int.reduceToNat] at ho53; rw [← Ny147.out] at ho53))
            have n0_ := Aside0.mk (Kd.R_elder' (by (with_reducible repeat (first | apply Kd.R_alloc | apply Kd.R_drewN | apply Kd.R_drew)); exact HO145.out) (Kd.R_base ho53) hb)
            have n1_ := Aside0.mk (Kd.R_lower (Kd.R_new' ho53 (Kd.R_lt (by (with_reducible repeat (first | apply Kd.R_alloc | apply Kd.R_drewN | apply Kd.R_drew)); exact HO145.out))) (below_size (by repeat (first | (with_reducible first | exact HB.out | apply below_alloc | apply pw_below_drewN | apply below_drew1 | refine below_set ?_ GE126.out | refine below_set ?_ GE135.out | refine below_set ?_ GE153.out) | exact HB.out))))
            have n2_ := Aside0.mk (blk_below (g := gb126) (o := .cells #[.int .i64 a0_0, .slice (some ad146) l0_1.length c0_1] 26 (0, 0)) (by (with_reducible repeat (first | refine blk_drewN ?_ _ | refine blk_drew ?_ | refine blk_alloc ?_ _)); exact BK126.out) hb)
            have n3_ := Aside0.mk (blk_below (g := gb135) (o := .cells #[.int .i64 a0_0, .slice (some ad146) y131.length c0_1] 26 (0, 0)) (by (with_reducible repeat (first | refine blk_drewN ?_ _ | refine blk_drew ?_ | refine blk_alloc ?_ _)); exact BK135.out) hb)
            have n4_ := Aside0.mk (blk_below (g := gb153) (o := .cells #[.int .i64 0, .slice none 0 0] 26 (0, 0)) (by (with_reducible repeat (first | refine blk_drewN ?_ _ | refine blk_drew ?_ | refine blk_alloc ?_ _)); exact BK153.out) hb)
            have n5_ := Aside0.mk (below_step (by repeat (first | (with_reducible first | exact HB.out | apply below_alloc | apply pw_below_drewN | apply below_drew1 | refine below_set ?_ GE126.out | refine below_set ?_ GE135.out | refine below_set ?_ GE153.out) | exact HB.out)) hb)
            clear HO145
            clear BK126
            clear BK135
            clear BK153
            clear HB
            have HO145 := n0_
            have HO149 := n1_
            have BK126 := n2_
            have BK135 := n3_
            have BK153 := n4_
            have HB := n5_
            clear n0_ n1_ n2_ n3_ n4_ n5_
            clear hb ho53
            refine hK.out _ _ ⟨(blk_cell BK126.out 0).trans rfl, (blk_cell BK126.out 1).trans rfl, ((HB.out.cell (World.block_lt_of_cell? w _ hw146_0)).trans hw146_0), ((HB.out.cell (World.block_lt_of_cell? w _ hw146_1)).trans hw146_1), ((HB.out.cell (World.block_lt_of_cell? w _ hw146_2)).trans hw146_2), ((HB.out.cell (World.block_lt_of_cell? w _ hw146_3)).trans hw146_3), ((HB.out.cell (World.block_lt_of_cell? w _ hw146_4)).trans hw146_4), ((HB.out.cell (World.block_lt_of_cell? w _ hw146_5)).trans hw146_5), ((HB.out.cell (World.block_lt_of_cell? w _ hw146_6)).trans hw146_6), ((HB.out.cell (World.block_lt_of_cell? w _ hw146_7)).trans hw146_7), ((HB.out.cell (World.block_lt_of_cell? w _ hw146_8)).trans hw146_8), ((HB.out.cell (World.block_lt_of_cell? w _ hw146_9)).trans hw146_9), ((HB.out.cell (World.block_lt_of_cell? w _ hw146_10)).trans hw146_10)⟩ (fun hHeld => ?_)
            clear hK K
            refine norm_ (a' := ?_) ?_ ?_
            rotate_left
            · show Act.put _ (some 51) _ = _
              simp only [Act.put, List.setIfInBounds_toArray, List.set_cons_zero, List.set_cons_succ, i64_w, i32_w]
              rfl
            exact norm_ (by first | (simp only [putAll, Act.put, List.setIfInBounds_toArray, List.set_cons_zero, List.set_cons_succ]; done) | (simp only [putAll, Act.put, List.setIfInBounds_toArray, List.set_cons_zero, List.set_cons_succ]; rfl)) (hJ2_7_14_17 (v137, v144, v148, gb153) _ ⟨hHeld, (by (with_reducible repeat (first | apply Kd.R_alloc | apply Kd.R_drewN | apply Kd.R_drew)); exact Kd.R_mono HO145.out (fun _ hk => hk.2)), (by (with_reducible repeat (first | apply Kd.R_alloc | apply Kd.R_drewN | apply Kd.R_drew)); exact Kd.R_mono HO149.out (fun _ hk => hk.2)), (by (with_reducible repeat (first | refine blk_drewN ?_ _ | refine blk_drew ?_ | refine blk_alloc ?_ _)); exact BK126.out), (by (with_reducible repeat (first | refine blk_drewN ?_ _ | refine blk_drew ?_ | refine blk_alloc ?_ _)); exact BK135.out), (by (with_reducible repeat (first | refine blk_drewN ?_ _ | refine blk_drew ?_ | refine blk_alloc ?_ _)); exact BK153.out), GW153.out, GE153.out, NB126_153.out, NB153_126.out, NB135_153.out, NB153_135.out, (by repeat (first | (with_reducible first | exact HB.out | apply below_alloc | apply pw_below_drewN | apply below_drew1 | refine below_set ?_ GE126.out | refine below_set ?_ GE135.out | refine below_set ?_ GE153.out) | exact HB.out))⟩)
        · skip
          rintro ⟨v137, v144, v148⟩ w52 ⟨hS_, h0_, h1_, h2_, h3_, h4_⟩
          have n0_ : Aside0 (Kd.R k36 36 w52 w.heap.size (fun k_ => some k_ ≠ (v148 : Value).ownBlock) v144 y143) := ⟨h0_⟩
          have n1_ : Aside0 (Kd.R k36 36 w52 w.heap.size (fun k_ => some k_ ≠ (v144 : Value).ownBlock) v148 y147) := ⟨h1_⟩
          have n2_ : Aside0 (w52.heap[gb126]? = some (.cells #[.int .i64 a0_0, .slice (some ad146) l0_1.length c0_1] 26 (0, 0))) := ⟨h2_⟩
          have n3_ : Aside0 (w52.heap[gb135]? = some (.cells #[.int .i64 a0_0, .slice (some ad146) y131.length c0_1] 26 (0, 0))) := ⟨h3_⟩
          have n4_ : Aside0 (Below w.heap.size w w52) := ⟨h4_⟩
          clear BK126
          clear BK135
          clear HB
          clear h0_ h1_ h2_ h3_ h4_
          have HO145 := n0_
          have HO149 := n1_
          have BK126 := n2_
          have BK135 := n3_
          have HB := n4_
          clear n0_ n1_ n2_ n3_ n4_
          have hHeld : w52.cell? ⟨gb126, 0, none⟩ = some (.int .i64 a0_0) ∧ w52.cell? ⟨gb126, 1, none⟩ = some (.slice (some ad146) l0_1.length c0_1) ∧ w52.cell? (ad146.add (((ji29)).toNat * 11)) = some (.string ((rd_T36 l0_1 (ji29)).f0)) ∧ w52.cell? ⟨(ad146.add (((ji29)).toNat * 11)).block, (ad146.add (((ji29)).toNat * 11)).off + 1, none⟩ = some (.int .i64 ((rd_T36 l0_1 (ji29)).f1)) ∧ w52.cell? ⟨(ad146.add (((ji29)).toNat * 11)).block, (ad146.add (((ji29)).toNat * 11)).off + 2, none⟩ = some (.int .i64 ((rd_T36 l0_1 (ji29)).f2)) ∧ w52.cell? ⟨(ad146.add (((ji29)).toNat * 11)).block, (ad146.add (((ji29)).toNat * 11)).off + 3, none⟩ = some (.int .i64 ((rd_T36 l0_1 (ji29)).f3)) ∧ w52.cell? ⟨(ad146.add (((ji29)).toNat * 11)).block, (ad146.add (((ji29)).toNat * 11)).off + 4, none⟩ = some (.int .i64 ((rd_T36 l0_1 (ji29)).f4)) ∧ w52.cell? ⟨(ad146.add (((ji29)).toNat * 11)).block, (ad146.add (((ji29)).toNat * 11)).off + 5, none⟩ = some (.int .i64 ((rd_T36 l0_1 (ji29)).f5)) ∧ w52.cell? ⟨(ad146.add (((ji29)).toNat * 11)).block, (ad146.add (((ji29)).toNat * 11)).off + 6, none⟩ = some (.int .i64 ((rd_T36 l0_1 (ji29)).f6)) ∧ w52.cell? ⟨(ad146.add (((ji29)).toNat * 11)).block, (ad146.add (((ji29)).toNat * 11)).off + 7, none⟩ = some (.int .i64 ((rd_T36 l0_1 (ji29)).f7)) ∧ w52.cell? ⟨(ad146.add (((ji29)).toNat * 11)).block, (ad146.add (((ji29)).toNat * 11)).off + 8, none⟩ = some (.int .i64 ((rd_T36 l0_1 (ji29)).f8)) ∧ w52.cell? ⟨(ad146.add (((ji29)).toNat * 11)).block, (ad146.add (((ji29)).toNat * 11)).off + 9, none⟩ = some (.int .i64 ((rd_T36 l0_1 (ji29)).f9)) ∧ w52.cell? ⟨(ad146.add (((ji29)).toNat * 11)).block, (ad146.add (((ji29)).toNat * 11)).off + 10, none⟩ = some (.int .i64 ((rd_T36 l0_1 (ji29)).f10)) := hS_
          obtain ⟨Ao54, co54, eo54⟩ := Kd.R_slice HO149.out
          (first | subst eo54 | (injection eo54 with f1_ f2_ f3_; have f4_ := f1_.symm; have f5_ := f3_.symm; clear f1_ f2_ f3_; subst f4_; subst f5_))
          refine norm_ (a' := ?_) ?_ ?_
          rotate_left
          · simp only [putAll, Act.put, List.setIfInBounds_toArray, List.set_cons_zero, List.set_cons_succ]
            rfl
          refine two_ (i := 15) (j := 17) (Ni := some 52) (Nj := some 7) #[true, true, true, true, true, true, true, true, true, true, true, true, true, true, true, true, false, false, false] #[true, true, true, true, true, true, true, true, true, true, true, true, true, true, true, false, false, true, false] rfl rfl rfl rfl (two_of HT_.out (by kernel_rfl)) (by decide) (by decide) (fun K hK => ?_) (fun K hK => ?_)
          · skip
            refine Kd.R_append_rows_step k36 (w0 := w) w.heap.size (by rfl) (.tmp 44) (.tmp 51) 24 36 (.agg #[(.string ⟨#[]⟩), (.int .i64 0), (.int .i64 0), (.int .i64 0), (.int .i64 0), (.int .i64 0), (.int .i64 0), (.int .i64 0), (.int .i64 0), (.int .i64 0), (.int .i64 0)]) 96 rfl Tryd.underlying24 info36 rfl (by decide) (by omega) v144 y143 y147 _ _ _ (fun k_ => some k_ ≠ (.slice Ao54 y147.length co54 : Value).ownBlock) (fun _ => False) rfl rfl ?aO ?aR (fun _ _ h => h) (fun _ h => h.elim) ?aF ?aB ?aS ?aL ?_
            (case aR => repeat (first | exact (Kd.R_reads' HO149.out).2.2 | (with_reducible refine Kd.C_alloc ?_ _) | (with_reducible refine Kd.C_drewN ?_ _) | (with_reducible refine Kd.C_drew ?_)))
            (case aB => exact (by repeat (first | (with_reducible first | exact HB.out | apply below_alloc | apply pw_below_drewN | apply below_drew1 | refine below_set ?_ GE126.out | refine below_set ?_ GE135.out) | exact HB.out)))
            (case aF => exact (fun k_ hk => Kd.fresh' (Kd.R_lt (by (with_reducible repeat (first | apply Kd.R_alloc | apply Kd.R_drewN | apply Kd.R_drew)); exact HO149.out)) k_ hk))
            (case aO => exact (by (with_reducible repeat (first | apply Kd.R_alloc | apply Kd.R_drewN | apply Kd.R_drew)); exact HO145.out))
            (case aS => exact (below_size (by repeat (first | (with_reducible first | exact HB.out | apply below_alloc | apply pw_below_drewN | apply below_drew1 | refine below_set ?_ GE126.out | refine below_set ?_ GE135.out) | exact HB.out))))
            (case aL => have := LMc32.out; omega)
            intro v151 w53 ho hb hg hat
            rw [← Ny150.out] at ho
            have n0_ := Aside0.mk (blk_grown (g := gb126) (o := .cells #[.int .i64 a0_0, .slice (some ad146) l0_1.length c0_1] 26 (0, 0)) (by (with_reducible repeat (first | refine blk_drewN ?_ _ | refine blk_drew ?_ | refine blk_alloc ?_ _)); exact BK126.out) hg (Kd.R_ne HO145.out BK126.out (by decide)))
            have n1_ := Aside0.mk (blk_grown (g := gb135) (o := .cells #[.int .i64 a0_0, .slice (some ad146) y131.length c0_1] 26 (0, 0)) (by (with_reducible repeat (first | refine blk_drewN ?_ _ | refine blk_drew ?_ | refine blk_alloc ?_ _)); exact BK135.out) hg (Kd.R_ne HO145.out BK135.out (by decide)))
            have n2_ := Aside0.mk (Kd.R_after (ok := (fun _ => True)) (by (with_reducible repeat (first | apply Kd.R_alloc | apply Kd.R_drewN | apply Kd.R_drew)); exact Kd.R_mono HO149.out (fun _ hk => ⟨trivial, hk⟩)) hg hat)
            have n3_ := Aside0.mk (hb)
            have n4_ := Aside0.mk (ho)
            clear BK126
            clear BK135
            clear HO149
            clear HB
            clear HO145
            have BK126 := n0_
            have BK135 := n1_
            have HO149 := n2_
            have HB := n3_
            have HO152 := n4_
            clear n0_ n1_ n2_ n3_ n4_
            clear ho hb hg hat
            obtain ⟨Ao55, co55, eo55⟩ := Kd.R_slice HO152.out
            (first | subst eo55 | (injection eo55 with f1_ f2_ f3_; have f4_ := f1_.symm; have f5_ := f3_.symm; clear f1_ f2_ f3_; subst f4_; subst f5_))
            refine hK.out _ _ ⟨(blk_cell BK126.out 0).trans rfl, (blk_cell BK126.out 1).trans rfl, ((HB.out.cell (World.block_lt_of_cell? w _ hw146_0)).trans hw146_0), ((HB.out.cell (World.block_lt_of_cell? w _ hw146_1)).trans hw146_1), ((HB.out.cell (World.block_lt_of_cell? w _ hw146_2)).trans hw146_2), ((HB.out.cell (World.block_lt_of_cell? w _ hw146_3)).trans hw146_3), ((HB.out.cell (World.block_lt_of_cell? w _ hw146_4)).trans hw146_4), ((HB.out.cell (World.block_lt_of_cell? w _ hw146_5)).trans hw146_5), ((HB.out.cell (World.block_lt_of_cell? w _ hw146_6)).trans hw146_6), ((HB.out.cell (World.block_lt_of_cell? w _ hw146_7)).trans hw146_7), ((HB.out.cell (World.block_lt_of_cell? w _ hw146_8)).trans hw146_8), ((HB.out.cell (World.block_lt_of_cell? w _ hw146_9)).trans hw146_9), ((HB.out.cell (World.block_lt_of_cell? w _ hw146_10)).trans hw146_10)⟩ (fun hHeld => ?_)
            clear hK K
            refine norm_ (a' := ?_) ?_ ?_
            rotate_left
            · show Act.put _ (some 52) _ = _
              simp only [Act.put, List.setIfInBounds_toArray, List.set_cons_zero, List.set_cons_succ, i64_w, i32_w]
              rfl
            refine pure_ (i := 16) (N := some 53) (v := ?_) (a' := ?_) #[true, true, true, true, true, true, true, true, true, true, true, true, true, true, true, true, true, false, false] rfl rfl (any_of HT_.out (by kernel_rfl)) (fun _ _ _ h => h) (Or.inl ⟨by rfl, ?_⟩) ?_ ?_
            rotate_left
            · intro w'
              go_simp
              with_reducible rfl
            rotate_left
            · simp only [Act.put, List.setIfInBounds_toArray, List.set_cons_zero, List.set_cons_succ, i64_w, i32_w]
              rfl
            exact norm_ (by first | (simp only [putAll, Act.put, List.setIfInBounds_toArray, List.set_cons_zero, List.set_cons_succ]; done) | (simp only [putAll, Act.put, List.setIfInBounds_toArray, List.set_cons_zero, List.set_cons_succ]; rfl)) (hJ2_7_14_15 (v137, v144, .slice Ao54 y147.length co54, .slice Ao55 y150.length co55) _ ⟨hHeld, (by (with_reducible repeat (first | apply Kd.R_alloc | apply Kd.R_drewN | apply Kd.R_drew)); exact Kd.R_mono HO149.out (fun _ hk => hk.2)), (by (with_reducible repeat (first | apply Kd.R_alloc | apply Kd.R_drewN | apply Kd.R_drew)); exact HO152.out), (by (with_reducible repeat (first | refine blk_drewN ?_ _ | refine blk_drew ?_ | refine blk_alloc ?_ _)); exact BK126.out), (by (with_reducible repeat (first | refine blk_drewN ?_ _ | refine blk_drew ?_ | refine blk_alloc ?_ _)); exact BK135.out), (by repeat (first | (with_reducible first | exact HB.out | apply below_alloc | apply pw_below_drewN | apply below_drew1 | refine below_set ?_ GE126.out | refine below_set ?_ GE135.out) | exact HB.out))⟩)
          · skip
            refine box_step ?hg (N := 7) ?hd (cs := #[.int .i64 0, .slice none 0 0]) (t := 26) ?hr ?_; (case hd => rfl); (case hg => rfl); (case hr => first | (go_simp; done) | (go_simp; rfl))
            intro gb153 hg w53 hbox hb
            have n0_ := Aside0.mk (Kd.R_below (by (with_reducible repeat (first | apply Kd.R_alloc | apply Kd.R_drewN | apply Kd.R_drew)); exact HO145.out) hb)
            have n1_ := Aside0.mk (Kd.R_below (by (with_reducible repeat (first | apply Kd.R_alloc | apply Kd.R_drewN | apply Kd.R_drew)); exact HO149.out) hb)
            have n2_ := Aside0.mk (blk_below (g := gb126) (o := .cells #[.int .i64 a0_0, .slice (some ad146) l0_1.length c0_1] 26 (0, 0)) (by (with_reducible repeat (first | refine blk_drewN ?_ _ | refine blk_drew ?_ | refine blk_alloc ?_ _)); exact BK126.out) hb)
            have n3_ := Aside0.mk (blk_below (g := gb135) (o := .cells #[.int .i64 a0_0, .slice (some ad146) y131.length c0_1] 26 (0, 0)) (by (with_reducible repeat (first | refine blk_drewN ?_ _ | refine blk_drew ?_ | refine blk_alloc ?_ _)); exact BK135.out) hb)
            have n4_ := Aside0.mk (below_step (by repeat (first | (with_reducible first | exact HB.out | apply below_alloc | apply pw_below_drewN | apply below_drew1 | refine below_set ?_ GE126.out | refine below_set ?_ GE135.out) | exact HB.out)) hb)
            have n5_ := Aside0.mk (hbox)
            have n6_ := Aside0.mk ((by rw [hg]; exact (below_size (by repeat (first | (with_reducible first | exact HB.out | apply below_alloc | apply pw_below_drewN | apply below_drew1 | refine below_set ?_ GE126.out | refine below_set ?_ GE135.out) | exact HB.out))) : w.heap.size ≤ gb153))
            have n7_ := Aside0.mk ((by rw [hg]; exact (below_size (by repeat (first | (with_reducible first | exact HB.out | apply below_alloc | apply pw_below_drewN | apply below_drew1 | refine below_set ?_ GE126.out | refine below_set ?_ GE135.out) | exact HB.out))) : w.heap.size ≤ gb153))
            have n8_ := Aside0.mk ((by rw [hg]; exact Nat.ne_of_lt (blk_lt (g := gb126) (o := .cells #[.int .i64 a0_0, .slice (some ad146) l0_1.length c0_1] 26 (0, 0)) (by (with_reducible repeat (first | refine blk_drewN ?_ _ | refine blk_drew ?_ | refine blk_alloc ?_ _)); exact BK126.out)) : gb126 ≠ gb153))
            have n9_ := Aside0.mk ((by rw [hg]; exact Nat.ne_of_gt (blk_lt (g := gb126) (o := .cells #[.int .i64 a0_0, .slice (some ad146) l0_1.length c0_1] 26 (0, 0)) (by (with_reducible repeat (first | refine blk_drewN ?_ _ | refine blk_drew ?_ | refine blk_alloc ?_ _)); exact BK126.out)) : gb153 ≠ gb126))
            have n10_ := Aside0.mk ((by rw [hg]; exact Nat.ne_of_lt (blk_lt (g := gb135) (o := .cells #[.int .i64 a0_0, .slice (some ad146) y131.length c0_1] 26 (0, 0)) (by (with_reducible repeat (first | refine blk_drewN ?_ _ | refine blk_drew ?_ | refine blk_alloc ?_ _)); exact BK135.out)) : gb135 ≠ gb153))
            have n11_ := Aside0.mk ((by rw [hg]; exact Nat.ne_of_gt (blk_lt (g := gb135) (o := .cells #[.int .i64 a0_0, .slice (some ad146) y131.length c0_1] 26 (0, 0)) (by (with_reducible repeat (first | refine blk_drewN ?_ _ | refine blk_drew ?_ | refine blk_alloc ?_ _)); exact BK135.out)) : gb153 ≠ gb135))
            clear HO145
            clear HO149
            clear BK126
            clear BK135
            clear HB
            have HO145 := n0_
            have HO149 := n1_
            have BK126 := n2_
            have BK135 := n3_
            have HB := n4_
            have BK153 := n5_
            have GW153 := n6_
            have GE153 := n7_
            have NB126_153 := n8_
            have NB153_126 := n9_
            have NB135_153 := n10_
            have NB153_135 := n11_
            clear n0_ n1_ n2_ n3_ n4_ n5_ n6_ n7_ n8_ n9_ n10_ n11_
            clear hb hbox hg
            refine hK.out _ _ ⟨(blk_cell BK126.out 0).trans rfl, (blk_cell BK126.out 1).trans rfl, ((HB.out.cell (World.block_lt_of_cell? w _ hw146_0)).trans hw146_0), ((HB.out.cell (World.block_lt_of_cell? w _ hw146_1)).trans hw146_1), ((HB.out.cell (World.block_lt_of_cell? w _ hw146_2)).trans hw146_2), ((HB.out.cell (World.block_lt_of_cell? w _ hw146_3)).trans hw146_3), ((HB.out.cell (World.block_lt_of_cell? w _ hw146_4)).trans hw146_4), ((HB.out.cell (World.block_lt_of_cell? w _ hw146_5)).trans hw146_5), ((HB.out.cell (World.block_lt_of_cell? w _ hw146_6)).trans hw146_6), ((HB.out.cell (World.block_lt_of_cell? w _ hw146_7)).trans hw146_7), ((HB.out.cell (World.block_lt_of_cell? w _ hw146_8)).trans hw146_8), ((HB.out.cell (World.block_lt_of_cell? w _ hw146_9)).trans hw146_9), ((HB.out.cell (World.block_lt_of_cell? w _ hw146_10)).trans hw146_10)⟩ (fun hHeld => ?_)
            clear hK K
            refine norm_ (a' := ?_) ?_ ?_
            rotate_left
            · show Act.put _ (some 7) _ = _
              simp only [Act.put, List.setIfInBounds_toArray, List.set_cons_zero, List.set_cons_succ, i64_w, i32_w]
              rfl
            exact norm_ (by first | (simp only [putAll, Act.put, List.setIfInBounds_toArray, List.set_cons_zero, List.set_cons_succ]; done) | (simp only [putAll, Act.put, List.setIfInBounds_toArray, List.set_cons_zero, List.set_cons_succ]; rfl)) (hJ2_7_14_17 (v137, v144, .slice Ao54 y147.length co54, gb153) _ ⟨hHeld, (by (with_reducible repeat (first | apply Kd.R_alloc | apply Kd.R_drewN | apply Kd.R_drew)); exact HO145.out), (by (with_reducible repeat (first | apply Kd.R_alloc | apply Kd.R_drewN | apply Kd.R_drew)); exact HO149.out), (by (with_reducible repeat (first | refine blk_drewN ?_ _ | refine blk_drew ?_ | refine blk_alloc ?_ _)); exact BK126.out), (by (with_reducible repeat (first | refine blk_drewN ?_ _ | refine blk_drew ?_ | refine blk_alloc ?_ _)); exact BK135.out), (by (with_reducible repeat (first | refine blk_drewN ?_ _ | refine blk_drew ?_ | refine blk_alloc ?_ _)); exact BK153.out), GW153.out, GE153.out, NB126_153.out, NB153_126.out, NB135_153.out, NB153_135.out, (by repeat (first | (with_reducible first | exact HB.out | apply below_alloc | apply pw_below_drewN | apply below_drew1 | refine below_set ?_ GE126.out | refine below_set ?_ GE135.out | refine below_set ?_ GE153.out) | exact HB.out))⟩)
      · skip
        rintro ⟨v137, v144, v148, gb153⟩ w53 ⟨hS_, h0_, h1_, h2_, h3_, h4_, h5_, h6_, h7_, h8_, h9_, h10_, h11_⟩
        have n0_ : Aside0 (Kd.R k36 36 w53 w.heap.size (fun k_ => some k_ ≠ (v148 : Value).ownBlock) v144 y143) := ⟨h0_⟩
        have n1_ : Aside0 (Kd.R k36 36 w53 w.heap.size (fun k_ => some k_ ≠ (v144 : Value).ownBlock) v148 y147) := ⟨h1_⟩
        have n2_ : Aside0 (w53.heap[gb126]? = some (.cells #[.int .i64 a0_0, .slice (some ad146) l0_1.length c0_1] 26 (0, 0))) := ⟨h2_⟩
        have n3_ : Aside0 (w53.heap[gb135]? = some (.cells #[.int .i64 a0_0, .slice (some ad146) y131.length c0_1] 26 (0, 0))) := ⟨h3_⟩
        have n4_ : Aside0 (w53.heap[gb153]? = some (.cells #[.int .i64 0, .slice none 0 0] 26 (0, 0))) := ⟨h4_⟩
        have n5_ : Aside0 (w.heap.size ≤ gb153) := ⟨h5_⟩
        have n6_ : Aside0 (w.heap.size ≤ gb153) := ⟨h6_⟩
        have n7_ : Aside0 (gb126 ≠ gb153) := ⟨h7_⟩
        have n8_ : Aside0 (gb153 ≠ gb126) := ⟨h8_⟩
        have n9_ : Aside0 (gb135 ≠ gb153) := ⟨h9_⟩
        have n10_ : Aside0 (gb153 ≠ gb135) := ⟨h10_⟩
        have n11_ : Aside0 (Below w.heap.size w w53) := ⟨h11_⟩
        clear BK126
        clear BK135
        clear HB
        clear h0_ h1_ h2_ h3_ h4_ h5_ h6_ h7_ h8_ h9_ h10_ h11_
        have HO145 := n0_
        have HO149 := n1_
        have BK126 := n2_
        have BK135 := n3_
        have BK153 := n4_
        have GW153 := n5_
        have GE153 := n6_
        have NB126_153 := n7_
        have NB153_126 := n8_
        have NB135_153 := n9_
        have NB153_135 := n10_
        have HB := n11_
        clear n0_ n1_ n2_ n3_ n4_ n5_ n6_ n7_ n8_ n9_ n10_ n11_
        have hHeld : w53.cell? ⟨gb126, 0, none⟩ = some (.int .i64 a0_0) ∧ w53.cell? ⟨gb126, 1, none⟩ = some (.slice (some ad146) l0_1.length c0_1) ∧ w53.cell? (ad146.add (((ji29)).toNat * 11)) = some (.string ((rd_T36 l0_1 (ji29)).f0)) ∧ w53.cell? ⟨(ad146.add (((ji29)).toNat * 11)).block, (ad146.add (((ji29)).toNat * 11)).off + 1, none⟩ = some (.int .i64 ((rd_T36 l0_1 (ji29)).f1)) ∧ w53.cell? ⟨(ad146.add (((ji29)).toNat * 11)).block, (ad146.add (((ji29)).toNat * 11)).off + 2, none⟩ = some (.int .i64 ((rd_T36 l0_1 (ji29)).f2)) ∧ w53.cell? ⟨(ad146.add (((ji29)).toNat * 11)).block, (ad146.add (((ji29)).toNat * 11)).off + 3, none⟩ = some (.int .i64 ((rd_T36 l0_1 (ji29)).f3)) ∧ w53.cell? ⟨(ad146.add (((ji29)).toNat * 11)).block, (ad146.add (((ji29)).toNat * 11)).off + 4, none⟩ = some (.int .i64 ((rd_T36 l0_1 (ji29)).f4)) ∧ w53.cell? ⟨(ad146.add (((ji29)).toNat * 11)).block, (ad146.add (((ji29)).toNat * 11)).off + 5, none⟩ = some (.int .i64 ((rd_T36 l0_1 (ji29)).f5)) ∧ w53.cell? ⟨(ad146.add (((ji29)).toNat * 11)).block, (ad146.add (((ji29)).toNat * 11)).off + 6, none⟩ = some (.int .i64 ((rd_T36 l0_1 (ji29)).f6)) ∧ w53.cell? ⟨(ad146.add (((ji29)).toNat * 11)).block, (ad146.add (((ji29)).toNat * 11)).off + 7, none⟩ = some (.int .i64 ((rd_T36 l0_1 (ji29)).f7)) ∧ w53.cell? ⟨(ad146.add (((ji29)).toNat * 11)).block, (ad146.add (((ji29)).toNat * 11)).off + 8, none⟩ = some (.int .i64 ((rd_T36 l0_1 (ji29)).f8)) ∧ w53.cell? ⟨(ad146.add (((ji29)).toNat * 11)).block, (ad146.add (((ji29)).toNat * 11)).off + 9, none⟩ = some (.int .i64 ((rd_T36 l0_1 (ji29)).f9)) ∧ w53.cell? ⟨(ad146.add (((ji29)).toNat * 11)).block, (ad146.add (((ji29)).toNat * 11)).off + 10, none⟩ = some (.int .i64 ((rd_T36 l0_1 (ji29)).f10)) := hS_
        obtain ⟨Ao55, co55, eo55⟩ := Kd.R_slice HO149.out
        (first | subst eo55 | (injection eo55 with f1_ f2_ f3_; have f4_ := f1_.symm; have f5_ := f3_.symm; clear f1_ f2_ f3_; subst f4_; subst f5_))
        refine norm_ (a' := ?_) ?_ ?_
        rotate_left
        · simp only [putAll, Act.put, List.setIfInBounds_toArray, List.set_cons_zero, List.set_cons_succ]
          rfl
        refine one_ (i := 15) (N := some 52) #[true, true, true, true, true, true, true, true, true, true, true, true, true, true, true, true, false, true, false] rfl rfl (one_of HT_.out (by kernel_rfl)) (by decide) (fun K hK => ?_)
        refine Kd.R_append_rows_step k36 (w0 := w) w.heap.size (by rfl) (.tmp 44) (.tmp 51) 24 36 (.agg #[(.string ⟨#[]⟩), (.int .i64 0), (.int .i64 0), (.int .i64 0), (.int .i64 0), (.int .i64 0), (.int .i64 0), (.int .i64 0), (.int .i64 0), (.int .i64 0), (.int .i64 0)]) 96 rfl Tryd.underlying24 info36 rfl (by decide) (by omega) v144 y143 y147 _ _ _ (fun k_ => some k_ ≠ (.slice Ao55 y147.length co55 : Value).ownBlock) (fun _ => False) rfl rfl ?aO ?aR (fun _ _ h => h) (fun _ h => h.elim) ?aF ?aB ?aS ?aL ?_
        (case aR => repeat (first | exact (Kd.R_reads' HO149.out).2.2 | (with_reducible refine Kd.C_alloc ?_ _) | (with_reducible refine Kd.C_drewN ?_ _) | (with_reducible refine Kd.C_drew ?_)))
        (case aB => exact (by repeat (first | (with_reducible first | exact HB.out | apply below_alloc | apply pw_below_drewN | apply below_drew1 | refine below_set ?_ GE126.out | refine below_set ?_ GE135.out | refine below_set ?_ GE153.out) | exact HB.out)))
        (case aF => exact (fun k_ hk => Kd.fresh' (Kd.R_lt (by (with_reducible repeat (first | apply Kd.R_alloc | apply Kd.R_drewN | apply Kd.R_drew)); exact HO149.out)) k_ hk))
        (case aO => exact (by (with_reducible repeat (first | apply Kd.R_alloc | apply Kd.R_drewN | apply Kd.R_drew)); exact HO145.out))
        (case aS => exact (below_size (by repeat (first | (with_reducible first | exact HB.out | apply below_alloc | apply pw_below_drewN | apply below_drew1 | refine below_set ?_ GE126.out | refine below_set ?_ GE135.out | refine below_set ?_ GE153.out) | exact HB.out))))
        (case aL => have := LMc32.out; omega)
        intro v151 w54 ho hb hg hat
        rw [← Ny150.out] at ho
        have n0_ := Aside0.mk (blk_grown (g := gb126) (o := .cells #[.int .i64 a0_0, .slice (some ad146) l0_1.length c0_1] 26 (0, 0)) (by (with_reducible repeat (first | refine blk_drewN ?_ _ | refine blk_drew ?_ | refine blk_alloc ?_ _)); exact BK126.out) hg (Kd.R_ne HO145.out BK126.out (by decide)))
        have n1_ := Aside0.mk (blk_grown (g := gb135) (o := .cells #[.int .i64 a0_0, .slice (some ad146) y131.length c0_1] 26 (0, 0)) (by (with_reducible repeat (first | refine blk_drewN ?_ _ | refine blk_drew ?_ | refine blk_alloc ?_ _)); exact BK135.out) hg (Kd.R_ne HO145.out BK135.out (by decide)))
        have n2_ := Aside0.mk (Kd.R_after (ok := (fun _ => True)) (by (with_reducible repeat (first | apply Kd.R_alloc | apply Kd.R_drewN | apply Kd.R_drew)); exact Kd.R_mono HO149.out (fun _ hk => ⟨trivial, hk⟩)) hg hat)
        have n3_ := Aside0.mk (blk_grown (g := gb153) (o := .cells #[.int .i64 0, .slice none 0 0] 26 (0, 0)) (by (with_reducible repeat (first | refine blk_drewN ?_ _ | refine blk_drew ?_ | refine blk_alloc ?_ _)); exact BK153.out) hg (Kd.R_ne HO145.out BK153.out (by decide)))
        have n4_ := Aside0.mk (hb)
        have n5_ := Aside0.mk (ho)
        clear BK126
        clear BK135
        clear HO149
        clear BK153
        clear HB
        clear HO145
        have BK126 := n0_
        have BK135 := n1_
        have HO149 := n2_
        have BK153 := n3_
        have HB := n4_
        have HO152 := n5_
        clear n0_ n1_ n2_ n3_ n4_ n5_
        clear ho hb hg hat
        obtain ⟨Ao56, co56, eo56⟩ := Kd.R_slice HO152.out
        (first | subst eo56 | (injection eo56 with f1_ f2_ f3_; have f4_ := f1_.symm; have f5_ := f3_.symm; clear f1_ f2_ f3_; subst f4_; subst f5_))
        refine hK.out _ _ ⟨(blk_cell BK126.out 0).trans rfl, (blk_cell BK126.out 1).trans rfl, ((HB.out.cell (World.block_lt_of_cell? w _ hw146_0)).trans hw146_0), ((HB.out.cell (World.block_lt_of_cell? w _ hw146_1)).trans hw146_1), ((HB.out.cell (World.block_lt_of_cell? w _ hw146_2)).trans hw146_2), ((HB.out.cell (World.block_lt_of_cell? w _ hw146_3)).trans hw146_3), ((HB.out.cell (World.block_lt_of_cell? w _ hw146_4)).trans hw146_4), ((HB.out.cell (World.block_lt_of_cell? w _ hw146_5)).trans hw146_5), ((HB.out.cell (World.block_lt_of_cell? w _ hw146_6)).trans hw146_6), ((HB.out.cell (World.block_lt_of_cell? w _ hw146_7)).trans hw146_7), ((HB.out.cell (World.block_lt_of_cell? w _ hw146_8)).trans hw146_8), ((HB.out.cell (World.block_lt_of_cell? w _ hw146_9)).trans hw146_9), ((HB.out.cell (World.block_lt_of_cell? w _ hw146_10)).trans hw146_10)⟩ (fun hHeld => ?_)
        clear hK K
        refine norm_ (a' := ?_) ?_ ?_
        rotate_left
        · show Act.put _ (some 52) _ = _
          simp only [Act.put, List.setIfInBounds_toArray, List.set_cons_zero, List.set_cons_succ, i64_w, i32_w]
          rfl
        refine pure_ (i := 16) (N := some 53) (v := ?_) (a' := ?_) #[true, true, true, true, true, true, true, true, true, true, true, true, true, true, true, true, true, true, false] rfl rfl (any_of HT_.out (by kernel_rfl)) (fun _ _ _ h => h) (Or.inl ⟨by rfl, ?_⟩) ?_ ?_
        rotate_left
        · intro w'
          go_simp
          with_reducible rfl
        rotate_left
        · simp only [Act.put, List.setIfInBounds_toArray, List.set_cons_zero, List.set_cons_succ, i64_w, i32_w]
          rfl
        exact norm_ (by first | (simp only [putAll, Act.put, List.setIfInBounds_toArray, List.set_cons_zero, List.set_cons_succ]; done) | (simp only [putAll, Act.put, List.setIfInBounds_toArray, List.set_cons_zero, List.set_cons_succ]; rfl)) (hJ2_7_14_15_17 (v137, v144, .slice Ao55 y147.length co55, .slice Ao56 y150.length co56, gb153) _ ⟨hHeld, (by (with_reducible repeat (first | apply Kd.R_alloc | apply Kd.R_drewN | apply Kd.R_drew)); exact Kd.R_mono HO149.out (fun _ hk => hk.2)), (by (with_reducible repeat (first | apply Kd.R_alloc | apply Kd.R_drewN | apply Kd.R_drew)); exact HO152.out), (by (with_reducible repeat (first | refine blk_drewN ?_ _ | refine blk_drew ?_ | refine blk_alloc ?_ _)); exact BK126.out), (by (with_reducible repeat (first | refine blk_drewN ?_ _ | refine blk_drew ?_ | refine blk_alloc ?_ _)); exact BK135.out), (by (with_reducible repeat (first | refine blk_drewN ?_ _ | refine blk_drew ?_ | refine blk_alloc ?_ _)); exact BK153.out), GW153.out, GE153.out, NB126_153.out, NB153_126.out, NB135_153.out, NB153_135.out, (by repeat (first | (with_reducible first | exact HB.out | apply below_alloc | apply pw_below_drewN | apply below_drew1 | refine below_set ?_ GE126.out | refine below_set ?_ GE135.out | refine below_set ?_ GE153.out) | exact HB.out))⟩)
    · skip
      rintro ⟨v137, v144, v148, v151⟩ w55 ⟨hS_, h0_, h1_, h2_, h3_, h4_⟩
      have n0_ : Aside0 (Kd.R k36 36 w55 w.heap.size (fun k_ => some k_ ≠ (v151 : Value).ownBlock) v148 y147) := ⟨h0_⟩
      have n1_ : Aside0 (Kd.R k36 36 w55 w.heap.size (fun k_ => some k_ ≠ (v148 : Value).ownBlock) v151 y150) := ⟨h1_⟩
      have n2_ : Aside0 (w55.heap[gb126]? = some (.cells #[.int .i64 a0_0, .slice (some ad146) l0_1.length c0_1] 26 (0, 0))) := ⟨h2_⟩
      have n3_ : Aside0 (w55.heap[gb135]? = some (.cells #[.int .i64 a0_0, .slice (some ad146) y131.length c0_1] 26 (0, 0))) := ⟨h3_⟩
      have n4_ : Aside0 (Below w.heap.size w w55) := ⟨h4_⟩
      clear BK126
      clear BK135
      clear HB
      clear h0_ h1_ h2_ h3_ h4_
      have HO149 := n0_
      have HO152 := n1_
      have BK126 := n2_
      have BK135 := n3_
      have HB := n4_
      clear n0_ n1_ n2_ n3_ n4_
      have hHeld : w55.cell? ⟨gb126, 0, none⟩ = some (.int .i64 a0_0) ∧ w55.cell? ⟨gb126, 1, none⟩ = some (.slice (some ad146) l0_1.length c0_1) ∧ w55.cell? (ad146.add (((ji29)).toNat * 11)) = some (.string ((rd_T36 l0_1 (ji29)).f0)) ∧ w55.cell? ⟨(ad146.add (((ji29)).toNat * 11)).block, (ad146.add (((ji29)).toNat * 11)).off + 1, none⟩ = some (.int .i64 ((rd_T36 l0_1 (ji29)).f1)) ∧ w55.cell? ⟨(ad146.add (((ji29)).toNat * 11)).block, (ad146.add (((ji29)).toNat * 11)).off + 2, none⟩ = some (.int .i64 ((rd_T36 l0_1 (ji29)).f2)) ∧ w55.cell? ⟨(ad146.add (((ji29)).toNat * 11)).block, (ad146.add (((ji29)).toNat * 11)).off + 3, none⟩ = some (.int .i64 ((rd_T36 l0_1 (ji29)).f3)) ∧ w55.cell? ⟨(ad146.add (((ji29)).toNat * 11)).block, (ad146.add (((ji29)).toNat * 11)).off + 4, none⟩ = some (.int .i64 ((rd_T36 l0_1 (ji29)).f4)) ∧ w55.cell? ⟨(ad146.add (((ji29)).toNat * 11)).block, (ad146.add (((ji29)).toNat * 11)).off + 5, none⟩ = some (.int .i64 ((rd_T36 l0_1 (ji29)).f5)) ∧ w55.cell? ⟨(ad146.add (((ji29)).toNat * 11)).block, (ad146.add (((ji29)).toNat * 11)).off + 6, none⟩ = some (.int .i64 ((rd_T36 l0_1 (ji29)).f6)) ∧ w55.cell? ⟨(ad146.add (((ji29)).toNat * 11)).block, (ad146.add (((ji29)).toNat * 11)).off + 7, none⟩ = some (.int .i64 ((rd_T36 l0_1 (ji29)).f7)) ∧ w55.cell? ⟨(ad146.add (((ji29)).toNat * 11)).block, (ad146.add (((ji29)).toNat * 11)).off + 8, none⟩ = some (.int .i64 ((rd_T36 l0_1 (ji29)).f8)) ∧ w55.cell? ⟨(ad146.add (((ji29)).toNat * 11)).block, (ad146.add (((ji29)).toNat * 11)).off + 9, none⟩ = some (.int .i64 ((rd_T36 l0_1 (ji29)).f9)) ∧ w55.cell? ⟨(ad146.add (((ji29)).toNat * 11)).block, (ad146.add (((ji29)).toNat * 11)).off + 10, none⟩ = some (.int .i64 ((rd_T36 l0_1 (ji29)).f10)) := hS_
      obtain ⟨Ao56, co56, eo56⟩ := Kd.R_slice HO152.out
      (first | subst eo56 | (injection eo56 with f1_ f2_ f3_; have f4_ := f1_.symm; have f5_ := f3_.symm; clear f1_ f2_ f3_; subst f4_; subst f5_))
      refine norm_ (a' := ?_) ?_ ?_
      rotate_left
      · simp only [putAll, Act.put, List.setIfInBounds_toArray, List.set_cons_zero, List.set_cons_succ]
        rfl
      refine one_ (i := 17) (N := some 7) #[true, true, true, true, true, true, true, true, true, true, true, true, true, true, true, true, true, true, false] rfl rfl (one_of HT_.out (by kernel_rfl)) (by decide) (fun K hK => ?_)
      refine box_step ?hg (N := 7) ?hd (cs := #[.int .i64 0, .slice none 0 0]) (t := 26) ?hr ?_; (case hd => rfl); (case hg => rfl); (case hr => first | (go_simp; done) | (go_simp; rfl))
      intro gb153 hg w57 hbox hb
      have n0_ := Aside0.mk (Kd.R_below (by (with_reducible repeat (first | apply Kd.R_alloc | apply Kd.R_drewN | apply Kd.R_drew)); exact HO149.out) hb)
      have n1_ := Aside0.mk (Kd.R_below (by (with_reducible repeat (first | apply Kd.R_alloc | apply Kd.R_drewN | apply Kd.R_drew)); exact HO152.out) hb)
      have n2_ := Aside0.mk (blk_below (g := gb126) (o := .cells #[.int .i64 a0_0, .slice (some ad146) l0_1.length c0_1] 26 (0, 0)) (by (with_reducible repeat (first | refine blk_drewN ?_ _ | refine blk_drew ?_ | refine blk_alloc ?_ _)); exact BK126.out) hb)
      have n3_ := Aside0.mk (blk_below (g := gb135) (o := .cells #[.int .i64 a0_0, .slice (some ad146) y131.length c0_1] 26 (0, 0)) (by (with_reducible repeat (first | refine blk_drewN ?_ _ | refine blk_drew ?_ | refine blk_alloc ?_ _)); exact BK135.out) hb)
      have n4_ := Aside0.mk (below_step (by repeat (first | (with_reducible first | exact HB.out | apply below_alloc | apply pw_below_drewN | apply below_drew1 | refine below_set ?_ GE126.out | refine below_set ?_ GE135.out) | exact HB.out)) hb)
      have n5_ := Aside0.mk (hbox)
      have n6_ := Aside0.mk ((by rw [hg]; exact (below_size (by repeat (first | (with_reducible first | exact HB.out | apply below_alloc | apply pw_below_drewN | apply below_drew1 | refine below_set ?_ GE126.out | refine below_set ?_ GE135.out) | exact HB.out))) : w.heap.size ≤ gb153))
      have n7_ := Aside0.mk ((by rw [hg]; exact (below_size (by repeat (first | (with_reducible first | exact HB.out | apply below_alloc | apply pw_below_drewN | apply below_drew1 | refine below_set ?_ GE126.out | refine below_set ?_ GE135.out) | exact HB.out))) : w.heap.size ≤ gb153))
      have n8_ := Aside0.mk ((by rw [hg]; exact Nat.ne_of_lt (blk_lt (g := gb126) (o := .cells #[.int .i64 a0_0, .slice (some ad146) l0_1.length c0_1] 26 (0, 0)) (by (with_reducible repeat (first | refine blk_drewN ?_ _ | refine blk_drew ?_ | refine blk_alloc ?_ _)); exact BK126.out)) : gb126 ≠ gb153))
      have n9_ := Aside0.mk ((by rw [hg]; exact Nat.ne_of_gt (blk_lt (g := gb126) (o := .cells #[.int .i64 a0_0, .slice (some ad146) l0_1.length c0_1] 26 (0, 0)) (by (with_reducible repeat (first | refine blk_drewN ?_ _ | refine blk_drew ?_ | refine blk_alloc ?_ _)); exact BK126.out)) : gb153 ≠ gb126))
      have n10_ := Aside0.mk ((by rw [hg]; exact Nat.ne_of_lt (blk_lt (g := gb135) (o := .cells #[.int .i64 a0_0, .slice (some ad146) y131.length c0_1] 26 (0, 0)) (by (with_reducible repeat (first | refine blk_drewN ?_ _ | refine blk_drew ?_ | refine blk_alloc ?_ _)); exact BK135.out)) : gb135 ≠ gb153))
      have n11_ := Aside0.mk ((by rw [hg]; exact Nat.ne_of_gt (blk_lt (g := gb135) (o := .cells #[.int .i64 a0_0, .slice (some ad146) y131.length c0_1] 26 (0, 0)) (by (with_reducible repeat (first | refine blk_drewN ?_ _ | refine blk_drew ?_ | refine blk_alloc ?_ _)); exact BK135.out)) : gb153 ≠ gb135))
      clear HO149
      clear HO152
      clear BK126
      clear BK135
      clear HB
      have HO149 := n0_
      have HO152 := n1_
      have BK126 := n2_
      have BK135 := n3_
      have HB := n4_
      have BK153 := n5_
      have GW153 := n6_
      have GE153 := n7_
      have NB126_153 := n8_
      have NB153_126 := n9_
      have NB135_153 := n10_
      have NB153_135 := n11_
      clear n0_ n1_ n2_ n3_ n4_ n5_ n6_ n7_ n8_ n9_ n10_ n11_
      clear hb hbox hg
      refine hK.out _ _ ⟨(blk_cell BK126.out 0).trans rfl, (blk_cell BK126.out 1).trans rfl, ((HB.out.cell (World.block_lt_of_cell? w _ hw146_0)).trans hw146_0), ((HB.out.cell (World.block_lt_of_cell? w _ hw146_1)).trans hw146_1), ((HB.out.cell (World.block_lt_of_cell? w _ hw146_2)).trans hw146_2), ((HB.out.cell (World.block_lt_of_cell? w _ hw146_3)).trans hw146_3), ((HB.out.cell (World.block_lt_of_cell? w _ hw146_4)).trans hw146_4), ((HB.out.cell (World.block_lt_of_cell? w _ hw146_5)).trans hw146_5), ((HB.out.cell (World.block_lt_of_cell? w _ hw146_6)).trans hw146_6), ((HB.out.cell (World.block_lt_of_cell? w _ hw146_7)).trans hw146_7), ((HB.out.cell (World.block_lt_of_cell? w _ hw146_8)).trans hw146_8), ((HB.out.cell (World.block_lt_of_cell? w _ hw146_9)).trans hw146_9), ((HB.out.cell (World.block_lt_of_cell? w _ hw146_10)).trans hw146_10)⟩ (fun hHeld => ?_)
      clear hK K
      refine norm_ (a' := ?_) ?_ ?_
      rotate_left
      · show Act.put _ (some 7) _ = _
        simp only [Act.put, List.setIfInBounds_toArray, List.set_cons_zero, List.set_cons_succ, i64_w, i32_w]
        rfl
      exact norm_ (by first | (simp only [putAll, Act.put, List.setIfInBounds_toArray, List.set_cons_zero, List.set_cons_succ]; done) | (simp only [putAll, Act.put, List.setIfInBounds_toArray, List.set_cons_zero, List.set_cons_succ]; rfl)) (hJ2_7_14_15_17 (v137, v144, v148, .slice Ao56 y150.length co56, gb153) _ ⟨hHeld, (by (with_reducible repeat (first | apply Kd.R_alloc | apply Kd.R_drewN | apply Kd.R_drew)); exact HO149.out), (by (with_reducible repeat (first | apply Kd.R_alloc | apply Kd.R_drewN | apply Kd.R_drew)); exact HO152.out), (by (with_reducible repeat (first | refine blk_drewN ?_ _ | refine blk_drew ?_ | refine blk_alloc ?_ _)); exact BK126.out), (by (with_reducible repeat (first | refine blk_drewN ?_ _ | refine blk_drew ?_ | refine blk_alloc ?_ _)); exact BK135.out), (by (with_reducible repeat (first | refine blk_drewN ?_ _ | refine blk_drew ?_ | refine blk_alloc ?_ _)); exact BK153.out), GW153.out, GE153.out, NB126_153.out, NB153_126.out, NB135_153.out, NB153_135.out, (by repeat (first | (with_reducible first | exact HB.out | apply below_alloc | apply pw_below_drewN | apply below_drew1 | refine below_set ?_ GE126.out | refine below_set ?_ GE135.out | refine below_set ?_ GE153.out) | exact HB.out))⟩)
  rintro ⟨v137, v144, v148, v151, gb153⟩ w56 ⟨hS_, h0_, h1_, h2_, h3_, h4_, h5_, h6_, h7_, h8_, h9_, h10_, h11_⟩
  have n0_ : Aside0 (Kd.R k36 36 w56 w.heap.size (fun k_ => some k_ ≠ (v151 : Value).ownBlock) v148 y147) := ⟨h0_⟩
  have n1_ : Aside0 (Kd.R k36 36 w56 w.heap.size (fun k_ => some k_ ≠ (v148 : Value).ownBlock) v151 y150) := ⟨h1_⟩
  have n2_ : Aside0 (w56.heap[gb126]? = some (.cells #[.int .i64 a0_0, .slice (some ad146) l0_1.length c0_1] 26 (0, 0))) := ⟨h2_⟩
  have n3_ : Aside0 (w56.heap[gb135]? = some (.cells #[.int .i64 a0_0, .slice (some ad146) y131.length c0_1] 26 (0, 0))) := ⟨h3_⟩
  have n4_ : Aside0 (w56.heap[gb153]? = some (.cells #[.int .i64 0, .slice none 0 0] 26 (0, 0))) := ⟨h4_⟩
  have n5_ : Aside0 (w.heap.size ≤ gb153) := ⟨h5_⟩
  have n6_ : Aside0 (w.heap.size ≤ gb153) := ⟨h6_⟩
  have n7_ : Aside0 (gb126 ≠ gb153) := ⟨h7_⟩
  have n8_ : Aside0 (gb153 ≠ gb126) := ⟨h8_⟩
  have n9_ : Aside0 (gb135 ≠ gb153) := ⟨h9_⟩
  have n10_ : Aside0 (gb153 ≠ gb135) := ⟨h10_⟩
  have n11_ : Aside0 (Below w.heap.size w w56) := ⟨h11_⟩
  clear BK126
  clear BK135
  clear HB
  clear h0_ h1_ h2_ h3_ h4_ h5_ h6_ h7_ h8_ h9_ h10_ h11_
  have HO149 := n0_
  have HO152 := n1_
  have BK126 := n2_
  have BK135 := n3_
  have BK153 := n4_
  have GW153 := n5_
  have GE153 := n6_
  have NB126_153 := n7_
  have NB153_126 := n8_
  have NB135_153 := n9_
  have NB153_135 := n10_
  have HB := n11_
  clear n0_ n1_ n2_ n3_ n4_ n5_ n6_ n7_ n8_ n9_ n10_ n11_
  have hHeld : w56.cell? ⟨gb126, 0, none⟩ = some (.int .i64 a0_0) ∧ w56.cell? ⟨gb126, 1, none⟩ = some (.slice (some ad146) l0_1.length c0_1) ∧ w56.cell? (ad146.add (((ji29)).toNat * 11)) = some (.string ((rd_T36 l0_1 (ji29)).f0)) ∧ w56.cell? ⟨(ad146.add (((ji29)).toNat * 11)).block, (ad146.add (((ji29)).toNat * 11)).off + 1, none⟩ = some (.int .i64 ((rd_T36 l0_1 (ji29)).f1)) ∧ w56.cell? ⟨(ad146.add (((ji29)).toNat * 11)).block, (ad146.add (((ji29)).toNat * 11)).off + 2, none⟩ = some (.int .i64 ((rd_T36 l0_1 (ji29)).f2)) ∧ w56.cell? ⟨(ad146.add (((ji29)).toNat * 11)).block, (ad146.add (((ji29)).toNat * 11)).off + 3, none⟩ = some (.int .i64 ((rd_T36 l0_1 (ji29)).f3)) ∧ w56.cell? ⟨(ad146.add (((ji29)).toNat * 11)).block, (ad146.add (((ji29)).toNat * 11)).off + 4, none⟩ = some (.int .i64 ((rd_T36 l0_1 (ji29)).f4)) ∧ w56.cell? ⟨(ad146.add (((ji29)).toNat * 11)).block, (ad146.add (((ji29)).toNat * 11)).off + 5, none⟩ = some (.int .i64 ((rd_T36 l0_1 (ji29)).f5)) ∧ w56.cell? ⟨(ad146.add (((ji29)).toNat * 11)).block, (ad146.add (((ji29)).toNat * 11)).off + 6, none⟩ = some (.int .i64 ((rd_T36 l0_1 (ji29)).f6)) ∧ w56.cell? ⟨(ad146.add (((ji29)).toNat * 11)).block, (ad146.add (((ji29)).toNat * 11)).off + 7, none⟩ = some (.int .i64 ((rd_T36 l0_1 (ji29)).f7)) ∧ w56.cell? ⟨(ad146.add (((ji29)).toNat * 11)).block, (ad146.add (((ji29)).toNat * 11)).off + 8, none⟩ = some (.int .i64 ((rd_T36 l0_1 (ji29)).f8)) ∧ w56.cell? ⟨(ad146.add (((ji29)).toNat * 11)).block, (ad146.add (((ji29)).toNat * 11)).off + 9, none⟩ = some (.int .i64 ((rd_T36 l0_1 (ji29)).f9)) ∧ w56.cell? ⟨(ad146.add (((ji29)).toNat * 11)).block, (ad146.add (((ji29)).toNat * 11)).off + 10, none⟩ = some (.int .i64 ((rd_T36 l0_1 (ji29)).f10)) := hS_
  obtain ⟨Ao57, co57, eo57⟩ := Kd.R_slice HO152.out
  (first | subst eo57 | (injection eo57 with f1_ f2_ f3_; have f4_ := f1_.symm; have f5_ := f3_.symm; clear f1_ f2_ f3_; subst f4_; subst f5_))
  refine norm_ (a' := ?_) ?_ ?_
  rotate_left
  · simp only [putAll, Act.put, List.setIfInBounds_toArray, List.set_cons_zero, List.set_cons_succ]
    rfl
  refine one_ (i := 18) (N := none) #[true, true, true, true, true, true, true, true, true, true, true, true, true, true, true, true, true, true, true] rfl rfl (one_of HT_.out (by kernel_rfl)) (by decide) (fun K hK => ?_)
  have hs58 : w56.cell? ⟨gb153, 0, none⟩ = some (.int .i64 0) := (blk_cell BK153.out 0).trans rfl
  have hfs58 := blk_frozen BK153.out 0
  have hns58_0 := NB126_153.out
  have hns58_1 := NB135_153.out
  have hms58_0 := NB153_126.out
  have hms58_1 := NB153_135.out
  have hs59 : w56.cell? ⟨gb153, 1, none⟩ = some (.slice none 0 0) := (blk_cell BK153.out 1).trans rfl
  have hfs59 := blk_frozen BK153.out 1
  have hns59_0 := NB126_153.out
  have hns59_1 := NB135_153.out
  have hms59_0 := NB153_126.out
  have hms59_1 := NB153_135.out
  refine skip_ (w1 := ?_) (by rfl) rfl ?_ ?_
  rotate_left
  · go_simp
    rfl
  refine hK.out _ _ ⟨((cell_far (p := ⟨gb153, _, none⟩) NB126_153.out _).trans (((cell_far (p := ⟨gb153, _, none⟩) NB126_153.out _).trans (hHeld.1)))), ((cell_far (p := ⟨gb153, _, none⟩) NB126_153.out _).trans (((cell_far (p := ⟨gb153, _, none⟩) NB126_153.out _).trans (hHeld.2.1)))), ((cell_far (p := ⟨gb153, _, none⟩) (by first | exact Nat.ne_of_lt (Nat.lt_of_lt_of_le (by have := World.block_lt_of_cell? _ _ hw146_0; first | rwa [add_block] at this | exact this) GW153.out) | (rw [add_block]; exact Nat.ne_of_lt (Nat.lt_of_lt_of_le (by have := World.block_lt_of_cell? _ _ hw146_0; first | rwa [add_block] at this | exact this) GW153.out)) | (show (Addr.add _ _).block ≠ _; rw [add_block]; exact Nat.ne_of_lt (Nat.lt_of_lt_of_le (by have := World.block_lt_of_cell? _ _ hw146_0; first | rwa [add_block] at this | exact this) GW153.out)) | (dsimp only; exact Nat.ne_of_lt (Nat.lt_of_lt_of_le (by have := World.block_lt_of_cell? _ _ hw146_0; first | rwa [add_block] at this | exact this) GW153.out))) _).trans (((cell_far (p := ⟨gb153, _, none⟩) (by first | exact Nat.ne_of_lt (Nat.lt_of_lt_of_le (by have := World.block_lt_of_cell? _ _ hw146_0; first | rwa [add_block] at this | exact this) GW153.out) | (rw [add_block]; exact Nat.ne_of_lt (Nat.lt_of_lt_of_le (by have := World.block_lt_of_cell? _ _ hw146_0; first | rwa [add_block] at this | exact this) GW153.out)) | (show (Addr.add _ _).block ≠ _; rw [add_block]; exact Nat.ne_of_lt (Nat.lt_of_lt_of_le (by have := World.block_lt_of_cell? _ _ hw146_0; first | rwa [add_block] at this | exact this) GW153.out)) | (dsimp only; exact Nat.ne_of_lt (Nat.lt_of_lt_of_le (by have := World.block_lt_of_cell? _ _ hw146_0; first | rwa [add_block] at this | exact this) GW153.out))) _).trans (hHeld.2.2.1)))), ((cell_far (p := ⟨gb153, _, none⟩) (by first | exact Nat.ne_of_lt (Nat.lt_of_lt_of_le (by have := World.block_lt_of_cell? _ _ hw146_1; first | rwa [add_block] at this | exact this) GW153.out) | (rw [add_block]; exact Nat.ne_of_lt (Nat.lt_of_lt_of_le (by have := World.block_lt_of_cell? _ _ hw146_1; first | rwa [add_block] at this | exact this) GW153.out)) | (show (Addr.add _ _).block ≠ _; rw [add_block]; exact Nat.ne_of_lt (Nat.lt_of_lt_of_le (by have := World.block_lt_of_cell? _ _ hw146_1; first | rwa [add_block] at this | exact this) GW153.out)) | (dsimp only; exact Nat.ne_of_lt (Nat.lt_of_lt_of_le (by have := World.block_lt_of_cell? _ _ hw146_1; first | rwa [add_block] at this | exact this) GW153.out))) _).trans (((cell_far (p := ⟨gb153, _, none⟩) (by first | exact Nat.ne_of_lt (Nat.lt_of_lt_of_le (by have := World.block_lt_of_cell? _ _ hw146_1; first | rwa [add_block] at this | exact this) GW153.out) | (rw [add_block]; exact Nat.ne_of_lt (Nat.lt_of_lt_of_le (by have := World.block_lt_of_cell? _ _ hw146_1; first | rwa [add_block] at this | exact this) GW153.out)) | (show (Addr.add _ _).block ≠ _; rw [add_block]; exact Nat.ne_of_lt (Nat.lt_of_lt_of_le (by have := World.block_lt_of_cell? _ _ hw146_1; first | rwa [add_block] at this | exact this) GW153.out)) | (dsimp only; exact Nat.ne_of_lt (Nat.lt_of_lt_of_le (by have := World.block_lt_of_cell? _ _ hw146_1; first | rwa [add_block] at this | exact this) GW153.out))) _).trans (hHeld.2.2.2.1)))), ((cell_far (p := ⟨gb153, _, none⟩) (by first | exact Nat.ne_of_lt (Nat.lt_of_lt_of_le (by have := World.block_lt_of_cell? _ _ hw146_2; first | rwa [add_block] at this | exact this) GW153.out) | (rw [add_block]; exact Nat.ne_of_lt (Nat.lt_of_lt_of_le (by have := World.block_lt_of_cell? _ _ hw146_2; first | rwa [add_block] at this | exact this) GW153.out)) | (show (Addr.add _ _).block ≠ _; rw [add_block]; exact Nat.ne_of_lt (Nat.lt_of_lt_of_le (by have := World.block_lt_of_cell? _ _ hw146_2; first | rwa [add_block] at this | exact this) GW153.out)) | (dsimp only; exact Nat.ne_of_lt (Nat.lt_of_lt_of_le (by have := World.block_lt_of_cell? _ _ hw146_2; first | rwa [add_block] at this | exact this) GW153.out))) _).trans (((cell_far (p := ⟨gb153, _, none⟩) (by first | exact Nat.ne_of_lt (Nat.lt_of_lt_of_le (by have := World.block_lt_of_cell? _ _ hw146_2; first | rwa [add_block] at this | exact this) GW153.out) | (rw [add_block]; exact Nat.ne_of_lt (Nat.lt_of_lt_of_le (by have := World.block_lt_of_cell? _ _ hw146_2; first | rwa [add_block] at this | exact this) GW153.out)) | (show (Addr.add _ _).block ≠ _; rw [add_block]; exact Nat.ne_of_lt (Nat.lt_of_lt_of_le (by have := World.block_lt_of_cell? _ _ hw146_2; first | rwa [add_block] at this | exact this) GW153.out)) | (dsimp only; exact Nat.ne_of_lt (Nat.lt_of_lt_of_le (by have := World.block_lt_of_cell? _ _ hw146_2; first | rwa [add_block] at this | exact this) GW153.out))) _).trans (hHeld.2.2.2.2.1)))), ((cell_far (p := ⟨gb153, _, none⟩) (by first | exact Nat.ne_of_lt (Nat.lt_of_lt_of_le (by have := World.block_lt_of_cell? _ _ hw146_3; first | rwa [add_block] at this | exact this) GW153.out) | (rw [add_block]; exact Nat.ne_of_lt (Nat.lt_of_lt_of_le (by have := World.block_lt_of_cell? _ _ hw146_3; first | rwa [add_block] at this | exact this) GW153.out)) | (show (Addr.add _ _).block ≠ _; rw [add_block]; exact Nat.ne_of_lt (Nat.lt_of_lt_of_le (by have := World.block_lt_of_cell? _ _ hw146_3; first | rwa [add_block] at this | exact this) GW153.out)) | (dsimp only; exact Nat.ne_of_lt (Nat.lt_of_lt_of_le (by have := World.block_lt_of_cell? _ _ hw146_3; first | rwa [add_block] at this | exact this) GW153.out))) _).trans (((cell_far (p := ⟨gb153, _, none⟩) (by first | exact Nat.ne_of_lt (Nat.lt_of_lt_of_le (by have := World.block_lt_of_cell? _ _ hw146_3; first | rwa [add_block] at this | exact this) GW153.out) | (rw [add_block]; exact Nat.ne_of_lt (Nat.lt_of_lt_of_le (by have := World.block_lt_of_cell? _ _ hw146_3; first | rwa [add_block] at this | exact this) GW153.out)) | (show (Addr.add _ _).block ≠ _; rw [add_block]; exact Nat.ne_of_lt (Nat.lt_of_lt_of_le (by have := World.block_lt_of_cell? _ _ hw146_3; first | rwa [add_block] at this | exact this) GW153.out)) | (dsimp only; exact Nat.ne_of_lt (Nat.lt_of_lt_of_le (by have := World.block_lt_of_cell? _ _ hw146_3; first | rwa [add_block] at this | exact this) GW153.out))) _).trans (hHeld.2.2.2.2.2.1)))), ((cell_far (p := ⟨gb153, _, none⟩) (by first | exact Nat.ne_of_lt (Nat.lt_of_lt_of_le (by have := World.block_lt_of_cell? _ _ hw146_4; first | rwa [add_block] at this | exact this) GW153.out) | (rw [add_block]; exact Nat.ne_of_lt (Nat.lt_of_lt_of_le (by have := World.block_lt_of_cell? _ _ hw146_4; first | rwa [add_block] at this | exact this) GW153.out)) | (show (Addr.add _ _).block ≠ _; rw [add_block]; exact Nat.ne_of_lt (Nat.lt_of_lt_of_le (by have := World.block_lt_of_cell? _ _ hw146_4; first | rwa [add_block] at this | exact this) GW153.out)) | (dsimp only; exact Nat.ne_of_lt (Nat.lt_of_lt_of_le (by have := World.block_lt_of_cell? _ _ hw146_4; first | rwa [add_block] at this | exact this) GW153.out))) _).trans (((cell_far (p := ⟨gb153, _, none⟩) (by first | exact Nat.ne_of_lt (Nat.lt_of_lt_of_le (by have := World.block_lt_of_cell? _ _ hw146_4; first | rwa [add_block] at this | exact this) GW153.out) | (rw [add_block]; exact Nat.ne_of_lt (Nat.lt_of_lt_of_le (by have := World.block_lt_of_cell? _ _ hw146_4; first | rwa [add_block] at this | exact this) GW153.out)) | (show (Addr.add _ _).block ≠ _; rw [add_block]; exact Nat.ne_of_lt (Nat.lt_of_lt_of_le (by have := World.block_lt_of_cell? _ _ hw146_4; first | rwa [add_block] at this | exact this) GW153.out)) | (dsimp only; exact Nat.ne_of_lt (Nat.lt_of_lt_of_le (by have := World.block_lt_of_cell? _ _ hw146_4; first | rwa [add_block] at this | exact this) GW153.out))) _).trans (hHeld.2.2.2.2.2.2.1)))), ((cell_far (p := ⟨gb153, _, none⟩) (by first | exact Nat.ne_of_lt (Nat.lt_of_lt_of_le (by have := World.block_lt_of_cell? _ _ hw146_5; first | rwa [add_block] at this | exact this) GW153.out) | (rw [add_block]; exact Nat.ne_of_lt (Nat.lt_of_lt_of_le (by have := World.block_lt_of_cell? _ _ hw146_5; first | rwa [add_block] at this | exact this) GW153.out)) | (show (Addr.add _ _).block ≠ _; rw [add_block]; exact Nat.ne_of_lt (Nat.lt_of_lt_of_le (by have := World.block_lt_of_cell? _ _ hw146_5; first | rwa [add_block] at this | exact this) GW153.out)) | (dsimp only; exact Nat.ne_of_lt (Nat.lt_of_lt_of_le (by have := World.block_lt_of_cell? _ _ hw146_5; first | rwa [add_block] at this | exact this) GW153.out))) _).trans (((cell_far (p := ⟨gb153, _, none⟩) (by first | exact Nat.ne_of_lt (Nat.lt_of_lt_of_le (by have := World.block_lt_of_cell? _ _ hw146_5; first | rwa [add_block] at this | exact this) GW153.out) | (rw [add_block]; exact Nat.ne_of_lt (Nat.lt_of_lt_of_le (by have := World.block_lt_of_cell? _ _ hw146_5; first | rwa [add_block] at this | exact this) GW153.out)) | (show (Addr.add _ _).block ≠ _; rw [add_block]; exact Nat.ne_of_lt (Nat.lt_of_lt_of_le (by have := World.block_lt_of_cell? _ _ hw146_5; first | rwa [add_block] at this | exact this) GW153.out)) | (dsimp only; exact Nat.ne_of_lt (Nat.lt_of_lt_of_le (by have := World.block_lt_of_cell? _ _ hw146_5; first | rwa [add_block] at this | exact this) GW153.out))) _).trans (hHeld.2.2.2.2.2.2.2.1)))), ((cell_far (p := ⟨gb153, _, none⟩) (by first | exact Nat.ne_of_lt (Nat.lt_of_lt_of_le (by have := World.block_lt_of_cell? _ _ hw146_6; first | rwa [add_block] at this | exact this) GW153.out) | (rw [add_block]; exact Nat.ne_of_lt (Nat.lt_of_lt_of_le (by have := World.block_lt_of_cell? _ _ hw146_6; first | rwa [add_block] at this | exact this) GW153.out)) | (show (Addr.add _ _).block ≠ _; rw [add_block]; exact Nat.ne_of_lt (Nat.lt_of_lt_of_le (by have := World.block_lt_of_cell? _ _ hw146_6; first | rwa [add_block] at this | exact this) GW153.out)) | (dsimp only; exact Nat.ne_of_lt (Nat.lt_of_lt_of_le (by have := World.block_lt_of_cell? _ _ hw146_6; first | rwa [add_block] at this | exact this) GW153.out))) _).trans (((cell_far (p := ⟨gb153, _, none⟩) (by first | exact Nat.ne_of_lt (Nat.lt_of_lt_of_le (by have := World.block_lt_of_cell? _ _ hw146_6; first | rwa [add_block] at this | exact this) GW153.out) | (rw [add_block]; exact Nat.ne_of_lt (Nat.lt_of_lt_of_le (by have := World.block_lt_of_cell? _ _ hw146_6; first | rwa [add_block] at this | exact this) GW153.out)) | (show (Addr.add _ _).block ≠ _; rw [add_block]; exact Nat.ne_of_lt (Nat.lt_of_lt_of_le (by have := World.block_lt_of_cell? _ _ hw146_6; first | rwa [add_block] at this | exact this) GW153.out)) | (dsimp only; exact Nat.ne_of_lt (Nat.lt_of_lt_of_le (by have := World.block_lt_of_cell? _ _ hw146_6; first | rwa [add_block] at this | exact this) GW153.out))) _).trans (hHeld.2.2.2.2.2.2.2.2.1)))), ((cell_far (p := ⟨gb153, _, none⟩) (by first | exact Nat.ne_of_lt (Nat.lt_of_lt_of_le (by have := World.block_lt_of_cell? _ _ hw146_7; first | rwa [add_block] at this | exact this) GW153.out) | (rw [add_block]; exact Nat.ne_of_lt (Nat.lt_of_lt_of_le (by have := World.block_lt_of_cell? _ _ hw146_7; first | rwa [add_block] at this | exact this) GW153.out)) | (show (Addr.add _ _).block ≠ _; rw [add_block]; exact Nat.ne_of_lt (Nat.lt_of_lt_of_le (by have := World.block_lt_of_cell? _ _ hw146_7; first | rwa [add_block] at this | exact this) GW153.out)) | (dsimp only; exact Nat.ne_of_lt (Nat.lt_of_lt_of_le (by have := World.block_lt_of_cell? _ _ hw146_7; first | rwa [add_block] at this | exact this) GW153.out))) _).trans (((cell_far (p := ⟨gb153, _, none⟩) (by first | exact Nat.ne_of_lt (Nat.lt_of_lt_of_le (by have := World.block_lt_of_cell? _ _ hw146_7; first | rwa [add_block] at this | exact this) GW153.out) | (rw [add_block]; exact Nat.ne_of_lt (Nat.lt_of_lt_of_le (by have := World.block_lt_of_cell? _ _ hw146_7; first | rwa [add_block] at this | exact this) GW153.out)) | (show (Addr.add _ _).block ≠ _; rw [add_block]; exact Nat.ne_of_lt (Nat.lt_of_lt_of_le (by have := World.block_lt_of_cell? _ _ hw146_7; first | rwa [add_block] at this | exact this) GW153.out)) | (dsimp only; exact Nat.ne_of_lt (Nat.lt_of_lt_of_le (by have := World.block_lt_of_cell? _ _ hw146_7; first | rwa [add_block] at this | exact this) GW153.out))) _).trans (hHeld.2.2.2.2.2.2.2.2.2.1)))), ((cell_far (p := ⟨gb153, _, none⟩) (by first | exact Nat.ne_of_lt (Nat.lt_of_lt_of_le (by have := World.block_lt_of_cell? _ _ hw146_8; first | rwa [add_block] at this | exact this) GW153.out) | (rw [add_block]; exact Nat.ne_of_lt (Nat.lt_of_lt_of_le (by have := World.block_lt_of_cell? _ _ hw146_8; first | rwa [add_block] at this | exact this) GW153.out)) | (show (Addr.add _ _).block ≠ _; rw [add_block]; exact Nat.ne_of_lt (Nat.lt_of_lt_of_le (by have := World.block_lt_of_cell? _ _ hw146_8; first | rwa [add_block] at this | exact this) GW153.out)) | (dsimp only; exact Nat.ne_of_lt (Nat.lt_of_lt_of_le (by have := World.block_lt_of_cell? _ _ hw146_8; first | rwa [add_block] at this | exact this) GW153.out))) _).trans (((cell_far (p := ⟨gb153, _, none⟩) (by first | exact Nat.ne_of_lt (Nat.lt_of_lt_of_le (by have := World.block_lt_of_cell? _ _ hw146_8; first | rwa [add_block] at this | exact this) GW153.out) | (rw [add_block]; exact Nat.ne_of_lt (Nat.lt_of_lt_of_le (by have := World.block_lt_of_cell? _ _ hw146_8; first | rwa [add_block] at this | exact this) GW153.out)) | (show (Addr.add _ _).block ≠ _; rw [add_block]; exact Nat.ne_of_lt (Nat.lt_of_lt_of_le (by have := World.block_lt_of_cell? _ _ hw146_8; first | rwa [add_block] at this | exact this) GW153.out)) | (dsimp only; exact Nat.ne_of_lt (Nat.lt_of_lt_of_le (by have := World.block_lt_of_cell? _ _ hw146_8; first | rwa [add_block] at this | exact this) GW153.out))) _).trans (hHeld.2.2.2.2.2.2.2.2.2.2.1)))), ((cell_far (p := ⟨gb153, _, none⟩) (by first | exact Nat.ne_of_lt (Nat.lt_of_lt_of_le (by have := World.block_lt_of_cell? _ _ hw146_9; first | rwa [add_block] at this | exact this) GW153.out) | (rw [add_block]; exact Nat.ne_of_lt (Nat.lt_of_lt_of_le (by have := World.block_lt_of_cell? _ _ hw146_9; first | rwa [add_block] at this | exact this) GW153.out)) | (show (Addr.add _ _).block ≠ _; rw [add_block]; exact Nat.ne_of_lt (Nat.lt_of_lt_of_le (by have := World.block_lt_of_cell? _ _ hw146_9; first | rwa [add_block] at this | exact this) GW153.out)) | (dsimp only; exact Nat.ne_of_lt (Nat.lt_of_lt_of_le (by have := World.block_lt_of_cell? _ _ hw146_9; first | rwa [add_block] at this | exact this) GW153.out))) _).trans (((cell_far (p := ⟨gb153, _, none⟩) (by first | exact Nat.ne_of_lt (Nat.lt_of_lt_of_le (by have := World.block_lt_of_cell? _ _ hw146_9; first | rwa [add_block] at this | exact this) GW153.out) | (rw [add_block]; exact Nat.ne_of_lt (Nat.lt_of_lt_of_le (by have := World.block_lt_of_cell? _ _ hw146_9; first | rwa [add_block] at this | exact this) GW153.out)) | (show (Addr.add _ _).block ≠ _; rw [add_block]; exact Nat.ne_of_lt (Nat.lt_of_lt_of_le (by have := World.block_lt_of_cell? _ _ hw146_9; first | rwa [add_block] at this | exact this) GW153.out)) | (dsimp only; exact Nat.ne_of_lt (Nat.lt_of_lt_of_le (by have := World.block_lt_of_cell? _ _ hw146_9; first | rwa [add_block] at this | exact this) GW153.out))) _).trans (hHeld.2.2.2.2.2.2.2.2.2.2.2.1)))), ((cell_far (p := ⟨gb153, _, none⟩) (by first | exact Nat.ne_of_lt (Nat.lt_of_lt_of_le (by have := World.block_lt_of_cell? _ _ hw146_10; first | rwa [add_block] at this | exact this) GW153.out) | (rw [add_block]; exact Nat.ne_of_lt (Nat.lt_of_lt_of_le (by have := World.block_lt_of_cell? _ _ hw146_10; first | rwa [add_block] at this | exact this) GW153.out)) | (show (Addr.add _ _).block ≠ _; rw [add_block]; exact Nat.ne_of_lt (Nat.lt_of_lt_of_le (by have := World.block_lt_of_cell? _ _ hw146_10; first | rwa [add_block] at this | exact this) GW153.out)) | (dsimp only; exact Nat.ne_of_lt (Nat.lt_of_lt_of_le (by have := World.block_lt_of_cell? _ _ hw146_10; first | rwa [add_block] at this | exact this) GW153.out))) _).trans (((cell_far (p := ⟨gb153, _, none⟩) (by first | exact Nat.ne_of_lt (Nat.lt_of_lt_of_le (by have := World.block_lt_of_cell? _ _ hw146_10; first | rwa [add_block] at this | exact this) GW153.out) | (rw [add_block]; exact Nat.ne_of_lt (Nat.lt_of_lt_of_le (by have := World.block_lt_of_cell? _ _ hw146_10; first | rwa [add_block] at this | exact this) GW153.out)) | (show (Addr.add _ _).block ≠ _; rw [add_block]; exact Nat.ne_of_lt (Nat.lt_of_lt_of_le (by have := World.block_lt_of_cell? _ _ hw146_10; first | rwa [add_block] at this | exact this) GW153.out)) | (dsimp only; exact Nat.ne_of_lt (Nat.lt_of_lt_of_le (by have := World.block_lt_of_cell? _ _ hw146_10; first | rwa [add_block] at this | exact this) GW153.out))) _).trans (hHeld.2.2.2.2.2.2.2.2.2.2.2.2))))⟩ (fun hHeld => ?_)
  clear hK K
  refine done_ (done_of HT_.out (by kernel_rfl)) ?_
  have hnb60 := NB153_126.out
  have hnc60 := NB126_153.out
  have hnb61 := NB153_135.out
  have hnc61 := NB135_153.out
  have hcz62_0 : w56.cell? ⟨gb153, 0, none⟩ = some (.int .i64 0) := (blk_cell BK153.out 0).trans rfl
  have hcz62_1 : w56.cell? ⟨gb153, 1, none⟩ = some (.slice none 0 0) := (blk_cell BK153.out 1).trans rfl
  have hfz62_0 := blk_frozen BK153.out 0
  have hfz62_1 := blk_frozen BK153.out 1
  rcases HEND.out with ⟨e16, e2⟩ | ⟨e16, e3, e4⟩
  · subst e2
    have c69b0 : ((ji23) == 16) = true := beq_iff_eq.mpr e16
    have c69b1 : ((ji23) != 16) = false := bne_eq_false_iff_eq.mpr e16
    clear e16
    try go_wp2_with (first | ((with_reducible refine gate_callee (f := 31) rfl ?_); refine goesL_ (some 56) rfl rfl Tryd.func31 (by kernel_rfl) rfl #[.agg #[.int .i64 a0_0, .slice Ao57 y150.length co57]] rfl (by (try simp only [List.map_toArray, List.map_cons, List.map_nil]); first | done | rfl | (simp only [List.length_drop, List.length_take]; rfl)) ?_; (with_reducible refine (whyC a0_0 _ _ y150 2 t155 _ ?side1 ?side2 A33.out).mono ?_); (case side1 => refine (Kd.R_reads' (e := 36) (base := w.heap.size) (ok := fun k_ => some k_ ≠ (v148 : Value).ownBlock) (n := y150.length) (c := co57) ?_).2.2; exact (by (with_reducible repeat (first | apply Kd.R_alloc | apply Kd.R_drewN | apply Kd.R_drew)); exact (Kd.R_mono (Kd.R_far (p := ⟨gb153, 1, none⟩) (Kd.R_far (p := ⟨gb153, 0, none⟩) (Kd.R_types HO152.out BK153.out (by decide)) (fun _ hk => hk.2) (.int .i64 a0_0)) (fun _ hk => hk.2) (.slice Ao57 y150.length co57)) (fun _ h_ => h_.1)))); (case side2 => exact (Kd.R_reads' HO152.out).2.1); rintro e w63 ⟨rfl, hb⟩; refine ⟨_, rfl, ?_⟩; have n0_ := Aside0.mk (Kd.R_below (by (with_reducible repeat (first | apply Kd.R_alloc | apply Kd.R_drewN | apply Kd.R_drew)); exact (Kd.R_mono (Kd.R_far (p := ⟨gb153, 1, none⟩) (Kd.R_far (p := ⟨gb153, 0, none⟩) (Kd.R_types HO149.out BK153.out (by decide)) (fun _ hk => hk.2) (.int .i64 a0_0)) (fun _ hk => hk.2) (.slice Ao57 y150.length co57)) (fun _ h_ => h_.1))) hb); have n1_ := Aside0.mk (Kd.R_below (by (with_reducible repeat (first | apply Kd.R_alloc | apply Kd.R_drewN | apply Kd.R_drew)); exact (Kd.R_mono (Kd.R_far (p := ⟨gb153, 1, none⟩) (Kd.R_far (p := ⟨gb153, 0, none⟩) (Kd.R_types HO152.out BK153.out (by decide)) (fun _ hk => hk.2) (.int .i64 a0_0)) (fun _ hk => hk.2) (.slice Ao57 y150.length co57)) (fun _ h_ => h_.1))) hb); have n2_ := Aside0.mk (blk_below (g := gb126) (o := .cells #[.int .i64 a0_0, .slice (some ad146) l0_1.length c0_1] 26 (0, 0)) (by (with_reducible repeat (first | refine blk_drewN ?_ _ | refine blk_drew ?_ | refine blk_alloc ?_ _)); refine blk_far ?_ NB126_153.out _; (with_reducible repeat (first | refine blk_drewN ?_ _ | refine blk_drew ?_ | refine blk_alloc ?_ _)); refine blk_far ?_ NB126_153.out _; (with_reducible repeat (first | refine blk_drewN ?_ _ | refine blk_drew ?_ | refine blk_alloc ?_ _)); exact BK126.out) hb); have n3_ := Aside0.mk (blk_below (g := gb135) (o := .cells #[.int .i64 a0_0, .slice (some ad146) y131.length c0_1] 26 (0, 0)) (by (with_reducible repeat (first | refine blk_drewN ?_ _ | refine blk_drew ?_ | refine blk_alloc ?_ _)); refine blk_far ?_ NB135_153.out _; (with_reducible repeat (first | refine blk_drewN ?_ _ | refine blk_drew ?_ | refine blk_alloc ?_ _)); refine blk_far ?_ NB135_153.out _; (with_reducible repeat (first | refine blk_drewN ?_ _ | refine blk_drew ?_ | refine blk_alloc ?_ _)); exact BK135.out) hb); have n4_ := Aside0.mk (blk_below (g := gb153) (o := .cells #[.int .i64 a0_0, .slice Ao57 y150.length co57] 26 (0, 0)) (by (with_reducible repeat (first | refine blk_drewN ?_ _ | refine blk_drew ?_ | refine blk_alloc ?_ _)); refine blk_put (cs := #[.int .i64 a0_0, .slice none 0 0]) ?_ 1 _ rfl; (with_reducible repeat (first | refine blk_drewN ?_ _ | refine blk_drew ?_ | refine blk_alloc ?_ _)); refine blk_put (cs := #[.int .i64 0, .slice none 0 0]) ?_ 0 _ rfl; (with_reducible repeat (first | refine blk_drewN ?_ _ | refine blk_drew ?_ | refine blk_alloc ?_ _)); exact BK153.out) hb); have n5_ := Aside0.mk (below_step (by repeat (first | (with_reducible first | exact HB.out | apply below_alloc | apply pw_below_drewN | apply below_drew1 | refine below_set ?_ GE126.out | refine below_set ?_ GE135.out | refine below_set ?_ GE153.out) | exact HB.out)) hb); clear HO149; clear HO152; clear BK126; clear BK135; clear BK153; clear HB; have HO149 := n0_; have HO152 := n1_; have BK126 := n2_; have BK135 := n3_; have BK153 := n4_; have HB := n5_; clear n0_ n1_ n2_ n3_ n4_ n5_; (try clear hb); (try clear hb2); (try clear hk); (try clear hi); have hnb64 := NB135_126.out; have hnc64 := NB126_135.out; have hcz65_0 : w63.cell? ⟨gb135, 0, none⟩ = some (.int .i64 a0_0) := (blk_cell BK135.out 0).trans rfl; have hcz65_1 : w63.cell? ⟨gb135, 1, none⟩ = some (.slice (some ad146) y131.length c0_1) := (blk_cell BK135.out 1).trans rfl; have hfz65_0 := blk_frozen BK135.out 0; have hfz65_1 := blk_frozen BK135.out 1) | ((with_reducible refine gate_callee (f := 30) rfl ?_); refine goesL_ (some 60) rfl rfl Tryd.func30 (by kernel_rfl) rfl #[.agg #[.int .i64 a0_0, .slice (some ad146) y131.length c0_1]] rfl (by (try simp only [List.map_toArray, List.map_cons, List.map_nil]); first | done | rfl | (simp only [List.length_drop, List.length_take]; rfl)) ?_; (with_reducible refine (rightC a0_0 _ _ y131 true _ ?side1 ?side2 A34.out).mono ?_); (case side1 => repeat (first | exact (Kd.C_below HR134.out HB.out) | (with_reducible refine Kd.C_alloc ?_ _) | (with_reducible refine Kd.C_drewN ?_ _) | (with_reducible refine Kd.C_drew ?_))); (case side2 => exact HC134.out); rintro e w66 ⟨rfl, hb⟩; refine ⟨_, rfl, ?_⟩; have n0_ := Aside0.mk (Kd.R_below (by (with_reducible repeat (first | apply Kd.R_alloc | apply Kd.R_drewN | apply Kd.R_drew)); exact HO149.out) hb); have n1_ := Aside0.mk (Kd.R_below (by (with_reducible repeat (first | apply Kd.R_alloc | apply Kd.R_drewN | apply Kd.R_drew)); exact HO152.out) hb); have n2_ := Aside0.mk (blk_below (g := gb126) (o := .cells #[.int .i64 a0_0, .slice (some ad146) l0_1.length c0_1] 26 (0, 0)) (by (with_reducible repeat (first | refine blk_drewN ?_ _ | refine blk_drew ?_ | refine blk_alloc ?_ _)); exact BK126.out) hb); have n3_ := Aside0.mk (blk_below (g := gb135) (o := .cells #[.int .i64 a0_0, .slice (some ad146) y131.length c0_1] 26 (0, 0)) (by (with_reducible repeat (first | refine blk_drewN ?_ _ | refine blk_drew ?_ | refine blk_alloc ?_ _)); exact BK135.out) hb); have n4_ := Aside0.mk (blk_below (g := gb153) (o := .cells #[.int .i64 a0_0, .slice Ao57 y150.length co57] 26 (0, 0)) (by (with_reducible repeat (first | refine blk_drewN ?_ _ | refine blk_drew ?_ | refine blk_alloc ?_ _)); exact BK153.out) hb); have n5_ := Aside0.mk (below_step (by repeat (first | (with_reducible first | exact HB.out | apply below_alloc | apply pw_below_drewN | apply below_drew1 | refine below_set ?_ GE126.out | refine below_set ?_ GE135.out | refine below_set ?_ GE153.out) | exact HB.out)) hb); clear HO149; clear HO152; clear BK126; clear BK135; clear BK153; clear HB; have HO149 := n0_; have HO152 := n1_; have BK126 := n2_; have BK135 := n3_; have BK153 := n4_; have HB := n5_; clear n0_ n1_ n2_ n3_ n4_ n5_; (try clear hb); (try clear hb2); (try clear hk); (try clear hi); have hcz67_0 : w66.cell? ⟨gb126, 0, none⟩ = some (.int .i64 a0_0) := (blk_cell BK126.out 0).trans rfl; have hcz67_1 : w66.cell? ⟨gb126, 1, none⟩ = some (.slice (some ad146) l0_1.length c0_1) := (blk_cell BK126.out 1).trans rfl; have hfz67_0 := blk_frozen BK126.out 0; have hfz67_1 := blk_frozen BK126.out 1) | (go_at_call 30; (with_reducible refine (rightC 0 _ _ l0_1 false _ ?side1 ?side2 A36.out).mono ?_); (case side1 => repeat (first | exact (Kd.C_below HR0_1.out HB.out) | (with_reducible refine Kd.C_alloc ?_ _) | (with_reducible refine Kd.C_drewN ?_ _) | (with_reducible refine Kd.C_drew ?_))); (case side2 => exact HC0_1.out); rintro e w68 ⟨rfl, hb⟩; have n0_ := Aside0.mk (Kd.R_below (by (with_reducible repeat (first | apply Kd.R_alloc | apply Kd.R_drewN | apply Kd.R_drew)); exact HO149.out) hb); have n1_ := Aside0.mk (Kd.R_below (by (with_reducible repeat (first | apply Kd.R_alloc | apply Kd.R_drewN | apply Kd.R_drew)); exact HO152.out) hb); have n2_ := Aside0.mk (blk_below (g := gb126) (o := .cells #[.int .i64 a0_0, .slice (some ad146) l0_1.length c0_1] 26 (0, 0)) (by (with_reducible repeat (first | refine blk_drewN ?_ _ | refine blk_drew ?_ | refine blk_alloc ?_ _)); exact BK126.out) hb); have n3_ := Aside0.mk (blk_below (g := gb135) (o := .cells #[.int .i64 a0_0, .slice (some ad146) y131.length c0_1] 26 (0, 0)) (by (with_reducible repeat (first | refine blk_drewN ?_ _ | refine blk_drew ?_ | refine blk_alloc ?_ _)); exact BK135.out) hb); have n4_ := Aside0.mk (blk_below (g := gb153) (o := .cells #[.int .i64 a0_0, .slice Ao57 y150.length co57] 26 (0, 0)) (by (with_reducible repeat (first | refine blk_drewN ?_ _ | refine blk_drew ?_ | refine blk_alloc ?_ _)); exact BK153.out) hb); have n5_ := Aside0.mk (below_step (by repeat (first | (with_reducible first | exact HB.out | apply below_alloc | apply pw_below_drewN | apply below_drew1 | refine below_set ?_ GE126.out | refine below_set ?_ GE135.out | refine below_set ?_ GE153.out) | exact HB.out)) hb); clear HO149; clear HO152; clear BK126; clear BK135; clear BK153; clear HB; have HO149 := n0_; have HO152 := n1_; have BK126 := n2_; have BK135 := n3_; have BK153 := n4_; have HB := n5_; clear n0_ n1_ n2_ n3_ n4_ n5_; (try clear hb); (try clear hb2); (try clear hk); (try clear hi)))
    go_ret
    exact ⟨rfl, HB.out⟩
  · subst e3
    have c69b0 : ((ji23) == 16) = false := beq_eq_false_iff_ne.mpr (by omega)
    have c70b0 : decide ((ji23) < 16) = true := decide_eq_true e16
    have c71b0 : (t155 == ji23) = true := beq_iff_eq.mpr e4
    clear e16
    try go_wp2_with (first | ((with_reducible refine gate_callee (f := 31) rfl ?_); refine goesL_ (some 56) rfl rfl Tryd.func31 (by kernel_rfl) rfl #[.agg #[.int .i64 a0_0, .slice Ao57 y150.length co57]] rfl (by (try simp only [List.map_toArray, List.map_cons, List.map_nil]); first | done | rfl | (simp only [List.length_drop, List.length_take]; rfl)) ?_; (with_reducible refine (whyC a0_0 _ _ y150 3 t155 _ ?side1 ?side2 A33.out).mono ?_); (case side1 => refine (Kd.R_reads' (e := 36) (base := w.heap.size) (ok := fun k_ => some k_ ≠ (v148 : Value).ownBlock) (n := y150.length) (c := co57) ?_).2.2; exact (by (with_reducible repeat (first | apply Kd.R_alloc | apply Kd.R_drewN | apply Kd.R_drew)); exact (Kd.R_mono (Kd.R_far (p := ⟨gb153, 1, none⟩) (Kd.R_far (p := ⟨gb153, 0, none⟩) (Kd.R_types HO152.out BK153.out (by decide)) (fun _ hk => hk.2) (.int .i64 a0_0)) (fun _ hk => hk.2) (.slice Ao57 y150.length co57)) (fun _ h_ => h_.1)))); (case side2 => exact (Kd.R_reads' HO152.out).2.1); rintro e w63 ⟨rfl, hb⟩; refine ⟨_, rfl, ?_⟩; have n0_ := Aside0.mk (Kd.R_below (by (with_reducible repeat (first | apply Kd.R_alloc | apply Kd.R_drewN | apply Kd.R_drew)); exact (Kd.R_mono (Kd.R_far (p := ⟨gb153, 1, none⟩) (Kd.R_far (p := ⟨gb153, 0, none⟩) (Kd.R_types HO149.out BK153.out (by decide)) (fun _ hk => hk.2) (.int .i64 a0_0)) (fun _ hk => hk.2) (.slice Ao57 y150.length co57)) (fun _ h_ => h_.1))) hb); have n1_ := Aside0.mk (Kd.R_below (by (with_reducible repeat (first | apply Kd.R_alloc | apply Kd.R_drewN | apply Kd.R_drew)); exact (Kd.R_mono (Kd.R_far (p := ⟨gb153, 1, none⟩) (Kd.R_far (p := ⟨gb153, 0, none⟩) (Kd.R_types HO152.out BK153.out (by decide)) (fun _ hk => hk.2) (.int .i64 a0_0)) (fun _ hk => hk.2) (.slice Ao57 y150.length co57)) (fun _ h_ => h_.1))) hb); have n2_ := Aside0.mk (blk_below (g := gb126) (o := .cells #[.int .i64 a0_0, .slice (some ad146) l0_1.length c0_1] 26 (0, 0)) (by (with_reducible repeat (first | refine blk_drewN ?_ _ | refine blk_drew ?_ | refine blk_alloc ?_ _)); refine blk_far ?_ NB126_153.out _; (with_reducible repeat (first | refine blk_drewN ?_ _ | refine blk_drew ?_ | refine blk_alloc ?_ _)); refine blk_far ?_ NB126_153.out _; (with_reducible repeat (first | refine blk_drewN ?_ _ | refine blk_drew ?_ | refine blk_alloc ?_ _)); exact BK126.out) hb); have n3_ := Aside0.mk (blk_below (g := gb135) (o := .cells #[.int .i64 a0_0, .slice (some ad146) y131.length c0_1] 26 (0, 0)) (by (with_reducible repeat (first | refine blk_drewN ?_ _ | refine blk_drew ?_ | refine blk_alloc ?_ _)); refine blk_far ?_ NB135_153.out _; (with_reducible repeat (first | refine blk_drewN ?_ _ | refine blk_drew ?_ | refine blk_alloc ?_ _)); refine blk_far ?_ NB135_153.out _; (with_reducible repeat (first | refine blk_drewN ?_ _ | refine blk_drew ?_ | refine blk_alloc ?_ _)); exact BK135.out) hb); have n4_ := Aside0.mk (blk_below (g := gb153) (o := .cells #[.int .i64 a0_0, .slice Ao57 y150.length co57] 26 (0, 0)) (by (with_reducible repeat (first | refine blk_drewN ?_ _ | refine blk_drew ?_ | refine blk_alloc ?_ _)); refine blk_put (cs := #[.int .i64 a0_0, .slice none 0 0]) ?_ 1 _ rfl; (with_reducible repeat (first | refine blk_drewN ?_ _ | refine blk_drew ?_ | refine blk_alloc ?_ _)); refine blk_put (cs := #[.int .i64 0, .slice none 0 0]) ?_ 0 _ rfl; (with_reducible repeat (first | refine blk_drewN ?_ _ | refine blk_drew ?_ | refine blk_alloc ?_ _)); exact BK153.out) hb); have n5_ := Aside0.mk (below_step (by repeat (first | (with_reducible first | exact HB.out | apply below_alloc | apply pw_below_drewN | apply below_drew1 | refine below_set ?_ GE126.out | refine below_set ?_ GE135.out | refine below_set ?_ GE153.out) | exact HB.out)) hb); clear HO149; clear HO152; clear BK126; clear BK135; clear BK153; clear HB; have HO149 := n0_; have HO152 := n1_; have BK126 := n2_; have BK135 := n3_; have BK153 := n4_; have HB := n5_; clear n0_ n1_ n2_ n3_ n4_ n5_; (try clear hb); (try clear hb2); (try clear hk); (try clear hi); have hnb64 := NB135_126.out; have hnc64 := NB126_135.out; have hcz65_0 : w63.cell? ⟨gb135, 0, none⟩ = some (.int .i64 a0_0) := (blk_cell BK135.out 0).trans rfl; have hcz65_1 : w63.cell? ⟨gb135, 1, none⟩ = some (.slice (some ad146) y131.length c0_1) := (blk_cell BK135.out 1).trans rfl; have hfz65_0 := blk_frozen BK135.out 0; have hfz65_1 := blk_frozen BK135.out 1) | ((with_reducible refine gate_callee (f := 30) rfl ?_); refine goesL_ (some 60) rfl rfl Tryd.func30 (by kernel_rfl) rfl #[.agg #[.int .i64 a0_0, .slice (some ad146) y131.length c0_1]] rfl (by (try simp only [List.map_toArray, List.map_cons, List.map_nil]); first | done | rfl | (simp only [List.length_drop, List.length_take]; rfl)) ?_; (with_reducible refine (rightC a0_0 _ _ y131 true _ ?side1 ?side2 A34.out).mono ?_); (case side1 => repeat (first | exact (Kd.C_below HR134.out HB.out) | (with_reducible refine Kd.C_alloc ?_ _) | (with_reducible refine Kd.C_drewN ?_ _) | (with_reducible refine Kd.C_drew ?_))); (case side2 => exact HC134.out); rintro e w66 ⟨rfl, hb⟩; refine ⟨_, rfl, ?_⟩; have n0_ := Aside0.mk (Kd.R_below (by (with_reducible repeat (first | apply Kd.R_alloc | apply Kd.R_drewN | apply Kd.R_drew)); exact HO149.out) hb); have n1_ := Aside0.mk (Kd.R_below (by (with_reducible repeat (first | apply Kd.R_alloc | apply Kd.R_drewN | apply Kd.R_drew)); exact HO152.out) hb); have n2_ := Aside0.mk (blk_below (g := gb126) (o := .cells #[.int .i64 a0_0, .slice (some ad146) l0_1.length c0_1] 26 (0, 0)) (by (with_reducible repeat (first | refine blk_drewN ?_ _ | refine blk_drew ?_ | refine blk_alloc ?_ _)); exact BK126.out) hb); have n3_ := Aside0.mk (blk_below (g := gb135) (o := .cells #[.int .i64 a0_0, .slice (some ad146) y131.length c0_1] 26 (0, 0)) (by (with_reducible repeat (first | refine blk_drewN ?_ _ | refine blk_drew ?_ | refine blk_alloc ?_ _)); exact BK135.out) hb); have n4_ := Aside0.mk (blk_below (g := gb153) (o := .cells #[.int .i64 a0_0, .slice Ao57 y150.length co57] 26 (0, 0)) (by (with_reducible repeat (first | refine blk_drewN ?_ _ | refine blk_drew ?_ | refine blk_alloc ?_ _)); exact BK153.out) hb); have n5_ := Aside0.mk (below_step (by repeat (first | (with_reducible first | exact HB.out | apply below_alloc | apply pw_below_drewN | apply below_drew1 | refine below_set ?_ GE126.out | refine below_set ?_ GE135.out | refine below_set ?_ GE153.out) | exact HB.out)) hb); clear HO149; clear HO152; clear BK126; clear BK135; clear BK153; clear HB; have HO149 := n0_; have HO152 := n1_; have BK126 := n2_; have BK135 := n3_; have BK153 := n4_; have HB := n5_; clear n0_ n1_ n2_ n3_ n4_ n5_; (try clear hb); (try clear hb2); (try clear hk); (try clear hi); have hcz67_0 : w66.cell? ⟨gb126, 0, none⟩ = some (.int .i64 a0_0) := (blk_cell BK126.out 0).trans rfl; have hcz67_1 : w66.cell? ⟨gb126, 1, none⟩ = some (.slice (some ad146) l0_1.length c0_1) := (blk_cell BK126.out 1).trans rfl; have hfz67_0 := blk_frozen BK126.out 0; have hfz67_1 := blk_frozen BK126.out 1) | (go_at_call 30; (with_reducible refine (rightC 0 _ _ l0_1 false _ ?side1 ?side2 A36.out).mono ?_); (case side1 => repeat (first | exact (Kd.C_below HR0_1.out HB.out) | (with_reducible refine Kd.C_alloc ?_ _) | (with_reducible refine Kd.C_drewN ?_ _) | (with_reducible refine Kd.C_drew ?_))); (case side2 => exact HC0_1.out); rintro e w68 ⟨rfl, hb⟩; have n0_ := Aside0.mk (Kd.R_below (by (with_reducible repeat (first | apply Kd.R_alloc | apply Kd.R_drewN | apply Kd.R_drew)); exact HO149.out) hb); have n1_ := Aside0.mk (Kd.R_below (by (with_reducible repeat (first | apply Kd.R_alloc | apply Kd.R_drewN | apply Kd.R_drew)); exact HO152.out) hb); have n2_ := Aside0.mk (blk_below (g := gb126) (o := .cells #[.int .i64 a0_0, .slice (some ad146) l0_1.length c0_1] 26 (0, 0)) (by (with_reducible repeat (first | refine blk_drewN ?_ _ | refine blk_drew ?_ | refine blk_alloc ?_ _)); exact BK126.out) hb); have n3_ := Aside0.mk (blk_below (g := gb135) (o := .cells #[.int .i64 a0_0, .slice (some ad146) y131.length c0_1] 26 (0, 0)) (by (with_reducible repeat (first | refine blk_drewN ?_ _ | refine blk_drew ?_ | refine blk_alloc ?_ _)); exact BK135.out) hb); have n4_ := Aside0.mk (blk_below (g := gb153) (o := .cells #[.int .i64 a0_0, .slice Ao57 y150.length co57] 26 (0, 0)) (by (with_reducible repeat (first | refine blk_drewN ?_ _ | refine blk_drew ?_ | refine blk_alloc ?_ _)); exact BK153.out) hb); have n5_ := Aside0.mk (below_step (by repeat (first | (with_reducible first | exact HB.out | apply below_alloc | apply pw_below_drewN | apply below_drew1 | refine below_set ?_ GE126.out | refine below_set ?_ GE135.out | refine below_set ?_ GE153.out) | exact HB.out)) hb); clear HO149; clear HO152; clear BK126; clear BK135; clear BK153; clear HB; have HO149 := n0_; have HO152 := n1_; have BK126 := n2_; have BK135 := n3_; have BK153 := n4_; have HB := n5_; clear n0_ n1_ n2_ n3_ n4_ n5_; (try clear hb); (try clear hb2); (try clear hk); (try clear hi)))
    go_ret
    exact ⟨rfl, HB.out⟩
end Go.Proofs.YtbeofioghdapbaaDoor.H
