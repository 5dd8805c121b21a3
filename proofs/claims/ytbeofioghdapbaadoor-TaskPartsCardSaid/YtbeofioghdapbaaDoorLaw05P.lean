/- Plain words on why a set isn't right, for a beginning of its tasks and for a task twice; the contract of the test of few tasks. -/
import Derived.Test.YtbeofioghdapbaaDoorLaw05
namespace Go.Proofs.YtbeofioghdapbaaDoor.H
open Go.RowKit Go.Proofs.YtbeofioghdapbaaDoorW.PrintWords Go.Proofs.YtbeofioghdapbaaDoorW.PrintLast Go.Proofs.YtbeofioghdapbaaDoorW.PrintMore Go.Proofs.YtbeofioghdapbaaDoor.B
set_option linter.unusedVariables false
set_option linter.unusedSimpArgs false

/-- Has a set few tasks, with short names? -/
def fewB (l : List S36) : Bool := (l.take 40).all (fun t => decide (t.f0.size ≤ 60)) && decide (l.length ≤ 30)
theorem wrap64_in {n : Int} (h0 : -9223372036854775808 ≤ n) (h1 : n ≤ 9223372036854775807) : wrap64 n = n := by
  unfold wrap64; omega
theorem few_go (b : Int) (l : List S36) : ∀ (m i : Nat), i + m = min l.length 40 → pendulumref05_Few.l0 (2 * m + 2) i b l = some (((l.drop i).take m).all (fun t => decide (t.f0.size ≤ 60)) && decide (l.length ≤ 30)) := by
  intro m
  induction m with
  | zero =>
    intro i hi
    have key : ∀ x12 : Bool, x12 = false → pendulumref05_Few.j1 1 (i : Int) x12 b l = some (decide ((l.length : Int) ≤ 30)) := by
      intro x hx
      subst hx
      simp [pendulumref05_Few.j1]
    have e : decide ((l.length : Int) ≤ 30) = decide (l.length ≤ 30) := by
      by_cases h : l.length ≤ 30
      · rw [decide_eq_true h, decide_eq_true (by omega)]
      · rw [decide_eq_false h, decide_eq_false (by omega)]
    show pendulumref05_Few.l0 2 (i : Int) b l = _
    unfold pendulumref05_Few.l0
    simp only [List.take_zero, List.all_nil, Bool.true_and]
    rw [← e]
    split
    · exact key _ (decide_eq_false (by omega))
    · exact key _ rfl
  | succ m ih =>
    intro i hi
    have hl : i < l.length := by omega
    have h40 : i < 40 := by omega
    have hw : wrap64 ((i : Int) + 1) = ((i + 1 : Nat) : Int) := by rw [wrap64_in (by omega) (by omega)]; omega
    show pendulumref05_Few.l0 (2 * m + 3 + 1) (i : Int) b l = _
    unfold pendulumref05_Few.l0
    rw [if_pos (by omega), decide_eq_true (by omega : (i : Int) < 40)]
    show pendulumref05_Few.j1 (2 * m + 2 + 1) (i : Int) true b l = _
    unfold pendulumref05_Few.j1
    rw [if_pos rfl, if_pos (by omega), if_pos (by omega), hw]
    have hd : l.drop i = rd_T36 l i :: l.drop (i + 1) := by rw [rd_get l i hl]; exact List.drop_eq_getElem_cons hl
    rw [hd, List.take_succ_cons, List.all_cons]
    split
    · next h => rw [decide_eq_false (by omega)]; rfl
    · next h =>
      rw [decide_eq_true (by omega), Bool.true_and]
      exact ih (i + 1) (by omega)
theorem few_f (b : Int) (l : List S36) : ∃ k, pendulumref05_Few.f k b l = some (fewB l) := by
  refine ⟨2 * min l.length 40 + 2, ?_⟩
  have := few_go b l (min l.length 40) 0 (by omega)
  unfold pendulumref05_Few.f fewB
  rw [show ((0 : Int)) = ((0 : Nat) : Int) by rfl, this, List.drop_zero]
  congr 3
  by_cases h : l.length ≤ 40
  · rw [Nat.min_eq_left h, List.take_of_length_le (Nat.le_refl _), List.take_of_length_le h]
  · rw [Nat.min_eq_right (by omega)]
theorem few22 (b : Int) (A : Option Addr) (c : Nat) (l : List S36) (w : World) (hr : Kd.C k36 w A l.length l) (hc : l.length ≤ c) :
    Calls Tryd.prog 22 #[.agg #[.int .i64 b, .slice A l.length c]] w fun e w' => e = .returned (.bool (fewB l)) ∧ Below w.heap.size w w' := by
  obtain ⟨k, hk⟩ := few_f b l
  exact pendulumref05_Few.calls k b A c l (fewB l) w hr hc hk
theorem few_len (l : List S36) (h : fewB l = true) : l.length ≤ 30 := by
  unfold fewB at h
  simp only [Bool.and_eq_true, decide_eq_true_eq] at h
  exact h.2
theorem few_names (l : List S36) (h : fewB l = true) : ∀ t ∈ l, t.f0.size ≤ 60 := by
  have hl := few_len l h
  unfold fewB at h
  rw [List.take_of_length_le (by omega)] at h
  simp only [Bool.and_eq_true, List.all_eq_true, decide_eq_true_eq] at h
  exact h.1

/-- The contracts, with all that they ask in one word. -/
def W31 (b : Int) (l : List S36) (r1 r2 : Int) : Prop := why b l = (r1, r2) ∧ (∀ t ∈ l, t.f0.size ≤ 9223372036854775807) ∧ l.length ≤ 9223372036854775807
def W30 (b : Int) (l : List S36) (r : Bool) : Prop := rightB b l = r ∧ (∀ t ∈ l, t.f0.size ≤ 9223372036854775807) ∧ l.length ≤ 9223372036854775807
def FewC (b : Int) (l : List S36) (r : Bool) : Prop := ∀ (A : Option Addr) (c : Nat) (w : World), Kd.C k36 w A l.length l → l.length ≤ c → Calls Tryd.prog 22 #[.agg #[.int .i64 b, .slice A l.length c]] w fun e w' => e = .returned (.bool r) ∧ Below w.heap.size w w'
theorem whyC (b : Int) (A : Option Addr) (c : Nat) (l : List S36) (r1 r2 : Int) (w : World) (hr : Kd.C k36 w A l.length l) (hc : l.length ≤ c) (h : W31 b l r1 r2) :
    Calls Tryd.prog 31 #[.agg #[.int .i64 b, .slice A l.length c]] w fun e w' => e = .returned (.tuple #[.int .i64 r1, .int .i64 r2]) ∧ Below w.heap.size w w' := by
  obtain ⟨h1, h2, h3⟩ := h
  have := why31 b A c l w h2 hr hc h3
  rw [h1] at this
  exact this
theorem rightC (b : Int) (A : Option Addr) (c : Nat) (l : List S36) (r : Bool) (w : World) (hr : Kd.C k36 w A l.length l) (hc : l.length ≤ c) (h : W30 b l r) :
    Calls Tryd.prog 30 #[.agg #[.int .i64 b, .slice A l.length c]] w fun e w' => e = .returned (.bool r) ∧ Below w.heap.size w w' := by
  obtain ⟨h1, h2, h3⟩ := h
  have := right30 b A c l w h2 hr hc h3
  rw [h1] at this
  exact this

theorem whyGo_zero (l : List S36) : ∀ (n k : Nat), (whyGo l k n).1 = 0 → ∀ i, k ≤ i → i < k + n → whyOne (rd_T36 l i) (l.take i) = 0 := by
  intro n
  induction n with
  | zero => intro k _ i h1 h2; omega
  | succ n ih =>
    intro k h i h1 h2
    unfold whyGo at h
    by_cases hz : whyOne (rd_T36 l k) (l.take k) = 0
    · rw [if_pos hz] at h
      by_cases e : i = k
      · rw [e]; exact hz
      · exact ih (k + 1) h i (by omega) (by omega)
    · rw [if_neg hz] at h
      exact absurd h hz
theorem whyGo_all (l : List S36) : ∀ (n k : Nat), (∀ i : Nat, k ≤ i → i < k + n → whyOne (rd_T36 l i) (l.take i) = 0) → whyGo l k n = (0, -1) := by
  intro n
  induction n with
  | zero => intro k _; rfl
  | succ n ih =>
    intro k h
    unfold whyGo
    rw [if_pos (h k (Nat.le_refl _) (by omega))]
    exact ih (k + 1) fun i h1 h2 => h i (by omega) (by omega)
theorem whyGo_stop (l : List S36) (j : Nat) (hj : whyOne (rd_T36 l j) (l.take j) ≠ 0) : ∀ (n k : Nat), k ≤ j → j < k + n → (∀ i : Nat, k ≤ i → i < j → whyOne (rd_T36 l i) (l.take i) = 0) → whyGo l k n = (whyOne (rd_T36 l j) (l.take j), (j : Int)) := by
  intro n
  induction n with
  | zero => intro k h1 h2; omega
  | succ n ih =>
    intro k h1 h2 h
    unfold whyGo
    by_cases e : k = j
    · subst e
      rw [if_neg hj]
    · rw [if_pos (h k (Nat.le_refl _) (by omega))]
      exact ih (k + 1) (by omega) (by omega) fun i h3 h4 => h i (by omega) h4

theorem right_parts (b : Int) (l : List S36) (h : rightB b l = true) : inB b 1 1000 = true ∧ (1 ≤ l.length ∧ l.length ≤ 16) ∧ ∀ i, i < l.length → whyOne (rd_T36 l i) (l.take i) = 0 := by
  unfold rightB why at h
  by_cases h1 : inB b 1 1000 = false
  · rw [if_pos h1] at h; exact absurd h (by decide)
  · rw [if_neg h1] at h
    by_cases h2 : inB l.length 1 16 = false
    · rw [if_pos h2] at h; exact absurd h (by decide)
    · rw [if_neg h2] at h
      refine ⟨by simpa using h1, ?_, fun i hi => whyGo_zero l l.length 0 (by simpa using h) i (Nat.zero_le _) (by omega)⟩
      simp only [Bool.not_eq_false] at h2
      unfold inB at h2
      simp only [Bool.and_eq_true, decide_eq_true_eq] at h2
      omega
theorem rd_take (l : List S36) (k i : Nat) (h : i < k) : rd_T36 (l.take k) i = rd_T36 l i := by
  unfold rd_T36
  simp [List.getD, List.getElem?_take, h]
theorem rd_append (l m : List S36) (i : Nat) (h : i < l.length) : rd_T36 (l ++ m) i = rd_T36 l i := by
  unfold rd_T36
  simp [List.getD, List.getElem?_append_left h]
theorem right_take (b : Int) (l : List S36) (k : Nat) (h : rightB b l = true) (h1 : 1 ≤ k) (h2 : k ≤ l.length) : rightB b (l.take k) = true := by
  obtain ⟨ha, hb, hc⟩ := right_parts b l h
  have hlen : (l.take k).length = k := by rw [List.length_take]; omega
  have hn : inB (l.take k).length 1 16 = true := by unfold inB; rw [hlen]; simp; omega
  unfold rightB why
  rw [if_neg (by simp [ha]), if_neg (by rw [hn]; decide), whyGo_all]
  · rfl
  · intro i _ hi
    rw [hlen] at hi
    rw [rd_take l k i (by omega), List.take_take, Nat.min_eq_left (by omega)]
    exact hc i (by omega)
theorem right_none (l : List S36) : rightB 0 l = false := by
  unfold rightB why
  rw [if_pos (by decide)]
  rfl
theorem why_twice (b : Int) (l : List S36) (k : Nat) (h : rightB b l = true) (h1 : 1 ≤ k) (h2 : k ≤ l.length) :
    ∃ t1 t2 : Int, why b (l.take k ++ [rd_T36 l ((k : Int) - 1)]) = (t1, t2) ∧ (((k : Int) = 16 ∧ t1 = 2) ∨ ((k : Int) < 16 ∧ t1 = 3 ∧ t2 = k)) := by
  obtain ⟨ha, hb, hc⟩ := right_parts b l h
  have hlk : (l.take k).length = k := by rw [List.length_take]; omega
  have hlen : (l.take k ++ [rd_T36 l ((k : Int) - 1)]).length = k + 1 := by rw [List.length_append, hlk]; rfl
  obtain ⟨x, hx⟩ : ∃ x, x = rd_T36 l ((k : Int) - 1) := ⟨_, rfl⟩
  rw [← hx] at hlen ⊢
  have hx' : x = rd_T36 l ((k - 1 : Nat) : Int) := by rw [hx]; congr 1; omega
  by_cases e : k = 16
  · refine ⟨2, -1, ?_, Or.inl ⟨by omega, rfl⟩⟩
    unfold why
    rw [if_neg (by simp [ha]), if_pos (by unfold inB; rw [hlen]; simp; omega)]
  · refine ⟨3, k, ?_, Or.inr ⟨by omega, rfl, rfl⟩⟩
    have hrk : rd_T36 (l.take k ++ [x]) (k : Int) = x := by
      unfold rd_T36
      simp [List.getD, hlk]
    have htk : (l.take k ++ [x]).take k = l.take k := by rw [List.take_append_of_le_length (by omega), List.take_of_length_le (by omega)]
    have hone : whyOne (rd_T36 (l.take k ++ [x]) (k : Int)) ((l.take k ++ [x]).take k) = 3 := by
      rw [hrk, htk]
      unfold whyOne
      rw [if_pos]
      unfold namedB
      have hany : (l.take k).any (sameName x) = true := by
        refine List.any_eq_true.2 ⟨x, ?_, by unfold sameName; simp⟩
        rw [hx', rd_get l (k - 1) (by omega)]
        exact List.mem_take_iff_getElem.2 ⟨k - 1, by omega, rfl⟩
      rw [hany]
      simp
    unfold why
    rw [if_neg (by simp [ha]), if_neg (by unfold inB; rw [hlen]; simp; omega), whyGo_stop _ k (by rw [hone]; decide) _ 0 (Nat.zero_le _) (by omega), hone]
    intro i _ hi
    rw [rd_append _ _ i (by omega), rd_take l k i hi, List.take_append_of_le_length (by omega), List.take_take, Nat.min_eq_left (by omega)]
    exact hc i (by omega)

set_option maxHeartbeats 4000000 in
/-- The ways on which the law asks nothing. -/
theorem parts7_early (b : Int) (A : Option Addr) (c : Nat) (l : List S36) (a1 : Int) (w : World) (hr : Kd.C k36 w A l.length l) (hc : l.length ≤ c) (h : fewB l = false ∨ (fewB l = true ∧ rightB b l = false)) :
    Calls Tryd.prog 7 #[.agg #[.int .i64 b, .slice A l.length c], .int .u8 a1] w fun e w' => e = .returned (.bool true) ∧ Below w.heap.size w w' := by
  have hu26 := Tryd.underlying26
  have HR := Aside0.mk hr
  have HC := Aside0.mk hc
  clear hr hc
  have HB0 := Aside0.mk (below_alloc (Below.refl w.heap.size w) (.cells #[.int .i64 b, .slice A l.length c] 26 (0, 0)))
  have BK0 := Aside0.mk (blk_new w (.cells #[.int .i64 b, .slice A l.length c] 26 (0, 0)))
  rcases h with h | ⟨h, h2⟩
  · have HX : Aside0 (FewC b l false) := ⟨fun A c w h1 h2 => h ▸ few22 b A c l w h1 h2⟩
    clear h
    go_enter Tryd.func7, Tryd.ntmps7
    go_wp2_with fail
    refine (awake29 _).mono ?_
    rintro e wa ⟨rfl, hba⟩
    have BKa := Aside0.mk (blk_below BK0.out hba)
    have HBa := Aside0.mk (below_step HB0.out hba)
    have hca0 : wa.cell? ⟨w.heap.size, 0, none⟩ = some (.int .i64 b) := (blk_cell BKa.out 0).trans rfl
    have hca1 : wa.cell? ⟨w.heap.size, 1, none⟩ = some (.slice A l.length c) := (blk_cell BKa.out 1).trans rfl
    clear hba
    go_wp2_with fail
    refine (HX.out _ _ _ (Kd.C_below HR.out HBa.out) HC.out).mono ?_
    rintro e wb ⟨rfl, hbb⟩
    have HBb := Aside0.mk (below_step HBa.out hbb)
    clear hbb hca0 hca1
    go_wp2_with fail
    refine (awake29 _).mono ?_
    rintro e wc ⟨rfl, hbc⟩
    have HBc := Aside0.mk (below_step HBb.out hbc)
    clear hbc
    go_wp2_with fail
    go_ret
    exact ⟨rfl, HBc.out⟩
  · have HX : Aside0 (FewC b l true) := ⟨fun A c w h1 h2 => h ▸ few22 b A c l w h1 h2⟩
    have HY : Aside0 (W30 b l false) := ⟨h2, fun t ht => Nat.le_trans (few_names l h t ht) (by decide), Nat.le_trans (few_len l h) (by decide)⟩
    clear h h2
    go_enter Tryd.func7, Tryd.ntmps7
    go_wp2_with fail
    refine (awake29 _).mono ?_
    rintro e wa ⟨rfl, hba⟩
    have BKa := Aside0.mk (blk_below BK0.out hba)
    have HBa := Aside0.mk (below_step HB0.out hba)
    have hca0 : wa.cell? ⟨w.heap.size, 0, none⟩ = some (.int .i64 b) := (blk_cell BKa.out 0).trans rfl
    have hca1 : wa.cell? ⟨w.heap.size, 1, none⟩ = some (.slice A l.length c) := (blk_cell BKa.out 1).trans rfl
    clear hba
    go_wp2_with fail
    refine (HX.out _ _ _ (Kd.C_below HR.out HBa.out) HC.out).mono ?_
    rintro e wb ⟨rfl, hbb⟩
    have BKb := Aside0.mk (blk_below BKa.out hbb)
    have HBb := Aside0.mk (below_step HBa.out hbb)
    clear hbb hca0 hca1
    have hcb0 : wb.cell? ⟨w.heap.size, 0, none⟩ = some (.int .i64 b) := (blk_cell BKb.out 0).trans rfl
    have hcb1 : wb.cell? ⟨w.heap.size, 1, none⟩ = some (.slice A l.length c) := (blk_cell BKb.out 1).trans rfl
    go_wp2_with fail
    refine (rightC b _ _ l false _ (Kd.C_below HR.out HBb.out) HC.out HY.out).mono ?_
    rintro e wc ⟨rfl, hbc⟩
    have HBc := Aside0.mk (below_step HBb.out hbc)
    clear hbc hcb0 hcb1
    go_wp2_with fail
    refine (awake29 _).mono ?_
    rintro e wd ⟨rfl, hbd⟩
    have HBd := Aside0.mk (below_step HBc.out hbd)
    clear hbd
    go_wp2_with fail
    go_ret
    exact ⟨rfl, HBd.out⟩
end Go.Proofs.YtbeofioghdapbaaDoor.H
