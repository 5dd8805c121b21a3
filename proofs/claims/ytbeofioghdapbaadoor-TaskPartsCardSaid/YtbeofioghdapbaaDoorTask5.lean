/- The walk of tasks' order by priority. -/
import Derived.Test.YtbeofioghdapbaaDoorTask4
import Derived.Test.YtbeofioghdapbaaDoorShSort
import Derived.Deep.QuietTactic
import Derived.BigQuiet
namespace Go.Proofs.YtbeofioghdapbaaDoor.H
open Go.RowKit Go.Proofs.YtbeofioghdapbaaDoorW.PrintWords Go.Proofs.YtbeofioghdapbaaDoorW.PrintLast Go.Proofs.YtbeofioghdapbaaDoorW.PrintMore Go.Proofs.YtbeofioghdapbaaDoor.B
set_option linter.unusedVariables false
set_option linter.unusedSimpArgs false

theorem info3 : (Tryd.prog.info? 3).map (fun i => (i.zero, i.size, i.bytes)) = some (some (.int .i64 0), 1, 8) := by kernel_rfl
theorem cmp86 (x y : Int) (w : World) : Calls Tryd.prog 86 #[.int .i64 x, .int .i64 y] w fun e w' => e = .returned (.int .i64 (Lib.compareInt x y)) ∧ w' = w := Any.cmp_Compare_int Tryd.lays122 x y w

/-- The comparison of two tasks' places, in whatever world in which the set and its tasks are there. -/
theorem less85 (b : Int) (A : Option Addr) (c : Nat) (l : List S36) (i j B : Nat) (w : World) (hi : i < l.length) (hj : j < l.length) (hr : Kd.C k36 w A l.length l) (hb : w.heap[B]? = some (.cells #[.int .i64 b, .slice A l.length c] 26 (0, 0))) (hl : l.length ≤ 1000) :
    Calls Tryd.prog 85 #[.int .i64 i, .int .i64 j, .pointer (some ⟨B, 0, none⟩)] w fun e w' => e = .returned (.int .i64 (Lib.compareInt (rd_T36 l i).f10 (rd_T36 l j).f10)) ∧ ∃ q, w' = w.drewN q := by
  have hu26 := Tryd.underlying26
  have hu36 := Tryd.underlying36
  have HR := Aside0.mk hr
  clear hr
  obtain ⟨ad, eA, hx0, hx1, hx2, hx3, hx4, hx5, hx6, hx7, hx8, hx9, hx10⟩ := tcells HR.out (Below.refl _ _) i hi
  obtain ⟨ad', eA', hy0, hy1, hy2, hy3, hy4, hy5, hy6, hy7, hy8, hy9, hy10⟩ := tcells HR.out (Below.refl _ _) j hj
  cases eA
  cases eA'
  have hz1 : w.cell? ⟨B, 1, none⟩ = some (.slice (some ad) l.length c) := (blk_cell hb 1).trans rfl
  clear hb hx0 hx1 hx2 hx3 hx4 hx5 hx6 hx7 hx8 hx9 hy0 hy1 hy2 hy3 hy4 hy5 hy6 hy7 hy8 hy9
  go_enter Tryd.func85, Tryd.ntmps85
  go_wp2_with fail
  go_quiet ((go_at_call 86; exact Calls.quiet_of_same (cmp86 _ _ _)))
  go_wp2_with fail
  go_ret
  exact ⟨rfl, _, rfl⟩

theorem blk_ty {w : World} {base n size : Nat} {e t : TypeId} {g : Nat} {v : Value} {xs : List Value} {cs : Array Value} (hb : w.heap[g]? = some (.cells cs t (0, 0))) (h : w.ownsRow base e size v n xs) (hk : v.ownBlock = some g) : t = e := by
  obtain ⟨cells, hc⟩ := own_typed h g hk
  rw [hb] at hc
  injection hc with hc
  injection hc
/-- Tasks' places, by priority. -/
structure IsOrder (l : List S36) (ord : List Int) : Prop where
  perm : ord.Perm ((List.range l.length).map fun i : Nat => (i : Int))
  sorted : ord.Pairwise fun a b => (rd_T36 l a).f10 ≤ (rd_T36 l b).f10

theorem sort_heap {α : Type} [Inhabited α] (enc : α → Value) (W : World) (blk off m : Nat) (dk : Array α) (os : Array Obj) (k : Nat) (hk : k < W.heap.size) (hne : k ≠ blk) : (sortWorld enc W blk off m dk os).heap[k]? = W.heap[k]? := by
  unfold sortWorld
  rw [Sort.heap_grow_old _ _ (by simpa [Sort.putRow, Sort.mapBlock] using hk)]
  simp only [Sort.putRow, Sort.mapBlock, Sort.heap_ahead, Array.getElem?_modify]
  rw [if_neg (fun h => hne h.symm)]
theorem sort_below {α : Type} [Inhabited α] (enc : α → Value) (w W : World) (blk off m : Nat) (dk : Array α) (os : Array Obj) (h : Below w.heap.size w W) (hb : w.heap.size ≤ blk) : Below w.heap.size w (sortWorld enc W blk off m dk os) := by
  refine ⟨h.os, h.tape, h.output, ?_, fun k hk => ?_⟩
  · have : W.heap.size ≤ (sortWorld enc W blk off m dk os).heap.size := by
      unfold sortWorld Sort.grow
      simp [Sort.putRow, Sort.mapBlock]
    exact Nat.le_trans h.size this
  · rw [sort_heap enc W blk off m dk os k (Nat.lt_of_lt_of_le hk h.size) (by omega)]
    exact h.block k hk
def iota (n : Nat) : List Int := (List.range n).map fun i : Nat => (i : Int)
theorem iota_succ (n : Nat) : iota (n + 1) = iota n ++ [(n : Int)] := by unfold iota; rw [List.range_succ, List.map_append]; rfl
theorem iota_length (n : Nat) : (iota n).length = n := by simp [iota]
def encF (n : Nat) (x : Fin n) : Value := .int .i64 (x.val : Int)

theorem sort84 (b : Int) (A : Option Addr) (c : Nat) (l : List S36) (B : Nat) (v : Value) (w W : World) (h1 : 1 ≤ l.length) (hl : l.length ≤ 1000) (hr : Kd.C k36 w A l.length l)
    (hb : W.heap[B]? = some (.cells #[.int .i64 b, .slice A l.length c] 26 (0, 0))) (hw : Below w.heap.size w W) (ho : W.ownsRow w.heap.size 3 1 v l.length (nums .i64 (iota l.length))) :
    Calls Tryd.prog 84 #[v, .func (.func 85) #[] #[.pointer (some ⟨B, 0, none⟩)]] W fun e w' => e = .returned (.tuple #[]) ∧ Below w.heap.size w w' ∧ ∃ ord A' c', IsOrder l ord ∧ v = .slice A' ord.length c' ∧ ord.length ≤ c' ∧ Kd.C (Kd.int .i64) w' A' ord.length ord := by
  obtain ⟨hlen, ho⟩ := ho
  rcases ho with ⟨_, h0⟩ | ⟨g, cap, cur, rfl, hg, hh, hnc, hcm, hcs, htk⟩
  · omega
  rw [Nat.mul_one] at htk
  haveI : Inhabited (Fin l.length) := ⟨⟨0, h1⟩⟩
  have hgB : g ≠ B := by
    rintro rfl
    rw [hh] at hb
    injection hb with hb
    injection hb with _ hb
    cases hb
  have hgW : g < W.heap.size := blk_lt hh
  have hBW : B < W.heap.size := blk_lt hb
  let d : Array (Fin l.length) := Array.ofFn id
  have hds : d.size = l.length := by simp [d]
  have hH : Sort.Holds (encF l.length) W g 0 d := by
    intro j hj
    rw [hds] at hj
    refine ⟨?_, blk_frozen hh _⟩
    rw [Nat.zero_add, blk_cell hh]
    have : cur[j]? = (nums .i64 (iota l.length))[j]? := by
      rw [← htk, List.getElem?_take, if_pos hj, Array.getElem?_toList]
    rw [this]
    simp [nums, iota, encF, d, hj]
  have hcmp : CmpReads Tryd.prog 85 #[.pointer (some ⟨B, 0, none⟩)] (encF l.length) (fun x y => Lib.compareInt (rd_T36 l x.val).f10 (rd_T36 l y.val).f10) g 0 d.size W := by
    intro m os dk hk x y
    refine less85 b A c l x.val y.val B _ x.isLt y.isLt (Kd.C_below hr (sort_below _ w W g 0 m dk os hw hg)) ?_ hl
    rw [sort_heap _ W g 0 m dk os B hBW (fun h => hgB h.symm)]
    exact hb
  have hlt : ∀ x y : Fin l.length, ltOf (fun x y => Lib.compareInt (rd_T36 l x.val).f10 (rd_T36 l y.val).f10) x y = decide ((rd_T36 l x.val).f10 < (rd_T36 l y.val).f10) := by
    intro x y
    unfold ltOf Lib.compareInt
    by_cases h1 : (rd_T36 l x.val).f10 < (rd_T36 l y.val).f10
    · simp [h1]
    · by_cases h2 : (rd_T36 l y.val).f10 < (rd_T36 l x.val).f10 <;> simp [h1, h2]
  have hO : Sort.SWO (ltOf fun x y : Fin l.length => Lib.compareInt (rd_T36 l x.val).f10 (rd_T36 l y.val).f10) := by
    refine ⟨fun x => ?_, fun x y z a b => ?_, fun x y z a b => ?_⟩
    · rw [hlt]; simp
    · rw [hlt] at *; simp at *; omega
    · rw [hlt] at *; simp at *; omega
  have hcon := Any.slices_SortFunc Tryd.laysSlF6 (encF l.length) (fun _ => rfl) _ hO 85 #[.pointer (some ⟨B, 0, none⟩)] g 0 cap d W (enters_of Tryd.func85 (by kernel_rfl) rfl) hcmp.lays hH hgW (by rw [hds]; omega)
  rw [hds] at hcon
  refine Calls.mono hcon ?_
  rintro e w' ⟨rfl, d', n, os, hp, hs, rfl⟩
  have hdl : d'.size = l.length := hp.1.trans hds
  have hpl : d'.toList.Perm d.toList := by
    have h3 := hp.2.2
    have e1 : d'.extract 0 d'.size = d' := Array.extract_size
    have e2 : d.extract 0 d.size = d := Array.extract_size
    rw [hdl] at e1
    rw [hds] at e2
    rwa [e1, e2] at h3
  have hdm : d.toList.map (fun x => (x.val : Int)) = iota l.length := by
    apply List.ext_getElem
    · simp [d, iota]
    · intro i h1 h2; simp [d, iota]
  have hH' : Sort.Holds (encF l.length) (sortWorld (encF l.length) W g 0 n d' os) g 0 d' := holds_sortWorld (encF l.length) W g 0 n d d' os hgW hH hp.1
  have hol : (d'.toList.map (fun x => (x.val : Int))).length = l.length := by simp [hdl]
  refine ⟨rfl, sort_below _ w W g 0 n d' os hw hg, d'.toList.map (fun x => (x.val : Int)), some ⟨g, 0, none⟩, cap, ⟨?_, ?_⟩, ?_, ?_, ?_⟩
  · have := hpl.map (fun x => (x.val : Int))
    rw [hdm] at this
    exact this
  · rw [List.pairwise_map, List.pairwise_iff_getElem]
    intro i j hi hj hij
    have := hs i j (Nat.zero_le _) hij (by simpa [hdl] using hj)
    rw [hlt] at this
    simp only [Array.length_toList] at hi hj
    rw [getElem!_pos d' j hj, getElem!_pos d' i hi] at this
    simp only [decide_eq_false_iff_not, Array.getElem_toList] at this ⊢
    omega
  · rw [hol]
  · rw [hol]; exact hnc
  · rw [hol]
    refine Kd.C_of_reads (d := (0 : Int)) (h1 := fun _ => rfl) ⟨hol, by omega, fun _ => ⟨⟨g, 0, none⟩, rfl, fun j hj => ?_⟩⟩
    rw [add_plain]
    have := (hH' j (by rw [hdl]; exact hj)).1
    rw [Nat.zero_add] at this
    rw [this]
    have hj' : j < d'.size := by rw [hdl]; exact hj
    rw [getElem!_pos d' j hj']
    simp [encF, hj']

set_option maxHeartbeats 4000000 in
set_option maxRecDepth 100000 in
theorem order60 (b : Int) (A : Option Addr) (c : Nat) (l : List S36) (w : World) (h1 : 1 ≤ l.length) (hl : l.length ≤ 1000) (hr : Kd.C k36 w A l.length l) :
    Calls Tryd.prog 60 #[.agg #[.int .i64 b, .slice A l.length c]] w fun e w' => Below w.heap.size w w' ∧ ∃ ord A' c', IsOrder l ord ∧ e = .returned (.slice A' ord.length c') ∧ ord.length ≤ c' ∧ Kd.C (Kd.int .i64) w' A' ord.length ord := by
  have hu26 := Tryd.underlying26
  have HR := Aside0.mk hr
  have HL := Aside0.mk hl
  have H1 := Aside0.mk h1
  clear hr
  have HB0 : Aside0 (Below w.heap.size w (w.alloc (Obj.cells #[.int .i64 b, .slice A l.length c] 26))) := ⟨below_alloc (Below.refl _ _) _⟩
  go_enter Tryd.func60, Tryd.ntmps60
  go_wp2
  go_loopw [3, 8] (fun v3 v8 wr => ∃ k : Nat, k ≤ l.length ∧ v8 = .int .i64 k ∧ Aside0 (wr.ownsRow w.heap.size 3 1 v3 (iota k).length (nums .i64 (iota k))) ∧ Aside0 (wr.heap[w.heap.size]? = some (.cells #[.int .i64 b, .slice A l.length c] 26 (0, 0))) ∧ Aside0 (Below w.heap.size w wr)) (fun _ v8 _ => l.length - (intOf v8).toNat)
  case atStart => exact ⟨0, Nat.zero_le _, rfl, ⟨own_nil _ _ _ _⟩, ⟨blk_new _ _⟩, HB0⟩
  case round =>
    clear HB0
    obtain ⟨k, hk, rfl, HO, BK, HB⟩ := hrel
    by_cases hlt : k < l.length
    · have hlen := iota_length k
      have HLN := Aside0.mk hlen
      clear hlen
      go_wp2_with (at_builtin; refine print_append_num (w0 := w) w.heap.size rfl (.tmp 11) (.tmp 13) 46 3 .i64 8 rfl Tryd.underlying46 info3 (Nat.zero_lt_succ 7) u3 (iota k) (k : Int) rfl rfl HO.out HB.out HB.out.size ?aL ?_; (case aL => (have := HLN.out; have := HL.out; omega)); intro v1 w1 ho hb hg hat; have HO1 := Aside0.mk ho; have HB1 := Aside0.mk hb; have BK1 := Aside0.mk (blk_grown BK.out hg (by intro he; exact absurd (blk_ty BK.out HO.out he.symm) (by decide))); clear ho hb hg hat)
      go_roundw
      case measure => simp [intOf]; omega
      case rel => exact ⟨k + 1, by omega, by go_num, ⟨by rw [iota_succ]; exact HO1.out⟩, BK1, HB1⟩
    · have hk' : k = l.length := by omega
      subst hk'
      go_wp2_with fail
      rw [iota_length] at HO
      refine (sort84 b A c l w.heap.size _ w wr H1.out HL.out HR.out BK.out HB.out HO.out).mono ?_
      rintro e w1 ⟨rfl, hb1, ord, A', c', hord, rfl, hlc, hC⟩
      have HB1 := Aside0.mk hb1
      have HO1 := Aside0.mk hord
      have HL1 := Aside0.mk hlc
      have HC1 := Aside0.mk hC
      clear hb1 hord hlc hC HO
      go_wp2_with fail
      go_ret
      exact ⟨HB1.out, ord, A', c', HO1.out, rfl, HL1.out, HC1.out⟩
end Go.Proofs.YtbeofioghdapbaaDoor.H
