/- Texts under the proof of FnExactLeastCatches: helper words, the functions' contracts and the plain laws. No condition. -/
import Derived.Test.YtgajfpebfnlipaaQFnExactLeastCatchesa
namespace Go.Proofs.Ytgajfpebfnlipaa.P
open Go.RowKit Go.Proofs.YtgajfpebfnlipaaW.PrintWords Go.Proofs.YtgajfpebfnlipaaW.PrintLast Go.Proofs.YtgajfpebfnlipaaW.PrintMore
attribute [local go_sem] max2_int min2_int max_two min_two max_three min_three max_four min_four   -- for this text's walks alone
set_option linter.unusedVariables false
set_option linter.unusedSimpArgs false
/-! ### spec_LeastCatches: function 49 -/
mutual
def spec_LeastCatches.l0 : Nat → List Int → List Int → Int → List (S142) → Option (List Int)
  | 0, _, _, _, _ => none
  | k + 1, x1, x5, x6, x2000 => if x6 < (x2000.length : Int) then ((spec_hasInt.f k x1 x6).bind fun t6 => (spec_LeastCatches.l1 k x1 x5 x6 t6 0 x2000)) else (some x5)
def spec_LeastCatches.l1 : Nat → List Int → List Int → Int → Bool → Int → List (S142) → Option (List Int)
  | 0, _, _, _, _, _, _ => none
  | k + 1, x1, x5, x6, x7, x8, x2000 => if x8 < (x1.length : Int) then (if x7 = true then (if 0 ≤ x8 then (if (rd x1 x8) = x6 then (spec_LeastCatches.l1 k x1 x5 x6 true (wrap64 (x8 + 1)) x2000) else ((spec_isA.f k x2000 x6 (rd x1 x8)).bind fun t9 => (spec_LeastCatches.l1 k x1 x5 x6 (!t9) (wrap64 (x8 + 1)) x2000))) else (none)) else (spec_LeastCatches.l1 k x1 x5 x6 false (wrap64 (x8 + 1)) x2000)) else (if x7 = true then (if x5.length < 17592186044416 then (spec_LeastCatches.l0 k x1 (x5 ++ [x6]) (wrap64 (x6 + 1)) x2000) else (none)) else (spec_LeastCatches.l0 k x1 x5 (wrap64 (x6 + 1)) x2000))
end
def spec_LeastCatches.f (k : Nat) (l0_0 : List (S142)) (l1 : List Int) : Option (List Int) := (spec_goodCatches.f k l0_0 l1).bind fun t2 => (if t2 = true then (spec_LeastCatches.l0 k l1 (([] : List Int)) 0 l0_0) else (some ([] : List Int)))
theorem spec_LeastCatches.mono_l : ∀ k, (∀ y0 y1 y2 y3, LeO (spec_LeastCatches.l0 k y0 y1 y2 y3) (spec_LeastCatches.l0 (k + 1) y0 y1 y2 y3)) ∧ (∀ y0 y1 y2 y3 y4 y5, LeO (spec_LeastCatches.l1 k y0 y1 y2 y3 y4 y5) (spec_LeastCatches.l1 (k + 1) y0 y1 y2 y3 y4 y5))
  | 0 => ⟨fun _ _ _ _ r h => by simp [spec_LeastCatches.l0] at h, fun _ _ _ _ _ _ r h => by simp [spec_LeastCatches.l1] at h⟩
  | k + 1 => by
    obtain ⟨ih0, ih1⟩ := spec_LeastCatches.mono_l k
    refine ⟨?_, ?_⟩
    · intro y0 y1 y2 y3
      unfold spec_LeastCatches.l0
      repeat' first
      | (with_reducible exact ih0 _ _ _ _)
      | (with_reducible exact ih1 _ _ _ _ _ _)
      | (with_reducible exact spec_goodCatches.mono _ _ _)
      | (with_reducible exact spec_hasInt.mono _ _ _)
      | (with_reducible exact spec_isA.mono _ _ _ _)
      | (with_reducible exact LeO.refl _)
      | (with_reducible exact LeO.none _)
      | (with_reducible refine LeO.ite ?_ ?_)
      | (with_reducible refine LeO.bind ?_ (fun _ => ?_))
      | exact ih0 _ _ _ _
      | exact ih1 _ _ _ _ _ _
      | exact spec_goodCatches.mono _ _ _
      | exact spec_hasInt.mono _ _ _
      | exact spec_isA.mono _ _ _ _
      | exact LeO.none _
      | refine LeO.ite ?_ ?_
      | refine LeO.bind ?_ (fun _ => ?_)
    · intro y0 y1 y2 y3 y4 y5
      unfold spec_LeastCatches.l1
      repeat' first
      | (with_reducible exact ih0 _ _ _ _)
      | (with_reducible exact ih1 _ _ _ _ _ _)
      | (with_reducible exact spec_goodCatches.mono _ _ _)
      | (with_reducible exact spec_hasInt.mono _ _ _)
      | (with_reducible exact spec_isA.mono _ _ _ _)
      | (with_reducible exact LeO.refl _)
      | (with_reducible exact LeO.none _)
      | (with_reducible refine LeO.ite ?_ ?_)
      | (with_reducible refine LeO.bind ?_ (fun _ => ?_))
      | exact ih0 _ _ _ _
      | exact ih1 _ _ _ _ _ _
      | exact spec_goodCatches.mono _ _ _
      | exact spec_hasInt.mono _ _ _
      | exact spec_isA.mono _ _ _ _
      | exact LeO.none _
      | refine LeO.ite ?_ ?_
      | refine LeO.bind ?_ (fun _ => ?_)
theorem spec_LeastCatches.mono : ∀ a0 a1 k, LeO (spec_LeastCatches.f k a0 a1) (spec_LeastCatches.f (k + 1) a0 a1) := by
  intro a0 a1 k
  obtain ⟨ih0, ih1⟩ := spec_LeastCatches.mono_l k
  unfold spec_LeastCatches.f
  repeat' first
      | (with_reducible exact ih0 _ _ _ _)
      | (with_reducible exact ih1 _ _ _ _ _ _)
      | (with_reducible exact spec_goodCatches.mono _ _ _)
      | (with_reducible exact spec_hasInt.mono _ _ _)
      | (with_reducible exact spec_isA.mono _ _ _ _)
      | (with_reducible exact LeO.refl _)
      | (with_reducible exact LeO.none _)
      | (with_reducible refine LeO.ite ?_ ?_)
      | (with_reducible refine LeO.bind ?_ (fun _ => ?_))
      | exact ih0 _ _ _ _
      | exact ih1 _ _ _ _ _ _
      | exact spec_goodCatches.mono _ _ _
      | exact spec_hasInt.mono _ _ _
      | exact spec_isA.mono _ _ _ _
      | exact LeO.none _
      | refine LeO.ite ?_ ?_
      | refine LeO.bind ?_ (fun _ => ?_)
def spec_LeastCatches.T11 : Bool × List (List Nat × List Nat) := (true, [([], []), ([0], [0]), ([1], [1]), ([1], [1]), ([2, 3, 1], [1, 2, 3]), ([4, 1], [1, 4]), ([1], [1]), ([5, 6, 1], [1, 5, 6]), ([7, 1, 1], [1, 7]), ([8], [8]), ([8], [8]), ([8], [8]), ([8], [8]), ([11, 12, 8], [8, 11, 12]), ([13, 8], [8, 13]), ([9, 10, 14, 8, 8], [8, 9, 10, 14]), ([15, 8], [8, 15]), ([8, 16, 1], [1, 8, 16]), ([1, 17], [1, 17]), ([18, 15, 0, 1, 2, 3, 4, 5, 6, 7, 8, 9, 10, 11, 12, 13, 14, 15, 16, 17, 18], [0, 18])])
def spec_LeastCatches.B11 : List Nat := [0, 1, 3, 3, 15, 31, 3, 127, 255, 511, 511, 511, 511, 6655, 14847, 32767, 65535, 131071, 262143, 524287]
theorem spec_LeastCatches.tab11 : rtab .any (opsOf Try.f49 11) = spec_LeastCatches.T11 := by kernel_rfl
theorem spec_LeastCatches.bits11 : waitsOk spec_LeastCatches.T11.2 spec_LeastCatches.B11 = true := by kernel_rfl
set_option maxHeartbeats 8000000 in
set_option maxRecDepth 100000 in
theorem spec_LeastCatches.calls (k : Nat) (A0_0 : Option Addr) (c0_0 : Nat) (l0_0 : List (S142)) (A1 : Option Addr) (c1 : Nat) (l1 : List Int) (r : List Int) (w : World) (hr0_0 : Kd.C k142 w A0_0 l0_0.length l0_0) (hc0_0 : l0_0.length ≤ c0_0) (hr1 : Kd.C (Kd.int .i64) w A1 l1.length l1) (hc1 : l1.length ≤ c1) (h : spec_LeastCatches.f k l0_0 l1 = some r) :
    Calls Try.prog 49 #[.agg #[.slice A0_0 l0_0.length c0_0], .slice A1 l1.length c1] w fun e w' => ∃ v0_ : Value, e = .returned (v0_) ∧ Kd.R (Kd.int .i64) 3 w' w.heap.size (fun _ => True) v0_ r ∧ Below w.heap.size w w' := by
  have hu31 := Try.underlying31
  have HR0_0 := Aside0.mk hr0_0
  have HC0_0 := Aside0.mk hc0_0
  clear hr0_0 hc0_0
  have HR1 := Aside0.mk hr1
  have HC1 := Aside0.mk hc1
  clear hr1 hc1
  have HB := Aside0.mk (Below.refl w.heap.size w)
  have H : ((spec_goodCatches.f k l0_0 l1).bind fun t2 => (if t2 = true then (spec_LeastCatches.l0 k l1 (([] : List Int)) 0 l0_0) else (some ([] : List Int)))) = some r := h
  clear h
  replace H := Option.bind_eq_some_iff.mp H
  obtain ⟨t2, A30, H⟩ := H
  replace H : (if t2 = true then (spec_LeastCatches.l0 k l1 (([] : List Int)) 0 l0_0) else (some ([] : List Int))) = some r := H
  have A3 := Aside0.mk A30
  clear A30
  by_cases c4 : t2 = true
  · subst c4
    have H1 : (spec_LeastCatches.l0 k l1 (([] : List Int)) 0 l0_0) = some r := by rw [if_pos rfl] at H; exact H
    clear H
    have H := H1
    clear H1
    obtain ⟨y3, hy3⟩ : ∃ y_ : List Int, y_ = (([] : List Int)) := ⟨_, rfl⟩
    replace H : (spec_LeastCatches.l0 k l1 y3 0 l0_0) = some r := by first | (rw [hy3]; with_reducible exact H) | (have H2_ := (Option.bind_some _ _).symm.trans H; rw [hy3]; with_reducible exact H2_) | (have H2_ := (Option.bind_some _ _).symm.trans H; with_reducible exact H2_) | with_reducible exact H | (rw [hy3]; exact H) | exact H
    have Ny3 := Aside0.mk hy3
    clear hy3
    have H' := Aside0.mk H
    clear H
    go_enter Try.func49, Try.ntmps49
    go_wp2_with (first | ((with_reducible refine gate_dst (N := 2) rfl ?_); refine box_event ?hg (N := 2) ?hd (cs := #[.slice A0_0 l0_0.length c0_0]) (t := 31) ?hr ?_; (case hd => rfl); (case hg => rfl); (case hr => first | (go_simp; done) | (go_simp; rfl)); intro gb1 hg w5 hbox hb; have n0_ := Aside0.mk (below_step (by repeat (first | (with_reducible first | exact HB.out | apply below_alloc | apply pw_below_drewN | apply below_drew1) | exact HB.out)) hb); have n1_ := Aside0.mk (hbox); have n2_ := Aside0.mk ((by rw [hg]; exact (below_size (by repeat (first | (with_reducible first | exact HB.out | apply below_alloc | apply pw_below_drewN | apply below_drew1) | exact HB.out))) : w.heap.size ≤ gb1)); have n3_ := Aside0.mk ((by rw [hg]; exact (below_size (by repeat (first | (with_reducible first | exact HB.out | apply below_alloc | apply pw_below_drewN | apply below_drew1) | exact HB.out))) : w.heap.size ≤ gb1)); clear HB; have HB := n0_; have BK1 := n1_; have GW1 := n2_; have GE1 := n3_; clear n0_ n1_ n2_ n3_; clear hb hbox hg; have hcz6_0 : w5.cell? ⟨gb1, 0, none⟩ = some (.slice A0_0 l0_0.length c0_0) := (blk_cell BK1.out 0).trans rfl; have hfz6_0 := blk_frozen BK1.out 0) | ((with_reducible refine gate_callee (f := 105) rfl ?_); refine goesL_ (some 11) rfl rfl Try.func105 (by kernel_rfl) rfl #[.agg #[.slice A0_0 l0_0.length c0_0], .slice A1 l1.length c1] rfl (by (try simp only [List.map_toArray, List.map_cons, List.map_nil]); first | done | rfl | (simp only [List.length_drop, List.length_take]; rfl)) ?_; (with_reducible refine (spec_goodCatches.calls k _ _ l0_0 _ _ l1 true _ ?side1 ?side2 ?side3 ?side4 A3.out).mono ?_); (case side1 => repeat (first | exact (Kd.C_below HR0_0.out HB.out) | (with_reducible refine Kd.C_alloc ?_ _) | (with_reducible refine Kd.C_drewN ?_ _) | (with_reducible refine Kd.C_drew ?_))); (case side2 => exact HC0_0.out); (case side3 => repeat (first | exact (Kd.C_below HR1.out HB.out) | (with_reducible refine Kd.C_alloc ?_ _) | (with_reducible refine Kd.C_drewN ?_ _) | (with_reducible refine Kd.C_drew ?_))); (case side4 => exact HC1.out); rintro e w7 ⟨rfl, hb⟩; refine ⟨_, rfl, ?_⟩; have n0_ := Aside0.mk (blk_below (g := gb1) (o := .cells #[.slice A0_0 l0_0.length c0_0] 31 (0, 0)) (by (with_reducible repeat (first | refine blk_drewN ?_ _ | refine blk_drew ?_ | refine blk_alloc ?_ _)); exact BK1.out) hb); have n1_ := Aside0.mk (below_step (by repeat (first | (with_reducible first | exact HB.out | apply below_alloc | apply pw_below_drewN | apply below_drew1 | refine below_set ?_ GE1.out) | exact HB.out)) hb); clear BK1; clear HB; have BK1 := n0_; have HB := n1_; clear n0_ n1_; (try clear hb); (try clear hb2); (try clear hk); (try clear hi)) | ((with_reducible refine gate_dst (N := 13) rfl ?_); refine Kd.R_lit (Kd.int .i64) _ 3 ?hg (N := 13) ?hd (xs := ([] : List Int)) (inner := []) (ok := fun _ => True) (okp := fun _ => True) ?hr ?hp (fun _ hk => hk) trivial (Below.refl _ _) (Nat.le_refl _) (by simp) ?_; (case hd => rfl); (case hg => rfl); (case hr => first | (go_simp; done) | (go_simp; rfl)); (case hp => exact (Reps.none _ _)); intro v4 w8 ho9 hb hg_ hnew_; clear hg_ hnew_; (first | rw [← Ny3.out] at ho9 | (simp only [Int.reduceToNat] at ho9; rw [← Ny3.out] at ho9)); have n0_ := Aside0.mk (Kd.R_lower ho9 (below_size (by repeat (first | (with_reducible first | exact HB.out | apply below_alloc | apply pw_below_drewN | apply below_drew1 | refine below_set ?_ GE1.out) | exact HB.out)))); have n1_ := Aside0.mk (blk_below (g := gb1) (o := .cells #[.slice A0_0 l0_0.length c0_0] 31 (0, 0)) (by (with_reducible repeat (first | refine blk_drewN ?_ _ | refine blk_drew ?_ | refine blk_alloc ?_ _)); exact BK1.out) hb); have n2_ := Aside0.mk (below_step (by repeat (first | (with_reducible first | exact HB.out | apply below_alloc | apply pw_below_drewN | apply below_drew1 | refine below_set ?_ GE1.out) | exact HB.out)) hb); clear BK1; clear HB; have HO5 := n0_; have BK1 := n1_; have HB := n2_; clear n0_ n1_ n2_; clear hb ho9))
    go_loopg [5, 6] k (fun kq v5 v6 w' => ∃ (x5_1 : List Int) (x6_1 : Int), v6 = .int .i64 x6_1 ∧ Aside0 (spec_LeastCatches.l0 kq l1 x5_1 x6_1 l0_0 = some r) ∧ Aside0 (kq ≤ k) ∧ Aside0 (Kd.R (Kd.int .i64) 3 w' w.heap.size (fun _ => True) v5 x5_1) ∧ Aside0 (w'.heap[gb1]? = some (.cells #[(.slice A0_0 l0_0.length c0_0)] 31 (0, 0))) ∧ Aside0 (Below w.heap.size w w'))
    case atStart => exact ⟨(y3), (0), (by first | rfl | (simp; done) | (simp [*]; done)), H', ⟨Nat.le_refl _⟩, ⟨by (with_reducible repeat (first | apply Kd.R_alloc | apply Kd.R_drewN | apply Kd.R_drew)); exact HO5.out⟩, ⟨by (with_reducible repeat (first | refine blk_drewN ?_ _ | refine blk_drew ?_ | refine blk_alloc ?_ _)); exact BK1.out⟩, ⟨by repeat (first | (with_reducible first | exact HB.out | apply below_alloc | apply pw_below_drewN | apply below_drew1 | refine below_set ?_ GE1.out) | exact HB.out)⟩⟩
    case round =>
      clear H'
      try clear c1
      try clear p2
      try clear c4
      try clear hcz6_0
      try clear hfz6_0
      obtain ⟨x5_1, x6_1, rfl, HA, HK1, HO_5, BK1, HB⟩ := hrel
      cases gk with
      | zero => exact absurd HA.out (by simp [spec_LeastCatches.l0])
      | succ k1 =>
        have H := HA.out
        clear HA
        simp only [spec_LeastCatches.l0] at H
        by_cases c10 : x6_1 < (l0_0.length : Int)
        · rw [if_pos c10] at H
          have c10b0 : decide (x6_1 < (l0_0.length : Int)) = true := decide_eq_true c10
          clear c10
          replace H := Option.bind_eq_some_iff.mp H
          obtain ⟨t6, A110, H⟩ := H
          replace H : (spec_LeastCatches.l1 k1 l1 x5_1 x6_1 t6 0 l0_0) = some r := H
          have A11 := Aside0.mk A110
          clear A110
          have H' := Aside0.mk H
          clear H
          have hcz12_0 : wr.cell? ⟨gb1, 0, none⟩ = some (.slice A0_0 l0_0.length c0_0) := (blk_cell BK1.out 0).trans rfl
          have hfz12_0 := blk_frozen BK1.out 0
          go_wp2_with (first | ((with_reducible refine gate_callee (f := 113) rfl ?_); refine goesL_ (some 23) rfl rfl Try.func113 (by kernel_rfl) rfl #[.slice A1 l1.length c1, .int .i64 x6_1] rfl (by (try simp only [List.map_toArray, List.map_cons, List.map_nil]); first | done | rfl | (simp only [List.length_drop, List.length_take]; rfl)) ?_; (with_reducible refine (spec_hasInt.calls k1 _ _ l1 x6_1 t6 _ ?side1 ?side2 A11.out).mono ?_); (case side1 => repeat (first | exact (Kd.C_below HR1.out HB.out) | (with_reducible refine Kd.C_alloc ?_ _) | (with_reducible refine Kd.C_drewN ?_ _) | (with_reducible refine Kd.C_drew ?_))); (case side2 => exact HC1.out); rintro e w' ⟨rfl, ⟨nd, rfl⟩⟩; refine ⟨_, rfl, ?_⟩))
          go_loopg [7, 8] k1 (fun kq v7 v8 w' => ∃ (x7_2 : Bool) (x8_2 : Int), v7 = .bool x7_2 ∧ v8 = .int .i64 x8_2 ∧ Aside0 (spec_LeastCatches.l1 kq l1 x5_1 x6_1 x7_2 x8_2 l0_0 = some r) ∧ Aside0 (kq ≤ k1) ∧ Aside0 (Kd.R (Kd.int .i64) 3 w' w.heap.size (fun _ => True) u5 x5_1) ∧ Aside0 (w'.heap[gb1]? = some (.cells #[(.slice A0_0 l0_0.length c0_0)] 31 (0, 0))) ∧ Aside0 (Below w.heap.size w w'))
          case atStart => exact ⟨(t6), (0), (by first | rfl | (simp; done) | (simp [*]; done)), (by first | rfl | (simp; done) | (simp [*]; done)), H', ⟨Nat.le_refl _⟩, ⟨by (with_reducible repeat (first | apply Kd.R_alloc | apply Kd.R_drewN | apply Kd.R_drew)); exact HO_5.out⟩, ⟨by (with_reducible repeat (first | refine blk_drewN ?_ _ | refine blk_drew ?_ | refine blk_alloc ?_ _)); exact BK1.out⟩, ⟨by repeat (first | (with_reducible first | exact HB.out | apply below_alloc | apply pw_below_drewN | apply below_drew1 | refine below_set ?_ GE1.out) | exact HB.out)⟩⟩
          case round =>
            clear H'
            try clear c1
            try clear p2
            try clear c4
            try clear c10
            try clear c10b0
            try clear c11
            try clear hcz12_0
            try clear hcz6_0
            try clear hfz12_0
            try clear hfz6_0
            try clear p2
            obtain ⟨x7_2, x8_2, rfl, rfl, HA, HK2, HO_5, BK1, HB⟩ := hrel
            cases gk with
            | zero => exact absurd HA.out (by simp [spec_LeastCatches.l1])
            | succ k2 =>
              have H := HA.out
              clear HA
              simp only [spec_LeastCatches.l1] at H
              by_cases c13 : x8_2 < (l1.length : Int)
              · rw [if_pos c13] at H
                have c13b0 : decide (x8_2 < (l1.length : Int)) = true := decide_eq_true c13
                clear c13
                by_cases c14 : x7_2 = true
                · subst c14
                  have H1 : (if 0 ≤ x8_2 then (if (rd l1 x8_2) = x6_1 then (spec_LeastCatches.l1 k2 l1 x5_1 x6_1 true (wrap64 (x8_2 + 1)) l0_0) else ((spec_isA.f k2 l0_0 x6_1 (rd l1 x8_2)).bind fun t9 => (spec_LeastCatches.l1 k2 l1 x5_1 x6_1 (!t9) (wrap64 (x8_2 + 1)) l0_0))) else (none)) = some r := by rw [if_pos rfl] at H; exact H
                  clear H
                  have H := H1
                  clear H1
                  by_cases c15 : 0 ≤ x8_2
                  · rw [if_pos c15] at H
                    have c15b0 : decide (0 ≤ x8_2) = true := decide_eq_true c15
                    clear c15
                    by_cases c16 : (rd l1 x8_2) = x6_1
                    · rw [if_pos c16] at H
                      have c16b0 : ((rd l1 x8_2) == x6_1) = true := beq_iff_eq.mpr c16
                      have c16b1 : ((rd l1 x8_2) != x6_1) = false := bne_eq_false_iff_eq.mpr c16
                      clear c16
                      have H' := Aside0.mk H
                      clear H
                      try go_wp2
                      have n0_ := Aside0.mk (Kd.R_drew HO_5.out)
                      have n1_ := Aside0.mk (blk_drew BK1.out)
                      have n2_ := Aside0.mk (below_drew1 HB.out)
                      clear HO_5
                      clear BK1
                      clear HB
                      have HO_5 := n0_
                      have BK1 := n1_
                      have HB := n2_
                      clear n0_ n1_ n2_
                      have p7 : 0 ≤ (x8_2 : Int) := of_decide_eq_true (by first | (with_reducible assumption) | assumption)
                      have q7 : x8_2 < (l1.length : Int) := of_decide_eq_true (by first | (with_reducible assumption) | assumption)
                      obtain ⟨ad7, e7, hx7_0⟩ := Kd.at_int HR1.out x8_2 p7 q7
                      have hw7_0 := hx7_0
                      cases e7
                      replace hx7_0 := (HB.out.cell (World.block_lt_of_cell? w _ hx7_0)).trans hx7_0
                      replace p7 := eq_true p7
                      replace q7 := eq_true q7
                      refine start_ (n := 20) (S := fun w' => w'.cell? (ad7.add (x8_2).toNat) = some (.int .i64 (rd l1 x8_2))) (ds := []) #[false, false, false, false, false, false, false, false, false, false, false, false, false, false, false, false, false, false, false, false] (by kernel_rfl) rfl rfl (((HB.out.cell (World.block_lt_of_cell? w _ hw7_0)).trans hw7_0)) (fun hHeld => ?_); refine with_tabW spec_LeastCatches.tab11 spec_LeastCatches.bits11 (fun HT_ HW_ => ?_)
                      generalize wr.drew = w17 at HO_5 BK1 HB hx7_0 hHeld ⊢
                      refine pure_ (i := 0) (N := some 30) (v := ?_) (a' := ?_) #[true, false, false, false, false, false, false, false, false, false, false, false, false, false, false, false, false, false, false, false] rfl rfl (any_of HT_.out (by kernel_rfl)) (fun _ _ _ h => h) (Or.inl ⟨by rfl, ?_⟩) ?_ ?_
                      rotate_left
                      · intro w'
                        go_simp
                        with_reducible rfl
                      rotate_left
                      · simp only [Act.put, List.setIfInBounds_toArray, List.set_cons_zero, List.set_cons_succ, i64_w, i32_w]
                        rfl
                      refine pure_ (i := 1) (N := some 31) (v := ?_) (a' := ?_) #[true, true, false, false, false, false, false, false, false, false, false, false, false, false, false, false, false, false, false, false] rfl rfl (any_of HT_.out (by kernel_rfl)) (fun _ _ _ h => h) (Or.inl ⟨by rfl, ?_⟩) ?_ ?_
                      rotate_left
                      · intro w'
                        go_simp
                        with_reducible rfl
                      rotate_left
                      · simp only [Act.put, List.setIfInBounds_toArray, List.set_cons_zero, List.set_cons_succ, i64_w, i32_w]
                        rfl
                      refine pure_ (i := 2) (N := some 32) (v := ?_) (a' := ?_) #[true, true, true, false, false, false, false, false, false, false, false, false, false, false, false, false, false, false, false, false] rfl rfl (any_of HT_.out (by kernel_rfl)) (fun _ _ _ h => h) (Or.inl ⟨by rfl, ?_⟩) ?_ ?_
                      rotate_left
                      · intro w'
                        go_simp
                        with_reducible rfl
                      rotate_left
                      · simp only [Act.put, List.setIfInBounds_toArray, List.set_cons_zero, List.set_cons_succ, i64_w, i32_w]
                        rfl
                      refine pure_ (i := 3) (N := some 33) (v := ?_) (a' := ?_) #[true, true, true, true, false, false, false, false, false, false, false, false, false, false, false, false, false, false, false, false] rfl rfl (any_of HT_.out (by kernel_rfl)) (fun _ _ _ h => h) (Or.inl ⟨by rfl, ?_⟩) ?_ ?_
                      rotate_left
                      · intro w'
                        go_simp
                        with_reducible rfl
                      rotate_left
                      · simp only [Act.put, List.setIfInBounds_toArray, List.set_cons_zero, List.set_cons_succ, i64_w, i32_w]
                        rfl
                      refine pure_ (i := 4) (N := some 34) (v := ?_) (a' := ?_) #[true, true, true, true, true, false, false, false, false, false, false, false, false, false, false, false, false, false, false, false] rfl rfl (any_of HT_.out (by kernel_rfl)) (fun _ _ _ h => h) (Or.inl ⟨by rfl, ?_⟩) ?_ ?_
                      rotate_left
                      · intro w'
                        go_simp
                        with_reducible rfl
                      rotate_left
                      · simp only [Act.put, List.setIfInBounds_toArray, List.set_cons_zero, List.set_cons_succ, i64_w, i32_w]
                        rfl
                      refine pure_ (i := 6) (N := some 36) (v := ?_) (a' := ?_) #[true, true, true, true, true, false, true, false, false, false, false, false, false, false, false, false, false, false, false, false] rfl rfl (any_of HT_.out (by kernel_rfl)) (fun _ _ _ h => h) (Or.inl ⟨by rfl, ?_⟩) ?_ ?_
                      rotate_left
                      · intro w'
                        go_simp
                        with_reducible rfl
                      rotate_left
                      · simp only [Act.put, List.setIfInBounds_toArray, List.set_cons_zero, List.set_cons_succ, i64_w, i32_w]
                        rfl
                      refine take_ (i := 5) (N := some 35) (v := ?_) (a' := ?_) #[true, true, true, true, true, true, true, false, false, false, false, false, false, false, false, false, false, false, false, false] rfl rfl (take_ofW HT_.out HW_.out (by kernel_rfl)) (fun _ _ _ h => h) (Or.inl ⟨by rfl, ?_⟩) hHeld ?_ ?_
                      rotate_left
                      · intro w' s0
                        go_simp
                        with_reducible rfl
                      rotate_left
                      · simp only [Act.put, List.setIfInBounds_toArray, List.set_cons_zero, List.set_cons_succ, i64_w, i32_w]
                        rfl
                      refine pure_ (i := 7) (N := some 37) (v := ?_) (a' := ?_) #[true, true, true, true, true, true, true, true, false, false, false, false, false, false, false, false, false, false, false, false] rfl rfl (any_of HT_.out (by kernel_rfl)) (fun _ _ _ h => h) (Or.inl ⟨by rfl, ?_⟩) ?_ ?_
                      rotate_left
                      · intro w'
                        go_simp
                        with_reducible rfl
                      rotate_left
                      · simp only [Act.put, List.setIfInBounds_toArray, List.set_cons_zero, List.set_cons_succ, i64_w, i32_w]
                        rfl
                      refine pure_ (i := 8) (N := some 38) (v := ?_) (a' := ?_) #[true, true, true, true, true, true, true, true, true, false, false, false, false, false, false, false, false, false, false, false] rfl rfl (any_of HT_.out (by kernel_rfl)) (fun _ _ _ h => h) (Or.inl ⟨by rfl, ?_⟩) ?_ ?_
                      rotate_left
                      · intro w'
                        go_simp
                        with_reducible rfl
                      rotate_left
                      · simp only [Act.put, List.setIfInBounds_toArray, List.set_cons_zero, List.set_cons_succ, i64_w, i32_w]
                        rfl
                      refine pure_ (i := 9) (N := some 39) (v := undef) (a' := ?_) #[true, true, true, true, true, true, true, true, true, true, false, false, false, false, false, false, false, false, false, false] rfl rfl (any_of HT_.out (by kernel_rfl)) (fun _ _ _ h => h) (Or.inr ⟨by rfl, rfl⟩) ?_ ?_
                      rotate_left
                      · simp only [Act.put, List.setIfInBounds_toArray, List.set_cons_zero, List.set_cons_succ, i64_w, i32_w]
                        rfl
                      refine pure_ (i := 10) (N := some 40) (v := undef) (a' := ?_) #[true, true, true, true, true, true, true, true, true, true, true, false, false, false, false, false, false, false, false, false] rfl rfl (any_of HT_.out (by kernel_rfl)) (fun _ _ _ h => h) (Or.inr ⟨by rfl, rfl⟩) ?_ ?_
                      rotate_left
                      · simp only [Act.put, List.setIfInBounds_toArray, List.set_cons_zero, List.set_cons_succ, i64_w, i32_w]
                        rfl
                      refine pure_ (i := 11) (N := some 41) (v := undef) (a' := ?_) #[true, true, true, true, true, true, true, true, true, true, true, true, false, false, false, false, false, false, false, false] rfl rfl (any_of HT_.out (by kernel_rfl)) (fun _ _ _ h => h) (Or.inr ⟨by rfl, rfl⟩) ?_ ?_
                      rotate_left
                      · simp only [Act.put, List.setIfInBounds_toArray, List.set_cons_zero, List.set_cons_succ, i64_w, i32_w]
                        rfl
                      refine pure_ (i := 12) (N := some 42) (v := undef) (a' := ?_) #[true, true, true, true, true, true, true, true, true, true, true, true, true, false, false, false, false, false, false, false] rfl rfl (any_of HT_.out (by kernel_rfl)) (fun _ _ _ h => h) (Or.inr ⟨by rfl, rfl⟩) ?_ ?_
                      rotate_left
                      · simp only [Act.put, List.setIfInBounds_toArray, List.set_cons_zero, List.set_cons_succ, i64_w, i32_w]
                        rfl
                      refine pure_ (i := 13) (N := some 43) (v := undef) (a' := ?_) #[true, true, true, true, true, true, true, true, true, true, true, true, true, true, false, false, false, false, false, false] rfl rfl (any_of HT_.out (by kernel_rfl)) (fun _ _ _ h => h) (Or.inr ⟨by rfl, rfl⟩) ?_ ?_
                      rotate_left
                      · simp only [Act.put, List.setIfInBounds_toArray, List.set_cons_zero, List.set_cons_succ, i64_w, i32_w]
                        rfl
                      refine pure_ (i := 14) (N := some 44) (v := undef) (a' := ?_) #[true, true, true, true, true, true, true, true, true, true, true, true, true, true, true, false, false, false, false, false] rfl rfl (any_of HT_.out (by kernel_rfl)) (fun _ _ _ h => h) (Or.inr ⟨by rfl, rfl⟩) ?_ ?_
                      rotate_left
                      · simp only [Act.put, List.setIfInBounds_toArray, List.set_cons_zero, List.set_cons_succ, i64_w, i32_w]
                        rfl
                      refine pure_ (i := 15) (N := some 45) (v := undef) (a' := ?_) #[true, true, true, true, true, true, true, true, true, true, true, true, true, true, true, true, false, false, false, false] rfl rfl (any_of HT_.out (by kernel_rfl)) (fun _ _ _ h => h) (Or.inr ⟨by rfl, rfl⟩) ?_ ?_
                      rotate_left
                      · simp only [Act.put, List.setIfInBounds_toArray, List.set_cons_zero, List.set_cons_succ, i64_w, i32_w]
                        rfl
                      refine pure_ (i := 16) (N := some 46) (v := undef) (a' := ?_) #[true, true, true, true, true, true, true, true, true, true, true, true, true, true, true, true, true, false, false, false] rfl rfl (any_of HT_.out (by kernel_rfl)) (fun _ _ _ h => h) (Or.inr ⟨by rfl, rfl⟩) ?_ ?_
                      rotate_left
                      · simp only [Act.put, List.setIfInBounds_toArray, List.set_cons_zero, List.set_cons_succ, i64_w, i32_w]
                        rfl
                      refine pure_ (i := 17) (N := some 47) (v := ?_) (a' := ?_) #[true, true, true, true, true, true, true, true, true, true, true, true, true, true, true, true, true, true, false, false] rfl rfl (any_of HT_.out (by kernel_rfl)) (fun _ _ _ h => h) (Or.inl ⟨by rfl, ?_⟩) ?_ ?_
                      rotate_left
                      · intro w'
                        go_simp
                        with_reducible rfl
                      rotate_left
                      · simp only [Act.put, List.setIfInBounds_toArray, List.set_cons_zero, List.set_cons_succ, i64_w, i32_w]
                        rfl
                      refine pure_ (i := 18) (N := some 48) (v := ?_) (a' := ?_) #[true, true, true, true, true, true, true, true, true, true, true, true, true, true, true, true, true, true, true, false] rfl rfl (any_of HT_.out (by kernel_rfl)) (fun _ _ _ h => h) (Or.inl ⟨by rfl, ?_⟩) ?_ ?_
                      rotate_left
                      · intro w'
                        go_simp
                        with_reducible rfl
                      rotate_left
                      · simp only [Act.put, List.setIfInBounds_toArray, List.set_cons_zero, List.set_cons_succ, i64_w, i32_w]
                        rfl
                      refine pure_ (i := 19) (N := some 7) (v := ?_) (a' := ?_) #[true, true, true, true, true, true, true, true, true, true, true, true, true, true, true, true, true, true, true, true] rfl rfl (any_of HT_.out (by kernel_rfl)) (fun _ _ _ h => h) (Or.inl ⟨by rfl, ?_⟩) ?_ ?_
                      rotate_left
                      · intro w'
                        go_simp
                        with_reducible rfl
                      rotate_left
                      · simp only [Act.put, List.setIfInBounds_toArray, List.set_cons_zero, List.set_cons_succ, i64_w, i32_w]
                        rfl
                      refine done_ (done_of HT_.out (by kernel_rfl)) ?_
                      try go_wp2
                      go_roundg k2
                      case measure => have := HK1.out; have := HK2.out; omega
                      case rel => exact ⟨(true), (wrap64 (x8_2 + 1)), (by first | rfl | (simp; done) | (simp [*]; done)), (by first | rfl | (simp; done) | (simp [*]; done)), H', ⟨by have := HK1.out; have := HK2.out; omega⟩, ⟨by (with_reducible repeat (first | apply Kd.R_alloc | apply Kd.R_drewN | apply Kd.R_drew)); exact HO_5.out⟩, ⟨by (with_reducible repeat (first | refine blk_drewN ?_ _ | refine blk_drew ?_ | refine blk_alloc ?_ _)); exact BK1.out⟩, ⟨by repeat (first | (with_reducible first | exact HB.out | apply below_alloc | apply pw_below_drewN | apply below_drew1 | refine below_set ?_ GE1.out) | exact HB.out)⟩⟩
                    · rw [if_neg c16] at H
                      have c16b0 : ((rd l1 x8_2) == x6_1) = false := beq_eq_false_iff_ne.mpr c16
                      have c16b1 : ((rd l1 x8_2) != x6_1) = true := bne_iff_ne.mpr c16
                      replace H := Option.bind_eq_some_iff.mp H
                      obtain ⟨t9, A180, H⟩ := H
                      replace H : (spec_LeastCatches.l1 k2 l1 x5_1 x6_1 (!t9) (wrap64 (x8_2 + 1)) l0_0) = some r := H
                      have A18 := Aside0.mk A180
                      clear A180
                      have H' := Aside0.mk H
                      clear H
                      try go_wp2
                      have n0_ := Aside0.mk (Kd.R_drew HO_5.out)
                      have n1_ := Aside0.mk (blk_drew BK1.out)
                      have n2_ := Aside0.mk (below_drew1 HB.out)
                      clear HO_5
                      clear BK1
                      clear HB
                      have HO_5 := n0_
                      have BK1 := n1_
                      have HB := n2_
                      clear n0_ n1_ n2_
                      have p7 : 0 ≤ (x8_2 : Int) := of_decide_eq_true (by first | (with_reducible assumption) | assumption)
                      have q7 : x8_2 < (l1.length : Int) := of_decide_eq_true (by first | (with_reducible assumption) | assumption)
                      obtain ⟨ad7, e7, hx7_0⟩ := Kd.at_int HR1.out x8_2 p7 q7
                      have hw7_0 := hx7_0
                      cases e7
                      replace hx7_0 := (HB.out.cell (World.block_lt_of_cell? w _ hx7_0)).trans hx7_0
                      replace p7 := eq_true p7
                      replace q7 := eq_true q7
                      have p8 : 0 ≤ (x8_2 : Int) := of_decide_eq_true (by first | (with_reducible assumption) | assumption)
                      have q8 : x8_2 < (l1.length : Int) := of_decide_eq_true (by first | (with_reducible assumption) | assumption)
                      obtain ⟨ad8, e8, hx8_0⟩ := Kd.at_int HR1.out x8_2 p8 q8
                      have hw8_0 := hx8_0
                      obtain rfl : ad7 = ad8 := (by injection e8)
                      replace hx8_0 := (HB.out.cell (World.block_lt_of_cell? w _ hx8_0)).trans hx8_0
                      replace p8 := eq_true p8
                      replace q8 := eq_true q8
                      refine start_ (n := 20) (S := fun w' => w'.cell? ⟨gb1, 0, none⟩ = some (.slice A0_0 l0_0.length c0_0) ∧ w'.cell? (ad7.add (x8_2).toNat) = some (.int .i64 (rd l1 x8_2)) ∧ w'.cell? (ad7.add (x8_2).toNat) = some (.int .i64 (rd l1 x8_2))) (ds := []) #[false, false, false, false, false, false, false, false, false, false, false, false, false, false, false, false, false, false, false, false] (by kernel_rfl) rfl rfl ⟨(blk_cell BK1.out 0).trans rfl, ((HB.out.cell (World.block_lt_of_cell? w _ hw7_0)).trans hw7_0), ((HB.out.cell (World.block_lt_of_cell? w _ hw8_0)).trans hw8_0)⟩ (fun hHeld => ?_); refine with_tabW spec_LeastCatches.tab11 spec_LeastCatches.bits11 (fun HT_ HW_ => ?_)
                      generalize wr.drew = w19 at HO_5 BK1 HB hx7_0 hx8_0 hHeld ⊢
                      refine pure_ (i := 0) (N := some 30) (v := ?_) (a' := ?_) #[true, false, false, false, false, false, false, false, false, false, false, false, false, false, false, false, false, false, false, false] rfl rfl (any_of HT_.out (by kernel_rfl)) (fun _ _ _ h => h) (Or.inl ⟨by rfl, ?_⟩) ?_ ?_
                      rotate_left
                      · intro w'
                        go_simp
                        with_reducible rfl
                      rotate_left
                      · simp only [Act.put, List.setIfInBounds_toArray, List.set_cons_zero, List.set_cons_succ, i64_w, i32_w]
                        rfl
                      refine pure_ (i := 1) (N := some 31) (v := ?_) (a' := ?_) #[true, true, false, false, false, false, false, false, false, false, false, false, false, false, false, false, false, false, false, false] rfl rfl (any_of HT_.out (by kernel_rfl)) (fun _ _ _ h => h) (Or.inl ⟨by rfl, ?_⟩) ?_ ?_
                      rotate_left
                      · intro w'
                        go_simp
                        with_reducible rfl
                      rotate_left
                      · simp only [Act.put, List.setIfInBounds_toArray, List.set_cons_zero, List.set_cons_succ, i64_w, i32_w]
                        rfl
                      refine pure_ (i := 2) (N := some 32) (v := ?_) (a' := ?_) #[true, true, true, false, false, false, false, false, false, false, false, false, false, false, false, false, false, false, false, false] rfl rfl (any_of HT_.out (by kernel_rfl)) (fun _ _ _ h => h) (Or.inl ⟨by rfl, ?_⟩) ?_ ?_
                      rotate_left
                      · intro w'
                        go_simp
                        with_reducible rfl
                      rotate_left
                      · simp only [Act.put, List.setIfInBounds_toArray, List.set_cons_zero, List.set_cons_succ, i64_w, i32_w]
                        rfl
                      refine pure_ (i := 3) (N := some 33) (v := ?_) (a' := ?_) #[true, true, true, true, false, false, false, false, false, false, false, false, false, false, false, false, false, false, false, false] rfl rfl (any_of HT_.out (by kernel_rfl)) (fun _ _ _ h => h) (Or.inl ⟨by rfl, ?_⟩) ?_ ?_
                      rotate_left
                      · intro w'
                        go_simp
                        with_reducible rfl
                      rotate_left
                      · simp only [Act.put, List.setIfInBounds_toArray, List.set_cons_zero, List.set_cons_succ, i64_w, i32_w]
                        rfl
                      refine pure_ (i := 4) (N := some 34) (v := ?_) (a' := ?_) #[true, true, true, true, true, false, false, false, false, false, false, false, false, false, false, false, false, false, false, false] rfl rfl (any_of HT_.out (by kernel_rfl)) (fun _ _ _ h => h) (Or.inl ⟨by rfl, ?_⟩) ?_ ?_
                      rotate_left
                      · intro w'
                        go_simp
                        with_reducible rfl
                      rotate_left
                      · simp only [Act.put, List.setIfInBounds_toArray, List.set_cons_zero, List.set_cons_succ, i64_w, i32_w]
                        rfl
                      refine pure_ (i := 6) (N := some 36) (v := ?_) (a' := ?_) #[true, true, true, true, true, false, true, false, false, false, false, false, false, false, false, false, false, false, false, false] rfl rfl (any_of HT_.out (by kernel_rfl)) (fun _ _ _ h => h) (Or.inl ⟨by rfl, ?_⟩) ?_ ?_
                      rotate_left
                      · intro w'
                        go_simp
                        with_reducible rfl
                      rotate_left
                      · simp only [Act.put, List.setIfInBounds_toArray, List.set_cons_zero, List.set_cons_succ, i64_w, i32_w]
                        rfl
                      refine take_ (i := 5) (N := some 35) (v := ?_) (a' := ?_) #[true, true, true, true, true, true, true, false, false, false, false, false, false, false, false, false, false, false, false, false] rfl rfl (take_ofW HT_.out HW_.out (by kernel_rfl)) (fun _ _ _ h => h) (Or.inl ⟨by rfl, ?_⟩) hHeld ?_ ?_
                      rotate_left
                      · rintro w' ⟨s0, s1, s2⟩
                        go_simp
                        with_reducible rfl
                      rotate_left
                      · simp only [Act.put, List.setIfInBounds_toArray, List.set_cons_zero, List.set_cons_succ, i64_w, i32_w]
                        rfl
                      refine pure_ (i := 7) (N := some 37) (v := ?_) (a' := ?_) #[true, true, true, true, true, true, true, true, false, false, false, false, false, false, false, false, false, false, false, false] rfl rfl (any_of HT_.out (by kernel_rfl)) (fun _ _ _ h => h) (Or.inl ⟨by rfl, ?_⟩) ?_ ?_
                      rotate_left
                      · intro w'
                        go_simp
                        with_reducible rfl
                      rotate_left
                      · simp only [Act.put, List.setIfInBounds_toArray, List.set_cons_zero, List.set_cons_succ, i64_w, i32_w]
                        rfl
                      refine pure_ (i := 8) (N := some 38) (v := ?_) (a' := ?_) #[true, true, true, true, true, true, true, true, true, false, false, false, false, false, false, false, false, false, false, false] rfl rfl (any_of HT_.out (by kernel_rfl)) (fun _ _ _ h => h) (Or.inl ⟨by rfl, ?_⟩) ?_ ?_
                      rotate_left
                      · intro w'
                        go_simp
                        with_reducible rfl
                      rotate_left
                      · simp only [Act.put, List.setIfInBounds_toArray, List.set_cons_zero, List.set_cons_succ, i64_w, i32_w]
                        rfl
                      refine pure_ (i := 10) (N := some 40) (v := ?_) (a' := ?_) #[true, true, true, true, true, true, true, true, true, false, true, false, false, false, false, false, false, false, false, false] rfl rfl (any_of HT_.out (by kernel_rfl)) (fun _ _ _ h => h) (Or.inl ⟨by rfl, ?_⟩) ?_ ?_
                      rotate_left
                      · intro w'
                        go_simp
                        with_reducible rfl
                      rotate_left
                      · simp only [Act.put, List.setIfInBounds_toArray, List.set_cons_zero, List.set_cons_succ, i64_w, i32_w]
                        rfl
                      refine pure_ (i := 11) (N := some 41) (v := ?_) (a' := ?_) #[true, true, true, true, true, true, true, true, true, false, true, true, false, false, false, false, false, false, false, false] rfl rfl (any_of HT_.out (by kernel_rfl)) (fun _ _ _ h => h) (Or.inl ⟨by rfl, ?_⟩) ?_ ?_
                      rotate_left
                      · intro w'
                        go_simp
                        with_reducible rfl
                      rotate_left
                      · simp only [Act.put, List.setIfInBounds_toArray, List.set_cons_zero, List.set_cons_succ, i64_w, i32_w]
                        rfl
                      refine pure_ (i := 12) (N := some 42) (v := ?_) (a' := ?_) #[true, true, true, true, true, true, true, true, true, false, true, true, true, false, false, false, false, false, false, false] rfl rfl (any_of HT_.out (by kernel_rfl)) (fun _ _ _ h => h) (Or.inl ⟨by rfl, ?_⟩) ?_ ?_
                      rotate_left
                      · intro w'
                        go_simp
                        with_reducible rfl
                      rotate_left
                      · simp only [Act.put, List.setIfInBounds_toArray, List.set_cons_zero, List.set_cons_succ, i64_w, i32_w]
                        rfl
                      refine pure_ (i := 13) (N := some 43) (v := ?_) (a' := ?_) #[true, true, true, true, true, true, true, true, true, false, true, true, true, true, false, false, false, false, false, false] rfl rfl (any_of HT_.out (by kernel_rfl)) (fun _ _ _ h => h) (Or.inl ⟨by rfl, ?_⟩) ?_ ?_
                      rotate_left
                      · intro w'
                        go_simp
                        with_reducible rfl
                      rotate_left
                      · simp only [Act.put, List.setIfInBounds_toArray, List.set_cons_zero, List.set_cons_succ, i64_w, i32_w]
                        rfl
                      refine take_ (i := 9) (N := some 39) (v := ?_) (a' := ?_) #[true, true, true, true, true, true, true, true, true, true, true, true, true, true, false, false, false, false, false, false] rfl rfl (take_ofW HT_.out HW_.out (by kernel_rfl)) (fun _ _ _ h => h) (Or.inl ⟨by rfl, ?_⟩) hHeld ?_ ?_
                      rotate_left
                      · rintro w' ⟨s0, s1, s2⟩
                        go_simp
                        with_reducible rfl
                      rotate_left
                      · simp only [Act.put, List.setIfInBounds_toArray, List.set_cons_zero, List.set_cons_succ, i64_w, i32_w]
                        rfl
                      refine take_ (i := 14) (N := some 44) (v := ?_) (a' := ?_) #[true, true, true, true, true, true, true, true, true, true, true, true, true, true, true, false, false, false, false, false] rfl rfl (take_ofW HT_.out HW_.out (by kernel_rfl)) (fun _ _ _ h => h) (Or.inl ⟨by rfl, ?_⟩) hHeld ?_ ?_
                      rotate_left
                      · rintro w' ⟨s0, s1, s2⟩
                        go_simp
                        with_reducible rfl
                      rotate_left
                      · simp only [Act.put, List.setIfInBounds_toArray, List.set_cons_zero, List.set_cons_succ, i64_w, i32_w]
                        rfl
                      refine one_ (i := 15) (N := some 45) #[true, true, true, true, true, true, true, true, true, true, true, true, true, true, true, true, false, false, false, false] rfl rfl (one_of HT_.out (by kernel_rfl)) (by decide) (fun K hK => ?_)
                      refine goes_ Try.func77 (by kernel_rfl) rfl #[.agg #[.slice A0_0 l0_0.length c0_0], .int .i64 x6_1, .int .i64 (rd l1 x8_2)] (by rfl) rfl rfl (by (try simp only [List.map_toArray, List.map_cons, List.map_nil]); first | done | rfl | (simp only [List.length_drop, List.length_take]; rfl)) ?_
                      with_reducible refine (spec_isA.calls k2 _ _ l0_0 x6_1 (rd l1 x8_2) t9 _ ?side1 ?side2 A18.out).mono ?_
                      (case side1 => repeat (first | exact (Kd.C_below HR0_0.out HB.out) | (with_reducible refine Kd.C_alloc ?_ _) | (with_reducible refine Kd.C_drewN ?_ _) | (with_reducible refine Kd.C_drew ?_)))
                      (case side2 => exact HC0_0.out)
                      rintro e w20 ⟨rfl, hb⟩
                      refine ⟨_, rfl, ?_⟩
                      have n0_ := Aside0.mk (Kd.R_below (by (with_reducible repeat (first | apply Kd.R_alloc | apply Kd.R_drewN | apply Kd.R_drew)); exact HO_5.out) hb)
                      have n1_ := Aside0.mk (blk_below (g := gb1) (o := .cells #[.slice A0_0 l0_0.length c0_0] 31 (0, 0)) (by (with_reducible repeat (first | refine blk_drewN ?_ _ | refine blk_drew ?_ | refine blk_alloc ?_ _)); exact BK1.out) hb)
                      have n2_ := Aside0.mk (below_step (by repeat (first | (with_reducible first | exact HB.out | apply below_alloc | apply pw_below_drewN | apply below_drew1 | refine below_set ?_ GE1.out) | exact HB.out)) hb)
                      clear HO_5
                      clear BK1
                      clear HB
                      have HO_5 := n0_
                      have BK1 := n1_
                      have HB := n2_
                      clear n0_ n1_ n2_
                      (try clear hb)
                      (try clear hb2)
                      (try clear hk)
                      (try clear hi)
                      refine hK.out _ _ ⟨(blk_cell BK1.out 0).trans rfl, ((HB.out.cell (World.block_lt_of_cell? w _ hw7_0)).trans hw7_0), ((HB.out.cell (World.block_lt_of_cell? w _ hw8_0)).trans hw8_0)⟩ (fun hHeld => ?_)
                      clear hK K
                      refine norm_ (a' := ?_) ?_ ?_
                      rotate_left
                      · show Act.put _ (some 45) _ = _
                        simp only [Act.put, List.setIfInBounds_toArray, List.set_cons_zero, List.set_cons_succ, i64_w, i32_w]
                        rfl
                      refine pure_ (i := 16) (N := some 46) (v := ?_) (a' := ?_) #[true, true, true, true, true, true, true, true, true, true, true, true, true, true, true, true, true, false, false, false] rfl rfl (any_of HT_.out (by kernel_rfl)) (fun _ _ _ h => h) (Or.inl ⟨by rfl, ?_⟩) ?_ ?_
                      rotate_left
                      · intro w'
                        go_simp
                        with_reducible rfl
                      rotate_left
                      · simp only [Act.put, List.setIfInBounds_toArray, List.set_cons_zero, List.set_cons_succ, i64_w, i32_w]
                        rfl
                      refine pure_ (i := 17) (N := some 47) (v := ?_) (a' := ?_) #[true, true, true, true, true, true, true, true, true, true, true, true, true, true, true, true, true, true, false, false] rfl rfl (any_of HT_.out (by kernel_rfl)) (fun _ _ _ h => h) (Or.inl ⟨by rfl, ?_⟩) ?_ ?_
                      rotate_left
                      · intro w'
                        go_simp
                        with_reducible rfl
                      rotate_left
                      · simp only [Act.put, List.setIfInBounds_toArray, List.set_cons_zero, List.set_cons_succ, i64_w, i32_w]
                        rfl
                      refine pure_ (i := 18) (N := some 48) (v := ?_) (a' := ?_) #[true, true, true, true, true, true, true, true, true, true, true, true, true, true, true, true, true, true, true, false] rfl rfl (any_of HT_.out (by kernel_rfl)) (fun _ _ _ h => h) (Or.inl ⟨by rfl, ?_⟩) ?_ ?_
                      rotate_left
                      · intro w'
                        go_simp
                        with_reducible rfl
                      rotate_left
                      · simp only [Act.put, List.setIfInBounds_toArray, List.set_cons_zero, List.set_cons_succ, i64_w, i32_w]
                        rfl
                      refine pure_ (i := 19) (N := some 7) (v := ?_) (a' := ?_) #[true, true, true, true, true, true, true, true, true, true, true, true, true, true, true, true, true, true, true, true] rfl rfl (any_of HT_.out (by kernel_rfl)) (fun _ _ _ h => h) (Or.inl ⟨by rfl, ?_⟩) ?_ ?_
                      rotate_left
                      · intro w'
                        go_simp
                        with_reducible rfl
                      rotate_left
                      · simp only [Act.put, List.setIfInBounds_toArray, List.set_cons_zero, List.set_cons_succ, i64_w, i32_w]
                        rfl
                      refine done_ (done_of HT_.out (by kernel_rfl)) ?_
                      try go_wp2
                      go_roundg k2
                      case measure => have := HK1.out; have := HK2.out; omega
                      case rel => exact ⟨(!t9), (wrap64 (x8_2 + 1)), (by first | rfl | (simp; done) | (simp [*]; done)), (by first | rfl | (simp; done) | (simp [*]; done)), H', ⟨by have := HK1.out; have := HK2.out; omega⟩, ⟨by (with_reducible repeat (first | apply Kd.R_alloc | apply Kd.R_drewN | apply Kd.R_drew)); exact HO_5.out⟩, ⟨by (with_reducible repeat (first | refine blk_drewN ?_ _ | refine blk_drew ?_ | refine blk_alloc ?_ _)); exact BK1.out⟩, ⟨by repeat (first | (with_reducible first | exact HB.out | apply below_alloc | apply pw_below_drewN | apply below_drew1 | refine below_set ?_ GE1.out) | exact HB.out)⟩⟩
                  · rw [if_neg c15] at H
                    exact absurd H (by simp)
                · replace c14 := Bool.eq_false_iff.mpr c14
                  subst c14
                  have H1 : (spec_LeastCatches.l1 k2 l1 x5_1 x6_1 false (wrap64 (x8_2 + 1)) l0_0) = some r := by rw [if_neg (show ¬ (false = true) by decide)] at H; exact H
                  clear H
                  have H := H1
                  clear H1
                  have H' := Aside0.mk H
                  clear H
                  try go_wp2
                  have n0_ := Aside0.mk (Kd.R_drew HO_5.out)
                  have n1_ := Aside0.mk (blk_drew BK1.out)
                  have n2_ := Aside0.mk (below_drew1 HB.out)
                  clear HO_5
                  clear BK1
                  clear HB
                  have HO_5 := n0_
                  have BK1 := n1_
                  have HB := n2_
                  clear n0_ n1_ n2_
                  refine start_ (n := 20) (S := fun w' => True) (ds := []) #[false, false, false, false, false, false, false, false, false, false, false, false, false, false, false, false, false, false, false, false] (by kernel_rfl) rfl rfl trivial (fun hHeld => ?_); refine with_tabW spec_LeastCatches.tab11 spec_LeastCatches.bits11 (fun HT_ HW_ => ?_)
                  generalize wr.drew = w21 at HO_5 BK1 HB hHeld ⊢
                  refine pure_ (i := 0) (N := some 30) (v := ?_) (a' := ?_) #[true, false, false, false, false, false, false, false, false, false, false, false, false, false, false, false, false, false, false, false] rfl rfl (any_of HT_.out (by kernel_rfl)) (fun _ _ _ h => h) (Or.inl ⟨by rfl, ?_⟩) ?_ ?_
                  rotate_left
                  · intro w'
                    go_simp
                    with_reducible rfl
                  rotate_left
                  · simp only [Act.put, List.setIfInBounds_toArray, List.set_cons_zero, List.set_cons_succ, i64_w, i32_w]
                    rfl
                  refine pure_ (i := 1) (N := some 31) (v := ?_) (a' := ?_) #[true, true, false, false, false, false, false, false, false, false, false, false, false, false, false, false, false, false, false, false] rfl rfl (any_of HT_.out (by kernel_rfl)) (fun _ _ _ h => h) (Or.inl ⟨by rfl, ?_⟩) ?_ ?_
                  rotate_left
                  · intro w'
                    go_simp
                    with_reducible rfl
                  rotate_left
                  · simp only [Act.put, List.setIfInBounds_toArray, List.set_cons_zero, List.set_cons_succ, i64_w, i32_w]
                    rfl
                  refine pure_ (i := 2) (N := some 32) (v := undef) (a' := ?_) #[true, true, true, false, false, false, false, false, false, false, false, false, false, false, false, false, false, false, false, false] rfl rfl (any_of HT_.out (by kernel_rfl)) (fun _ _ _ h => h) (Or.inr ⟨by rfl, rfl⟩) ?_ ?_
                  rotate_left
                  · simp only [Act.put, List.setIfInBounds_toArray, List.set_cons_zero, List.set_cons_succ, i64_w, i32_w]
                    rfl
                  refine pure_ (i := 3) (N := some 33) (v := undef) (a' := ?_) #[true, true, true, true, false, false, false, false, false, false, false, false, false, false, false, false, false, false, false, false] rfl rfl (any_of HT_.out (by kernel_rfl)) (fun _ _ _ h => h) (Or.inr ⟨by rfl, rfl⟩) ?_ ?_
                  rotate_left
                  · simp only [Act.put, List.setIfInBounds_toArray, List.set_cons_zero, List.set_cons_succ, i64_w, i32_w]
                    rfl
                  refine pure_ (i := 4) (N := some 34) (v := undef) (a' := ?_) #[true, true, true, true, true, false, false, false, false, false, false, false, false, false, false, false, false, false, false, false] rfl rfl (any_of HT_.out (by kernel_rfl)) (fun _ _ _ h => h) (Or.inr ⟨by rfl, rfl⟩) ?_ ?_
                  rotate_left
                  · simp only [Act.put, List.setIfInBounds_toArray, List.set_cons_zero, List.set_cons_succ, i64_w, i32_w]
                    rfl
                  refine pure_ (i := 5) (N := some 35) (v := undef) (a' := ?_) #[true, true, true, true, true, true, false, false, false, false, false, false, false, false, false, false, false, false, false, false] rfl rfl (any_of HT_.out (by kernel_rfl)) (fun _ _ _ h => h) (Or.inr ⟨by rfl, rfl⟩) ?_ ?_
                  rotate_left
                  · simp only [Act.put, List.setIfInBounds_toArray, List.set_cons_zero, List.set_cons_succ, i64_w, i32_w]
                    rfl
                  refine pure_ (i := 6) (N := some 36) (v := undef) (a' := ?_) #[true, true, true, true, true, true, true, false, false, false, false, false, false, false, false, false, false, false, false, false] rfl rfl (any_of HT_.out (by kernel_rfl)) (fun _ _ _ h => h) (Or.inr ⟨by rfl, rfl⟩) ?_ ?_
                  rotate_left
                  · simp only [Act.put, List.setIfInBounds_toArray, List.set_cons_zero, List.set_cons_succ, i64_w, i32_w]
                    rfl
                  refine pure_ (i := 7) (N := some 37) (v := undef) (a' := ?_) #[true, true, true, true, true, true, true, true, false, false, false, false, false, false, false, false, false, false, false, false] rfl rfl (any_of HT_.out (by kernel_rfl)) (fun _ _ _ h => h) (Or.inr ⟨by rfl, rfl⟩) ?_ ?_
                  rotate_left
                  · simp only [Act.put, List.setIfInBounds_toArray, List.set_cons_zero, List.set_cons_succ, i64_w, i32_w]
                    rfl
                  refine pure_ (i := 8) (N := some 38) (v := undef) (a' := ?_) #[true, true, true, true, true, true, true, true, true, false, false, false, false, false, false, false, false, false, false, false] rfl rfl (any_of HT_.out (by kernel_rfl)) (fun _ _ _ h => h) (Or.inr ⟨by rfl, rfl⟩) ?_ ?_
                  rotate_left
                  · simp only [Act.put, List.setIfInBounds_toArray, List.set_cons_zero, List.set_cons_succ, i64_w, i32_w]
                    rfl
                  refine pure_ (i := 9) (N := some 39) (v := undef) (a' := ?_) #[true, true, true, true, true, true, true, true, true, true, false, false, false, false, false, false, false, false, false, false] rfl rfl (any_of HT_.out (by kernel_rfl)) (fun _ _ _ h => h) (Or.inr ⟨by rfl, rfl⟩) ?_ ?_
                  rotate_left
                  · simp only [Act.put, List.setIfInBounds_toArray, List.set_cons_zero, List.set_cons_succ, i64_w, i32_w]
                    rfl
                  refine pure_ (i := 10) (N := some 40) (v := undef) (a' := ?_) #[true, true, true, true, true, true, true, true, true, true, true, false, false, false, false, false, false, false, false, false] rfl rfl (any_of HT_.out (by kernel_rfl)) (fun _ _ _ h => h) (Or.inr ⟨by rfl, rfl⟩) ?_ ?_
                  rotate_left
                  · simp only [Act.put, List.setIfInBounds_toArray, List.set_cons_zero, List.set_cons_succ, i64_w, i32_w]
                    rfl
                  refine pure_ (i := 11) (N := some 41) (v := undef) (a' := ?_) #[true, true, true, true, true, true, true, true, true, true, true, true, false, false, false, false, false, false, false, false] rfl rfl (any_of HT_.out (by kernel_rfl)) (fun _ _ _ h => h) (Or.inr ⟨by rfl, rfl⟩) ?_ ?_
                  rotate_left
                  · simp only [Act.put, List.setIfInBounds_toArray, List.set_cons_zero, List.set_cons_succ, i64_w, i32_w]
                    rfl
                  refine pure_ (i := 12) (N := some 42) (v := undef) (a' := ?_) #[true, true, true, true, true, true, true, true, true, true, true, true, true, false, false, false, false, false, false, false] rfl rfl (any_of HT_.out (by kernel_rfl)) (fun _ _ _ h => h) (Or.inr ⟨by rfl, rfl⟩) ?_ ?_
                  rotate_left
                  · simp only [Act.put, List.setIfInBounds_toArray, List.set_cons_zero, List.set_cons_succ, i64_w, i32_w]
                    rfl
                  refine pure_ (i := 13) (N := some 43) (v := undef) (a' := ?_) #[true, true, true, true, true, true, true, true, true, true, true, true, true, true, false, false, false, false, false, false] rfl rfl (any_of HT_.out (by kernel_rfl)) (fun _ _ _ h => h) (Or.inr ⟨by rfl, rfl⟩) ?_ ?_
                  rotate_left
                  · simp only [Act.put, List.setIfInBounds_toArray, List.set_cons_zero, List.set_cons_succ, i64_w, i32_w]
                    rfl
                  refine pure_ (i := 14) (N := some 44) (v := undef) (a' := ?_) #[true, true, true, true, true, true, true, true, true, true, true, true, true, true, true, false, false, false, false, false] rfl rfl (any_of HT_.out (by kernel_rfl)) (fun _ _ _ h => h) (Or.inr ⟨by rfl, rfl⟩) ?_ ?_
                  rotate_left
                  · simp only [Act.put, List.setIfInBounds_toArray, List.set_cons_zero, List.set_cons_succ, i64_w, i32_w]
                    rfl
                  refine pure_ (i := 15) (N := some 45) (v := undef) (a' := ?_) #[true, true, true, true, true, true, true, true, true, true, true, true, true, true, true, true, false, false, false, false] rfl rfl (any_of HT_.out (by kernel_rfl)) (fun _ _ _ h => h) (Or.inr ⟨by rfl, rfl⟩) ?_ ?_
                  rotate_left
                  · simp only [Act.put, List.setIfInBounds_toArray, List.set_cons_zero, List.set_cons_succ, i64_w, i32_w]
                    rfl
                  refine pure_ (i := 16) (N := some 46) (v := undef) (a' := ?_) #[true, true, true, true, true, true, true, true, true, true, true, true, true, true, true, true, true, false, false, false] rfl rfl (any_of HT_.out (by kernel_rfl)) (fun _ _ _ h => h) (Or.inr ⟨by rfl, rfl⟩) ?_ ?_
                  rotate_left
                  · simp only [Act.put, List.setIfInBounds_toArray, List.set_cons_zero, List.set_cons_succ, i64_w, i32_w]
                    rfl
                  refine pure_ (i := 17) (N := some 47) (v := undef) (a' := ?_) #[true, true, true, true, true, true, true, true, true, true, true, true, true, true, true, true, true, true, false, false] rfl rfl (any_of HT_.out (by kernel_rfl)) (fun _ _ _ h => h) (Or.inr ⟨by rfl, rfl⟩) ?_ ?_
                  rotate_left
                  · simp only [Act.put, List.setIfInBounds_toArray, List.set_cons_zero, List.set_cons_succ, i64_w, i32_w]
                    rfl
                  refine pure_ (i := 18) (N := some 48) (v := ?_) (a' := ?_) #[true, true, true, true, true, true, true, true, true, true, true, true, true, true, true, true, true, true, true, false] rfl rfl (any_of HT_.out (by kernel_rfl)) (fun _ _ _ h => h) (Or.inl ⟨by rfl, ?_⟩) ?_ ?_
                  rotate_left
                  · intro w'
                    go_simp
                    with_reducible rfl
                  rotate_left
                  · simp only [Act.put, List.setIfInBounds_toArray, List.set_cons_zero, List.set_cons_succ, i64_w, i32_w]
                    rfl
                  refine pure_ (i := 19) (N := some 7) (v := ?_) (a' := ?_) #[true, true, true, true, true, true, true, true, true, true, true, true, true, true, true, true, true, true, true, true] rfl rfl (any_of HT_.out (by kernel_rfl)) (fun _ _ _ h => h) (Or.inl ⟨by rfl, ?_⟩) ?_ ?_
                  rotate_left
                  · intro w'
                    go_simp
                    with_reducible rfl
                  rotate_left
                  · simp only [Act.put, List.setIfInBounds_toArray, List.set_cons_zero, List.set_cons_succ, i64_w, i32_w]
                    rfl
                  refine done_ (done_of HT_.out (by kernel_rfl)) ?_
                  try go_wp2
                  go_roundg k2
                  case measure => have := HK1.out; have := HK2.out; omega
                  case rel => exact ⟨(false), (wrap64 (x8_2 + 1)), (by first | rfl | (simp; done) | (simp [*]; done)), (by first | rfl | (simp; done) | (simp [*]; done)), H', ⟨by have := HK1.out; have := HK2.out; omega⟩, ⟨by (with_reducible repeat (first | apply Kd.R_alloc | apply Kd.R_drewN | apply Kd.R_drew)); exact HO_5.out⟩, ⟨by (with_reducible repeat (first | refine blk_drewN ?_ _ | refine blk_drew ?_ | refine blk_alloc ?_ _)); exact BK1.out⟩, ⟨by repeat (first | (with_reducible first | exact HB.out | apply below_alloc | apply pw_below_drewN | apply below_drew1 | refine below_set ?_ GE1.out) | exact HB.out)⟩⟩
              · rw [if_neg c13] at H
                have c13b0 : decide (x8_2 < (l1.length : Int)) = false := decide_eq_false c13
                clear c13
                by_cases c22 : x7_2 = true
                · subst c22
                  have H1 : (if x5_1.length < 17592186044416 then (spec_LeastCatches.l0 k2 l1 (x5_1 ++ [x6_1]) (wrap64 (x6_1 + 1)) l0_0) else (none)) = some r := by rw [if_pos rfl] at H; exact H
                  clear H
                  have H := H1
                  clear H1
                  by_cases c23 : x5_1.length < 17592186044416
                  · rw [if_pos c23] at H
                    have LMc23 := Aside0.mk c23
                    clear c23
                    obtain ⟨y10, hy10⟩ : ∃ y_ : List Int, y_ = (x5_1 ++ [x6_1]) := ⟨_, rfl⟩
                    replace H : (spec_LeastCatches.l0 k2 l1 y10 (wrap64 (x6_1 + 1)) l0_0) = some r := by first | (rw [hy10]; with_reducible exact H) | (have H2_ := (Option.bind_some _ _).symm.trans H; rw [hy10]; with_reducible exact H2_) | (have H2_ := (Option.bind_some _ _).symm.trans H; with_reducible exact H2_) | with_reducible exact H | (rw [hy10]; exact H) | exact H
                    have Ny10 := Aside0.mk hy10
                    clear hy10
                    have H' := Aside0.mk H
                    clear H
                    go_wp2_with (first | ((with_reducible refine gate_builtin (b := .append) (xs := #[.tmp 50, .tmp 52]) rfl ?_); at_builtin; refine Kd.R_append (Kd.int .i64) (w0 := w) w.heap.size rfl (.tmp 50) (.tmp 52) 56 3 (.int .i64 0) 8 rfl Try.underlying56 info3 rfl (by decide) (by omega) u5 x5_1 x6_1 [.int .i64 x6_1] (fun _ => True) (fun _ => False) rfl rfl ?aP (fun _ hk => hk.elim) ?aF ?aO ?aB ?aS ?aL ?_; (case aP => exact rfl); (case aB => exact (by repeat (first | (with_reducible first | exact HB.out | apply below_alloc | apply pw_below_drewN | apply below_drew1 | refine below_set ?_ GE1.out) | exact HB.out))); (case aF => exact (fun _ _ => trivial)); (case aO => exact (by (with_reducible repeat (first | apply Kd.R_alloc | apply Kd.R_drewN | apply Kd.R_drew)); exact HO_5.out)); (case aS => exact (below_size (by repeat (first | (with_reducible first | exact HB.out | apply below_alloc | apply pw_below_drewN | apply below_drew1 | refine below_set ?_ GE1.out) | exact HB.out)))); (case aL => have := LMc23.out; omega); intro v11 w24 ho hb hg hat; rw [← Ny10.out] at ho; have n0_ := Aside0.mk (blk_grown (g := gb1) (o := .cells #[.slice A0_0 l0_0.length c0_0] 31 (0, 0)) (by (with_reducible repeat (first | refine blk_drewN ?_ _ | refine blk_drew ?_ | refine blk_alloc ?_ _)); exact BK1.out) hg (Kd.R_ne HO_5.out BK1.out (by decide))); have n1_ := Aside0.mk (hb); have n2_ := Aside0.mk (ho); clear BK1; clear HB; clear HO_5; have BK1 := n0_; have HB := n1_; have HO12 := n2_; clear n0_ n1_ n2_; clear ho hb hg hat))
                    go_roundg k2
                    case measure => have := HK1.out; have := HK2.out; omega
                    case rel => exact ⟨(y10), (wrap64 (x6_1 + 1)), (by first | rfl | (simp; done) | (simp [*]; done)), H', ⟨by have := HK1.out; have := HK2.out; omega⟩, ⟨by (with_reducible repeat (first | apply Kd.R_alloc | apply Kd.R_drewN | apply Kd.R_drew)); exact HO12.out⟩, ⟨by (with_reducible repeat (first | refine blk_drewN ?_ _ | refine blk_drew ?_ | refine blk_alloc ?_ _)); exact BK1.out⟩, ⟨by repeat (first | (with_reducible first | exact HB.out | apply below_alloc | apply pw_below_drewN | apply below_drew1 | refine below_set ?_ GE1.out) | exact HB.out)⟩⟩
                  · rw [if_neg c23] at H
                    exact absurd H (by simp)
                · replace c22 := Bool.eq_false_iff.mpr c22
                  subst c22
                  have H1 : (spec_LeastCatches.l0 k2 l1 x5_1 (wrap64 (x6_1 + 1)) l0_0) = some r := by rw [if_neg (show ¬ (false = true) by decide)] at H; exact H
                  clear H
                  have H := H1
                  clear H1
                  have H' := Aside0.mk H
                  clear H
                  go_wp2
                  go_roundg k2
                  case measure => have := HK1.out; have := HK2.out; omega
                  case rel => exact ⟨(x5_1), (wrap64 (x6_1 + 1)), (by first | rfl | (simp; done) | (simp [*]; done)), H', ⟨by have := HK1.out; have := HK2.out; omega⟩, ⟨by (with_reducible repeat (first | apply Kd.R_alloc | apply Kd.R_drewN | apply Kd.R_drew)); exact HO_5.out⟩, ⟨by (with_reducible repeat (first | refine blk_drewN ?_ _ | refine blk_drew ?_ | refine blk_alloc ?_ _)); exact BK1.out⟩, ⟨by repeat (first | (with_reducible first | exact HB.out | apply below_alloc | apply pw_below_drewN | apply below_drew1 | refine below_set ?_ GE1.out) | exact HB.out)⟩⟩
        · rw [if_neg c10] at H
          have c10b0 : decide (x6_1 < (l0_0.length : Int)) = false := decide_eq_false c10
          clear c10
          obtain rfl := Option.some.inj H
          have hcz25_0 : wr.cell? ⟨gb1, 0, none⟩ = some (.slice A0_0 l0_0.length c0_0) := (blk_cell BK1.out 0).trans rfl
          have hfz25_0 := blk_frozen BK1.out 0
          go_wp2
          go_ret
          exact ⟨_, by first | rfl | (simp [errW_none, errW_some] <;> rfl) | (simp [*, errW_none, errW_some] <;> rfl), by (with_reducible repeat (first | apply Kd.R_alloc | apply Kd.R_drewN | apply Kd.R_drew)); exact HO_5.out, by repeat (first | (with_reducible first | exact HB.out | apply below_alloc | apply pw_below_drewN | apply below_drew1 | refine below_set ?_ GE1.out) | exact HB.out)⟩
  · replace c4 := Bool.eq_false_iff.mpr c4
    subst c4
    have H1 : (some ([] : List Int)) = some r := by rw [if_neg (show ¬ (false = true) by decide)] at H; exact H
    clear H
    have H := H1
    clear H1
    obtain rfl := Option.some.inj H
    go_enter Try.func49, Try.ntmps49
    go_wp2_with (first | ((with_reducible refine gate_dst (N := 2) rfl ?_); refine box_event ?hg (N := 2) ?hd (cs := #[.slice A0_0 l0_0.length c0_0]) (t := 31) ?hr ?_; (case hd => rfl); (case hg => rfl); (case hr => first | (go_simp; done) | (go_simp; rfl)); intro gb1 hg w26 hbox hb; have n0_ := Aside0.mk (below_step (by repeat (first | (with_reducible first | exact HB.out | apply below_alloc | apply pw_below_drewN | apply below_drew1) | exact HB.out)) hb); have n1_ := Aside0.mk (hbox); have n2_ := Aside0.mk ((by rw [hg]; exact (below_size (by repeat (first | (with_reducible first | exact HB.out | apply below_alloc | apply pw_below_drewN | apply below_drew1) | exact HB.out))) : w.heap.size ≤ gb1)); have n3_ := Aside0.mk ((by rw [hg]; exact (below_size (by repeat (first | (with_reducible first | exact HB.out | apply below_alloc | apply pw_below_drewN | apply below_drew1) | exact HB.out))) : w.heap.size ≤ gb1)); clear HB; have HB := n0_; have BK1 := n1_; have GW1 := n2_; have GE1 := n3_; clear n0_ n1_ n2_ n3_; clear hb hbox hg; have hcz27_0 : w26.cell? ⟨gb1, 0, none⟩ = some (.slice A0_0 l0_0.length c0_0) := (blk_cell BK1.out 0).trans rfl; have hfz27_0 := blk_frozen BK1.out 0) | ((with_reducible refine gate_callee (f := 105) rfl ?_); refine goesL_ (some 11) rfl rfl Try.func105 (by kernel_rfl) rfl #[.agg #[.slice A0_0 l0_0.length c0_0], .slice A1 l1.length c1] rfl (by (try simp only [List.map_toArray, List.map_cons, List.map_nil]); first | done | rfl | (simp only [List.length_drop, List.length_take]; rfl)) ?_; (with_reducible refine (spec_goodCatches.calls k _ _ l0_0 _ _ l1 false _ ?side1 ?side2 ?side3 ?side4 A3.out).mono ?_); (case side1 => repeat (first | exact (Kd.C_below HR0_0.out HB.out) | (with_reducible refine Kd.C_alloc ?_ _) | (with_reducible refine Kd.C_drewN ?_ _) | (with_reducible refine Kd.C_drew ?_))); (case side2 => exact HC0_0.out); (case side3 => repeat (first | exact (Kd.C_below HR1.out HB.out) | (with_reducible refine Kd.C_alloc ?_ _) | (with_reducible refine Kd.C_drewN ?_ _) | (with_reducible refine Kd.C_drew ?_))); (case side4 => exact HC1.out); rintro e w28 ⟨rfl, hb⟩; refine ⟨_, rfl, ?_⟩; have n0_ := Aside0.mk (blk_below (g := gb1) (o := .cells #[.slice A0_0 l0_0.length c0_0] 31 (0, 0)) (by (with_reducible repeat (first | refine blk_drewN ?_ _ | refine blk_drew ?_ | refine blk_alloc ?_ _)); exact BK1.out) hb); have n1_ := Aside0.mk (below_step (by repeat (first | (with_reducible first | exact HB.out | apply below_alloc | apply pw_below_drewN | apply below_drew1 | refine below_set ?_ GE1.out) | exact HB.out)) hb); clear BK1; clear HB; have BK1 := n0_; have HB := n1_; clear n0_ n1_; (try clear hb); (try clear hb2); (try clear hk); (try clear hi)))
    go_ret
    exact ⟨_, by first | rfl | (simp [errW_none, errW_some] <;> rfl) | (simp [*, errW_none, errW_some] <;> rfl), by first | exact Kd.R_nil _ _ _ _ _ | exact Kd.N_nil _ _ _ _ _ | exact Kd.V_nil _ _ _ _ _ | exact Kd.Q_nil _ _ _ _ _ | exact Kd.S_nil _ _ _ _ _, by repeat (first | (with_reducible first | exact HB.out | apply below_alloc | apply pw_below_drewN | apply below_drew1 | refine below_set ?_ GE1.out) | exact HB.out)⟩
theorem spec_LeastCatches_l1 {t : List Cls} (h : vT t = true) (l acc : List Int) (a : Nat) (ha : a < t.length) (hacc : acc.length < 17592186044416) (hl : l.length ≤ 9223372036854775807) (res : List Int) : ∀ d i (f : Bool), i + d = l.length →
    Ev (fun k => if (f && (l.drop i).all fun b => decide (b = (a : Int)) || !isA t (a : Int) b) = true then spec_LeastCatches.l0 k l (acc ++ [(a : Int)]) ((a + 1 : Nat) : Int) t else spec_LeastCatches.l0 k l acc ((a + 1 : Nat) : Int) t) res → Ev (fun k => spec_LeastCatches.l1 k l acc (a : Int) f (i : Int) t) res := by
  have htl := vT_len h
  intro d
  induction d with
  | zero =>
    intro i f hi hres
    rw [List.drop_eq_nil_of_le (by omega)] at hres
    refine Ev.succ (Ev.congr hres (fun k => ?_))
    simp only [spec_LeastCatches.l1]
    rw [if_neg (by omega), if_pos hacc, wrap_succ (i := (a : Int)) (n := t.length) (by omega) (by omega) (by omega)]
    cases f <;> simp
  | succ d ih =>
    intro i f hi hres
    have hlt : i < l.length := by omega
    rw [List.drop_eq_getElem_cons hlt, List.all_cons] at hres
    cases f with
    | false =>
      refine Ev.succ (Ev.congr (F := fun k => spec_LeastCatches.l1 k l acc (a : Int) false ((i + 1 : Nat) : Int) t) (ih (i + 1) false (by omega) (by simpa using hres)) (fun k => ?_))
      simp only [spec_LeastCatches.l1]
      rw [if_pos (by omega), if_neg (by simp), wrap_succ (i := (i : Int)) (n := l.length) (by omega) (by omega) (by omega)]
      rfl
    | true =>
      have hstep : ∀ k, spec_LeastCatches.l1 (k + 1) l acc (a : Int) true (i : Int) t = if l[i] = (a : Int) then spec_LeastCatches.l1 k l acc (a : Int) true ((i + 1 : Nat) : Int) t else (spec_isA.f k t (a : Int) l[i]).bind fun b => spec_LeastCatches.l1 k l acc (a : Int) (!b) ((i + 1 : Nat) : Int) t := by
        intro k
        simp only [spec_LeastCatches.l1]
        rw [if_pos (by omega), if_pos trivial, if_pos (by omega), show rd l (i : Int) = l[i] by simp [rd, hlt], wrap_succ (i := (i : Int)) (n := l.length) (by omega) (by omega) (by omega)]
        rfl
      refine Ev.succ (Ev.congr ?_ hstep)
      by_cases hq : l[i] = (a : Int)
      · exact Ev.pos hq (ih (i + 1) true (by omega) (by simpa [hq] using hres))
      · refine Ev.neg hq (Ev.bind (spec_isA_Ev h (a : Int) l[i] (by omega)) ?_)
        refine ih (i + 1) _ (by omega) ?_
        rw [decide_eq_false hq, Bool.false_or, Bool.true_and] at hres
        exact hres
theorem spec_LeastCatches_l0 {t : List Cls} (h : vT t = true) (l : List Int) (hl : l.length ≤ 9223372036854775807) : Ev (fun k => spec_LeastCatches.l0 k l [] 0 t) (fil t (fun a => l.contains a && !(l.any fun b => !decide (b = a) && isA t a b))) := by
  have htl := vT_len h
  let p : Int → Bool := fun a => l.contains a && !(l.any fun b => !decide (b = a) && isA t a b)
  have key : ∀ d i, i + d = t.length → Ev (fun k => spec_LeastCatches.l0 k l (((List.range i).map (fun i : Nat => (i : Int))).filter p) (i : Int) t) (fil t p) := by
    intro d
    induction d with
    | zero =>
      intro i hi
      obtain rfl : i = t.length := by omega
      refine Ev.succ (Ev.congr (F := fun _ => some (fil t p)) (Ev.const rfl) (fun k => ?_))
      simp only [spec_LeastCatches.l0]
      rw [if_neg (by omega)]
      rfl
    | succ d ih =>
      intro i hi
      have hlt : i < t.length := by omega
      have hd := fil_len p i
      refine Ev.succ (Ev.congr (F := fun k => (spec_hasInt.f k l (i : Int)).bind fun b => spec_LeastCatches.l1 k l (((List.range i).map (fun i : Nat => (i : Int))).filter p) (i : Int) b 0 t) ?_ (fun k => ?_))
      · refine Ev.bind (Ev.of_mono (spec_hasInt.mono l (i : Int)) (K := l.length + 1) (spec_hasInt_ev l (i : Int) hl _ (by omega))) ?_
        refine spec_LeastCatches_l1 h l _ i hlt (by omega) hl (fil t p) l.length 0 _ (by omega) ?_
        have h2 := fil_step t p i
        have h3 := ih (i + 1) (by omega)
        have e : (l.contains (i : Int) && (l.drop 0).all fun b => decide (b = (i : Int)) || !isA t (i : Int) b) = p (i : Int) := by
          show _ = (l.contains (i : Int) && !(l.any fun b => !decide (b = (i : Int)) && isA t (i : Int) b))
          rw [List.drop_zero, List.not_any_eq_all_not]
          congr 2
          funext b
          cases decide (b = (i : Int)) <;> cases isA t (i : Int) b <;> rfl
        rw [e]
        cases hb : p (i : Int) with
        | true =>
          rw [hb, if_pos rfl] at h2
          rw [h2] at h3
          exact Ev.pos rfl h3
        | false =>
          rw [hb, if_neg (by simp), List.append_nil] at h2
          rw [h2] at h3
          exact Ev.neg (by simp) h3
      · simp only [spec_LeastCatches.l0]
        rw [if_pos (by omega)]
  exact key t.length 0 (by omega)
theorem spec_LeastCatches_ev (t : List Cls) (l : List Int) (ht : t.length ≤ 9223372036854775807) (hl : l.length ≤ 9223372036854775807) (hs : smT t = true) : Ev (fun k => spec_LeastCatches.f k t l) (leastP t l) := by
  refine Ev.bind (spec_goodCatches_ev t l ht hl hs) ?_
  unfold leastP
  by_cases h : okCat t l = true
  · rw [if_pos h]
    exact Ev.pos h (spec_LeastCatches_l0 (okCat_parts h).1 l hl)
  · rw [if_neg h]
    exact Ev.neg h (Ev.const rfl)
end Go.Proofs.Ytgajfpebfnlipaa.P
namespace Go.Proofs.Ytgajfpebfnlipaa.P
open Go.RowKit Go.Proofs.YtgajfpebfnlipaaW.PrintWords Go.Proofs.YtgajfpebfnlipaaW.PrintLast Go.Proofs.YtgajfpebfnlipaaW.PrintMore
attribute [local go_sem] max2_int min2_int max_two min_two max_three min_three max_four min_four   -- for this text's walks alone
set_option linter.unusedVariables false
set_option linter.unusedSimpArgs false
/-! ### laws_toIntS: function 50 -/
def laws_toIntS.l0 : Nat → List Int → List Int → Int → Option (List Int)
  | 0, _, _, _ => none
  | k + 1, x0, x3, x4 => if x4 < (x0.length : Int) then (if 0 ≤ x4 then (if x4 < (x3.length : Int) then (laws_toIntS.l0 k x0 (x3.set (x4 : Int).toNat (rd x0 x4)) (wrap64 (x4 + 1))) else (none)) else (none)) else (some x3)
def laws_toIntS.f (k : Nat) (l0 : List Int) : Option (List Int) := if 0 ≤ (l0.length : Int) then (if ((l0.length : Int) : Int).toNat ≤ 35184372088832 then (laws_toIntS.l0 k l0 (List.replicate ((l0.length : Int) : Int).toNat 0) 0) else (none)) else (none)
theorem laws_toIntS.mono_l : ∀ k, (∀ y0 y1 y2, LeO (laws_toIntS.l0 k y0 y1 y2) (laws_toIntS.l0 (k + 1) y0 y1 y2))
  | 0 => fun _ _ _ r h => by simp [laws_toIntS.l0] at h
  | k + 1 => by
    have ih0 := laws_toIntS.mono_l k
    · intro y0 y1 y2
      unfold laws_toIntS.l0
      repeat' first
      | (with_reducible exact ih0 _ _ _)
      | (with_reducible exact LeO.refl _)
      | (with_reducible exact LeO.none _)
      | (with_reducible refine LeO.ite ?_ ?_)
      | (with_reducible refine LeO.bind ?_ (fun _ => ?_))
      | exact ih0 _ _ _
      | exact LeO.none _
      | refine LeO.ite ?_ ?_
      | refine LeO.bind ?_ (fun _ => ?_)
theorem laws_toIntS.mono : ∀ a0 k, LeO (laws_toIntS.f k a0) (laws_toIntS.f (k + 1) a0) := by
  intro a0 k
  have ih0 := laws_toIntS.mono_l k
  unfold laws_toIntS.f
  repeat' first
      | (with_reducible exact ih0 _ _ _)
      | (with_reducible exact LeO.refl _)
      | (with_reducible exact LeO.none _)
      | (with_reducible refine LeO.ite ?_ ?_)
      | (with_reducible refine LeO.bind ?_ (fun _ => ?_))
      | exact ih0 _ _ _
      | exact LeO.none _
      | refine LeO.ite ?_ ?_
      | refine LeO.bind ?_ (fun _ => ?_)
set_option maxHeartbeats 8000000 in
set_option maxRecDepth 100000 in
theorem laws_toIntS.calls (k : Nat) (A0 : Option Addr) (c0 : Nat) (l0 : List Int) (r : List Int) (w : World) (hr0 : Kd.C (Kd.int .i64) w A0 l0.length l0) (hc0 : l0.length ≤ c0) (h : laws_toIntS.f k l0 = some r) :
    Calls Try.prog 50 #[.slice A0 l0.length c0] w fun e w' => ∃ v0_ : Value, e = .returned (v0_) ∧ Kd.R (Kd.int .i64) 3 w' w.heap.size (fun _ => True) v0_ r ∧ Below w.heap.size w w' := by
  have HR0 := Aside0.mk hr0
  have HC0 := Aside0.mk hc0
  clear hr0 hc0
  have HB := Aside0.mk (Below.refl w.heap.size w)
  have H : (if 0 ≤ (l0.length : Int) then (if ((l0.length : Int) : Int).toNat ≤ 35184372088832 then (laws_toIntS.l0 k l0 (List.replicate ((l0.length : Int) : Int).toNat 0) 0) else (none)) else (none)) = some r := h
  clear h
  by_cases c2 : 0 ≤ (l0.length : Int)
  · rw [if_pos c2] at H
    have c2b0 := eq_true c2
    have c2b1 : decide (0 ≤ (l0.length : Int)) = true := decide_eq_true c2
    clear c2
    by_cases c3 : ((l0.length : Int) : Int).toNat ≤ 35184372088832
    · rw [if_pos c3] at H
      have c3b0 := eq_true c3
      have c3b1 : decide (((l0.length : Int) : Int).toNat ≤ 35184372088832) = true := decide_eq_true c3
      clear c3
      obtain ⟨y1, hy1⟩ : ∃ y_ : List Int, y_ = (List.replicate ((l0.length : Int) : Int).toNat 0) := ⟨_, rfl⟩
      replace H : (laws_toIntS.l0 k l0 y1 0) = some r := by first | (rw [hy1]; with_reducible exact H) | (have H2_ := (Option.bind_some _ _).symm.trans H; rw [hy1]; with_reducible exact H2_) | (have H2_ := (Option.bind_some _ _).symm.trans H; with_reducible exact H2_) | with_reducible exact H | (rw [hy1]; exact H) | exact H
      have Ny1 := Aside0.mk hy1
      clear hy1
      have H' := Aside0.mk H
      clear H
      go_enter Try.func50, Try.ntmps50
      go_wp2_with (first | ((with_reducible refine gate_dst (N := 7) rfl ?_); refine Kd.R_make (Kd.int .i64) _ 3 rfl (N := 7) rfl 56 _ _ rfl (l0.length : Int) rfl rfl Try.underlying56 (.int .i64 0) 8 info3 rfl (by decide) (by omega) 0 (ok := fun _ => True) (okp := fun _ => True) rfl (fun _ hk => hk) trivial (of_decide_eq_true (by first | (with_reducible assumption) | assumption)) (Nat.le_trans (Nat.mul_le_mul_right _ (of_decide_eq_true (by first | (with_reducible assumption) | assumption) : (l0.length : Int).toNat ≤ 35184372088832)) (by omega)) (Below.refl _ _) (Nat.le_refl _) ?_; intro v2 w4 ho5 hb hg_ hnew_; clear hg_ hnew_; (first | rw [← Ny1.out] at ho5 | (simp only [Int.reduceToNat] at ho5; rw [← Ny1.out] at ho5)); have n0_ := Aside0.mk (Kd.R_lower ho5 (below_size (by repeat (first | (with_reducible first | exact HB.out | apply below_alloc | apply pw_below_drewN | apply below_drew1) | exact HB.out)))); have n1_ := Aside0.mk (below_step (by repeat (first | (with_reducible first | exact HB.out | apply below_alloc | apply pw_below_drewN | apply below_drew1) | exact HB.out)) hb); clear HB; have HO3 := n0_; have HB := n1_; clear n0_ n1_; clear hb ho5))
      go_loopg [4] k (fun kq v4 w' => ∃ (x3_1 : List Int) (x4_1 : Int), v4 = .int .i64 x4_1 ∧ Aside0 (laws_toIntS.l0 kq l0 x3_1 x4_1 = some r) ∧ Aside0 (kq ≤ k) ∧ Aside0 (Kd.R (Kd.int .i64) 3 w' w.heap.size (fun _ => True) v2 x3_1) ∧ Aside0 (Below w.heap.size w w'))
      case atStart => exact ⟨(y1), (0), (by first | rfl | (simp; done) | (simp [*]; done)), H', ⟨Nat.le_refl _⟩, ⟨by (with_reducible repeat (first | apply Kd.R_alloc | apply Kd.R_drewN | apply Kd.R_drew)); exact HO3.out⟩, ⟨by repeat (first | (with_reducible first | exact HB.out | apply below_alloc | apply pw_below_drewN | apply below_drew1) | exact HB.out)⟩⟩
      case round =>
        clear H'
        try clear c2
        try clear c2b0
        try clear c2b1
        try clear p2
        try clear c3
        try clear c3b0
        try clear c3b1
        try clear c5
        obtain ⟨x3_1, x4_1, rfl, HA, HK1, HO_3, HB⟩ := hrel
        cases gk with
        | zero => exact absurd HA.out (by simp [laws_toIntS.l0])
        | succ k1 =>
          have H := HA.out
          clear HA
          simp only [laws_toIntS.l0] at H
          by_cases c6 : x4_1 < (l0.length : Int)
          · rw [if_pos c6] at H
            have c6b0 : decide (x4_1 < (l0.length : Int)) = true := decide_eq_true c6
            clear c6
            by_cases c7 : 0 ≤ x4_1
            · rw [if_pos c7] at H
              have c7b0 : decide (0 ≤ x4_1) = true := decide_eq_true c7
              clear c7
              by_cases c8 : x4_1 < (x3_1.length : Int)
              · rw [if_pos c8] at H
                have c8b0 : decide (x4_1 < (x3_1.length : Int)) = true := decide_eq_true c8
                clear c8
                obtain ⟨y5, hy5⟩ : ∃ y_ : List Int, y_ = (x3_1.set (x4_1 : Int).toNat (rd l0 x4_1)) := ⟨_, rfl⟩
                replace H : (laws_toIntS.l0 k1 l0 y5 (wrap64 (x4_1 + 1))) = some r := by first | (rw [hy5]; with_reducible exact H) | (have H2_ := (Option.bind_some _ _).symm.trans H; rw [hy5]; with_reducible exact H2_) | (have H2_ := (Option.bind_some _ _).symm.trans H; with_reducible exact H2_) | with_reducible exact H | (rw [hy5]; exact H) | exact H
                have Ny5 := Aside0.mk hy5
                clear hy5
                have H' := Aside0.mk H
                clear H
                have p4 : 0 ≤ (x4_1 : Int) := of_decide_eq_true (by first | (with_reducible assumption) | assumption)
                have q4 : x4_1 < (l0.length : Int) := of_decide_eq_true (by first | (with_reducible assumption) | assumption)
                obtain ⟨ad4, e4, hx4_0⟩ := Kd.at_int HR0.out x4_1 p4 q4
                cases e4
                replace hx4_0 := (HB.out.cell (World.block_lt_of_cell? w _ hx4_0)).trans hx4_0
                replace p4 := eq_true p4
                replace q4 := eq_true q4
                have p9 : 0 ≤ (x4_1 : Int) := of_decide_eq_true (by first | (with_reducible assumption) | assumption)
                have q9 : (x4_1 : Int) < ((x3_1.length : Int) : Int) := of_decide_eq_true (by first | (with_reducible assumption) | assumption)
                obtain ⟨go9, co9, eo9, gb9, gl9, cl9, HG9⟩ := Kd.R_form HO_3.out (by omega)
                (first | cases eo9 | (injection eo9 with ea_ en_ ec_; (first | subst ea_ | (injection ea_ with ea_; subst ea_)); subst ec_; clear en_))
                have GB9 := Aside0.mk gb9
                have GG9 := Aside0.mk HG9
                clear gb9 gl9 HG9
                obtain ⟨hx9_0, hf9_0⟩ := Kd.R_celln 0 HO_3.out (x4_1 : Int) p9 q9
                replace p9 := eq_true p9
                replace q9 := eq_true q9
                have HP10 := Kd.R_putg HO_3.out (x4_1 : Int) (rd l0 x4_1)
                go_wp2_with (first | ((with_reducible refine gate_store (t := 3) (p := 20) rfl ?_); refine store_event (t := 3) (p := 20) (v := ?vo_w11) (w1 := (wr.setCell ⟨go9, (x4_1 : Int).toNat, none⟩ (.int .i64 (rd l0 x4_1)))) ?hg ?ho ?hn ?hr ?_; (case ho => rfl); (case hg => rfl); (case hn => rfl); (case hr => first | (go_simp; done) | (go_simp; rfl)); intro w11 hw; have hg : wr.grownBy w11 (some go9) := (by rw [hw]; exact HP10.2); have hp_ : Kd.R (Kd.int .i64) 3 w11 w.heap.size (fun _ => True) (.slice (some ⟨go9, 0, none⟩) x3_1.length co9) y5 := (by rw [hw, Ny5.out]; exact HP10.1); clear HP10; have n0_ := Aside0.mk (hp_); have n1_ := Aside0.mk ((by rw [hw]; exact below_set (HB.out) GB9.out : Below w.heap.size w w11)); clear HO_3; clear HB; have HO_3 := n0_; have HB := n1_; clear n0_ n1_; clear hg hw hp_))
                go_roundg k1
                case measure => have := HK1.out; omega
                case rel => exact ⟨(y5), (wrap64 (x4_1 + 1)), (by first | rfl | (simp; done) | (simp [*]; done)), H', ⟨by have := HK1.out; omega⟩, ⟨by (with_reducible repeat (first | apply Kd.R_alloc | apply Kd.R_drewN | apply Kd.R_drew)); exact HO_3.out⟩, ⟨by repeat (first | (with_reducible first | exact HB.out | apply below_alloc | apply pw_below_drewN | apply below_drew1) | exact HB.out)⟩⟩
              · rw [if_neg c8] at H
                exact absurd H (by simp)
            · rw [if_neg c7] at H
              exact absurd H (by simp)
          · rw [if_neg c6] at H
            have c6b0 : decide (x4_1 < (l0.length : Int)) = false := decide_eq_false c6
            clear c6
            obtain rfl := Option.some.inj H
            go_wp2
            go_ret
            exact ⟨_, by first | rfl | (simp [errW_none, errW_some] <;> rfl) | (simp [*, errW_none, errW_some] <;> rfl), by (with_reducible repeat (first | apply Kd.R_alloc | apply Kd.R_drewN | apply Kd.R_drew)); exact HO_3.out, by repeat (first | (with_reducible first | exact HB.out | apply below_alloc | apply pw_below_drewN | apply below_drew1) | exact HB.out)⟩
    · rw [if_neg c3] at H
      exact absurd H (by simp)
  · rw [if_neg c2] at H
    exact absurd H (by simp)
theorem laws_toIntS_ev (l : List Int) (hl : l.length ≤ 1048576) : Ev (fun k => laws_toIntS.f k l) l := by
  have h := st_loop (fun k acc i => laws_toIntS.l0 k l acc i) l.length (fun i => ((l.take i).map id) ++ List.replicate (l.length - i) 0) l (by
    intro k i hi
    simp only [laws_toIntS.l0]
    rw [if_pos (by omega), if_pos (by omega), if_pos (by rw [fill_len _ _ _ _ (by omega)]; omega), wrap_succ (i := (i : Int)) (n := l.length) (by omega) (by omega) (by omega)]
    have := fill_at l id 0 (0 : Int) i hi
    simp only [id_eq] at this
    rw [show rd l (i : Int) = l.getD i 0 by simp [rd], show ((i : Int) : Int).toNat = i by omega, this]
    rfl) (by
    intro k
    simp only [laws_toIntS.l0]
    rw [if_neg (by omega)]
    simp)
  refine Ev.of_mono (laws_toIntS.mono l) (K := l.length + 1) ?_
  unfold laws_toIntS.f
  rw [if_pos (by omega), if_pos (by omega)]
  simpa using h
end Go.Proofs.Ytgajfpebfnlipaa.P
namespace Go.Proofs.Ytgajfpebfnlipaa.P
open Go.RowKit Go.Proofs.YtgajfpebfnlipaaW.PrintWords Go.Proofs.YtgajfpebfnlipaaW.PrintLast Go.Proofs.YtgajfpebfnlipaaW.PrintMore
attribute [local go_sem] max2_int min2_int max_two min_two max_three min_three max_four min_four   -- for this text's walks alone
set_option linter.unusedVariables false
set_option linter.unusedSimpArgs false
/-! ### impl_within: function 82 -/
def impl_within.f (a0 : Int) (a1 : Int) (a2 : Int) : Option (Bool) := if a0 ≥ a1 then (some (decide (a0 ≤ a2))) else (some false)
set_option maxHeartbeats 8000000 in
set_option maxRecDepth 100000 in
theorem impl_within.calls (a0 : Int) (a1 : Int) (a2 : Int) (r : Bool) (w : World) (h : impl_within.f a0 a1 a2 = some r) :
    Calls Try.prog 82 #[.int .i64 a0, .int .i64 a1, .int .i64 a2] w fun e w' => e = .returned (.bool r) ∧ Drawn0 w w' := by
  have H : (if a0 ≥ a1 then (some (decide (a0 ≤ a2))) else (some false)) = some r := h
  clear h
  by_cases c4 : a0 ≥ a1
  · rw [if_pos c4] at H
    have c4b0 : decide (a1 ≤ a0) = true := decide_eq_true c4
    clear c4
    obtain rfl := Option.some.inj H
    go_enter Try.func82, Try.ntmps82
    go_wp2
    go_ret
    exact ⟨by first | rfl | (simp; done) | (simp [*]; done), by repeat (first | exact Drawn0.refl _ | apply Drawn0.step)⟩
  · rw [if_neg c4] at H
    have c4b0 : decide (a1 ≤ a0) = false := decide_eq_false c4
    clear c4
    obtain rfl := Option.some.inj H
    go_enter Try.func82, Try.ntmps82
    go_wp2
    go_ret
    exact ⟨by first | rfl | (simp; done) | (simp [*]; done), by repeat (first | exact Drawn0.refl _ | apply Drawn0.step)⟩
end Go.Proofs.Ytgajfpebfnlipaa.P
namespace Go.Proofs.Ytgajfpebfnlipaa.P
open Go.RowKit Go.Proofs.YtgajfpebfnlipaaW.PrintWords Go.Proofs.YtgajfpebfnlipaaW.PrintLast Go.Proofs.YtgajfpebfnlipaaW.PrintMore
attribute [local go_sem] max2_int min2_int max_two min_two max_three min_three max_four min_four   -- for this text's walks alone
set_option linter.unusedVariables false
set_option linter.unusedSimpArgs false
/-! ### slices_IndexFunc_Class: function 177 -/
set_option maxHeartbeats 2000000 in
theorem slices_IndexFunc_Class.callsF (A : Option Addr) (c : Nat) (l : List S142) (g : Nat) (lb : Array Value) (p : S142 → Bool) (w : World) (eg : ∀ args w, (callFunc g args).run Try.prog w = .ok (.enter g args) w)
    (hr : Kd.C k142 w A l.length l) (hc : l.length ≤ c) (hp : ∀ x, x ∈ l → ∀ W, Below w.heap.size w W → Calls Try.prog g (#[.agg #[.string x.f0, .int .i64 x.f1]] ++ lb) W fun e w' => e = .returned (.bool (p x)) ∧ Below W.heap.size W w') :
    Calls Try.prog 177 #[.slice A l.length c, .func (.func g) #[] lb] w fun e w' => e = .returned (.int .i64 (idxP p l)) ∧ Below w.heap.size w w' := by
  have HR := Aside0.mk hr
  have HP := Aside0.mk hp
  have hmax : l.length ≤ 9223372036854775807 := hr.2.1
  clear hr hp hc
  go_enter Try.func177, Try.ntmps177
  go_wp2
  go_loopg [5, 8] l.length (fun gg _ s8 wr => ∃ kk : Nat, kk ≤ l.length ∧ l.length - kk ≤ gg ∧ s8 = .int .i64 kk ∧ Aside0 (Below w.heap.size w wr) ∧ Aside0 (∀ j (hj : j < l.length), j < kk → p l[j] = false))
  case atStart => exact ⟨0, Nat.zero_le _, by omega, rfl, ⟨Below.refl _ w⟩, ⟨fun j _ hj => absurd hj (Nat.not_lt_zero _)⟩⟩
  case round =>
    obtain ⟨kk, hkk, hg, rfl, BW, HA⟩ := hrel
    by_cases hlt : kk < l.length
    · have hltz : (kk : Int) < (l.length : Int) := by omega
      obtain ⟨ad, ea, hx0, hx1⟩ := at_T142 HR.out (kk : Int) (by omega) (by omega)
      cases ea
      have hrd : rd_T142 l (kk : Int) = l[kk] := by simp [rd_T142, hlt]
      rw [hrd] at hx0 hx1
      rw [Int.toNat_natCast] at hx0 hx1
      replace hx0 := (BW.out.cell (World.block_lt_of_cell? w _ hx0)).trans hx0
      replace hx1 := (BW.out.cell (World.block_lt_of_cell? w _ hx1)).trans hx1
      have hcall := HP.out l[kk] (List.getElem_mem hlt) wr BW.out
      clear hrd
      generalize hy : l[kk] = y at hx0 hx1 hcall
      have B := Aside0.mk hy
      clear hy
      cases hq : p y with
      | true =>
        rw [hq] at hcall
        go_wp2_with (go_at_fn g; refine hcall.mono ?_; rintro e w' ⟨rfl, hb'⟩)
        go_ret
        refine ⟨?_, below_step BW.out hb'⟩
        rw [idxP_hit p l kk hlt (by rw [B.out]; exact hq) HA.out]; rfl
      | false =>
        rw [hq] at hcall
        go_wp2_with (go_at_fn g; refine hcall.mono ?_; rintro e w' ⟨rfl, hb'⟩)
        go_roundg (l.length - (kk + 1))
        case measure => omega
        case rel =>
          refine ⟨kk + 1, by omega, by omega, by go_num, ⟨below_step BW.out hb'⟩, ⟨fun j hj hjk => ?_⟩⟩
          by_cases e : j = kk
          · subst e
            rw [B.out]; exact hq
          · exact HA.out j hj (by omega)
    · have hltz : ¬ (kk : Int) < (l.length : Int) := by omega
      have : kk = l.length := by omega
      subst this
      go_wp2
      go_ret
      refine ⟨?_, BW.out⟩
      rw [idxP_miss p l (fun j hj => HA.out j hj hj)]; rfl
end Go.Proofs.Ytgajfpebfnlipaa.P
namespace Go.Proofs.Ytgajfpebfnlipaa.P
open Go.RowKit Go.Proofs.YtgajfpebfnlipaaW.PrintWords Go.Proofs.YtgajfpebfnlipaaW.PrintLast Go.Proofs.YtgajfpebfnlipaaW.PrintMore
attribute [local go_sem] max2_int min2_int max_two min_two max_three min_three max_four min_four   -- for this text's walks alone
set_option linter.unusedVariables false
set_option linter.unusedSimpArgs false
/-! ### impl_Tree_named_1: function 178 -/
theorem impl_Tree_named_1.callsF (B : Nat) (nm : ByteArray) (x : S142) (w : World) (hB : w.heap[B]? = some (.cells #[.string nm] 9 (0, 0))) :
    Calls Try.prog 178 #[.agg #[.string x.f0, .int .i64 x.f1], .pointer (some ⟨B, 0, none⟩)] w fun e w' => e = .returned (.bool (x.f0.toList == nm.toList)) ∧ Below w.heap.size w w' := by
  have hc : w.cell? ⟨B, 0, none⟩ = some (.string nm) := (blk_cell hB 0).trans rfl
  have hlt : B < w.heap.size := (Array.getElem?_eq_some_iff.1 hB).1
  have hne : B ≠ w.heap.size := by omega
  clear hB
  go_enter Try.func178, Try.ntmps178
  go_wp2
  all_goals (go_ret; exact ⟨by simp_all, (Below.refl _ w).alloc (Nat.le_refl _) _⟩)
end Go.Proofs.Ytgajfpebfnlipaa.P
namespace Go.Proofs.Ytgajfpebfnlipaa.P
open Go.RowKit Go.Proofs.YtgajfpebfnlipaaW.PrintWords Go.Proofs.YtgajfpebfnlipaaW.PrintLast Go.Proofs.YtgajfpebfnlipaaW.PrintMore
attribute [local go_sem] max2_int min2_int max_two min_two max_three min_three max_four min_four   -- for this text's walks alone
set_option linter.unusedVariables false
set_option linter.unusedSimpArgs false
/-! ### impl_Tree_named: function 125 -/
def impl_Tree_named.f (l0_0 : List (S142)) (a1 : ByteArray) : Option Int := some (idxP (fun x : S142 => x.f0.toList == a1.toList) l0_0)
set_option maxHeartbeats 2000000 in
theorem impl_Tree_named.calls (A0_0 : Option Addr) (c0_0 : Nat) (l0_0 : List (S142)) (a1 : ByteArray) (r : Int) (w : World) (hr0_0 : Kd.C k142 w A0_0 l0_0.length l0_0) (hc0_0 : l0_0.length ≤ c0_0) (h : impl_Tree_named.f l0_0 a1 = some r) :
    Calls Try.prog 125 #[.agg #[.slice A0_0 l0_0.length c0_0], .string a1] w fun e w' => e = .returned (.int .i64 r) ∧ Below w.heap.size w w' := by
  obtain rfl := Option.some.inj h
  clear h
  have hu31 := Try.underlying31
  have eg : ∀ args w, (callFunc 178 args).run Try.prog w = .ok (.enter 178 args) w := enters_of Try.func178 (by kernel_rfl) rfl
  have hcon := fun (W : World) (hb : Below w.heap.size w W) (hB : W.heap[w.heap.size + 1]? = some (.cells #[.string a1] 9 (0, 0))) => slices_IndexFunc_Class.callsF A0_0 c0_0 l0_0 178 #[.pointer (some ⟨w.heap.size + 1, 0, none⟩)] (fun x => x.f0.toList == a1.toList) W eg (Kd.C_below hr0_0 hb) hc0_0 (fun x _ W' hW => by
    have := impl_Tree_named_1.callsF (w.heap.size + 1) a1 x W' (blk_keptB hB hW)
    simpa using this)
  clear hr0_0 hc0_0
  generalize idxP (fun x : S142 => x.f0.toList == a1.toList) l0_0 = r at hcon ⊢
  have HC := Aside0.mk hcon
  clear hcon
  go_enter Try.func125, Try.ntmps125
  go_wp2_with (go_at_call 177; refine (HC.out _ ?hb ?hB).mono ?_; (case hb => exact below2 w _ _); (case hB => exact heap_new2 w _ _); rintro e w' ⟨rfl, hb'⟩)
  go_ret
  exact ⟨rfl, (below2 w _ _).trans (hb'.mono (by simp; omega))⟩
end Go.Proofs.Ytgajfpebfnlipaa.P
namespace Go.Proofs.Ytgajfpebfnlipaa.P
open Go.RowKit Go.Proofs.YtgajfpebfnlipaaW.PrintWords Go.Proofs.YtgajfpebfnlipaaW.PrintLast Go.Proofs.YtgajfpebfnlipaaW.PrintMore
attribute [local go_sem] max2_int min2_int max_two min_two max_three min_three max_four min_four   -- for this text's walks alone
set_option linter.unusedVariables false
set_option linter.unusedSimpArgs false
/-! ### impl_nameOk: function 131 -/
def impl_nameOk.l0 : Nat → ByteArray → Int → Int → Option (Bool)
  | 0, _, _, _ => none
  | k + 1, x0, x5, x6 => if x6 < x5 then (if 0 ≤ x6 then (if x6 < (x0.size : Int) then (if (bt x0 x6) < 97 then (some false) else (if (bt x0 x6) > 122 then (some false) else (impl_nameOk.l0 k x0 x5 (wrap64 (x6 + 1))))) else (none)) else (none)) else ((impl_within.f (x0.size : Int) 1 6).bind fun t1 => (some t1))
def impl_nameOk.f (k : Nat) (a0 : ByteArray) : Option (Bool) := impl_nameOk.l0 k a0 (a0.size : Int) 0
theorem impl_nameOk.mono_l : ∀ k, (∀ y0 y1 y2, LeO (impl_nameOk.l0 k y0 y1 y2) (impl_nameOk.l0 (k + 1) y0 y1 y2))
  | 0 => fun _ _ _ r h => by simp [impl_nameOk.l0] at h
  | k + 1 => by
    have ih0 := impl_nameOk.mono_l k
    · intro y0 y1 y2
      unfold impl_nameOk.l0
      repeat' first
      | (with_reducible exact ih0 _ _ _)
      | (with_reducible exact LeO.refl _)
      | (with_reducible exact LeO.none _)
      | (with_reducible refine LeO.ite ?_ ?_)
      | (with_reducible refine LeO.bind ?_ (fun _ => ?_))
      | exact ih0 _ _ _
      | exact LeO.none _
      | refine LeO.ite ?_ ?_
      | refine LeO.bind ?_ (fun _ => ?_)
theorem impl_nameOk.mono : ∀ a0 k, LeO (impl_nameOk.f k a0) (impl_nameOk.f (k + 1) a0) := by
  intro a0 k
  have ih0 := impl_nameOk.mono_l k
  unfold impl_nameOk.f
  repeat' first
      | (with_reducible exact ih0 _ _ _)
      | (with_reducible exact LeO.refl _)
      | (with_reducible exact LeO.none _)
      | (with_reducible refine LeO.ite ?_ ?_)
      | (with_reducible refine LeO.bind ?_ (fun _ => ?_))
      | exact ih0 _ _ _
      | exact LeO.none _
      | refine LeO.ite ?_ ?_
      | refine LeO.bind ?_ (fun _ => ?_)
set_option maxHeartbeats 8000000 in
set_option maxRecDepth 100000 in
theorem impl_nameOk.calls (k : Nat) (a0 : ByteArray) (r : Bool) (w : World) (h : impl_nameOk.f k a0 = some r) :
    Calls Try.prog 131 #[.string a0] w fun e w' => e = .returned (.bool r) ∧ Drawn0 w w' := by
  have H : (impl_nameOk.l0 k a0 (a0.size : Int) 0) = some r := h
  clear h
  have H' := Aside0.mk H
  clear H
  go_enter Try.func131, Try.ntmps131
  go_wp2
  go_loopg [6] k (fun kq v6 w' => ∃ (x6_1 : Int), v6 = .int .i64 x6_1 ∧ Aside0 (impl_nameOk.l0 kq a0 (a0.size : Int) x6_1 = some r) ∧ Aside0 (kq ≤ k) ∧ Drawn0 w w')
  case atStart => exact ⟨(0), (by first | rfl | (simp; done) | (simp [*]; done)), H', ⟨Nat.le_refl _⟩, by repeat (first | exact Drawn0.refl _ | apply Drawn0.step)⟩
  case round =>
    clear H'
    try clear c1
    obtain ⟨x6_1, rfl, HA, HK1, ⟨m1, rfl⟩⟩ := hrel
    cases gk with
    | zero => exact absurd HA.out (by simp [impl_nameOk.l0])
    | succ k1 =>
      have H := HA.out
      clear HA
      simp only [impl_nameOk.l0] at H
      by_cases c2 : x6_1 < (a0.size : Int)
      · rw [if_pos c2] at H
        have c2b0 : decide (x6_1 < (a0.size : Int)) = true := decide_eq_true c2
        clear c2
        by_cases c3 : 0 ≤ x6_1
        · rw [if_pos c3] at H
          have c3b0 : decide (0 ≤ x6_1) = true := decide_eq_true c3
          clear c3
          by_cases c4 : x6_1 < (a0.size : Int)
          · rw [if_pos c4] at H
            have c4b0 : decide (x6_1 < (a0.size : Int)) = true := decide_eq_true c4
            clear c4
            by_cases c6 : (bt a0 x6_1) < 97
            · rw [if_pos c6] at H
              have c6b0 : decide ((bt a0 x6_1) < 97) = true := decide_eq_true c6
              clear c6
              obtain rfl := Option.some.inj H
              have p5 : 0 ≤ (x6_1 : Int) := of_decide_eq_true (by first | (with_reducible assumption) | assumption)
              have q5 : x6_1 < (a0.size : Int) := of_decide_eq_true (by first | (with_reducible assumption) | assumption)
              have hx5 := bt_at a0 x6_1
              replace p5 := eq_true p5
              replace q5 := eq_true q5
              go_wp2
              go_ret
              exact ⟨by first | rfl | (simp; done) | (simp [*]; done), by repeat (first | exact Drawn0.refl _ | apply Drawn0.step)⟩
            · rw [if_neg c6] at H
              have c6b0 : decide ((bt a0 x6_1) < 97) = false := decide_eq_false c6
              clear c6
              by_cases c8 : (bt a0 x6_1) > 122
              · rw [if_pos c8] at H
                have c8b0 : decide (122 < (bt a0 x6_1)) = true := decide_eq_true c8
                clear c8
                obtain rfl := Option.some.inj H
                have p5 : 0 ≤ (x6_1 : Int) := of_decide_eq_true (by first | (with_reducible assumption) | assumption)
                have q5 : x6_1 < (a0.size : Int) := of_decide_eq_true (by first | (with_reducible assumption) | assumption)
                have hx5 := bt_at a0 x6_1
                replace p5 := eq_true p5
                replace q5 := eq_true q5
                have p7 : 0 ≤ (x6_1 : Int) := of_decide_eq_true (by first | (with_reducible assumption) | assumption)
                have q7 : x6_1 < (a0.size : Int) := of_decide_eq_true (by first | (with_reducible assumption) | assumption)
                have hx7 := bt_at a0 x6_1
                replace p7 := eq_true p7
                replace q7 := eq_true q7
                go_wp2
                go_ret
                exact ⟨by first | rfl | (simp; done) | (simp [*]; done), by repeat (first | exact Drawn0.refl _ | apply Drawn0.step)⟩
              · rw [if_neg c8] at H
                have c8b0 : decide (122 < (bt a0 x6_1)) = false := decide_eq_false c8
                clear c8
                have H' := Aside0.mk H
                clear H
                have p5 : 0 ≤ (x6_1 : Int) := of_decide_eq_true (by first | (with_reducible assumption) | assumption)
                have q5 : x6_1 < (a0.size : Int) := of_decide_eq_true (by first | (with_reducible assumption) | assumption)
                have hx5 := bt_at a0 x6_1
                replace p5 := eq_true p5
                replace q5 := eq_true q5
                have p7 : 0 ≤ (x6_1 : Int) := of_decide_eq_true (by first | (with_reducible assumption) | assumption)
                have q7 : x6_1 < (a0.size : Int) := of_decide_eq_true (by first | (with_reducible assumption) | assumption)
                have hx7 := bt_at a0 x6_1
                replace p7 := eq_true p7
                replace q7 := eq_true q7
                go_wp2
                go_roundg k1
                case measure => have := HK1.out; omega
                case rel => exact ⟨(wrap64 (x6_1 + 1)), (by first | rfl | (simp; done) | (simp [*]; done)), H', ⟨by have := HK1.out; omega⟩, by repeat (first | exact Drawn0.refl _ | apply Drawn0.step)⟩
          · rw [if_neg c4] at H
            exact absurd H (by simp)
        · rw [if_neg c3] at H
          exact absurd H (by simp)
      · rw [if_neg c2] at H
        have c2b0 : decide (x6_1 < (a0.size : Int)) = false := decide_eq_false c2
        clear c2
        replace H := Option.bind_eq_some_iff.mp H
        obtain ⟨t1, A90, H⟩ := H
        replace H : (some t1) = some r := H
        have A9 := Aside0.mk A90
        clear A90
        obtain rfl := Option.some.inj H
        go_wp2_with (first | ((with_reducible refine gate_callee (f := 82) rfl ?_); refine goesL_ (some 22) rfl rfl Try.func82 (by kernel_rfl) rfl #[.int .i64 (a0.size : Int), .int .i64 1, .int .i64 6] rfl (by (try simp only [List.map_toArray, List.map_cons, List.map_nil]); first | done | rfl | (simp only [List.length_drop, List.length_take]; rfl)) ?_; (with_reducible refine (impl_within.calls (a0.size : Int) 1 6 t1 _ A9.out).mono ?_); rintro e w' ⟨rfl, ⟨nd, rfl⟩⟩; refine ⟨_, rfl, ?_⟩))
        go_ret
        exact ⟨by first | rfl | (simp; done) | (simp [*]; done), by repeat (first | exact Drawn0.refl _ | apply Drawn0.step)⟩
theorem impl_nameOk_l0 (s : ByteArray) (hs : s.size ≤ 9223372036854775807) (d : Nat) : ∀ (k : Nat) (i : Nat), i ≤ s.size → s.size - i = d → d < k → impl_nameOk.l0 k s (s.size : Int) (i : Int) = some ((s.data.toList.drop i).all (fun c => decide (97 ≤ c.toNat) && decide (c.toNat ≤ 122)) && (decide (1 ≤ s.size) && decide (s.size ≤ 6))) := by
  induction d with
  | zero =>
    intro k i hi hd hk
    obtain ⟨k, rfl⟩ : ∃ m, k = m + 1 := ⟨k - 1, by omega⟩
    simp only [impl_nameOk.l0]
    rw [if_neg (by omega)]
    have : s.data.toList.drop i = [] := by
      apply List.drop_eq_nil_of_le
      have : s.data.toList.length = s.size := toL_len s
      omega
    rw [this]
    simp only [impl_within.f, List.all_nil, Bool.true_and]
    by_cases h1 : 1 ≤ s.size
    · rw [if_pos (show (s.size : Int) ≥ 1 by omega)]
      by_cases h2 : s.size ≤ 6
      · simp [h1, h2]; omega
      · simp [h2]; omega
    · rw [if_neg (show ¬ (s.size : Int) ≥ 1 by omega)]; simp [h1]
  | succ d ih =>
    intro k i hi hd hk
    obtain ⟨k, rfl⟩ : ∃ m, k = m + 1 := ⟨k - 1, by omega⟩
    have hlt : i < s.size := by omega
    have hl : s.data.toList.length = s.size := toL_len s
    simp only [impl_nameOk.l0]
    rw [if_pos (show (i : Int) < (s.size : Int) by omega), if_pos (show (0 : Int) ≤ (i : Int) by omega), if_pos (show (i : Int) < (s.size : Int) by omega), bt_getElem s i hlt]
    have hd2 : s.data.toList.drop i = s[i] :: s.data.toList.drop (i + 1) := by
      rw [List.drop_eq_getElem_cons (by omega)]
      congr 1
    rw [hd2, List.all_cons]
    by_cases h1 : (s[i].toNat : Int) < 97
    · rw [if_pos h1]; have : ¬ 97 ≤ s[i].toNat := by omega
      simp [this]
    · rw [if_neg h1]
      by_cases h2 : (s[i].toNat : Int) > 122
      · rw [if_pos h2]; have : ¬ s[i].toNat ≤ 122 := by omega
        simp [this]
      · rw [if_neg h2, wrap_succ (n := s.size) (by omega) (by omega) (by omega)]
        have := ih k (i + 1) (by omega) (by omega) (by omega)
        rw [show ((i : Int) + 1) = ((i + 1 : Nat) : Int) by omega, this]
        have a : 97 ≤ s[i].toNat := by omega
        have b : s[i].toNat ≤ 122 := by omega
        simp [a, b]
theorem impl_nameOk_ev (s : ByteArray) (hs : s.size ≤ 9223372036854775807) : impl_nameOk.f (s.size + 1) s = some (okName s) := by
  unfold impl_nameOk.f okName
  have := impl_nameOk_l0 s hs s.size (s.size + 1) 0 (by omega) (by omega) (by omega)
  simpa using this
end Go.Proofs.Ytgajfpebfnlipaa.P
namespace Go.Proofs.Ytgajfpebfnlipaa.P
open Go.RowKit Go.Proofs.YtgajfpebfnlipaaW.PrintWords Go.Proofs.YtgajfpebfnlipaaW.PrintLast Go.Proofs.YtgajfpebfnlipaaW.PrintMore
attribute [local go_sem] max2_int min2_int max_two min_two max_three min_three max_four min_four   -- for this text's walks alone
set_option linter.unusedVariables false
set_option linter.unusedSimpArgs false
/-! ### impl_ValidTree: function 63 -/
def impl_ValidTree.f (l0_0 : List (S142)) : Option Bool := if smT l0_0 = true then some (vT l0_0) else none
set_option maxHeartbeats 4000000 in
set_option maxRecDepth 100000 in
theorem impl_ValidTree.calls (A0_0 : Option Addr) (c0_0 : Nat) (l0_0 : List (S142)) (r : Bool) (w : World) (hr0_0 : Kd.C k142 w A0_0 l0_0.length l0_0) (hc0_0 : l0_0.length ≤ c0_0) (h : impl_ValidTree.f l0_0 = some r) :
    Calls Try.prog 63 #[.agg #[.slice A0_0 l0_0.length c0_0]] w fun e w' => e = .returned (.bool r) ∧ Below w.heap.size w w' := by
  have hu31 := Try.underlying31
  have hsm : smT l0_0 = true := by
    apply Classical.byContradiction
    intro hn
    rw [impl_ValidTree.f, if_neg hn] at h
    cases h
  rw [impl_ValidTree.f, if_pos hsm] at h
  have HRr := Aside0.mk (Option.some.inj h)
  have HSM := Aside0.mk hsm
  have HR := Aside0.mk hr0_0
  have hmax : l0_0.length ≤ 9223372036854775807 := hr0_0.2.1
  clear h hsm hr0_0
  go_enter Try.func63, Try.ntmps63
  go_wp2
  go_loopg [8] l0_0.length (fun gg s8 wr => ∃ kk : Nat, kk ≤ l0_0.length ∧ l0_0.length - kk ≤ gg ∧ s8 = .int .i64 kk ∧ Aside0 (Below w.heap.size w wr) ∧ Aside0 (wr.heap[w.heap.size]? = some (.cells #[.slice A0_0 l0_0.length c0_0] 31 (0, 0))) ∧ Aside0 (∀ j, j < kk → okCls l0_0 j (l0_0.getD j z142) = true))
  case atStart => exact ⟨0, Nat.zero_le _, by omega, rfl, ⟨below1 w _⟩, ⟨heap_new1 w _⟩, ⟨fun j hj => absurd hj (Nat.not_lt_zero _)⟩⟩
  case round =>
    obtain ⟨kk, hkk, hg, rfl, BW, BK, HA⟩ := hrel
    have hcz : wr.cell? ⟨w.heap.size, 0, none⟩ = some (.slice A0_0 l0_0.length c0_0) := (blk_cell BK.out 0).trans rfl
    by_cases hlt : kk < l0_0.length
    · have hltz : (kk : Int) < (l0_0.length : Int) := by omega
      obtain ⟨ad, ea, hx0, hx1⟩ := at_T142 HR.out (kk : Int) (by omega) (by omega)
      cases ea
      have hrd : rd_T142 l0_0 (kk : Int) = l0_0[kk] := by simp [rd_T142, hlt]
      rw [hrd] at hx0 hx1
      rw [Int.toNat_natCast] at hx0 hx1
      replace hx0 := (BW.out.cell (World.block_lt_of_cell? w _ hx0)).trans hx0
      replace hx1 := (BW.out.cell (World.block_lt_of_cell? w _ hx1)).trans hx1
      clear hrd
      generalize hy : l0_0[kk] = y at hx0 hx1
      have B := Aside0.mk hy
      clear hy
      go_upto_region 4 with (fail)
      have hW1 := Aside0.mk (below_alloc BW.out (.cells #[.string y.f0, .int .i64 y.f1] 142))
      have hW2 := Aside0.mk (blk_alloc BK.out (.cells #[.string y.f0, .int .i64 y.f1] 142))
      have hW3 := (blk_cell hW2.out 0).trans rfl
      have hW4 := (blk_cell (heap_new1 wr (.cells #[.string y.f0, .int .i64 y.f1] 142)) 0).trans rfl
      have hW5 := (blk_cell (heap_new1 wr (.cells #[.string y.f0, .int .i64 y.f1] 142)) 1).trans rfl
      clear hcz hx0 hx1 BW BK
      generalize wr.alloc (.cells #[.string y.f0, .int .i64 y.f1] 142) = W1 at hW1 hW2 hW3 hW4 hW5 ⊢
      generalize wr.heap.size = gb at hW4 hW5 ⊢
      have hy1 : y.f0.size ≤ 9223372036854775806 := by rw [← B.out]; exact smT_at HSM.out kk hlt
      have A1 := Aside0.mk (impl_nameOk_ev y.f0 (by omega))
      have hcn0 := fun (W : World) (hW : Below w.heap.size w W) => impl_Tree_named.calls (some ad) c0_0 l0_0 y.f0 (named l0_0 y.f0) W (Kd.C_below HR.out hW) hc0_0 rfl
      have hok : okCls l0_0 kk (l0_0.getD kk z142) = okCls l0_0 kk y := by
        rw [← B.out]; simp [List.getD, hlt]
      have hdef : okCls l0_0 kk y = (okName y.f0 && (decide (named l0_0 y.f0 = (kk : Int)) && (if kk = 0 then decide (y.f1 = -1) else decide (0 ≤ y.f1) && decide (y.f1 ≤ (kk : Int) - 1)))) := rfl
      generalize named l0_0 y.f0 = nn at hcn0 hdef
      have HCN := Aside0.mk hcn0
      have HOK := Aside0.mk hok
      have HDF := Aside0.mk hdef
      clear hcn0 hok hdef hy1
      go_cut [45] (fun v45 wc => v45 = .bool (!okCls l0_0 kk y) ∧ Aside0 (Below w.heap.size w wc) ∧ Aside0 (wc.heap[w.heap.size]? = some (.cells #[.slice (some ad) l0_0.length c0_0] 31 (0, 0))))
      case first =>
        have hw1 : IntKind.i64.wrap ((kk : Int) - 1) = (kk : Int) - 1 := by rw [IntKind.wrap_i64]; omega
        have A2 := Aside0.mk (show impl_within.f y.f1 0 ((kk : Int) - 1) = some (decide (0 ≤ y.f1) && decide (y.f1 ≤ (kk : Int) - 1)) by
          unfold impl_within.f
          by_cases h0 : 0 ≤ y.f1
          · rw [if_pos h0]; simp [h0]
          · rw [if_neg h0]; simp [h0])
        cases hb1 : okName y.f0 with
        | false =>
          rw [hb1] at A1
          have BV : okCls l0_0 kk y = false := by rw [HDF.out, hb1]; rfl
          clear HDF HOK
          go_wp2_with (first
          | (go_at_call 131; (with_reducible refine (impl_nameOk.calls _ y.f0 _ _ A1.out).mono ?_); rintro e w' ⟨rfl, hd⟩; have hb := drawn_below hd; replace hW3 := pw_cell_below hb hW3; replace hW4 := pw_cell_below hb hW4; replace hW5 := pw_cell_below hb hW5; replace hW1 := Aside0.mk (below_step hW1.out hb); replace hW2 := Aside0.mk (blk_keptB hW2.out hb); clear hb hd)
          | (go_at_call 125; (with_reducible refine (HCN.out _ hW1.out).mono ?_); rintro e w' ⟨rfl, hb⟩; replace hW3 := pw_cell_below hb hW3; replace hW4 := pw_cell_below hb hW4; replace hW5 := pw_cell_below hb hW5; replace hW1 := Aside0.mk (below_step hW1.out hb); replace hW2 := Aside0.mk (blk_keptB hW2.out hb); clear hb)
          | (go_at_call 82; (with_reducible refine (impl_within.calls y.f1 0 ((kk : Int) - 1) _ _ A2.out).mono ?_); rintro e w' ⟨rfl, hd⟩; have hb := drawn_below hd; replace hW3 := pw_cell_below hb hW3; replace hW4 := pw_cell_below hb hW4; replace hW5 := pw_cell_below hb hW5; replace hW1 := Aside0.mk (below_step hW1.out hb); replace hW2 := Aside0.mk (blk_keptB hW2.out hb); clear hb hd))
          go_meet
          case rel => exact ⟨by (rw [BV]); first | rfl | (simp [*]; done), ⟨hW1.out⟩, ⟨hW2.out⟩⟩
        | true =>
          rw [hb1] at A1
          by_cases hb2 : nn ≠ (kk : Int)
          · have BV : okCls l0_0 kk y = false := by rw [HDF.out, hb1, decide_eq_false hb2]; rfl
            have d2 : (nn != (kk : Int)) = true := bne_iff_ne.2 hb2
            have d2' : (nn == (kk : Int)) = false := beq_eq_false_iff_ne.2 hb2
            clear HDF HOK hb2
            go_wp2_with (first
          | (go_at_call 131; (with_reducible refine (impl_nameOk.calls _ y.f0 _ _ A1.out).mono ?_); rintro e w' ⟨rfl, hd⟩; have hb := drawn_below hd; replace hW3 := pw_cell_below hb hW3; replace hW4 := pw_cell_below hb hW4; replace hW5 := pw_cell_below hb hW5; replace hW1 := Aside0.mk (below_step hW1.out hb); replace hW2 := Aside0.mk (blk_keptB hW2.out hb); clear hb hd)
          | (go_at_call 125; (with_reducible refine (HCN.out _ hW1.out).mono ?_); rintro e w' ⟨rfl, hb⟩; replace hW3 := pw_cell_below hb hW3; replace hW4 := pw_cell_below hb hW4; replace hW5 := pw_cell_below hb hW5; replace hW1 := Aside0.mk (below_step hW1.out hb); replace hW2 := Aside0.mk (blk_keptB hW2.out hb); clear hb)
          | (go_at_call 82; (with_reducible refine (impl_within.calls y.f1 0 ((kk : Int) - 1) _ _ A2.out).mono ?_); rintro e w' ⟨rfl, hd⟩; have hb := drawn_below hd; replace hW3 := pw_cell_below hb hW3; replace hW4 := pw_cell_below hb hW4; replace hW5 := pw_cell_below hb hW5; replace hW1 := Aside0.mk (below_step hW1.out hb); replace hW2 := Aside0.mk (blk_keptB hW2.out hb); clear hb hd))
            go_meet
            case rel => exact ⟨by (rw [BV]); first | rfl | (simp [*]; done), ⟨hW1.out⟩, ⟨hW2.out⟩⟩
          · have hnm : nn = (kk : Int) := Classical.byContradiction fun hn => hb2 hn
            have d2 : (nn != (kk : Int)) = false := bne_eq_false_iff_eq.2 hnm
            have d2' : (nn == (kk : Int)) = true := beq_iff_eq.2 hnm
            have BV0 : okCls l0_0 kk y = (if kk = 0 then decide (y.f1 = -1) else decide (0 ≤ y.f1) && decide (y.f1 ≤ (kk : Int) - 1)) := by rw [HDF.out, hb1, decide_eq_true hnm]; rfl
            clear HDF HOK hb2 hnm
            by_cases hk0 : kk = 0
            · have BV : okCls l0_0 kk y = decide (y.f1 = -1) := by rw [BV0, if_pos hk0]
              have e0 : ((kk : Int) == 0) = true := beq_iff_eq.2 (by omega)
              have e1 : decide (0 < (kk : Int)) = false := decide_eq_false (by omega)
              have e1n : decide (0 < kk) = false := decide_eq_false (by omega)
              clear BV0
              by_cases hp : y.f1 = -1
              · have e2 : (y.f1 != -1) = false := by rw [hp]; rfl
                have e3 : (y.f1 == -1) = true := by rw [hp]; rfl
                rw [decide_eq_true hp] at BV
                clear hp hk0
                go_wp2_with (first
          | (go_at_call 131; (with_reducible refine (impl_nameOk.calls _ y.f0 _ _ A1.out).mono ?_); rintro e w' ⟨rfl, hd⟩; have hb := drawn_below hd; replace hW3 := pw_cell_below hb hW3; replace hW4 := pw_cell_below hb hW4; replace hW5 := pw_cell_below hb hW5; replace hW1 := Aside0.mk (below_step hW1.out hb); replace hW2 := Aside0.mk (blk_keptB hW2.out hb); clear hb hd)
          | (go_at_call 125; (with_reducible refine (HCN.out _ hW1.out).mono ?_); rintro e w' ⟨rfl, hb⟩; replace hW3 := pw_cell_below hb hW3; replace hW4 := pw_cell_below hb hW4; replace hW5 := pw_cell_below hb hW5; replace hW1 := Aside0.mk (below_step hW1.out hb); replace hW2 := Aside0.mk (blk_keptB hW2.out hb); clear hb)
          | (go_at_call 82; (with_reducible refine (impl_within.calls y.f1 0 ((kk : Int) - 1) _ _ A2.out).mono ?_); rintro e w' ⟨rfl, hd⟩; have hb := drawn_below hd; replace hW3 := pw_cell_below hb hW3; replace hW4 := pw_cell_below hb hW4; replace hW5 := pw_cell_below hb hW5; replace hW1 := Aside0.mk (below_step hW1.out hb); replace hW2 := Aside0.mk (blk_keptB hW2.out hb); clear hb hd))
                go_meet
                case rel => exact ⟨by (rw [BV]); first | rfl | (simp [*]; done), ⟨hW1.out⟩, ⟨hW2.out⟩⟩
              · have e2 : (y.f1 != -1) = true := bne_iff_ne.2 hp
                have e3 : (y.f1 == -1) = false := beq_eq_false_iff_ne.2 hp
                rw [decide_eq_false hp] at BV
                clear hp hk0
                go_wp2_with (first
          | (go_at_call 131; (with_reducible refine (impl_nameOk.calls _ y.f0 _ _ A1.out).mono ?_); rintro e w' ⟨rfl, hd⟩; have hb := drawn_below hd; replace hW3 := pw_cell_below hb hW3; replace hW4 := pw_cell_below hb hW4; replace hW5 := pw_cell_below hb hW5; replace hW1 := Aside0.mk (below_step hW1.out hb); replace hW2 := Aside0.mk (blk_keptB hW2.out hb); clear hb hd)
          | (go_at_call 125; (with_reducible refine (HCN.out _ hW1.out).mono ?_); rintro e w' ⟨rfl, hb⟩; replace hW3 := pw_cell_below hb hW3; replace hW4 := pw_cell_below hb hW4; replace hW5 := pw_cell_below hb hW5; replace hW1 := Aside0.mk (below_step hW1.out hb); replace hW2 := Aside0.mk (blk_keptB hW2.out hb); clear hb)
          | (go_at_call 82; (with_reducible refine (impl_within.calls y.f1 0 ((kk : Int) - 1) _ _ A2.out).mono ?_); rintro e w' ⟨rfl, hd⟩; have hb := drawn_below hd; replace hW3 := pw_cell_below hb hW3; replace hW4 := pw_cell_below hb hW4; replace hW5 := pw_cell_below hb hW5; replace hW1 := Aside0.mk (below_step hW1.out hb); replace hW2 := Aside0.mk (blk_keptB hW2.out hb); clear hb hd))
                go_meet
                case rel => exact ⟨by (rw [BV]); first | rfl | (simp [*]; done), ⟨hW1.out⟩, ⟨hW2.out⟩⟩
            · have BV : okCls l0_0 kk y = (decide (0 ≤ y.f1) && decide (y.f1 ≤ (kk : Int) - 1)) := by rw [BV0, if_neg hk0]
              have e0 : ((kk : Int) == 0) = false := beq_eq_false_iff_ne.2 (by omega)
              have e1 : decide (0 < (kk : Int)) = true := decide_eq_true (by omega)
              have e1n : decide (0 < kk) = true := decide_eq_true (by omega)
              rw [← BV] at A2
              clear BV BV0 hk0
              cases BV : okCls l0_0 kk y with
              | false =>
                rw [BV] at A2
                go_wp2_with (first
          | (go_at_call 131; (with_reducible refine (impl_nameOk.calls _ y.f0 _ _ A1.out).mono ?_); rintro e w' ⟨rfl, hd⟩; have hb := drawn_below hd; replace hW3 := pw_cell_below hb hW3; replace hW4 := pw_cell_below hb hW4; replace hW5 := pw_cell_below hb hW5; replace hW1 := Aside0.mk (below_step hW1.out hb); replace hW2 := Aside0.mk (blk_keptB hW2.out hb); clear hb hd)
          | (go_at_call 125; (with_reducible refine (HCN.out _ hW1.out).mono ?_); rintro e w' ⟨rfl, hb⟩; replace hW3 := pw_cell_below hb hW3; replace hW4 := pw_cell_below hb hW4; replace hW5 := pw_cell_below hb hW5; replace hW1 := Aside0.mk (below_step hW1.out hb); replace hW2 := Aside0.mk (blk_keptB hW2.out hb); clear hb)
          | (go_at_call 82; (with_reducible refine (impl_within.calls y.f1 0 ((kk : Int) - 1) _ _ A2.out).mono ?_); rintro e w' ⟨rfl, hd⟩; have hb := drawn_below hd; replace hW3 := pw_cell_below hb hW3; replace hW4 := pw_cell_below hb hW4; replace hW5 := pw_cell_below hb hW5; replace hW1 := Aside0.mk (below_step hW1.out hb); replace hW2 := Aside0.mk (blk_keptB hW2.out hb); clear hb hd))
                go_meet
                case rel => exact ⟨by (rw [BV]); first | rfl | (simp [*]; done), ⟨hW1.out⟩, ⟨hW2.out⟩⟩
              | true =>
                rw [BV] at A2
                go_wp2_with (first
          | (go_at_call 131; (with_reducible refine (impl_nameOk.calls _ y.f0 _ _ A1.out).mono ?_); rintro e w' ⟨rfl, hd⟩; have hb := drawn_below hd; replace hW3 := pw_cell_below hb hW3; replace hW4 := pw_cell_below hb hW4; replace hW5 := pw_cell_below hb hW5; replace hW1 := Aside0.mk (below_step hW1.out hb); replace hW2 := Aside0.mk (blk_keptB hW2.out hb); clear hb hd)
          | (go_at_call 125; (with_reducible refine (HCN.out _ hW1.out).mono ?_); rintro e w' ⟨rfl, hb⟩; replace hW3 := pw_cell_below hb hW3; replace hW4 := pw_cell_below hb hW4; replace hW5 := pw_cell_below hb hW5; replace hW1 := Aside0.mk (below_step hW1.out hb); replace hW2 := Aside0.mk (blk_keptB hW2.out hb); clear hb)
          | (go_at_call 82; (with_reducible refine (impl_within.calls y.f1 0 ((kk : Int) - 1) _ _ A2.out).mono ?_); rintro e w' ⟨rfl, hd⟩; have hb := drawn_below hd; replace hW3 := pw_cell_below hb hW3; replace hW4 := pw_cell_below hb hW4; replace hW5 := pw_cell_below hb hW5; replace hW1 := Aside0.mk (below_step hW1.out hb); replace hW2 := Aside0.mk (blk_keptB hW2.out hb); clear hb hd))
                go_meet
                case rel => exact ⟨by (rw [BV]); first | rfl | (simp [*]; done), ⟨hW1.out⟩, ⟨hW2.out⟩⟩
      case rest =>
        obtain ⟨rfl, hW, hK⟩ := hcut
        have hb := HOK.out
        cases BV : okCls l0_0 kk y with
        | false =>
          go_wp2
          go_ret
          refine ⟨?_, hW.out⟩
          rw [← HRr.out]
          have : vT l0_0 = false := by
            cases hv : vT l0_0 with
            | false => rfl
            | true => have := vT_at hv kk hlt; rw [HOK.out, BV] at this; cases this
          rw [this]; rfl
        | true =>
          go_wp2
          go_roundg (l0_0.length - (kk + 1))
          case measure => omega
          case rel =>
            refine ⟨kk + 1, by omega, by omega, by go_num, ⟨hW.out⟩, ⟨hK.out⟩, ⟨fun j hj => ?_⟩⟩
            by_cases e : j = kk
            · subst e; rw [HOK.out, BV]
            · exact HA.out j (by omega)
    · have hltz : ¬ (kk : Int) < (l0_0.length : Int) := by omega
      have : kk = l0_0.length := by omega
      subst this
      have A3 := Aside0.mk (show impl_within.f (l0_0.length : Int) 1 8 = some (vT l0_0) by
        have hall : (List.range l0_0.length).all (fun i => okCls l0_0 i (l0_0.getD i z142)) = true := by
          rw [List.all_eq_true]; intro i hi; exact HA.out i (by simpa using hi)
        unfold impl_within.f vT
        rw [hall]
        by_cases h1 : (1 : Int) ≤ l0_0.length
        · rw [if_pos h1]
          have h1' : 1 ≤ l0_0.length := by omega
          by_cases h8 : l0_0.length ≤ 8
          · simp [h1', h8]; omega
          · simp [h8]; omega
        · rw [if_neg h1]
          have h1' : ¬ 1 ≤ l0_0.length := by omega
          simp [h1'])
      rw [HRr.out] at A3
      go_wp2_with (go_at_call 82; (with_reducible refine (impl_within.calls (l0_0.length : Int) 1 8 _ _ A3.out).mono ?_); rintro e w' ⟨rfl, ⟨nd, rfl⟩⟩)
      go_ret
      exact ⟨rfl, pw_below_drewN BW.out _⟩
end Go.Proofs.Ytgajfpebfnlipaa.P
namespace Go.Proofs.Ytgajfpebfnlipaa.P
open Go.RowKit Go.Proofs.YtgajfpebfnlipaaW.PrintWords Go.Proofs.YtgajfpebfnlipaaW.PrintLast Go.Proofs.YtgajfpebfnlipaaW.PrintMore
attribute [local go_sem] max2_int min2_int max_two min_two max_three min_three max_four min_four   -- for this text's walks alone
set_option linter.unusedVariables false
set_option linter.unusedSimpArgs false
/-! ### slices_IndexFunc_int: function 161 -/
set_option maxHeartbeats 2000000 in
theorem slices_IndexFunc_int.callsF (A : Option Addr) (c : Nat) (l : List Int) (g : Nat) (lb : Array Value) (p : Int → Bool) (w : World) (eg : ∀ args w, (callFunc g args).run Try.prog w = .ok (.enter g args) w)
    (hr : Kd.C (Kd.int .i64) w A l.length l) (hc : l.length ≤ c) (hp : ∀ x, x ∈ l → ∀ W, Below w.heap.size w W → Calls Try.prog g (#[.int .i64 x] ++ lb) W fun e w' => e = .returned (.bool (p x)) ∧ Below W.heap.size W w') :
    Calls Try.prog 161 #[.slice A l.length c, .func (.func g) #[] lb] w fun e w' => e = .returned (.int .i64 (idxP p l)) ∧ Below w.heap.size w w' := by
  have HR := Aside0.mk hr
  have HP := Aside0.mk hp
  have hmax : l.length ≤ 9223372036854775807 := hr.2.1
  clear hr hp hc
  go_enter Try.func161, Try.ntmps161
  go_wp2
  go_loopg [5, 8] l.length (fun gg _ s8 wr => ∃ kk : Nat, kk ≤ l.length ∧ l.length - kk ≤ gg ∧ s8 = .int .i64 kk ∧ Aside0 (Below w.heap.size w wr) ∧ Aside0 (∀ j (hj : j < l.length), j < kk → p l[j] = false))
  case atStart => exact ⟨0, Nat.zero_le _, by omega, rfl, ⟨Below.refl _ w⟩, ⟨fun j _ hj => absurd hj (Nat.not_lt_zero _)⟩⟩
  case round =>
    obtain ⟨kk, hkk, hg, rfl, BW, HA⟩ := hrel
    by_cases hlt : kk < l.length
    · have hltz : (kk : Int) < (l.length : Int) := by omega
      obtain ⟨ad, ea, hx0⟩ := Kd.at_int HR.out (kk : Int) (by omega) (by omega)
      cases ea
      have hrd : rd l (kk : Int) = l[kk] := by simp [rd, hlt]
      rw [hrd] at hx0
      rw [Int.toNat_natCast] at hx0
      replace hx0 := (BW.out.cell (World.block_lt_of_cell? w _ hx0)).trans hx0
      have hcall := HP.out l[kk] (List.getElem_mem hlt) wr BW.out
      clear hrd
      generalize hy : l[kk] = y at hx0 hcall
      have B := Aside0.mk hy
      clear hy
      cases hq : p y with
      | true =>
        rw [hq] at hcall
        go_wp2_with (go_at_fn g; refine hcall.mono ?_; rintro e w' ⟨rfl, hb'⟩)
        go_ret
        refine ⟨?_, below_step BW.out hb'⟩
        rw [idxP_hit p l kk hlt (by rw [B.out]; exact hq) HA.out]; rfl
      | false =>
        rw [hq] at hcall
        go_wp2_with (go_at_fn g; refine hcall.mono ?_; rintro e w' ⟨rfl, hb'⟩)
        go_roundg (l.length - (kk + 1))
        case measure => omega
        case rel =>
          refine ⟨kk + 1, by omega, by omega, by go_num, ⟨below_step BW.out hb'⟩, ⟨fun j hj hjk => ?_⟩⟩
          by_cases e : j = kk
          · subst e
            rw [B.out]; exact hq
          · exact HA.out j hj (by omega)
    · have hltz : ¬ (kk : Int) < (l.length : Int) := by omega
      have : kk = l.length := by omega
      subst this
      go_wp2
      go_ret
      refine ⟨?_, BW.out⟩
      rw [idxP_miss p l (fun j hj => HA.out j hj hj)]; rfl
end Go.Proofs.Ytgajfpebfnlipaa.P
namespace Go.Proofs.Ytgajfpebfnlipaa.P
open Go.RowKit Go.Proofs.YtgajfpebfnlipaaW.PrintWords Go.Proofs.YtgajfpebfnlipaaW.PrintLast Go.Proofs.YtgajfpebfnlipaaW.PrintMore
attribute [local go_sem] max2_int min2_int max_two min_two max_three min_three max_four min_four   -- for this text's walks alone
set_option linter.unusedVariables false
set_option linter.unusedSimpArgs false
/-! ### slices_ContainsFunc_int: function 116 -/
set_option maxHeartbeats 2000000 in
theorem slices_ContainsFunc_int.callsF (A : Option Addr) (c : Nat) (l : List Int) (g : Nat) (lb : Array Value) (p : Int → Bool) (w : World) (eg : ∀ args w, (callFunc g args).run Try.prog w = .ok (.enter g args) w)
    (hr : Kd.C (Kd.int .i64) w A l.length l) (hc : l.length ≤ c) (hp : ∀ x, x ∈ l → ∀ W, Below w.heap.size w W → Calls Try.prog g (#[.int .i64 x] ++ lb) W fun e w' => e = .returned (.bool (p x)) ∧ Below W.heap.size W w') :
    Calls Try.prog 116 #[.slice A l.length c, .func (.func g) #[] lb] w fun e w' => e = .returned (.bool (l.any p)) ∧ Below w.heap.size w w' := by
  have hcon := slices_IndexFunc_int.callsF A c l g lb p w eg hr hc hp
  rw [← idxP_nonneg]
  clear eg hr hc hp
  generalize idxP p l = r at hcon ⊢
  go_enter Try.func116, Try.ntmps116
  go_wp2_with (go_at_call 161; refine hcon.mono ?_; rintro e w' ⟨rfl, hb'⟩)
  go_ret
  exact ⟨rfl, hb'⟩
end Go.Proofs.Ytgajfpebfnlipaa.P
namespace Go.Proofs.Ytgajfpebfnlipaa.P
open Go.RowKit Go.Proofs.YtgajfpebfnlipaaW.PrintWords Go.Proofs.YtgajfpebfnlipaaW.PrintLast Go.Proofs.YtgajfpebfnlipaaW.PrintMore
attribute [local go_sem] max2_int min2_int max_two min_two max_three min_three max_four min_four   -- for this text's walks alone
set_option linter.unusedVariables false
set_option linter.unusedSimpArgs false
/-! ### impl_Tree_has: function 83 -/
def impl_Tree_has.f (l0_0 : List (S142)) (a1 : Int) : Option (Bool) := (impl_within.f a1 0 (wrap64 ((l0_0.length : Int) - 1))).bind fun t2 => (some t2)
set_option maxHeartbeats 8000000 in
set_option maxRecDepth 100000 in
theorem impl_Tree_has.calls (A0_0 : Option Addr) (c0_0 : Nat) (l0_0 : List (S142)) (a1 : Int) (r : Bool) (w : World) (hr0_0 : Kd.C k142 w A0_0 l0_0.length l0_0) (hc0_0 : l0_0.length ≤ c0_0) (h : impl_Tree_has.f l0_0 a1 = some r) :
    Calls Try.prog 83 #[.agg #[.slice A0_0 l0_0.length c0_0], .int .i64 a1] w fun e w' => e = .returned (.bool r) ∧ Below w.heap.size w w' := by
  have hu31 := Try.underlying31
  have HR0_0 := Aside0.mk hr0_0
  have HC0_0 := Aside0.mk hc0_0
  clear hr0_0 hc0_0
  have HB := Aside0.mk (Below.refl w.heap.size w)
  have H : ((impl_within.f a1 0 (wrap64 ((l0_0.length : Int) - 1))).bind fun t2 => (some t2)) = some r := h
  clear h
  replace H := Option.bind_eq_some_iff.mp H
  obtain ⟨t2, A30, H⟩ := H
  replace H : (some t2) = some r := H
  have A3 := Aside0.mk A30
  clear A30
  obtain rfl := Option.some.inj H
  go_enter Try.func83, Try.ntmps83
  go_wp2_with (first | ((with_reducible refine gate_dst (N := 2) rfl ?_); refine box_event ?hg (N := 2) ?hd (cs := #[.slice A0_0 l0_0.length c0_0]) (t := 31) ?hr ?_; (case hd => rfl); (case hg => rfl); (case hr => first | (go_simp; done) | (go_simp; rfl)); intro gb1 hg w4 hbox hb; have n0_ := Aside0.mk (below_step (by repeat (first | (with_reducible first | exact HB.out | apply below_alloc | apply pw_below_drewN | apply below_drew1) | exact HB.out)) hb); have n1_ := Aside0.mk (hbox); have n2_ := Aside0.mk ((by rw [hg]; exact (below_size (by repeat (first | (with_reducible first | exact HB.out | apply below_alloc | apply pw_below_drewN | apply below_drew1) | exact HB.out))) : w.heap.size ≤ gb1)); have n3_ := Aside0.mk ((by rw [hg]; exact (below_size (by repeat (first | (with_reducible first | exact HB.out | apply below_alloc | apply pw_below_drewN | apply below_drew1) | exact HB.out))) : w.heap.size ≤ gb1)); clear HB; have HB := n0_; have BK1 := n1_; have GW1 := n2_; have GE1 := n3_; clear n0_ n1_ n2_ n3_; clear hb hbox hg; have hcz5_0 : w4.cell? ⟨gb1, 0, none⟩ = some (.slice A0_0 l0_0.length c0_0) := (blk_cell BK1.out 0).trans rfl; have hfz5_0 := blk_frozen BK1.out 0) | ((with_reducible refine gate_callee (f := 82) rfl ?_); refine goesL_ (some 10) rfl rfl Try.func82 (by kernel_rfl) rfl #[.int .i64 a1, .int .i64 0, .int .i64 (wrap64 ((l0_0.length : Int) - 1))] rfl (by (try simp only [List.map_toArray, List.map_cons, List.map_nil]); first | done | rfl | (simp only [List.length_drop, List.length_take]; rfl)) ?_; (with_reducible refine (impl_within.calls a1 0 (wrap64 ((l0_0.length : Int) - 1)) t2 _ A3.out).mono ?_); rintro e w' ⟨rfl, ⟨nd, rfl⟩⟩; refine ⟨_, rfl, ?_⟩))
  go_ret
  exact ⟨by first | rfl | (simp [errW_none, errW_some] <;> rfl) | (simp [*, errW_none, errW_some] <;> rfl), by repeat (first | (with_reducible first | exact HB.out | apply below_alloc | apply pw_below_drewN | apply below_drew1 | refine below_set ?_ GE1.out) | exact HB.out)⟩
theorem impl_Tree_has_ev (t : List Cls) (a : Int) (hl : t.length ≤ 9223372036854775807) : impl_Tree_has.f t a = some (hasC t a) := by
  unfold impl_Tree_has.f impl_within.f hasC
  rw [wrap_pred (by omega) (by omega)]
  by_cases h0 : a ≥ 0
  · rw [if_pos h0]
    have h0' : 0 ≤ a := h0
    simp only [Option.bind_some, Option.some.injEq, decide_eq_true h0', Bool.true_and]
    by_cases h1 : a < (t.length : Int)
    · rw [decide_eq_true h1, decide_eq_true (by omega)]
    · rw [decide_eq_false h1, decide_eq_false (by omega)]
  · rw [if_neg h0]
    have h0' : ¬ 0 ≤ a := h0
    simp [decide_eq_false h0']
end Go.Proofs.Ytgajfpebfnlipaa.P
namespace Go.Proofs.Ytgajfpebfnlipaa.P
open Go.RowKit Go.Proofs.YtgajfpebfnlipaaW.PrintWords Go.Proofs.YtgajfpebfnlipaaW.PrintLast Go.Proofs.YtgajfpebfnlipaaW.PrintMore
attribute [local go_sem] max2_int min2_int max_two min_two max_three min_three max_four min_four   -- for this text's walks alone
set_option linter.unusedVariables false
set_option linter.unusedSimpArgs false
/-! ### impl_classesIn_1: function 144 -/
theorem impl_classesIn_1.callsF (B : Nat) (A : Option Addr) (c : Nat) (t : List Cls) (a : Int) (w : World) (hB : w.heap[B]? = some (.cells #[.slice A t.length c] 31 (0, 0))) (hr : Kd.C k142 w A t.length t) (hc : t.length ≤ c) :
    Calls Try.prog 144 #[.int .i64 a, .pointer (some ⟨B, 0, none⟩)] w fun e w' => e = .returned (.bool (!hasC t a)) ∧ Below w.heap.size w w' := by
  have hu31 := Try.underlying31
  have hcell : w.cell? ⟨B, 0, none⟩ = some (.slice A t.length c) := (blk_cell hB 0).trans rfl
  have hcon := impl_Tree_has.calls A c t a (hasC t a) w hr hc (impl_Tree_has_ev t a hr.2.1)
  clear hB hr
  generalize hasC t a = b at hcon ⊢
  go_enter Try.func144, Try.ntmps144
  go_wp2_with (go_at_call 83; refine hcon.mono ?_; rintro e w' ⟨rfl, hb'⟩)
  go_ret
  exact ⟨rfl, hb'⟩
end Go.Proofs.Ytgajfpebfnlipaa.P
namespace Go.Proofs.Ytgajfpebfnlipaa.P
open Go.RowKit Go.Proofs.YtgajfpebfnlipaaW.PrintWords Go.Proofs.YtgajfpebfnlipaaW.PrintLast Go.Proofs.YtgajfpebfnlipaaW.PrintMore
attribute [local go_sem] max2_int min2_int max_two min_two max_three min_three max_four min_four   -- for this text's walks alone
set_option linter.unusedVariables false
set_option linter.unusedSimpArgs false
/-! ### impl_classesIn: function 80 -/
def impl_classesIn.f (l0_0 : List Cls) (l1 : List Int) : Option Bool := if smT l0_0 = true then some (vT l0_0 && l1.all (hasC l0_0)) else none
set_option maxHeartbeats 2000000 in
theorem impl_classesIn.calls (A0_0 : Option Addr) (c0_0 : Nat) (l0_0 : List (S142)) (A1 : Option Addr) (c1 : Nat) (l1 : List Int) (r : Bool) (w : World) (hr0_0 : Kd.C k142 w A0_0 l0_0.length l0_0) (hc0_0 : l0_0.length ≤ c0_0) (hr1 : Kd.C (Kd.int .i64) w A1 l1.length l1) (hc1 : l1.length ≤ c1) (h : impl_classesIn.f l0_0 l1 = some r) :
    Calls Try.prog 80 #[.agg #[.slice A0_0 l0_0.length c0_0], .slice A1 l1.length c1] w fun e w' => e = .returned (.bool r) ∧ Below w.heap.size w w' := by
  have hu31 := Try.underlying31
  have hsm : smT l0_0 = true := by
    apply Classical.byContradiction
    intro hn
    rw [impl_classesIn.f, if_neg hn] at h
    cases h
  rw [impl_classesIn.f, if_pos hsm] at h
  obtain rfl := Option.some.inj h
  have HV := Aside0.mk (fun (W : World) (hb : Below w.heap.size w W) => impl_ValidTree.calls A0_0 c0_0 l0_0 (vT l0_0) W (Kd.C_below hr0_0 hb) hc0_0 (by rw [impl_ValidTree.f, if_pos hsm]))
  have eg : ∀ args w, (callFunc 144 args).run Try.prog w = .ok (.enter 144 args) w := enters_of Try.func144 (by kernel_rfl) rfl
  have HC := Aside0.mk (fun (W : World) (hb : Below w.heap.size w W) (hB : W.heap[w.heap.size]? = some (.cells #[.slice A0_0 l0_0.length c0_0] 31 (0, 0))) => slices_ContainsFunc_int.callsF A1 c1 l1 144 #[.pointer (some ⟨w.heap.size, 0, none⟩)] (fun a => !hasC l0_0 a) W eg (Kd.C_below hr1 hb) hc1 (fun x _ W' hW => impl_classesIn_1.callsF w.heap.size A0_0 c0_0 l0_0 x W' (blk_keptB hB hW) (Kd.C_below (Kd.C_below hr0_0 hb) hW) hc0_0))
  have hall : l1.all (hasC l0_0) = !(l1.any fun a => !hasC l0_0 a) := by
    rw [List.not_any_eq_all_not]; simp
  rw [hall]
  clear hall h hr0_0 hr1 hsm eg
  generalize (l1.any fun a => !hasC l0_0 a) = b2 at HC ⊢
  generalize vT l0_0 = b1 at HV ⊢
  have hcell := (blk_cell (heap_new1 w (.cells #[.slice A0_0 l0_0.length c0_0] 31)) 0).trans rfl
  cases b1 with
  | false =>
    go_enter Try.func80, Try.ntmps80
    go_wp2_with (go_at_call 63; refine (HV.out _ (below1 w _)).mono ?_; rintro e w' ⟨rfl, hb'⟩)
    go_ret
    exact ⟨rfl, (below1 w _).trans (hb'.mono (by simp))⟩
  | true =>
    go_enter Try.func80, Try.ntmps80
    go_wp2_with (first
      | (go_at_call 63; refine (HV.out _ (below1 w _)).mono ?_; rintro e w1 ⟨rfl, hb1⟩)
      | (go_at_call 116; refine (HC.out _ ((below1 w _).trans (hb1.mono (by simp))) (blk_keptB (heap_new1 w _) hb1)).mono ?_; rintro e w2 ⟨rfl, hb2⟩))
    go_ret
    exact ⟨rfl, below_step ((below1 w _).trans (hb1.mono (by simp))) hb2⟩
end Go.Proofs.Ytgajfpebfnlipaa.P
namespace Go.Proofs.Ytgajfpebfnlipaa.P
open Go.RowKit Go.Proofs.YtgajfpebfnlipaaW.PrintWords Go.Proofs.YtgajfpebfnlipaaW.PrintLast Go.Proofs.YtgajfpebfnlipaaW.PrintMore
attribute [local go_sem] max2_int min2_int max_two min_two max_three min_three max_four min_four   -- for this text's walks alone
set_option linter.unusedVariables false
set_option linter.unusedSimpArgs false
/-! ### impl_catchesOk: function 101 -/
def impl_catchesOk.f (l0_0 : List (S142)) (l1 : List Int) : Option (Bool) := if (l1.length : Int) ≤ 6 then ((impl_classesIn.f l0_0 l1).bind fun t2 => (some t2)) else (some false)
set_option maxHeartbeats 8000000 in
set_option maxRecDepth 100000 in
theorem impl_catchesOk.calls (A0_0 : Option Addr) (c0_0 : Nat) (l0_0 : List (S142)) (A1 : Option Addr) (c1 : Nat) (l1 : List Int) (r : Bool) (w : World) (hr0_0 : Kd.C k142 w A0_0 l0_0.length l0_0) (hc0_0 : l0_0.length ≤ c0_0) (hr1 : Kd.C (Kd.int .i64) w A1 l1.length l1) (hc1 : l1.length ≤ c1) (h : impl_catchesOk.f l0_0 l1 = some r) :
    Calls Try.prog 101 #[.agg #[.slice A0_0 l0_0.length c0_0], .slice A1 l1.length c1] w fun e w' => e = .returned (.bool r) ∧ Below w.heap.size w w' := by
  have hu31 := Try.underlying31
  have HR0_0 := Aside0.mk hr0_0
  have HC0_0 := Aside0.mk hc0_0
  clear hr0_0 hc0_0
  have HR1 := Aside0.mk hr1
  have HC1 := Aside0.mk hc1
  clear hr1 hc1
  have HB := Aside0.mk (Below.refl w.heap.size w)
  have H : (if (l1.length : Int) ≤ 6 then ((impl_classesIn.f l0_0 l1).bind fun t2 => (some t2)) else (some false)) = some r := h
  clear h
  by_cases c3 : (l1.length : Int) ≤ 6
  · rw [if_pos c3] at H
    have c3b0 : decide ((l1.length : Int) ≤ 6) = true := decide_eq_true c3
    have c3b1 : decide (l1.length ≤ 6) = true := decide_eq_true (by omega)
    clear c3
    replace H := Option.bind_eq_some_iff.mp H
    obtain ⟨t2, A40, H⟩ := H
    replace H : (some t2) = some r := H
    have A4 := Aside0.mk A40
    clear A40
    obtain rfl := Option.some.inj H
    go_enter Try.func101, Try.ntmps101
    go_wp2_with (first | ((with_reducible refine gate_dst (N := 2) rfl ?_); refine box_event ?hg (N := 2) ?hd (cs := #[.slice A0_0 l0_0.length c0_0]) (t := 31) ?hr ?_; (case hd => rfl); (case hg => rfl); (case hr => first | (go_simp; done) | (go_simp; rfl)); intro gb1 hg w5 hbox hb; have n0_ := Aside0.mk (below_step (by repeat (first | (with_reducible first | exact HB.out | apply below_alloc | apply pw_below_drewN | apply below_drew1) | exact HB.out)) hb); have n1_ := Aside0.mk (hbox); have n2_ := Aside0.mk ((by rw [hg]; exact (below_size (by repeat (first | (with_reducible first | exact HB.out | apply below_alloc | apply pw_below_drewN | apply below_drew1) | exact HB.out))) : w.heap.size ≤ gb1)); have n3_ := Aside0.mk ((by rw [hg]; exact (below_size (by repeat (first | (with_reducible first | exact HB.out | apply below_alloc | apply pw_below_drewN | apply below_drew1) | exact HB.out))) : w.heap.size ≤ gb1)); clear HB; have HB := n0_; have BK1 := n1_; have GW1 := n2_; have GE1 := n3_; clear n0_ n1_ n2_ n3_; clear hb hbox hg; have hcz6_0 : w5.cell? ⟨gb1, 0, none⟩ = some (.slice A0_0 l0_0.length c0_0) := (blk_cell BK1.out 0).trans rfl; have hfz6_0 := blk_frozen BK1.out 0) | (go_at_call 80; (with_reducible refine (impl_classesIn.calls _ _ l0_0 _ _ l1 t2 _ ?side1 ?side2 ?side3 ?side4 A4.out).mono ?_); (case side1 => repeat (first | exact (Kd.C_below HR0_0.out HB.out) | (with_reducible refine Kd.C_alloc ?_ _) | (with_reducible refine Kd.C_drewN ?_ _) | (with_reducible refine Kd.C_drew ?_))); (case side2 => exact HC0_0.out); (case side3 => repeat (first | exact (Kd.C_below HR1.out HB.out) | (with_reducible refine Kd.C_alloc ?_ _) | (with_reducible refine Kd.C_drewN ?_ _) | (with_reducible refine Kd.C_drew ?_))); (case side4 => exact HC1.out); rintro e w7 ⟨rfl, hb⟩; have n0_ := Aside0.mk (blk_below (g := gb1) (o := .cells #[.slice A0_0 l0_0.length c0_0] 31 (0, 0)) (by (with_reducible repeat (first | refine blk_drewN ?_ _ | refine blk_drew ?_ | refine blk_alloc ?_ _)); exact BK1.out) hb); have n1_ := Aside0.mk (below_step (by repeat (first | (with_reducible first | exact HB.out | apply below_alloc | apply pw_below_drewN | apply below_drew1 | refine below_set ?_ GE1.out) | exact HB.out)) hb); clear BK1; clear HB; have BK1 := n0_; have HB := n1_; clear n0_ n1_; (try clear hb); (try clear hb2); (try clear hk); (try clear hi)))
    go_ret
    exact ⟨by first | rfl | (simp [errW_none, errW_some] <;> rfl) | (simp [*, errW_none, errW_some] <;> rfl), by repeat (first | (with_reducible first | exact HB.out | apply below_alloc | apply pw_below_drewN | apply below_drew1 | refine below_set ?_ GE1.out) | exact HB.out)⟩
  · rw [if_neg c3] at H
    have c3b0 : decide ((l1.length : Int) ≤ 6) = false := decide_eq_false c3
    have c3b1 : decide (l1.length ≤ 6) = false := decide_eq_false (by omega)
    clear c3
    obtain rfl := Option.some.inj H
    go_enter Try.func101, Try.ntmps101
    go_wp2_with (first | ((with_reducible refine gate_dst (N := 2) rfl ?_); refine box_event ?hg (N := 2) ?hd (cs := #[.slice A0_0 l0_0.length c0_0]) (t := 31) ?hr ?_; (case hd => rfl); (case hg => rfl); (case hr => first | (go_simp; done) | (go_simp; rfl)); intro gb1 hg w8 hbox hb; have n0_ := Aside0.mk (below_step (by repeat (first | (with_reducible first | exact HB.out | apply below_alloc | apply pw_below_drewN | apply below_drew1) | exact HB.out)) hb); have n1_ := Aside0.mk (hbox); have n2_ := Aside0.mk ((by rw [hg]; exact (below_size (by repeat (first | (with_reducible first | exact HB.out | apply below_alloc | apply pw_below_drewN | apply below_drew1) | exact HB.out))) : w.heap.size ≤ gb1)); have n3_ := Aside0.mk ((by rw [hg]; exact (below_size (by repeat (first | (with_reducible first | exact HB.out | apply below_alloc | apply pw_below_drewN | apply below_drew1) | exact HB.out))) : w.heap.size ≤ gb1)); clear HB; have HB := n0_; have BK1 := n1_; have GW1 := n2_; have GE1 := n3_; clear n0_ n1_ n2_ n3_; clear hb hbox hg))
    go_ret
    exact ⟨by first | rfl | (simp [errW_none, errW_some] <;> rfl) | (simp [*, errW_none, errW_some] <;> rfl), by repeat (first | (with_reducible first | exact HB.out | apply below_alloc | apply pw_below_drewN | apply below_drew1 | refine below_set ?_ GE1.out) | exact HB.out)⟩
theorem impl_catchesOk_ev (t : List Cls) (l : List Int) (h : smT t = true) : impl_catchesOk.f t l = some (okCat t l) := by
  unfold impl_catchesOk.f impl_classesIn.f okCat
  rw [if_pos h]
  by_cases h6 : l.length ≤ 6
  · have h6' : (l.length : Int) ≤ 6 := by omega
    simp [h6, h6']
  · have h6' : ¬ (l.length : Int) ≤ 6 := by omega
    simp [h6, h6']
end Go.Proofs.Ytgajfpebfnlipaa.P
namespace Go.Proofs.Ytgajfpebfnlipaa.P
open Go.RowKit Go.Proofs.YtgajfpebfnlipaaW.PrintWords Go.Proofs.YtgajfpebfnlipaaW.PrintLast Go.Proofs.YtgajfpebfnlipaaW.PrintMore
attribute [local go_sem] max2_int min2_int max_two min_two max_three min_three max_four min_four   -- for this text's walks alone
set_option linter.unusedVariables false
set_option linter.unusedSimpArgs false
/-! ### impl_Tree_filter: function 102 -/
set_option maxHeartbeats 4000000 in
set_option maxRecDepth 100000 in
theorem impl_Tree_filter.callsF (A : Option Addr) (c : Nat) (t : List Cls) (g : Nat) (lb : Array Value) (p : Int → Bool) (w : World) (eg : ∀ args w, (callFunc g args).run Try.prog w = .ok (.enter g args) w)
    (hr : Kd.C k142 w A t.length t) (hc : t.length ≤ c) (hl : t.length ≤ 1000) (hp : ∀ (i : Nat), i < t.length → ∀ W, Below w.heap.size w W → Calls Try.prog g (#[.int .i64 (i : Int)] ++ lb) W fun e w' => e = .returned (.bool (p (i : Int))) ∧ Below W.heap.size W w') :
    Calls Try.prog 102 #[.agg #[.slice A t.length c], .func (.func g) #[] lb] w fun e w' => ∃ v : Value, e = .returned v ∧ Kd.R (Kd.int .i64) 3 w' w.heap.size (fun _ => True) v (fil t p) ∧ Below w.heap.size w w' := by
  have hu31 := Try.underlying31
  have HP := Aside0.mk hp
  clear hp hr
  have HB := Aside0.mk (below1 w (.cells #[.slice A t.length c] 31))
  go_enter Try.func102, Try.ntmps102
  go_upto_region 2 with ((with_reducible refine gate_dst (N := 10) rfl ?_); refine Kd.R_make0 (Kd.int .i64) _ 3 rfl (N := 10) rfl 56 _ _ rfl ((t.length : Nat) : Int) rfl rfl Try.underlying56 (.int .i64 0) 8 info3 rfl (by decide) (by omega) 0 (ok := fun _ => True) (okp := fun _ => True) rfl (fun _ hk => hk) trivial (by omega) (by simp; omega) HB.out (by simp) ?_; intro v1 w1 ho hb hg hat)
  have HB1 := Aside0.mk hb
  have BK1 := Aside0.mk (blk_keptB (heap_new1 w (.cells #[.slice A t.length c] 31)) (below_of_none hg))
  have HO := Aside0.mk ho
  clear hb hg hat ho HB
  have hcz : w1.cell? ⟨w.heap.size, 0, none⟩ = some (.slice A t.length c) := (blk_cell BK1.out 0).trans rfl
  go_wp2
  clear hcz
  go_loopg [5, 14] t.length (fun gg s5 s14 wr => ∃ kk : Nat, kk ≤ t.length ∧ t.length - kk ≤ gg ∧ s14 = .int .i64 kk ∧ Aside0 (Kd.R (Kd.int .i64) 3 wr w.heap.size (fun _ => True) s5 (((List.range kk).map (fun i : Nat => (i : Int))).filter p)) ∧ Aside0 (Below w.heap.size w wr))
  case atStart => exact ⟨0, Nat.zero_le _, by omega, rfl, HO, HB1⟩
  case round =>
    clear BK1 HB1 HO
    obtain ⟨kk, hkk, hg, rfl, HO, HB⟩ := hrel
    by_cases hlt : kk < t.length
    · have hltz : (kk : Int) < (t.length : Int) := by omega
      have hcall := HP.out kk hlt wr HB.out
      have hst := fil_step t p kk
      have hln := Aside0.mk (fil_len p kk)
      cases hq : p (kk : Int) with
      | true =>
        rw [hq] at hcall hst
        have HST := Aside0.mk hst
        clear hst
        go_wp2_with (first
          | (go_at_fn g; refine hcall.mono ?_; rintro e w2 ⟨rfl, hb2⟩; replace HO := Aside0.mk (Kd.R_below HO.out hb2); replace HB := Aside0.mk (below_step HB.out hb2); clear hb2)
          | ((with_reducible refine gate_builtin (b := .append) (xs := #[.tmp 20, .tmp 22]) rfl ?_); at_builtin; refine Kd.R_append (Kd.int .i64) (w0 := w) w.heap.size rfl (.tmp 20) (.tmp 22) 56 3 (.int .i64 0) 8 rfl Try.underlying56 info3 rfl (by decide) (by omega) u5 _ (kk : Int) [.int .i64 (kk : Int)] (fun _ => True) (fun _ => False) rfl rfl rfl (fun _ hk => hk.elim) (fun _ _ => trivial) HO.out HB.out (below_size HB.out) (by have := hln.out; omega) ?_; intro v3 w3 ho hb hg3 hat; replace HO := Aside0.mk ho; replace HB := Aside0.mk hb; clear ho hb hg3 hat))
        go_roundg (t.length - (kk + 1))
        case measure => omega
        case rel => exact ⟨kk + 1, by omega, by omega, by go_num, ⟨by rw [HST.out]; exact HO.out⟩, HB⟩
      | false =>
        rw [hq] at hcall hst
        have HST := Aside0.mk hst
        clear hst
        go_wp2_with (go_at_fn g; refine hcall.mono ?_; rintro e w2 ⟨rfl, hb2⟩; replace HO := Aside0.mk (Kd.R_below HO.out hb2); replace HB := Aside0.mk (below_step HB.out hb2); clear hb2)
        go_roundg (t.length - (kk + 1))
        case measure => omega
        case rel => exact ⟨kk + 1, by omega, by omega, by go_num, ⟨by rw [HST.out]; simpa using HO.out⟩, HB⟩
    · have hltz : ¬ (kk : Int) < (t.length : Int) := by omega
      have : kk = t.length := by omega
      subst this
      obtain ⟨Ao, co, eo⟩ := Kd.R_slice HO.out
      subst eo
      have hcap := (Kd.R_reads' HO.out).2.1
      go_wp2
      go_ret
      exact ⟨_, rfl, Kd.R_clip HO.out, HB.out⟩
end Go.Proofs.Ytgajfpebfnlipaa.P
namespace Go.Proofs.Ytgajfpebfnlipaa.P
open Go.RowKit Go.Proofs.YtgajfpebfnlipaaW.PrintWords Go.Proofs.YtgajfpebfnlipaaW.PrintLast Go.Proofs.YtgajfpebfnlipaaW.PrintMore
attribute [local go_sem] max2_int min2_int max_two min_two max_three min_three max_four min_four   -- for this text's walks alone
set_option linter.unusedVariables false
set_option linter.unusedSimpArgs false
/-! ### slices_Index_int: function 168 -/
def slices_Index_int.l0 : Nat → List Int → Int → Int → Int → Option (Int)
  | 0, _, _, _, _ => none
  | k + 1, x0, x1, x7, x8 => if x8 < x7 then (if 0 ≤ x8 then (if x8 < (x0.length : Int) then (if x1 = (rd x0 x8) then (some x8) else (slices_Index_int.l0 k x0 x1 x7 (wrap64 (x8 + 1)))) else (none)) else (none)) else (some (-1))
def slices_Index_int.f (k : Nat) (l0 : List Int) (a1 : Int) : Option (Int) := slices_Index_int.l0 k l0 a1 (l0.length : Int) 0
theorem slices_Index_int.mono_l : ∀ k, (∀ y0 y1 y2 y3, LeO (slices_Index_int.l0 k y0 y1 y2 y3) (slices_Index_int.l0 (k + 1) y0 y1 y2 y3))
  | 0 => fun _ _ _ _ r h => by simp [slices_Index_int.l0] at h
  | k + 1 => by
    have ih0 := slices_Index_int.mono_l k
    · intro y0 y1 y2 y3
      unfold slices_Index_int.l0
      repeat' first
      | (with_reducible exact ih0 _ _ _ _)
      | (with_reducible exact LeO.refl _)
      | (with_reducible exact LeO.none _)
      | (with_reducible refine LeO.ite ?_ ?_)
      | (with_reducible refine LeO.bind ?_ (fun _ => ?_))
      | exact ih0 _ _ _ _
      | exact LeO.none _
      | refine LeO.ite ?_ ?_
      | refine LeO.bind ?_ (fun _ => ?_)
theorem slices_Index_int.mono : ∀ a0 a1 k, LeO (slices_Index_int.f k a0 a1) (slices_Index_int.f (k + 1) a0 a1) := by
  intro a0 a1 k
  have ih0 := slices_Index_int.mono_l k
  unfold slices_Index_int.f
  repeat' first
      | (with_reducible exact ih0 _ _ _ _)
      | (with_reducible exact LeO.refl _)
      | (with_reducible exact LeO.none _)
      | (with_reducible refine LeO.ite ?_ ?_)
      | (with_reducible refine LeO.bind ?_ (fun _ => ?_))
      | exact ih0 _ _ _ _
      | exact LeO.none _
      | refine LeO.ite ?_ ?_
      | refine LeO.bind ?_ (fun _ => ?_)
set_option maxHeartbeats 8000000 in
set_option maxRecDepth 100000 in
theorem slices_Index_int.calls (k : Nat) (A0 : Option Addr) (c0 : Nat) (l0 : List Int) (a1 : Int) (r : Int) (w : World) (hr0 : Kd.C (Kd.int .i64) w A0 l0.length l0) (hc0 : l0.length ≤ c0) (h : slices_Index_int.f k l0 a1 = some r) :
    Calls Try.prog 168 #[.slice A0 l0.length c0, .int .i64 a1] w fun e w' => e = .returned (.int .i64 r) ∧ Drawn0 w w' := by
  have HR0 := Aside0.mk hr0
  have HC0 := Aside0.mk hc0
  clear hr0 hc0
  have H : (slices_Index_int.l0 k l0 a1 (l0.length : Int) 0) = some r := h
  clear h
  have H' := Aside0.mk H
  clear H
  go_enter Try.func168, Try.ntmps168
  go_wp2
  go_loopg [8] k (fun kq v8 w' => ∃ (x8_1 : Int), v8 = .int .i64 x8_1 ∧ Aside0 (slices_Index_int.l0 kq l0 a1 (l0.length : Int) x8_1 = some r) ∧ Aside0 (kq ≤ k) ∧ Drawn0 w w')
  case atStart => exact ⟨(0), (by first | rfl | (simp; done) | (simp [*]; done)), H', ⟨Nat.le_refl _⟩, by repeat (first | exact Drawn0.refl _ | apply Drawn0.step)⟩
  case round =>
    clear H'
    try clear c1
    try clear p2
    obtain ⟨x8_1, rfl, HA, HK1, ⟨m1, rfl⟩⟩ := hrel
    cases gk with
    | zero => exact absurd HA.out (by simp [slices_Index_int.l0])
    | succ k1 =>
      have H := HA.out
      clear HA
      simp only [slices_Index_int.l0] at H
      by_cases c3 : x8_1 < (l0.length : Int)
      · rw [if_pos c3] at H
        have c3b0 : decide (x8_1 < (l0.length : Int)) = true := decide_eq_true c3
        clear c3
        by_cases c4 : 0 ≤ x8_1
        · rw [if_pos c4] at H
          have c4b0 : decide (0 ≤ x8_1) = true := decide_eq_true c4
          clear c4
          by_cases c5 : x8_1 < (l0.length : Int)
          · rw [if_pos c5] at H
            have c5b0 : decide (x8_1 < (l0.length : Int)) = true := decide_eq_true c5
            clear c5
            by_cases c6 : a1 = (rd l0 x8_1)
            · rw [if_pos c6] at H
              have c6b0 : (a1 == (rd l0 x8_1)) = true := beq_iff_eq.mpr c6
              have c6b1 : (a1 != (rd l0 x8_1)) = false := bne_eq_false_iff_eq.mpr c6
              clear c6
              obtain rfl := Option.some.inj H
              have p1 : 0 ≤ (x8_1 : Int) := of_decide_eq_true (by first | (with_reducible assumption) | assumption)
              have q1 : x8_1 < (l0.length : Int) := of_decide_eq_true (by first | (with_reducible assumption) | assumption)
              obtain ⟨ad1, e1, hx1_0⟩ := Kd.at_int HR0.out x8_1 p1 q1
              cases e1
              replace p1 := eq_true p1
              replace q1 := eq_true q1
              go_wp2
              go_ret
              exact ⟨by first | rfl | (simp; done) | (simp [*]; done), by repeat (first | exact Drawn0.refl _ | apply Drawn0.step)⟩
            · rw [if_neg c6] at H
              have c6b0 : (a1 == (rd l0 x8_1)) = false := beq_eq_false_iff_ne.mpr c6
              have c6b1 : (a1 != (rd l0 x8_1)) = true := bne_iff_ne.mpr c6
              have H' := Aside0.mk H
              clear H
              have p1 : 0 ≤ (x8_1 : Int) := of_decide_eq_true (by first | (with_reducible assumption) | assumption)
              have q1 : x8_1 < (l0.length : Int) := of_decide_eq_true (by first | (with_reducible assumption) | assumption)
              obtain ⟨ad1, e1, hx1_0⟩ := Kd.at_int HR0.out x8_1 p1 q1
              cases e1
              replace p1 := eq_true p1
              replace q1 := eq_true q1
              go_wp2
              go_roundg k1
              case measure => have := HK1.out; omega
              case rel => exact ⟨(wrap64 (x8_1 + 1)), (by first | rfl | (simp; done) | (simp [*]; done)), H', ⟨by have := HK1.out; omega⟩, by repeat (first | exact Drawn0.refl _ | apply Drawn0.step)⟩
          · rw [if_neg c5] at H
            exact absurd H (by simp)
        · rw [if_neg c4] at H
          exact absurd H (by simp)
      · rw [if_neg c3] at H
        have c3b0 : decide (x8_1 < (l0.length : Int)) = false := decide_eq_false c3
        clear c3
        obtain rfl := Option.some.inj H
        go_wp2
        go_ret
        exact ⟨by first | rfl | (simp; done) | (simp [*]; done), by repeat (first | exact Drawn0.refl _ | apply Drawn0.step)⟩
theorem slices_Index_int_l0 (l : List Int) (x : Int) (hs : l.length ≤ 9223372036854775807) (d : Nat) : ∀ (k : Nat) (i : Nat), i ≤ l.length → l.length - i = d → d < k → (∀ j (hj : j < l.length), j < i → decide (x = l[j]) = false) → slices_Index_int.l0 k l x (l.length : Int) (i : Int) = some (idxP (fun y => decide (x = y)) l) := by
  induction d with
  | zero =>
    intro k i hi hd hk hA
    obtain ⟨k, rfl⟩ : ∃ m, k = m + 1 := ⟨k - 1, by omega⟩
    simp only [slices_Index_int.l0]
    rw [if_neg (show ¬ (i : Int) < (l.length : Int) by omega), idxP_miss _ l (fun j hj => hA j hj (by omega))]
  | succ d ih =>
    intro k i hi hd hk hA
    obtain ⟨k, rfl⟩ : ∃ m, k = m + 1 := ⟨k - 1, by omega⟩
    have hlt : i < l.length := by omega
    simp only [slices_Index_int.l0]
    have hrd : rd l (i : Int) = l[i] := by simp [rd, hlt]
    rw [if_pos (show (i : Int) < (l.length : Int) by omega), if_pos (show (0 : Int) ≤ (i : Int) by omega), if_pos (show (i : Int) < (l.length : Int) by omega), hrd]
    by_cases h1 : x = l[i]
    · rw [if_pos h1, idxP_hit (fun y => decide (x = y)) l i hlt (decide_eq_true h1) hA]
    · rw [if_neg h1, wrap_succ (n := l.length) (by omega) (by omega) (by omega)]
      rw [show ((i : Int) + 1) = ((i + 1 : Nat) : Int) by omega]
      refine ih k (i + 1) (by omega) (by omega) (by omega) (fun j hj hji => ?_)
      by_cases e : j = i
      · subst e; exact decide_eq_false h1
      · exact hA j hj (by omega)
end Go.Proofs.Ytgajfpebfnlipaa.P
namespace Go.Proofs.Ytgajfpebfnlipaa.P
open Go.RowKit Go.Proofs.YtgajfpebfnlipaaW.PrintWords Go.Proofs.YtgajfpebfnlipaaW.PrintLast Go.Proofs.YtgajfpebfnlipaaW.PrintMore
attribute [local go_sem] max2_int min2_int max_two min_two max_three min_three max_four min_four   -- for this text's walks alone
set_option linter.unusedVariables false
set_option linter.unusedSimpArgs false
/-! ### slices_Contains_int: function 115 -/
def slices_Contains_int.f (k : Nat) (l0 : List Int) (a1 : Int) : Option (Bool) := (slices_Index_int.f k l0 a1).bind fun t1 => (some (decide (t1 ≥ 0)))
theorem slices_Contains_int.mono : ∀ a0 a1 k, LeO (slices_Contains_int.f k a0 a1) (slices_Contains_int.f (k + 1) a0 a1) := by
  intro a0 a1 k
  unfold slices_Contains_int.f
  repeat' first
      | (with_reducible exact slices_Index_int.mono _ _ _)
      | (with_reducible exact LeO.refl _)
      | (with_reducible exact LeO.none _)
      | (with_reducible refine LeO.ite ?_ ?_)
      | (with_reducible refine LeO.bind ?_ (fun _ => ?_))
      | exact slices_Index_int.mono _ _ _
      | exact LeO.none _
      | refine LeO.ite ?_ ?_
      | refine LeO.bind ?_ (fun _ => ?_)
set_option maxHeartbeats 8000000 in
set_option maxRecDepth 100000 in
theorem slices_Contains_int.calls (k : Nat) (A0 : Option Addr) (c0 : Nat) (l0 : List Int) (a1 : Int) (r : Bool) (w : World) (hr0 : Kd.C (Kd.int .i64) w A0 l0.length l0) (hc0 : l0.length ≤ c0) (h : slices_Contains_int.f k l0 a1 = some r) :
    Calls Try.prog 115 #[.slice A0 l0.length c0, .int .i64 a1] w fun e w' => e = .returned (.bool r) ∧ Drawn0 w w' := by
  have HR0 := Aside0.mk hr0
  have HC0 := Aside0.mk hc0
  clear hr0 hc0
  have H : ((slices_Index_int.f k l0 a1).bind fun t1 => (some (decide (t1 ≥ 0)))) = some r := h
  clear h
  replace H := Option.bind_eq_some_iff.mp H
  obtain ⟨t1, A30, H⟩ := H
  replace H : (some (decide (t1 ≥ 0))) = some r := H
  have A3 := Aside0.mk A30
  clear A30
  obtain rfl := Option.some.inj H
  go_enter Try.func115, Try.ntmps115
  go_wp2_with (first | ((with_reducible refine gate_callee (f := 168) rfl ?_); refine goesL_ (some 7) rfl rfl Try.func168 (by kernel_rfl) rfl #[.slice A0 l0.length c0, .int .i64 a1] rfl (by (try simp only [List.map_toArray, List.map_cons, List.map_nil]); first | done | rfl | (simp only [List.length_drop, List.length_take]; rfl)) ?_; (with_reducible refine (slices_Index_int.calls k _ _ l0 a1 t1 _ ?side1 ?side2 A3.out).mono ?_); (case side1 => repeat (first | exact HR0.out | (with_reducible refine Kd.C_alloc ?_ _) | (with_reducible refine Kd.C_drewN ?_ _) | (with_reducible refine Kd.C_drew ?_))); (case side2 => exact HC0.out); rintro e w' ⟨rfl, ⟨nd, rfl⟩⟩; refine ⟨_, rfl, ?_⟩))
  go_ret
  exact ⟨by first | rfl | (simp; done) | (simp [*]; done), by repeat (first | exact Drawn0.refl _ | apply Drawn0.step)⟩
theorem slices_Contains_int_ev (l : List Int) (x : Int) (hs : l.length ≤ 9223372036854775807) (k : Nat) (hk : l.length < k) : slices_Contains_int.f k l x = some (l.contains x) := by
  unfold slices_Contains_int.f slices_Index_int.f
  have h0 := slices_Index_int_l0 l x hs l.length k 0 (by omega) (by omega) hk (fun j _ hj => absurd hj (Nat.not_lt_zero _))
  rw [show ((0 : Nat) : Int) = 0 from rfl] at h0
  rw [h0]
  simp only [Option.bind_some, Option.some.injEq]
  rw [idxP_nonneg]
  rw [Bool.eq_iff_iff, List.any_eq_true, List.contains_iff_mem]
  constructor
  · rintro ⟨y, hy, e⟩
    have : x = y := of_decide_eq_true e
    rw [this]; exact hy
  · intro hm; exact ⟨x, hm, decide_eq_true rfl⟩
end Go.Proofs.Ytgajfpebfnlipaa.P
namespace Go.Proofs.Ytgajfpebfnlipaa.P
open Go.RowKit Go.Proofs.YtgajfpebfnlipaaW.PrintWords Go.Proofs.YtgajfpebfnlipaaW.PrintLast Go.Proofs.YtgajfpebfnlipaaW.PrintMore
attribute [local go_sem] max2_int min2_int max_two min_two max_three min_three max_four min_four   -- for this text's walks alone
set_option linter.unusedVariables false
set_option linter.unusedSimpArgs false
/-! ### impl_Tree_above: function 146 -/
def impl_Tree_above.l0 : Nat → Int → List Int → List (S142) → Option (List Int)
  | 0, _, _, _ => none
  | k + 1, x1, x5, x2000 => if x1 ≥ 0 then (if x5.length < 17592186044416 then (if 0 ≤ x1 then (if x1 < (x2000.length : Int) then (impl_Tree_above.l0 k ((rd_T142 x2000 x1).f1) (x5 ++ [x1]) x2000) else (none)) else (none)) else (none)) else (if 0 ≤ (x5.length : Int) then (if (x5.length : Int) ≤ (x5.length : Int) then (some (x5.take ((x5.length : Int) : Int).toNat)) else (none)) else (none))
def impl_Tree_above.f (k : Nat) (l0_0 : List (S142)) (a1 : Int) : Option (List Int) := if 0 ≤ (l0_0.length : Int) then (if ((l0_0.length : Int) : Int).toNat ≤ 35184372088832 then (impl_Tree_above.l0 k a1 (([] : List Int)) l0_0) else (none)) else (none)
theorem impl_Tree_above.mono_l : ∀ k, (∀ y0 y1 y2, LeO (impl_Tree_above.l0 k y0 y1 y2) (impl_Tree_above.l0 (k + 1) y0 y1 y2))
  | 0 => fun _ _ _ r h => by simp [impl_Tree_above.l0] at h
  | k + 1 => by
    have ih0 := impl_Tree_above.mono_l k
    · intro y0 y1 y2
      unfold impl_Tree_above.l0
      repeat' first
      | (with_reducible exact ih0 _ _ _)
      | (with_reducible exact LeO.refl _)
      | (with_reducible exact LeO.none _)
      | (with_reducible refine LeO.ite ?_ ?_)
      | (with_reducible refine LeO.bind ?_ (fun _ => ?_))
      | exact ih0 _ _ _
      | exact LeO.none _
      | refine LeO.ite ?_ ?_
      | refine LeO.bind ?_ (fun _ => ?_)
theorem impl_Tree_above.mono : ∀ a0 a1 k, LeO (impl_Tree_above.f k a0 a1) (impl_Tree_above.f (k + 1) a0 a1) := by
  intro a0 a1 k
  have ih0 := impl_Tree_above.mono_l k
  unfold impl_Tree_above.f
  repeat' first
      | (with_reducible exact ih0 _ _ _)
      | (with_reducible exact LeO.refl _)
      | (with_reducible exact LeO.none _)
      | (with_reducible refine LeO.ite ?_ ?_)
      | (with_reducible refine LeO.bind ?_ (fun _ => ?_))
      | exact ih0 _ _ _
      | exact LeO.none _
      | refine LeO.ite ?_ ?_
      | refine LeO.bind ?_ (fun _ => ?_)
set_option maxHeartbeats 8000000 in
set_option maxRecDepth 100000 in
theorem impl_Tree_above.calls (k : Nat) (A0_0 : Option Addr) (c0_0 : Nat) (l0_0 : List (S142)) (a1 : Int) (r : List Int) (w : World) (hr0_0 : Kd.C k142 w A0_0 l0_0.length l0_0) (hc0_0 : l0_0.length ≤ c0_0) (h : impl_Tree_above.f k l0_0 a1 = some r) :
    Calls Try.prog 146 #[.agg #[.slice A0_0 l0_0.length c0_0], .int .i64 a1] w fun e w' => ∃ v0_ : Value, e = .returned (v0_) ∧ Kd.R (Kd.int .i64) 3 w' w.heap.size (fun _ => True) v0_ r ∧ Below w.heap.size w w' := by
  have hu31 := Try.underlying31
  have HR0_0 := Aside0.mk hr0_0
  have HC0_0 := Aside0.mk hc0_0
  clear hr0_0 hc0_0
  have HB := Aside0.mk (Below.refl w.heap.size w)
  have H : (if 0 ≤ (l0_0.length : Int) then (if ((l0_0.length : Int) : Int).toNat ≤ 35184372088832 then (impl_Tree_above.l0 k a1 (([] : List Int)) l0_0) else (none)) else (none)) = some r := h
  clear h
  by_cases c3 : 0 ≤ (l0_0.length : Int)
  · rw [if_pos c3] at H
    have c3b0 := eq_true c3
    have c3b1 : decide (0 ≤ (l0_0.length : Int)) = true := decide_eq_true c3
    clear c3
    by_cases c4 : ((l0_0.length : Int) : Int).toNat ≤ 35184372088832
    · rw [if_pos c4] at H
      have c4b0 := eq_true c4
      have c4b1 : decide (((l0_0.length : Int) : Int).toNat ≤ 35184372088832) = true := decide_eq_true c4
      clear c4
      obtain ⟨y2, hy2⟩ : ∃ y_ : List Int, y_ = (([] : List Int)) := ⟨_, rfl⟩
      replace H : (impl_Tree_above.l0 k a1 y2 l0_0) = some r := by first | (rw [hy2]; with_reducible exact H) | (have H2_ := (Option.bind_some _ _).symm.trans H; rw [hy2]; with_reducible exact H2_) | (have H2_ := (Option.bind_some _ _).symm.trans H; with_reducible exact H2_) | with_reducible exact H | (rw [hy2]; exact H) | exact H
      have Ny2 := Aside0.mk hy2
      clear hy2
      have H' := Aside0.mk H
      clear H
      go_enter Try.func146, Try.ntmps146
      go_wp2_with (first | ((with_reducible refine gate_dst (N := 2) rfl ?_); refine box_event ?hg (N := 2) ?hd (cs := #[.slice A0_0 l0_0.length c0_0]) (t := 31) ?hr ?_; (case hd => rfl); (case hg => rfl); (case hr => first | (go_simp; done) | (go_simp; rfl)); intro gb1 hg w5 hbox hb; have n0_ := Aside0.mk (below_step (by repeat (first | (with_reducible first | exact HB.out | apply below_alloc | apply pw_below_drewN | apply below_drew1) | exact HB.out)) hb); have n1_ := Aside0.mk (hbox); have n2_ := Aside0.mk ((by rw [hg]; exact (below_size (by repeat (first | (with_reducible first | exact HB.out | apply below_alloc | apply pw_below_drewN | apply below_drew1) | exact HB.out))) : w.heap.size ≤ gb1)); have n3_ := Aside0.mk ((by rw [hg]; exact (below_size (by repeat (first | (with_reducible first | exact HB.out | apply below_alloc | apply pw_below_drewN | apply below_drew1) | exact HB.out))) : w.heap.size ≤ gb1)); clear HB; have HB := n0_; have BK1 := n1_; have GW1 := n2_; have GE1 := n3_; clear n0_ n1_ n2_ n3_; clear hb hbox hg; have hcz6_0 : w5.cell? ⟨gb1, 0, none⟩ = some (.slice A0_0 l0_0.length c0_0) := (blk_cell BK1.out 0).trans rfl; have hfz6_0 := blk_frozen BK1.out 0) | ((with_reducible refine gate_dst (N := 9) rfl ?_); refine Kd.R_make0 (Kd.int .i64) _ 3 rfl (N := 9) rfl 56 _ _ rfl (l0_0.length : Int) rfl rfl Try.underlying56 (.int .i64 0) 8 info3 rfl (by decide) (by omega) 0 (ok := fun _ => True) (okp := fun _ => True) rfl (fun _ hk => hk) trivial (of_decide_eq_true (by first | (with_reducible assumption) | assumption)) (Nat.le_trans (Nat.mul_le_mul_right _ (of_decide_eq_true (by first | (with_reducible assumption) | assumption) : (l0_0.length : Int).toNat ≤ 35184372088832)) (by omega)) (Below.refl _ _) (Nat.le_refl _) ?_; intro v3 w7 ho8 hb hg_ hnew_; clear hg_ hnew_; (first | rw [← Ny2.out] at ho8 | (simp only [Int.reduceToNat] at ho8; rw [← Ny2.out] at ho8)); have n0_ := Aside0.mk (Kd.R_lower ho8 (below_size (by repeat (first | (with_reducible first | exact HB.out | apply below_alloc | apply pw_below_drewN | apply below_drew1 | refine below_set ?_ GE1.out) | exact HB.out)))); have n1_ := Aside0.mk (blk_below (g := gb1) (o := .cells #[.slice A0_0 l0_0.length c0_0] 31 (0, 0)) (by (with_reducible repeat (first | refine blk_drewN ?_ _ | refine blk_drew ?_ | refine blk_alloc ?_ _)); exact BK1.out) hb); have n2_ := Aside0.mk (below_step (by repeat (first | (with_reducible first | exact HB.out | apply below_alloc | apply pw_below_drewN | apply below_drew1 | refine below_set ?_ GE1.out) | exact HB.out)) hb); clear BK1; clear HB; have HO4 := n0_; have BK1 := n1_; have HB := n2_; clear n0_ n1_ n2_; clear hb ho8))
      go_loopg [1, 5] k (fun kq v1 v5 w' => ∃ (x1_1 : Int) (x5_1 : List Int), v1 = .int .i64 x1_1 ∧ Aside0 (impl_Tree_above.l0 kq x1_1 x5_1 l0_0 = some r) ∧ Aside0 (kq ≤ k) ∧ Aside0 (Kd.R (Kd.int .i64) 3 w' w.heap.size (fun _ => True) v5 x5_1) ∧ Aside0 (w'.heap[gb1]? = some (.cells #[(.slice A0_0 l0_0.length c0_0)] 31 (0, 0))) ∧ Aside0 (Below w.heap.size w w'))
      case atStart => exact ⟨(a1), (y2), (by first | rfl | (simp; done) | (simp [*]; done)), H', ⟨Nat.le_refl _⟩, ⟨by (with_reducible repeat (first | apply Kd.R_alloc | apply Kd.R_drewN | apply Kd.R_drew)); exact HO4.out⟩, ⟨by (with_reducible repeat (first | refine blk_drewN ?_ _ | refine blk_drew ?_ | refine blk_alloc ?_ _)); exact BK1.out⟩, ⟨by repeat (first | (with_reducible first | exact HB.out | apply below_alloc | apply pw_below_drewN | apply below_drew1 | refine below_set ?_ GE1.out) | exact HB.out)⟩⟩
      case round =>
        clear H'
        try clear c1
        try clear p2
        try clear c3
        try clear c3b0
        try clear c3b1
        try clear c4
        try clear c4b0
        try clear c4b1
        try clear hcz6_0
        try clear hfz6_0
        obtain ⟨x1_1, x5_1, rfl, HA, HK1, HO_5, BK1, HB⟩ := hrel
        cases gk with
        | zero => exact absurd HA.out (by simp [impl_Tree_above.l0])
        | succ k1 =>
          have H := HA.out
          clear HA
          simp only [impl_Tree_above.l0] at H
          by_cases c9 : x1_1 ≥ 0
          · rw [if_pos c9] at H
            have c9b0 : decide (0 ≤ x1_1) = true := decide_eq_true c9
            clear c9
            by_cases c10 : x5_1.length < 17592186044416
            · rw [if_pos c10] at H
              have LMc10 := Aside0.mk c10
              clear c10
              obtain ⟨y5, hy5⟩ : ∃ y_ : List Int, y_ = (x5_1 ++ [x1_1]) := ⟨_, rfl⟩
              replace H : (if 0 ≤ x1_1 then (if x1_1 < (l0_0.length : Int) then (impl_Tree_above.l0 k1 ((rd_T142 l0_0 x1_1).f1) y5 l0_0) else (none)) else (none)) = some r := by first | (rw [hy5]; with_reducible exact H) | (have H2_ := (Option.bind_some _ _).symm.trans H; rw [hy5]; with_reducible exact H2_) | (have H2_ := (Option.bind_some _ _).symm.trans H; with_reducible exact H2_) | with_reducible exact H | (rw [hy5]; exact H) | exact H
              have Ny5 := Aside0.mk hy5
              clear hy5
              by_cases c11 : 0 ≤ x1_1
              · rw [if_pos c11] at H
                have c11b0 : decide (0 ≤ x1_1) = true := decide_eq_true c11
                clear c11
                by_cases c12 : x1_1 < (l0_0.length : Int)
                · rw [if_pos c12] at H
                  have c12b0 : decide (x1_1 < (l0_0.length : Int)) = true := decide_eq_true c12
                  clear c12
                  have H' := Aside0.mk H
                  clear H
                  go_wp2_with (first | ((with_reducible refine gate_builtin (b := .append) (xs := #[.tmp 18, .tmp 20]) rfl ?_); at_builtin; refine Kd.R_append (Kd.int .i64) (w0 := w) w.heap.size rfl (.tmp 18) (.tmp 20) 56 3 (.int .i64 0) 8 rfl Try.underlying56 info3 rfl (by decide) (by omega) u5 x5_1 x1_1 [.int .i64 x1_1] (fun _ => True) (fun _ => False) rfl rfl ?aP (fun _ hk => hk.elim) ?aF ?aO ?aB ?aS ?aL ?_; (case aP => exact rfl); (case aB => exact (by repeat (first | (with_reducible first | exact HB.out | apply below_alloc | apply pw_below_drewN | apply below_drew1 | refine below_set ?_ GE1.out) | exact HB.out))); (case aF => exact (fun _ _ => trivial)); (case aO => exact (by (with_reducible repeat (first | apply Kd.R_alloc | apply Kd.R_drewN | apply Kd.R_drew)); exact HO_5.out)); (case aS => exact (below_size (by repeat (first | (with_reducible first | exact HB.out | apply below_alloc | apply pw_below_drewN | apply below_drew1 | refine below_set ?_ GE1.out) | exact HB.out)))); (case aL => have := LMc10.out; omega); intro v6 w13 ho hb hg hat; rw [← Ny5.out] at ho; have n0_ := Aside0.mk (blk_grown (g := gb1) (o := .cells #[.slice A0_0 l0_0.length c0_0] 31 (0, 0)) (by (with_reducible repeat (first | refine blk_drewN ?_ _ | refine blk_drew ?_ | refine blk_alloc ?_ _)); exact BK1.out) hg (Kd.R_ne HO_5.out BK1.out (by decide))); have n1_ := Aside0.mk (hb); have n2_ := Aside0.mk (ho); clear BK1; clear HB; clear HO_5; have BK1 := n0_; have HB := n1_; have HO7 := n2_; clear n0_ n1_ n2_; clear ho hb hg hat; have hcz14_0 : w13.cell? ⟨gb1, 0, none⟩ = some (.slice A0_0 l0_0.length c0_0) := (blk_cell BK1.out 0).trans rfl; have hfz14_0 := blk_frozen BK1.out 0; have p8 : 0 ≤ (x1_1 : Int) := of_decide_eq_true (by first | (with_reducible assumption) | assumption); have q8 : x1_1 < (l0_0.length : Int) := of_decide_eq_true (by first | (with_reducible assumption) | assumption); obtain ⟨ad8, e8, hx8_0, hx8_1⟩ := at_T142 HR0_0.out x1_1 p8 q8; cases e8; replace hx8_0 := (HB.out.cell (World.block_lt_of_cell? w _ hx8_0)).trans hx8_0; replace hx8_1 := (HB.out.cell (World.block_lt_of_cell? w _ hx8_1)).trans hx8_1; replace p8 := eq_true p8; replace q8 := eq_true q8))
                  go_roundg k1
                  case measure => have := HK1.out; omega
                  case rel => exact ⟨((rd_T142 l0_0 x1_1).f1), (y5), (by first | rfl | (simp; done) | (simp [*]; done)), H', ⟨by have := HK1.out; omega⟩, ⟨by (with_reducible repeat (first | apply Kd.R_alloc | apply Kd.R_drewN | apply Kd.R_drew)); exact HO7.out⟩, ⟨by (with_reducible repeat (first | refine blk_drewN ?_ _ | refine blk_drew ?_ | refine blk_alloc ?_ _)); exact BK1.out⟩, ⟨by repeat (first | (with_reducible first | exact HB.out | apply below_alloc | apply pw_below_drewN | apply below_drew1 | refine below_set ?_ GE1.out) | exact HB.out)⟩⟩
                · rw [if_neg c12] at H
                  exact absurd H (by simp)
              · rw [if_neg c11] at H
                exact absurd H (by simp)
            · rw [if_neg c10] at H
              exact absurd H (by simp)
          · rw [if_neg c9] at H
            have c9b0 : decide (0 ≤ x1_1) = false := decide_eq_false c9
            clear c9
            by_cases c15 : 0 ≤ (x5_1.length : Int)
            · rw [if_pos c15] at H
              have c15b0 := eq_true c15
              have c15b1 : decide (0 ≤ (x5_1.length : Int)) = true := decide_eq_true c15
              clear c15
              by_cases c16 : (x5_1.length : Int) ≤ (x5_1.length : Int)
              · rw [if_pos c16] at H
                have c16b0 := eq_true c16
                have c16b1 : decide ((x5_1.length : Int) ≤ (x5_1.length : Int)) = true := decide_eq_true c16
                clear c16
                obtain ⟨y9, hy9⟩ : ∃ y_ : List Int, y_ = (x5_1.take ((x5_1.length : Int) : Int).toNat) := ⟨_, rfl⟩
                replace H : (some y9) = some r := by first | (rw [hy9]; with_reducible exact H) | (have H2_ := (Option.bind_some _ _).symm.trans H; rw [hy9]; with_reducible exact H2_) | (have H2_ := (Option.bind_some _ _).symm.trans H; with_reducible exact H2_) | with_reducible exact H | (rw [hy9]; exact H) | exact H
                have Ny9 := Aside0.mk hy9
                clear hy9
                obtain rfl := Option.some.inj H
                obtain ⟨Ao17, co17, eo17⟩ := Kd.R_slice HO_5.out
                subst eo17
                have q18 : x5_1.length ≤ co17 := (Kd.R_reads' HO_5.out).2.1
                have hr18 := Kd.R_clip2 HO_5.out (((x5_1.length : Int) : Int).toNat) (by omega)
                rw [← Ny9.out] at hr18
                clear HO_5
                have HO11 := Aside0.mk hr18
                clear hr18
                go_wp2
                go_ret
                exact ⟨_, by first | rfl | (simp [errW_none, errW_some] <;> rfl) | (simp [*, errW_none, errW_some] <;> rfl), by (with_reducible repeat (first | apply Kd.R_alloc | apply Kd.R_drewN | apply Kd.R_drew)); exact HO11.out, by repeat (first | (with_reducible first | exact HB.out | apply below_alloc | apply pw_below_drewN | apply below_drew1 | refine below_set ?_ GE1.out) | exact HB.out)⟩
              · rw [if_neg c16] at H
                exact absurd H (by simp)
            · rw [if_neg c15] at H
              exact absurd H (by simp)
    · rw [if_neg c4] at H
      exact absurd H (by simp)
  · rw [if_neg c3] at H
    exact absurd H (by simp)
theorem impl_Tree_above_l0 {t : List Cls} (h : vT t = true) : ∀ (k : Nat) (a : Int) (acc : List Int), a < (t.length : Int) → a + 1 < (k : Int) → 0 < k → acc.length + k ≤ 1000000 → impl_Tree_above.l0 k a acc t = some (acc ++ abv t a) := by
  intro k
  induction k with
  | zero => intro a acc _ _ h0; exact absurd h0 (Nat.lt_irrefl 0)
  | succ k ih =>
    intro a acc ha hk _ hl
    simp only [impl_Tree_above.l0]
    by_cases h0 : a ≥ 0
    · have hp := vT_par' h a h0 ha
      rw [if_pos h0, if_pos (show acc.length < 17592186044416 by omega), if_pos (show 0 ≤ a from h0), if_pos ha, abv_step h a h0 ha, ih _ _ (by omega) (by omega) (by omega) (by simp; omega)]
      simp
    · rw [if_neg h0, abv_neg t a (by omega), List.append_nil]
      rw [if_pos (show (0 : Int) ≤ (acc.length : Int) by omega), if_pos (Int.le_refl _)]
      rw [List.take_of_length_le (by simp)]
theorem impl_Tree_above_ev {t : List Cls} (h : vT t = true) (a : Int) (ha : a < (t.length : Int)) (k : Nat) (hk : 10 ≤ k) (hk2 : k ≤ 1000000) : impl_Tree_above.f k t a = some (abv t a) := by
  have h2 := vT_len h
  unfold impl_Tree_above.f
  rw [if_pos (show (0 : Int) ≤ (t.length : Int) by omega), if_pos (show ((t.length : Int) : Int).toNat ≤ 35184372088832 by omega), impl_Tree_above_l0 h k a [] ha (by omega) (by omega) (by simp; omega)]
  simp
end Go.Proofs.Ytgajfpebfnlipaa.P
namespace Go.Proofs.Ytgajfpebfnlipaa.P
open Go.RowKit Go.Proofs.YtgajfpebfnlipaaW.PrintWords Go.Proofs.YtgajfpebfnlipaaW.PrintLast Go.Proofs.YtgajfpebfnlipaaW.PrintMore
attribute [local go_sem] max2_int min2_int max_two min_two max_three min_three max_four min_four   -- for this text's walks alone
set_option linter.unusedVariables false
set_option linter.unusedSimpArgs false
/-! ### impl_Tree_is: function 84 -/
def impl_Tree_is.f (k : Nat) (l0_0 : List (S142)) (a1 : Int) (a2 : Int) : Option (Bool) := (impl_Tree_above.f k l0_0 a1).bind fun t2 => ((slices_Contains_int.f k t2 a2).bind fun t5 => (some t5))
theorem impl_Tree_is.mono : ∀ a0 a1 a2 k, LeO (impl_Tree_is.f k a0 a1 a2) (impl_Tree_is.f (k + 1) a0 a1 a2) := by
  intro a0 a1 a2 k
  unfold impl_Tree_is.f
  repeat' first
      | (with_reducible exact impl_Tree_above.mono _ _ _)
      | (with_reducible exact slices_Contains_int.mono _ _ _)
      | (with_reducible exact LeO.refl _)
      | (with_reducible exact LeO.none _)
      | (with_reducible refine LeO.ite ?_ ?_)
      | (with_reducible refine LeO.bind ?_ (fun _ => ?_))
      | exact impl_Tree_above.mono _ _ _
      | exact slices_Contains_int.mono _ _ _
      | exact LeO.none _
      | refine LeO.ite ?_ ?_
      | refine LeO.bind ?_ (fun _ => ?_)
set_option maxHeartbeats 8000000 in
set_option maxRecDepth 100000 in
theorem impl_Tree_is.calls (k : Nat) (A0_0 : Option Addr) (c0_0 : Nat) (l0_0 : List (S142)) (a1 : Int) (a2 : Int) (r : Bool) (w : World) (hr0_0 : Kd.C k142 w A0_0 l0_0.length l0_0) (hc0_0 : l0_0.length ≤ c0_0) (h : impl_Tree_is.f k l0_0 a1 a2 = some r) :
    Calls Try.prog 84 #[.agg #[.slice A0_0 l0_0.length c0_0], .int .i64 a1, .int .i64 a2] w fun e w' => e = .returned (.bool r) ∧ Below w.heap.size w w' := by
  have hu31 := Try.underlying31
  have HR0_0 := Aside0.mk hr0_0
  have HC0_0 := Aside0.mk hc0_0
  clear hr0_0 hc0_0
  have HB := Aside0.mk (Below.refl w.heap.size w)
  have H : ((impl_Tree_above.f k l0_0 a1).bind fun t2 => ((slices_Contains_int.f k t2 a2).bind fun t5 => (some t5))) = some r := h
  clear h
  replace H := Option.bind_eq_some_iff.mp H
  obtain ⟨t2, A40, H⟩ := H
  replace H : ((slices_Contains_int.f k t2 a2).bind fun t5 => (some t5)) = some r := H
  have A4 := Aside0.mk A40
  clear A40
  replace H := Option.bind_eq_some_iff.mp H
  obtain ⟨t5, A50, H⟩ := H
  replace H : (some t5) = some r := H
  have A5 := Aside0.mk A50
  clear A50
  obtain rfl := Option.some.inj H
  go_enter Try.func84, Try.ntmps84
  go_wp2_with (first | ((with_reducible refine gate_dst (N := 3) rfl ?_); refine box_event ?hg (N := 3) ?hd (cs := #[.slice A0_0 l0_0.length c0_0]) (t := 31) ?hr ?_; (case hd => rfl); (case hg => rfl); (case hr => first | (go_simp; done) | (go_simp; rfl)); intro gb1 hg w6 hbox hb; have n0_ := Aside0.mk (below_step (by repeat (first | (with_reducible first | exact HB.out | apply below_alloc | apply pw_below_drewN | apply below_drew1) | exact HB.out)) hb); have n1_ := Aside0.mk (hbox); have n2_ := Aside0.mk ((by rw [hg]; exact (below_size (by repeat (first | (with_reducible first | exact HB.out | apply below_alloc | apply pw_below_drewN | apply below_drew1) | exact HB.out))) : w.heap.size ≤ gb1)); have n3_ := Aside0.mk ((by rw [hg]; exact (below_size (by repeat (first | (with_reducible first | exact HB.out | apply below_alloc | apply pw_below_drewN | apply below_drew1) | exact HB.out))) : w.heap.size ≤ gb1)); clear HB; have HB := n0_; have BK1 := n1_; have GW1 := n2_; have GE1 := n3_; clear n0_ n1_ n2_ n3_; clear hb hbox hg; have hcz7_0 : w6.cell? ⟨gb1, 0, none⟩ = some (.slice A0_0 l0_0.length c0_0) := (blk_cell BK1.out 0).trans rfl; have hfz7_0 := blk_frozen BK1.out 0) | ((with_reducible refine gate_callee (f := 146) rfl ?_); refine goesL_ (some 9) rfl rfl Try.func146 (by kernel_rfl) rfl #[.agg #[.slice A0_0 l0_0.length c0_0], .int .i64 a1] rfl (by (try simp only [List.map_toArray, List.map_cons, List.map_nil]); first | done | rfl | (simp only [List.length_drop, List.length_take]; rfl)) ?_; (with_reducible refine (impl_Tree_above.calls k _ _ l0_0 a1 t2 _ ?side1 ?side2 A4.out).mono ?_); (case side1 => repeat (first | exact (Kd.C_below HR0_0.out HB.out) | (with_reducible refine Kd.C_alloc ?_ _) | (with_reducible refine Kd.C_drewN ?_ _) | (with_reducible refine Kd.C_drew ?_))); (case side2 => exact HC0_0.out); rintro e w8 ⟨v3, rfl, ho0, hb⟩; refine ⟨_, rfl, ?_⟩; have n0_ := Aside0.mk (Kd.R_lower ho0 (below_size (by repeat (first | (with_reducible first | exact HB.out | apply below_alloc | apply pw_below_drewN | apply below_drew1 | refine below_set ?_ GE1.out) | exact HB.out)))); have n1_ := Aside0.mk (blk_below (g := gb1) (o := .cells #[.slice A0_0 l0_0.length c0_0] 31 (0, 0)) (by (with_reducible repeat (first | refine blk_drewN ?_ _ | refine blk_drew ?_ | refine blk_alloc ?_ _)); exact BK1.out) hb); have n2_ := Aside0.mk (below_step (by repeat (first | (with_reducible first | exact HB.out | apply below_alloc | apply pw_below_drewN | apply below_drew1 | refine below_set ?_ GE1.out) | exact HB.out)) hb); clear BK1; clear HB; have HO4 := n0_; have BK1 := n1_; have HB := n2_; clear n0_ n1_ n2_; (try clear hb); (try clear hb2); (try clear hk); (try clear hi); (try clear ho0); obtain ⟨Ao9, co9, eo9⟩ := Kd.R_slice HO4.out; subst eo9) | ((with_reducible refine gate_callee (f := 115) rfl ?_); refine goesL_ (some 11) rfl rfl Try.func115 (by kernel_rfl) rfl #[.slice Ao9 t2.length co9, .int .i64 a2] rfl (by (try simp only [List.map_toArray, List.map_cons, List.map_nil]); first | done | rfl | (simp only [List.length_drop, List.length_take]; rfl)) ?_; (with_reducible refine (slices_Contains_int.calls k _ _ t2 a2 t5 _ ?side1 ?side2 A5.out).mono ?_); (case side1 => repeat (first | exact (Kd.R_reads' HO4.out).2.2 | (with_reducible refine Kd.C_alloc ?_ _) | (with_reducible refine Kd.C_drewN ?_ _) | (with_reducible refine Kd.C_drew ?_))); (case side2 => exact (Kd.R_reads' HO4.out).2.1); rintro e w' ⟨rfl, ⟨nd, rfl⟩⟩; refine ⟨_, rfl, ?_⟩))
  go_ret
  exact ⟨by first | rfl | (simp [errW_none, errW_some] <;> rfl) | (simp [*, errW_none, errW_some] <;> rfl), by repeat (first | (with_reducible first | exact HB.out | apply below_alloc | apply pw_below_drewN | apply below_drew1 | refine below_set ?_ GE1.out) | exact HB.out)⟩
theorem impl_Tree_is_ev {t : List Cls} (h : vT t = true) (a b : Int) (ha : a < (t.length : Int)) (k : Nat) (hk : 10 ≤ k) (hk2 : k ≤ 1000000) : impl_Tree_is.f k t a b = some (isA t a b) := by
  have hl := abv_len h a ha
  unfold impl_Tree_is.f
  rw [impl_Tree_above_ev h a ha k hk hk2]
  simp only [Option.bind_some]
  rw [slices_Contains_int_ev _ _ (by omega) k (by omega)]
  rfl
end Go.Proofs.Ytgajfpebfnlipaa.P
namespace Go.Proofs.Ytgajfpebfnlipaa.P
open Go.RowKit Go.Proofs.YtgajfpebfnlipaaW.PrintWords Go.Proofs.YtgajfpebfnlipaaW.PrintLast Go.Proofs.YtgajfpebfnlipaaW.PrintMore
attribute [local go_sem] max2_int min2_int max_two min_two max_three min_three max_four min_four   -- for this text's walks alone
set_option linter.unusedVariables false
set_option linter.unusedSimpArgs false
/-! ### impl_LeastCatches_1_1: function 117 -/
theorem impl_LeastCatches_1_1.callsF (B D : Nat) (A : Option Addr) (c : Nat) (t : List Cls) (a b : Int) (w : World) (hv : vT t = true) (ha : a < (t.length : Int)) (hB : w.heap[B]? = some (.cells #[.int .i64 a] 3 (0, 0))) (hD : w.heap[D]? = some (.cells #[.slice A t.length c] 31 (0, 0))) (hr : Kd.C k142 w A t.length t) (hc : t.length ≤ c) :
    Calls Try.prog 117 #[.int .i64 b, .pointer (some ⟨B, 0, none⟩), .pointer (some ⟨D, 0, none⟩)] w fun e w' => e = .returned (.bool (!decide (b = a) && isA t a b)) ∧ Below w.heap.size w w' := by
  have hu31 := Try.underlying31
  have hcell : w.cell? ⟨D, 0, none⟩ = some (.slice A t.length c) := (blk_cell hD 0).trans rfl
  have hcell2 : w.cell? ⟨B, 0, none⟩ = some (.int .i64 a) := (blk_cell hB 0).trans rfl
  have hcon := impl_Tree_is.calls 10 A c t a b (isA t a b) w hr hc (impl_Tree_is_ev hv a b ha 10 (by omega) (by omega))
  clear hB hD hr hv
  generalize isA t a b = r at hcon ⊢
  by_cases hq : b = a
  · have hd1 : (b == a) = true := beq_iff_eq.2 hq
    have hd2 : (b != a) = false := bne_eq_false_iff_eq.2 hq
    rw [decide_eq_true hq]
    clear hq
    go_enter Try.func117, Try.ntmps117
    go_wp2_with (go_at_call 84; refine hcon.mono ?_; rintro e w' ⟨rfl, hb'⟩)
    go_ret
    exact ⟨rfl, Below.refl _ w⟩
  · have hd1 : (b == a) = false := beq_eq_false_iff_ne.2 hq
    have hd2 : (b != a) = true := bne_iff_ne.2 hq
    rw [decide_eq_false hq]
    clear hq
    go_enter Try.func117, Try.ntmps117
    go_wp2_with (go_at_call 84; refine hcon.mono ?_; rintro e w' ⟨rfl, hb'⟩)
    go_ret
    exact ⟨by simp, hb'⟩
end Go.Proofs.Ytgajfpebfnlipaa.P
namespace Go.Proofs.Ytgajfpebfnlipaa.P
open Go.RowKit Go.Proofs.YtgajfpebfnlipaaW.PrintWords Go.Proofs.YtgajfpebfnlipaaW.PrintLast Go.Proofs.YtgajfpebfnlipaaW.PrintMore
attribute [local go_sem] max2_int min2_int max_two min_two max_three min_three max_four min_four   -- for this text's walks alone
set_option linter.unusedVariables false
set_option linter.unusedSimpArgs false
/-! ### impl_LeastCatches_1: function 114 -/
set_option maxHeartbeats 1000000 in
theorem impl_LeastCatches_1.callsF (B D : Nat) (A : Option Addr) (c : Nat) (t : List Cls) (A1 : Option Addr) (c1 : Nat) (l : List Int) (a : Int) (w : World) (hv : vT t = true) (ha : a < (t.length : Int)) (hB : w.heap[B]? = some (.cells #[.slice A1 l.length c1] 56 (0, 0))) (hD : w.heap[D]? = some (.cells #[.slice A t.length c] 31 (0, 0))) (hr : Kd.C k142 w A t.length t) (hc : t.length ≤ c) (hr1 : Kd.C (Kd.int .i64) w A1 l.length l) (hc1 : l.length ≤ c1) :
    Calls Try.prog 114 #[.int .i64 a, .pointer (some ⟨B, 0, none⟩), .pointer (some ⟨D, 0, none⟩)] w fun e w' => e = .returned (.bool (l.contains a && !(l.any fun b => !decide (b = a) && isA t a b))) ∧ Below w.heap.size w w' := by
  have hu31 := Try.underlying31
  have HCO := Aside0.mk (fun (W : World) (hb : Below w.heap.size w W) => slices_Contains_int.calls (l.length + 1) A1 c1 l a (l.contains a) W (Kd.C_below hr1 hb) hc1 (slices_Contains_int_ev l a hr1.2.1 _ (by omega)))
  have eg : ∀ args w, (callFunc 117 args).run Try.prog w = .ok (.enter 117 args) w := enters_of Try.func117 (by kernel_rfl) rfl
  have HC := Aside0.mk (fun (W : World) (hb : Below w.heap.size w W) (hG : W.heap[w.heap.size]? = some (.cells #[.int .i64 a] 3 (0, 0))) (hE : W.heap[D]? = some (.cells #[.slice A t.length c] 31 (0, 0))) => slices_ContainsFunc_int.callsF A1 c1 l 117 #[.pointer (some ⟨w.heap.size, 0, none⟩), .pointer (some ⟨D, 0, none⟩)] (fun b => !decide (b = a) && isA t a b) W eg (Kd.C_below hr1 hb) hc1 (fun b _ W' hW => impl_LeastCatches_1_1.callsF w.heap.size D A c t a b W' hv ha (blk_keptB hG hW) (blk_keptB hE hW) (Kd.C_below (Kd.C_below hr hb) hW) hc))
  have HB := Aside0.mk (below1 w (.cells #[.int .i64 a] 3))
  have BK1 := Aside0.mk (heap_new1 w (.cells #[.int .i64 a] 3))
  have hBw := blk_keptB hB HB.out
  have BKD := Aside0.mk (blk_keptB hD HB.out)
  have hcell : (w.alloc (.cells #[.int .i64 a] 3)).cell? ⟨B, 0, none⟩ = some (.slice A1 l.length c1) := (blk_cell hBw 0).trans rfl
  have hcell2 : (w.alloc (.cells #[.int .i64 a] 3)).cell? ⟨w.heap.size, 0, none⟩ = some (.int .i64 a) := (blk_cell BK1.out 0).trans rfl
  clear hB hD hr hr1 hv eg hBw
  generalize (l.any fun b => !decide (b = a) && isA t a b) = q at HC ⊢
  cases hq : l.contains a with
  | false =>
    rw [hq] at HCO
    clear hq
    go_enter Try.func114, Try.ntmps114
    go_wp2_with (go_at_call 115; refine (HCO.out _ HB.out).mono ?_; rintro e w' ⟨rfl, hd'⟩; have hb' := hd'.below; replace HB := Aside0.mk (below_step HB.out hb'))
    go_ret
    exact ⟨rfl, HB.out⟩
  | true =>
    rw [hq] at HCO
    clear hq
    go_enter Try.func114, Try.ntmps114
    go_wp2_with (first
      | (go_at_call 115; refine (HCO.out _ HB.out).mono ?_; rintro e w' ⟨rfl, hd'⟩; have hb' := hd'.below; replace HB := Aside0.mk (below_step HB.out hb'); replace BK1 := Aside0.mk (blk_keptB BK1.out hb'); replace BKD := Aside0.mk (blk_keptB BKD.out hb'); replace hcell := pw_cell_below hb' hcell)
      | (go_at_call 116; refine (HC.out _ HB.out BK1.out BKD.out).mono ?_; rintro e w2 ⟨rfl, hb2⟩; replace HB := Aside0.mk (below_step HB.out hb2)))
    go_ret
    exact ⟨by simp, HB.out⟩
end Go.Proofs.Ytgajfpebfnlipaa.P
namespace Go.Proofs.Ytgajfpebfnlipaa.P
open Go.RowKit Go.Proofs.YtgajfpebfnlipaaW.PrintWords Go.Proofs.YtgajfpebfnlipaaW.PrintLast Go.Proofs.YtgajfpebfnlipaaW.PrintMore
attribute [local go_sem] max2_int min2_int max_two min_two max_three min_three max_four min_four   -- for this text's walks alone
set_option linter.unusedVariables false
set_option linter.unusedSimpArgs false
/-! ### impl_LeastCatches: function 51 -/
def impl_LeastCatches.f (l0_0 : List Cls) (l1 : List Int) : Option (List Int) := if smT l0_0 = true then some (leastP l0_0 l1) else none
set_option maxHeartbeats 2000000 in
set_option maxRecDepth 100000 in
theorem impl_LeastCatches.calls (A0_0 : Option Addr) (c0_0 : Nat) (l0_0 : List (S142)) (A1 : Option Addr) (c1 : Nat) (l1 : List Int) (r : List Int) (w : World) (hr0_0 : Kd.C k142 w A0_0 l0_0.length l0_0) (hc0_0 : l0_0.length ≤ c0_0) (hr1 : Kd.C (Kd.int .i64) w A1 l1.length l1) (hc1 : l1.length ≤ c1) (h : impl_LeastCatches.f l0_0 l1 = some r) :
    Calls Try.prog 51 #[.agg #[.slice A0_0 l0_0.length c0_0], .slice A1 l1.length c1] w fun e w' => ∃ v0_ : Value, e = .returned (v0_) ∧ Kd.R (Kd.int .i64) 3 w' w.heap.size (fun _ => True) v0_ r ∧ Below w.heap.size w w' := by
  have hu31 := Try.underlying31
  have hsm : smT l0_0 = true := by
    apply Classical.byContradiction
    intro hn
    rw [impl_LeastCatches.f, if_neg hn] at h
    cases h
  rw [impl_LeastCatches.f, if_pos hsm] at h
  obtain rfl := Option.some.inj h
  clear h
  have HK := Aside0.mk (fun (W : World) (hb : Below w.heap.size w W) => impl_catchesOk.calls A0_0 c0_0 l0_0 A1 c1 l1 (okCat l0_0 l1) W (Kd.C_below hr0_0 hb) hc0_0 (Kd.C_below hr1 hb) hc1 (impl_catchesOk_ev l0_0 l1 hsm))
  have eg : ∀ args w, (callFunc 114 args).run Try.prog w = .ok (.enter 114 args) w := enters_of Try.func114 (by kernel_rfl) rfl
  have hcell := (blk_cell (heap_old2 w (.cells #[.slice A0_0 l0_0.length c0_0] 31) (.cells #[.slice A1 l1.length c1] 56)) 0).trans rfl
  have hcell2 := (blk_cell (heap_new2 w (.cells #[.slice A0_0 l0_0.length c0_0] 31) (.cells #[.slice A1 l1.length c1] 56)) 0).trans rfl
  unfold leastP
  cases hb1 : okCat l0_0 l1 with
  | false =>
    rw [hb1] at HK
    rw [if_neg (by simp)]
    clear hr0_0 hr1 hsm eg hb1
    go_enter Try.func51, Try.ntmps51
    go_wp2_with (go_at_call 101; refine (HK.out _ (below2 w _ _)).mono ?_; rintro e w' ⟨rfl, hb'⟩)
    go_ret
    exact ⟨_, rfl, Kd.R_nil _ _ _ _ _, (below2 w _ _).trans (hb'.mono (by simp; omega))⟩
  | true =>
    rw [hb1] at HK
    have hv : vT l0_0 = true := by unfold okCat at hb1; simp only [Bool.and_eq_true] at hb1; exact hb1.1
    have hlen := vT_len hv
    have HC := Aside0.mk (fun (W : World) (hb : Below w.heap.size w W) (hB : W.heap[w.heap.size]? = some (.cells #[.slice A0_0 l0_0.length c0_0] 31 (0, 0))) (hD : W.heap[w.heap.size + 1]? = some (.cells #[.slice A1 l1.length c1] 56 (0, 0))) => impl_Tree_filter.callsF A0_0 c0_0 l0_0 114 #[.pointer (some ⟨w.heap.size + 1, 0, none⟩), .pointer (some ⟨w.heap.size, 0, none⟩)] (fun a => l1.contains a && !(l1.any fun b => !decide (b = a) && isA l0_0 a b)) W eg (Kd.C_below hr0_0 hb) hc0_0 (by omega) (fun i hi W' hW => impl_LeastCatches_1.callsF (w.heap.size + 1) w.heap.size A0_0 c0_0 l0_0 A1 c1 l1 (i : Int) W' hv (by omega) (blk_keptB hD hW) (blk_keptB hB hW) (Kd.C_below (Kd.C_below hr0_0 hb) hW) hc0_0 (Kd.C_below (Kd.C_below hr1 hb) hW) hc1))
    rw [if_pos rfl]
    clear hr0_0 hr1 hsm eg hb1 hv
    generalize fil l0_0 (fun a => l1.contains a && !(l1.any fun b => !decide (b = a) && isA l0_0 a b)) = res at HC ⊢
    go_enter Try.func51, Try.ntmps51
    go_wp2_with (first
      | (go_at_call 101; refine (HK.out _ (below2 w _ _)).mono ?_; rintro e w1 ⟨rfl, hb1⟩; replace hcell := pw_cell_below hb1 hcell; replace hcell2 := pw_cell_below hb1 hcell2)
      | (go_at_call 102; refine (HC.out _ ((below2 w _ _).trans (hb1.mono (by simp; omega))) (blk_keptB (heap_old2 w _ _) hb1) (blk_keptB (heap_new2 w _ _) hb1)).mono ?_; rintro e w2 ⟨v2, rfl, ho2, hb2⟩))
    go_ret
    exact ⟨_, rfl, Kd.R_lower ho2 (by have := hb1.size; simp at this; omega), below_step ((below2 w _ _).trans (hb1.mono (by simp; omega))) hb2⟩
theorem impl_LeastCatches_ev (t : List Cls) (l : List Int) (hs : smT t = true) : Ev (fun _ => impl_LeastCatches.f t l) (leastP t l) := by
  refine Ev.const ?_
  unfold impl_LeastCatches.f
  rw [if_pos hs]
end Go.Proofs.Ytgajfpebfnlipaa.P
namespace Go.Proofs.Ytgajfpebfnlipaa.P
open Go.RowKit Go.Proofs.YtgajfpebfnlipaaW.PrintWords Go.Proofs.YtgajfpebfnlipaaW.PrintLast Go.Proofs.YtgajfpebfnlipaaW.PrintMore
attribute [local go_sem] max2_int min2_int max_two min_two max_three min_three max_four min_four   -- for this text's walks alone
set_option linter.unusedVariables false
set_option linter.unusedSimpArgs false
/-! ### laws_eqIntS: function 52 -/
def laws_eqIntS.l0 : Nat → List Int → List Int → Int → Option (Bool)
  | 0, _, _, _ => none
  | k + 1, x0, x1, x5 => if x5 < (x0.length : Int) then (if 0 ≤ x5 then (if x5 < (x1.length : Int) then (if (rd x0 x5) = (rd x1 x5) then (laws_eqIntS.l0 k x0 x1 (wrap64 (x5 + 1))) else (some false)) else (none)) else (none)) else (some true)
def laws_eqIntS.f (k : Nat) (l0 : List Int) (l1 : List Int) : Option (Bool) := if (l0.length : Int) = (l1.length : Int) then (laws_eqIntS.l0 k l0 l1 0) else (some false)
theorem laws_eqIntS.mono_l : ∀ k, (∀ y0 y1 y2, LeO (laws_eqIntS.l0 k y0 y1 y2) (laws_eqIntS.l0 (k + 1) y0 y1 y2))
  | 0 => fun _ _ _ r h => by simp [laws_eqIntS.l0] at h
  | k + 1 => by
    have ih0 := laws_eqIntS.mono_l k
    · intro y0 y1 y2
      unfold laws_eqIntS.l0
      repeat' first
      | (with_reducible exact ih0 _ _ _)
      | (with_reducible exact LeO.refl _)
      | (with_reducible exact LeO.none _)
      | (with_reducible refine LeO.ite ?_ ?_)
      | (with_reducible refine LeO.bind ?_ (fun _ => ?_))
      | exact ih0 _ _ _
      | exact LeO.none _
      | refine LeO.ite ?_ ?_
      | refine LeO.bind ?_ (fun _ => ?_)
theorem laws_eqIntS.mono : ∀ a0 a1 k, LeO (laws_eqIntS.f k a0 a1) (laws_eqIntS.f (k + 1) a0 a1) := by
  intro a0 a1 k
  have ih0 := laws_eqIntS.mono_l k
  unfold laws_eqIntS.f
  repeat' first
      | (with_reducible exact ih0 _ _ _)
      | (with_reducible exact LeO.refl _)
      | (with_reducible exact LeO.none _)
      | (with_reducible refine LeO.ite ?_ ?_)
      | (with_reducible refine LeO.bind ?_ (fun _ => ?_))
      | exact ih0 _ _ _
      | exact LeO.none _
      | refine LeO.ite ?_ ?_
      | refine LeO.bind ?_ (fun _ => ?_)
set_option maxHeartbeats 8000000 in
set_option maxRecDepth 100000 in
theorem laws_eqIntS.calls (k : Nat) (A0 : Option Addr) (c0 : Nat) (l0 : List Int) (A1 : Option Addr) (c1 : Nat) (l1 : List Int) (r : Bool) (w : World) (hr0 : Kd.C (Kd.int .i64) w A0 l0.length l0) (hc0 : l0.length ≤ c0) (hr1 : Kd.C (Kd.int .i64) w A1 l1.length l1) (hc1 : l1.length ≤ c1) (h : laws_eqIntS.f k l0 l1 = some r) :
    Calls Try.prog 52 #[.slice A0 l0.length c0, .slice A1 l1.length c1] w fun e w' => e = .returned (.bool r) ∧ Drawn0 w w' := by
  have HR0 := Aside0.mk hr0
  have HC0 := Aside0.mk hc0
  clear hr0 hc0
  have HR1 := Aside0.mk hr1
  have HC1 := Aside0.mk hc1
  clear hr1 hc1
  have H : (if (l0.length : Int) = (l1.length : Int) then (laws_eqIntS.l0 k l0 l1 0) else (some false)) = some r := h
  clear h
  by_cases c3 : (l0.length : Int) = (l1.length : Int)
  · rw [if_pos c3] at H
    have c3b0 : ((l0.length : Int) == (l1.length : Int)) = true := beq_iff_eq.mpr c3
    have c3b1 : ((l0.length : Int) != (l1.length : Int)) = false := bne_eq_false_iff_eq.mpr c3
    have c3b2 : (l0.length == l1.length) = true := by first | simpa using c3 | (simp at c3 ⊢; omega)
    clear c3
    have H' := Aside0.mk H
    clear H
    go_enter Try.func52, Try.ntmps52
    go_wp2
    repeat (go_quiet (fail); try go_wp2)
    go_loopg [5] k (fun kq v5 w' => ∃ (x5_1 : Int), v5 = .int .i64 x5_1 ∧ Aside0 (laws_eqIntS.l0 kq l0 l1 x5_1 = some r) ∧ Aside0 (kq ≤ k) ∧ Drawn0 w w')
    case atStart => exact ⟨(0), (by first | rfl | (simp; done) | (simp [*]; done)), H', ⟨Nat.le_refl _⟩, by repeat (first | exact Drawn0.refl _ | apply Drawn0.step)⟩
    case round =>
      clear H'
      try clear c1
      try clear p2
      try clear c3
      try clear c3b0
      try clear c3b1
      try clear c3b2
      obtain ⟨x5_1, rfl, HA, HK1, ⟨m1, rfl⟩⟩ := hrel
      cases gk with
      | zero => exact absurd HA.out (by simp [laws_eqIntS.l0])
      | succ k1 =>
        have H := HA.out
        clear HA
        simp only [laws_eqIntS.l0] at H
        by_cases c4 : x5_1 < (l0.length : Int)
        · rw [if_pos c4] at H
          have c4b0 : decide (x5_1 < (l0.length : Int)) = true := decide_eq_true c4
          clear c4
          by_cases c5 : 0 ≤ x5_1
          · rw [if_pos c5] at H
            have c5b0 : decide (0 ≤ x5_1) = true := decide_eq_true c5
            clear c5
            by_cases c6 : x5_1 < (l1.length : Int)
            · rw [if_pos c6] at H
              have c6b0 : decide (x5_1 < (l1.length : Int)) = true := decide_eq_true c6
              clear c6
              by_cases c7 : (rd l0 x5_1) = (rd l1 x5_1)
              · rw [if_pos c7] at H
                have c7b0 : ((rd l0 x5_1) == (rd l1 x5_1)) = true := beq_iff_eq.mpr c7
                have c7b1 : ((rd l0 x5_1) != (rd l1 x5_1)) = false := bne_eq_false_iff_eq.mpr c7
                clear c7
                have H' := Aside0.mk H
                clear H
                have p1 : 0 ≤ (x5_1 : Int) := of_decide_eq_true (by first | (with_reducible assumption) | assumption)
                have q1 : x5_1 < (l0.length : Int) := of_decide_eq_true (by first | (with_reducible assumption) | assumption)
                obtain ⟨ad1, e1, hx1_0⟩ := Kd.at_int HR0.out x5_1 p1 q1
                cases e1
                replace p1 := eq_true p1
                replace q1 := eq_true q1
                have p2 : 0 ≤ (x5_1 : Int) := of_decide_eq_true (by first | (with_reducible assumption) | assumption)
                have q2 : x5_1 < (l1.length : Int) := of_decide_eq_true (by first | (with_reducible assumption) | assumption)
                obtain ⟨ad2, e2, hx2_0⟩ := Kd.at_int HR1.out x5_1 p2 q2
                cases e2
                replace p2 := eq_true p2
                replace q2 := eq_true q2
                go_wp2
                repeat (go_quiet (fail); try go_wp2)
                go_roundg k1
                case measure => have := HK1.out; omega
                case rel => exact ⟨(wrap64 (x5_1 + 1)), (by first | rfl | (simp; done) | (simp [*]; done)), H', ⟨by have := HK1.out; omega⟩, by repeat (first | exact Drawn0.refl _ | apply Drawn0.step)⟩
              · rw [if_neg c7] at H
                have c7b0 : ((rd l0 x5_1) == (rd l1 x5_1)) = false := beq_eq_false_iff_ne.mpr c7
                have c7b1 : ((rd l0 x5_1) != (rd l1 x5_1)) = true := bne_iff_ne.mpr c7
                obtain rfl := Option.some.inj H
                have p1 : 0 ≤ (x5_1 : Int) := of_decide_eq_true (by first | (with_reducible assumption) | assumption)
                have q1 : x5_1 < (l0.length : Int) := of_decide_eq_true (by first | (with_reducible assumption) | assumption)
                obtain ⟨ad1, e1, hx1_0⟩ := Kd.at_int HR0.out x5_1 p1 q1
                cases e1
                replace p1 := eq_true p1
                replace q1 := eq_true q1
                have p2 : 0 ≤ (x5_1 : Int) := of_decide_eq_true (by first | (with_reducible assumption) | assumption)
                have q2 : x5_1 < (l1.length : Int) := of_decide_eq_true (by first | (with_reducible assumption) | assumption)
                obtain ⟨ad2, e2, hx2_0⟩ := Kd.at_int HR1.out x5_1 p2 q2
                cases e2
                replace p2 := eq_true p2
                replace q2 := eq_true q2
                go_wp2
                repeat (go_quiet (fail); try go_wp2)
                go_ret
                exact ⟨by first | rfl | (simp; done) | (simp [*]; done), by repeat (first | exact Drawn0.refl _ | apply Drawn0.step)⟩
            · rw [if_neg c6] at H
              exact absurd H (by simp)
          · rw [if_neg c5] at H
            exact absurd H (by simp)
        · rw [if_neg c4] at H
          have c4b0 : decide (x5_1 < (l0.length : Int)) = false := decide_eq_false c4
          clear c4
          obtain rfl := Option.some.inj H
          go_wp2
          repeat (go_quiet (fail); try go_wp2)
          go_ret
          exact ⟨by first | rfl | (simp; done) | (simp [*]; done), by repeat (first | exact Drawn0.refl _ | apply Drawn0.step)⟩
  · rw [if_neg c3] at H
    have c3b0 : ((l0.length : Int) == (l1.length : Int)) = false := beq_eq_false_iff_ne.mpr c3
    have c3b1 : ((l0.length : Int) != (l1.length : Int)) = true := bne_iff_ne.mpr c3
    have c3b2 : (l0.length == l1.length) = false := by first | simpa using c3 | (simp at c3 ⊢; omega)
    obtain rfl := Option.some.inj H
    go_enter Try.func52, Try.ntmps52
    go_wp2
    repeat (go_quiet (fail); try go_wp2)
    go_ret
    exact ⟨by first | rfl | (simp; done) | (simp [*]; done), by repeat (first | exact Drawn0.refl _ | apply Drawn0.step)⟩
theorem laws_eqIntS_ev (l : List Int) (hl : l.length ≤ 9223372036854775807) : Ev (fun k => laws_eqIntS.f k l l) true := by
  have h := st_loop (fun k (_ : Unit) i => laws_eqIntS.l0 k l l i) l.length (fun _ => ()) true (by
    intro k i hi
    simp only [laws_eqIntS.l0]
    rw [if_pos (by omega), if_pos (by omega), if_pos (by omega), if_pos trivial, wrap_succ (i := (i : Int)) (n := l.length) (by omega) (by omega) (by omega)]
    rfl) (by
    intro k
    simp only [laws_eqIntS.l0]
    rw [if_neg (by omega)])
  refine Ev.of_mono (laws_eqIntS.mono l l) (K := l.length + 1) ?_
  unfold laws_eqIntS.f
  rw [if_pos rfl]
  exact h
end Go.Proofs.Ytgajfpebfnlipaa.P
namespace Go.Proofs.Ytgajfpebfnlipaa.P
open Go.RowKit Go.Proofs.YtgajfpebfnlipaaW.PrintWords Go.Proofs.YtgajfpebfnlipaaW.PrintLast Go.Proofs.YtgajfpebfnlipaaW.PrintMore
attribute [local go_sem] max2_int min2_int max_two min_two max_three min_three max_four min_four   -- for this text's walks alone
set_option linter.unusedVariables false
set_option linter.unusedSimpArgs false
/-! ### laws_markText: function 169 -/
def laws_markText.l0 : Nat → Int → ByteArray → Option (ByteArray)
  | 0, _, _ => none
  | k + 1, x0, x3 => if x0 > 0 then ((some (([(wrap64 (48 + (Int.tmod x0 10))) % 256] : List Int) : List Int)).bind fun y1 => (if (strOfNums y1).size + x3.size ≤ 9223372036854775807 then (laws_markText.l0 k (wrap64 (Int.tdiv x0 10)) ((strOfNums y1) ++ x3)) else (none))) else (if 1 + x3.size ≤ 9223372036854775807 then (some ((⟨#[109]⟩ : ByteArray) ++ x3)) else (none))
def laws_markText.f (k : Nat) (a0 : Int) : Option (ByteArray) := if a0 ≤ 0 then (some (⟨#[109, 48]⟩ : ByteArray)) else (laws_markText.l0 k a0 (⟨#[]⟩ : ByteArray))
theorem laws_markText.mono_l : ∀ k, (∀ y0 y1, LeO (laws_markText.l0 k y0 y1) (laws_markText.l0 (k + 1) y0 y1))
  | 0 => fun _ _ r h => by simp [laws_markText.l0] at h
  | k + 1 => by
    have ih0 := laws_markText.mono_l k
    · intro y0 y1
      unfold laws_markText.l0
      repeat' first
      | (with_reducible exact ih0 _ _)
      | (with_reducible exact LeO.refl _)
      | (with_reducible exact LeO.none _)
      | (with_reducible refine LeO.ite ?_ ?_)
      | (with_reducible refine LeO.bind ?_ (fun _ => ?_))
      | exact ih0 _ _
      | exact LeO.none _
      | refine LeO.ite ?_ ?_
      | refine LeO.bind ?_ (fun _ => ?_)
theorem laws_markText.mono : ∀ a0 k, LeO (laws_markText.f k a0) (laws_markText.f (k + 1) a0) := by
  intro a0 k
  have ih0 := laws_markText.mono_l k
  unfold laws_markText.f
  repeat' first
      | (with_reducible exact ih0 _ _)
      | (with_reducible exact LeO.refl _)
      | (with_reducible exact LeO.none _)
      | (with_reducible refine LeO.ite ?_ ?_)
      | (with_reducible refine LeO.bind ?_ (fun _ => ?_))
      | exact ih0 _ _
      | exact LeO.none _
      | refine LeO.ite ?_ ?_
      | refine LeO.bind ?_ (fun _ => ?_)
set_option maxHeartbeats 8000000 in
set_option maxRecDepth 100000 in
theorem laws_markText.calls (k : Nat) (a0 : Int) (r : ByteArray) (w : World) (h : laws_markText.f k a0 = some r) :
    Calls Try.prog 169 #[.int .i64 a0] w fun e w' => e = .returned (.string r) ∧ Below w.heap.size w w' := by
  have HB := Aside0.mk (Below.refl w.heap.size w)
  have H : (if a0 ≤ 0 then (some (⟨#[109, 48]⟩ : ByteArray)) else (laws_markText.l0 k a0 (⟨#[]⟩ : ByteArray))) = some r := h
  clear h
  by_cases c2 : a0 ≤ 0
  · rw [if_pos c2] at H
    have c2b0 : decide (a0 ≤ 0) = true := decide_eq_true c2
    clear c2
    obtain rfl := Option.some.inj H
    go_enter Try.func169, Try.ntmps169
    go_wp2
    go_ret
    exact ⟨by first | rfl | (simp [errW_none, errW_some] <;> rfl) | (simp [*, errW_none, errW_some] <;> rfl), by repeat (first | (with_reducible first | exact HB.out | apply below_alloc | apply pw_below_drewN | apply below_drew1) | exact HB.out)⟩
  · rw [if_neg c2] at H
    have c2b0 : decide (a0 ≤ 0) = false := decide_eq_false c2
    clear c2
    have H' := Aside0.mk H
    clear H
    go_enter Try.func169, Try.ntmps169
    go_wp2
    go_loopg [0, 3] k (fun kq v0 v3 w' => ∃ (x0_1 : Int) (x3_1 : ByteArray), v0 = .int .i64 x0_1 ∧ v3 = .string x3_1 ∧ Aside0 (laws_markText.l0 kq x0_1 x3_1 = some r) ∧ Aside0 (kq ≤ k) ∧ Aside0 (Below w.heap.size w w'))
    case atStart => exact ⟨(a0), ((⟨#[]⟩ : ByteArray)), (by first | rfl | (simp; done) | (simp [*]; done)), (by first | rfl | (simp; done) | (simp [*]; done)), H', ⟨Nat.le_refl _⟩, ⟨by repeat (first | (with_reducible first | exact HB.out | apply below_alloc | apply pw_below_drewN | apply below_drew1) | exact HB.out)⟩⟩
    case round =>
      clear H'
      try clear c1
      try clear c2
      try clear c2b0
      try clear p2
      obtain ⟨x0_1, x3_1, rfl, rfl, HA, HK1, HB⟩ := hrel
      cases gk with
      | zero => exact absurd HA.out (by simp [laws_markText.l0])
      | succ k1 =>
        have H := HA.out
        clear HA
        simp only [laws_markText.l0] at H
        by_cases c3 : x0_1 > 0
        · rw [if_pos c3] at H
          have c3b0 : decide (0 < x0_1) = true := decide_eq_true c3
          clear c3
          obtain ⟨y1, hy1⟩ : ∃ y_ : List Int, y_ = (([(wrap64 (48 + (Int.tmod x0_1 10))) % 256] : List Int)) := ⟨_, rfl⟩
          replace H : (if (strOfNums y1).size + x3_1.size ≤ 9223372036854775807 then (laws_markText.l0 k1 (wrap64 (Int.tdiv x0_1 10)) ((strOfNums y1) ++ x3_1)) else (none)) = some r := by first | (rw [hy1]; with_reducible exact H) | (have H2_ := (Option.bind_some _ _).symm.trans H; rw [hy1]; with_reducible exact H2_) | (have H2_ := (Option.bind_some _ _).symm.trans H; with_reducible exact H2_) | with_reducible exact H | (rw [hy1]; exact H) | exact H
          have Ny1 := Aside0.mk hy1
          clear hy1
          by_cases c4 : (strOfNums y1).size + x3_1.size ≤ 9223372036854775807
          · rw [if_pos c4] at H
            have c4b0 := eq_true c4
            have c4b1 : decide ((strOfNums y1).size + x3_1.size ≤ 9223372036854775807) = true := decide_eq_true c4
            try have c4b2 : (9223372036854775807 < (strOfNums y1).size + x3_1.size) = False := eq_false (Nat.not_lt.2 c4)
            have H' := Aside0.mk H
            clear H
            go_wp2_with (first | ((with_reducible refine gate_dst (N := 12) rfl ?_); refine Kd.R_lit (Kd.int .u8) _ 5 ?hg (N := 12) ?hd (xs := ([(wrap64 (48 + (Int.tmod x0_1 10))) % 256] : List Int)) (inner := [.int .u8 ((wrap64 (48 + (Int.tmod x0_1 10))) % 256)]) (ok := fun _ => True) (okp := fun _ => True) ?hr ?hp (fun _ hk => hk) trivial (Below.refl _ _) (Nat.le_refl _) (by simp) ?_; (case hd => rfl); (case hg => rfl); (case hr => first | (go_simp; done) | (go_simp; rfl)); (case hp => exact (Reps.one (show Kd.M (Kd.int .u8) _ _ _ ((wrap64 (48 + (Int.tmod x0_1 10))) % 256) [.int .u8 ((wrap64 (48 + (Int.tmod x0_1 10))) % 256)] from rfl) (Reps.none _ _))); intro v2 w5 ho6 hb hg_ hnew_; clear hg_ hnew_; (first | rw [← Ny1.out] at ho6 | (simp only [Int.reduceToNat] at ho6; rw [← Ny1.out] at ho6)); have n0_ := Aside0.mk (Kd.R_lower ho6 (below_size (by repeat (first | (with_reducible first | exact HB.out | apply below_alloc | apply pw_below_drewN | apply below_drew1) | exact HB.out)))); have n1_ := Aside0.mk (below_step (by repeat (first | (with_reducible first | exact HB.out | apply below_alloc | apply pw_below_drewN | apply below_drew1) | exact HB.out)) hb); clear HB; have HO3 := n0_; have HB := n1_; clear n0_ n1_; clear hb ho6; have hcv7 := own_string (P := Try.prog) Try.underlying38 Try.underlying5 Try.underlying9 (Kd.own_of_R HO3.out)))
            go_roundg k1
            case measure => have := HK1.out; omega
            case rel => exact ⟨(wrap64 (Int.tdiv x0_1 10)), ((strOfNums y1) ++ x3_1), (by first | rfl | (simp; done) | (simp [*]; done)), (by first | rfl | (simp; done) | (simp [*]; done)), H', ⟨by have := HK1.out; omega⟩, ⟨by repeat (first | (with_reducible first | exact HB.out | apply below_alloc | apply pw_below_drewN | apply below_drew1) | exact HB.out)⟩⟩
          · rw [if_neg c4] at H
            exact absurd H (by simp)
        · rw [if_neg c3] at H
          have c3b0 : decide (0 < x0_1) = false := decide_eq_false c3
          clear c3
          by_cases c8 : 1 + x3_1.size ≤ 9223372036854775807
          · rw [if_pos c8] at H
            have c8b0 := eq_true c8
            have c8b1 : decide (1 + x3_1.size ≤ 9223372036854775807) = true := decide_eq_true c8
            try have c8b2 : (9223372036854775807 < 1 + x3_1.size) = False := eq_false (Nat.not_lt.2 c8)
            obtain rfl := Option.some.inj H
            go_wp2
            go_ret
            exact ⟨by first | rfl | (simp [errW_none, errW_some] <;> rfl) | (simp [*, errW_none, errW_some] <;> rfl), by repeat (first | (with_reducible first | exact HB.out | apply below_alloc | apply pw_below_drewN | apply below_drew1) | exact HB.out)⟩
          · rw [if_neg c8] at H
            exact absurd H (by simp)
theorem laws_markText_l0 : ∀ (n : Nat) (a : Int) (out : ByteArray), 0 ≤ a → a < (n : Int) → out.size + n ≤ 9223372036854775807 → ∃ s, laws_markText.l0 n a out = some s := by
  intro n
  induction n with
  | zero => intro a out h0 h; omega
  | succ n ih =>
    intro a out h0 h hs
    simp only [laws_markText.l0]
    by_cases hp : a > 0
    · rw [if_pos hp]
      simp only [Option.bind_some]
      rw [if_pos (by rw [strOfNums_size]; simp; omega)]
      have hd : Int.tdiv a 10 = a / 10 := Int.tdiv_eq_ediv_of_nonneg h0
      rw [hd, wrap_in (by omega) (by omega)]
      exact ih _ _ (by omega) (by omega) (by rw [ByteArray.size_append, strOfNums_size]; simp; omega)
    · rw [if_neg hp, if_pos (by omega)]
      exact ⟨_, rfl⟩
theorem laws_markText_ev (a : Int) (ha : a ≤ 4611686018427387904) : ∃ s, Ev (fun k => laws_markText.f k a) s := by
  by_cases h : a ≤ 0
  · exact ⟨_, Ev.pos h (Ev.const rfl)⟩
  · obtain ⟨s, hs⟩ := laws_markText_l0 (a.toNat + 1) a ⟨#[]⟩ (by omega) (by omega) (by show 0 + _ ≤ _; omega)
    refine ⟨s, Ev.of_mono (laws_markText.mono a) (K := a.toNat + 1) ?_⟩
    unfold laws_markText.f
    rw [if_neg h]
    exact hs
end Go.Proofs.Ytgajfpebfnlipaa.P
namespace Go.Proofs.Ytgajfpebfnlipaa.P
open Go.RowKit Go.Proofs.YtgajfpebfnlipaaW.PrintWords Go.Proofs.YtgajfpebfnlipaaW.PrintLast Go.Proofs.YtgajfpebfnlipaaW.PrintMore
attribute [local go_sem] max2_int min2_int max_two min_two max_three min_three max_four min_four   -- for this text's walks alone
set_option linter.unusedVariables false
set_option linter.unusedSimpArgs false
/-! ### laws_markClassS: function 118 -/
def laws_markClassS.l0 : Nat → List (S142) → Int → Int → Option (Int × (List (S142)))
  | 0, _, _, _ => none
  | k + 1, x0, x1, x5 => if x5 < (x0.length : Int) then ((laws_markText.f k x1).bind fun t1 => (if 0 ≤ x5 then ((some (x0.set (x5 : Int).toNat (⟨t1, (rd_T142 x0 x5).f1⟩ : S142) : List (S142))).bind fun y2 => (laws_markClassS.l0 k (y2.set (x5 : Int).toNat (⟨(rd_T142 y2 x5).f0, wrap64 (x1 + 1)⟩ : S142)) (wrap64 ((wrap64 (x1 + 1)) + 1)) (wrap64 (x5 + 1)))) else (none))) else (some (x1, x0))
def laws_markClassS.f (k : Nat) (l0 : List (S142)) (a1 : Int) : Option (Int × (List (S142))) := laws_markClassS.l0 k l0 a1 0
theorem laws_markClassS.mono_l : ∀ k, (∀ y0 y1 y2, LeO (laws_markClassS.l0 k y0 y1 y2) (laws_markClassS.l0 (k + 1) y0 y1 y2))
  | 0 => fun _ _ _ r h => by simp [laws_markClassS.l0] at h
  | k + 1 => by
    have ih0 := laws_markClassS.mono_l k
    · intro y0 y1 y2
      unfold laws_markClassS.l0
      repeat' first
      | (with_reducible exact ih0 _ _ _)
      | (with_reducible exact laws_markText.mono _ _)
      | (with_reducible exact LeO.refl _)
      | (with_reducible exact LeO.none _)
      | (with_reducible refine LeO.ite ?_ ?_)
      | (with_reducible refine LeO.bind ?_ (fun _ => ?_))
      | exact ih0 _ _ _
      | exact laws_markText.mono _ _
      | exact LeO.none _
      | refine LeO.ite ?_ ?_
      | refine LeO.bind ?_ (fun _ => ?_)
theorem laws_markClassS.mono : ∀ a0 a1 k, LeO (laws_markClassS.f k a0 a1) (laws_markClassS.f (k + 1) a0 a1) := by
  intro a0 a1 k
  have ih0 := laws_markClassS.mono_l k
  unfold laws_markClassS.f
  repeat' first
      | (with_reducible exact ih0 _ _ _)
      | (with_reducible exact laws_markText.mono _ _)
      | (with_reducible exact LeO.refl _)
      | (with_reducible exact LeO.none _)
      | (with_reducible refine LeO.ite ?_ ?_)
      | (with_reducible refine LeO.bind ?_ (fun _ => ?_))
      | exact ih0 _ _ _
      | exact laws_markText.mono _ _
      | exact LeO.none _
      | refine LeO.ite ?_ ?_
      | refine LeO.bind ?_ (fun _ => ?_)
set_option maxHeartbeats 8000000 in
set_option maxRecDepth 100000 in
theorem laws_markClassS.calls (k : Nat) (P0_ : Nat → Prop) (u9000_ : Value) (l0 : List (S142)) (a1 : Int) (r1 : Int) (r2 : List (S142)) (w0 w : World) (hB : Below w0.heap.size w0 w) (ho0 : Kd.R k142 142 w w0.heap.size P0_ u9000_ l0) (h : laws_markClassS.f k l0 a1 = some (r1, r2)) :
    Calls Try.prog 118 #[u9000_, .int .i64 a1] w fun e w' => e = .returned (.int .i64 r1) ∧ Kd.R k142 142 w' w0.heap.size (fun k_ => (P0_ k_ ∨ w.heap.size ≤ k_)) u9000_ r2 ∧ Below w0.heap.size w0 w' ∧ Kept w w' (fun k_ => P0_ k_) := by
  have HO0 := Aside0.mk (show Kd.R k142 142 w w0.heap.size (fun k_ => (P0_ k_ ∨ w.heap.size ≤ k_)) u9000_ l0 from Kd.R_mono ho0 (fun k_ hk => (.inl hk)))
  have HK := Aside0.mk (Kept.refl w (fun k_ => P0_ k_))
  have HW0 := Aside0.mk hB.size
  have HB := Aside0.mk hB
  clear hB
  have H : (laws_markClassS.l0 k l0 a1 0) = some (r1, r2) := h
  clear h
  have H' := Aside0.mk H
  clear H
  go_enter Try.func118, Try.ntmps118
  go_wp2
  go_loopg [1, 5] k (fun kq v1 v5 w' => ∃ (x0_1 : List (S142)) (x1_1 : Int) (x5_1 : Int), v1 = .int .i64 x1_1 ∧ v5 = .int .i64 x5_1 ∧ Aside0 (laws_markClassS.l0 kq x0_1 x1_1 x5_1 = some (r1, r2)) ∧ Aside0 (kq ≤ k) ∧ Aside0 (Kd.R k142 142 w' w0.heap.size (fun k_ => (P0_ k_ ∨ w.heap.size ≤ k_)) u9000_ x0_1) ∧ Aside0 (Kept w w' (fun k_ => P0_ k_)) ∧ Aside0 (Below w0.heap.size w0 w'))
  case atStart => exact ⟨(l0), (a1), (0), (by first | rfl | (simp; done) | (simp [*]; done)), (by first | rfl | (simp; done) | (simp [*]; done)), H', ⟨Nat.le_refl _⟩, ⟨by (with_reducible repeat (first | apply Kd.R_alloc | apply Kd.R_drewN | apply Kd.R_drew)); exact HO0.out⟩, ⟨by repeat (first | (with_reducible first | exact HK.out | apply Kept.alloc | apply Kept.drewN | apply Kept.drew) | exact HK.out)⟩, ⟨by repeat (first | (with_reducible first | exact HB.out | apply below_alloc | apply pw_below_drewN | apply below_drew1) | exact HB.out)⟩⟩
  case round =>
    clear H'
    try clear c1
    try clear p2
    obtain ⟨x0_1, x1_1, x5_1, rfl, rfl, HA, HK1, HO_0, HK, HB⟩ := hrel
    cases gk with
    | zero => exact absurd HA.out (by simp [laws_markClassS.l0])
    | succ k1 =>
      have H := HA.out
      clear HA
      simp only [laws_markClassS.l0] at H
      by_cases c3 : x5_1 < (x0_1.length : Int)
      · rw [if_pos c3] at H
        have c3b0 : decide (x5_1 < (x0_1.length : Int)) = true := decide_eq_true c3
        clear c3
        replace H := Option.bind_eq_some_iff.mp H
        obtain ⟨t1, A40, H⟩ := H
        replace H : (if 0 ≤ x5_1 then ((some (x0_1.set (x5_1 : Int).toNat (⟨t1, (rd_T142 x0_1 x5_1).f1⟩ : S142) : List (S142))).bind fun y2 => (laws_markClassS.l0 k1 (y2.set (x5_1 : Int).toNat (⟨(rd_T142 y2 x5_1).f0, wrap64 (x1_1 + 1)⟩ : S142)) (wrap64 ((wrap64 (x1_1 + 1)) + 1)) (wrap64 (x5_1 + 1)))) else (none)) = some (r1, r2) := H
        have A4 := Aside0.mk A40
        clear A40
        by_cases c5 : 0 ≤ x5_1
        · rw [if_pos c5] at H
          have c5b0 : decide (0 ≤ x5_1) = true := decide_eq_true c5
          clear c5
          obtain ⟨y2, hy2⟩ : ∃ y_ : List (S142), y_ = (x0_1.set (x5_1 : Int).toNat (⟨t1, (rd_T142 x0_1 x5_1).f1⟩ : S142)) := ⟨_, rfl⟩
          replace H : (laws_markClassS.l0 k1 (y2.set (x5_1 : Int).toNat (⟨(rd_T142 y2 x5_1).f0, wrap64 (x1_1 + 1)⟩ : S142)) (wrap64 ((wrap64 (x1_1 + 1)) + 1)) (wrap64 (x5_1 + 1))) = some (r1, r2) := by first | (rw [hy2]; with_reducible exact H) | (have H2_ := (Option.bind_some _ _).symm.trans H; rw [hy2]; with_reducible exact H2_) | (have H2_ := (Option.bind_some _ _).symm.trans H; with_reducible exact H2_) | with_reducible exact H | (rw [hy2]; exact H) | exact H
          have Ny2 := Aside0.mk hy2
          clear hy2
          obtain ⟨y3, hy3⟩ : ∃ y_ : List (S142), y_ = (y2.set (x5_1 : Int).toNat (⟨(rd_T142 y2 x5_1).f0, wrap64 (x1_1 + 1)⟩ : S142)) := ⟨_, rfl⟩
          replace H : (laws_markClassS.l0 k1 y3 (wrap64 ((wrap64 (x1_1 + 1)) + 1)) (wrap64 (x5_1 + 1))) = some (r1, r2) := by first | (rw [hy3]; with_reducible exact H) | (have H2_ := (Option.bind_some _ _).symm.trans H; rw [hy3]; with_reducible exact H2_) | (have H2_ := (Option.bind_some _ _).symm.trans H; with_reducible exact H2_) | with_reducible exact H | (rw [hy3]; exact H) | exact H
          have Ny3 := Aside0.mk hy3
          clear hy3
          have H' := Aside0.mk H
          clear H
          obtain ⟨Ao8, co8, eo8⟩ := Kd.R_slice HO_0.out
          subst eo8
          go_wp2_with (first | ((with_reducible refine gate_callee (f := 169) rfl ?_); refine goesL_ (some 15) rfl rfl Try.func169 (by kernel_rfl) rfl #[.int .i64 x1_1] rfl (by (try simp only [List.map_toArray, List.map_cons, List.map_nil]); first | done | rfl | (simp only [List.length_drop, List.length_take]; rfl)) ?_; (with_reducible refine (laws_markText.calls k1 x1_1 t1 _ A4.out).mono ?_); rintro e w9 ⟨rfl, hb⟩; refine ⟨_, rfl, ?_⟩; have n0_ := Aside0.mk (Kd.R_below (by (with_reducible repeat (first | apply Kd.R_alloc | apply Kd.R_drewN | apply Kd.R_drew)); exact HO_0.out) hb); have n1_ := Aside0.mk (Kept.below (S := (fun k_ => P0_ k_)) (by repeat (first | (with_reducible first | exact HK.out | apply Kept.alloc | apply Kept.drewN | apply Kept.drew) | exact HK.out)) hb); have n2_ := Aside0.mk (below_step (by repeat (first | (with_reducible first | exact HB.out | apply below_alloc | apply pw_below_drewN | apply below_drew1) | exact HB.out)) hb); clear HO_0; clear HK; clear HB; have HO_0 := n0_; have HK := n1_; have HB := n2_; clear n0_ n1_ n2_; (try clear hb); (try clear hb2); (try clear hk); (try clear hi); have p6 : 0 ≤ (x5_1 : Int) := of_decide_eq_true (by first | (with_reducible assumption) | assumption); have q6 : (x5_1 : Int) < ((x0_1.length : Int) : Int) := of_decide_eq_true (by first | (with_reducible assumption) | assumption); obtain ⟨go6, co6, eo6, gb6, gl6, cl6, HG6⟩ := Kd.R_form HO_0.out (by omega); (first | cases eo6 | (injection eo6 with ea_ en_ ec_; (first | subst ea_ | (injection ea_ with ea_; subst ea_)); subst ec_; clear en_)); have GB6 := Aside0.mk gb6; have GG6 := Aside0.mk HG6; clear gb6 gl6 HG6; have HMgo6 := Aside0.mk (show (P0_ go6 ∨ w.heap.size ≤ go6) from (HO_0.out.1 _ rfl)); obtain ⟨ce6, hcl6, hM6, hcc6, hfr6⟩ := Kd.R_elem HO_0.out z142 (x5_1 : Int) p6 q6; obtain rfl := k142_openM hM6; have hx6_0 : w9.cell? ⟨go6, (x5_1 : Int).toNat * 2, none⟩ = some (.string ((rd_T142 x0_1 x5_1).f0)) := hcc6 0 _ rfl; have hx6_1 : w9.cell? ⟨go6, (x5_1 : Int).toNat * 2 + 1, none⟩ = some (.int .i64 ((rd_T142 x0_1 x5_1).f1)) := hcc6 1 _ rfl; have hf6_0 : w9.frozen? ⟨go6, (x5_1 : Int).toNat * 2, none⟩ = false := hfr6 0; have hf6_1 : w9.frozen? ⟨go6, (x5_1 : Int).toNat * 2 + 1, none⟩ = false := hfr6 1; clear hcl6 hcc6 hfr6 hM6; replace p6 := eq_true p6; replace q6 := eq_true q6; have HX10 := Aside0.mk (show Kd.R k142 142 w9 w0.heap.size (fun k_ => (P0_ k_ ∨ w.heap.size ≤ k_)) (.slice (some ⟨go6, 0, none⟩) x0_1.length co8) x0_1 from (by (with_reducible repeat (first | apply Kd.R_alloc | apply Kd.R_drewN | apply Kd.R_drew)); exact HO_0.out)); obtain ⟨ce10, hcl10, hM10, hcc10, hfr10⟩ := Kd.R_elem HX10.out z142 (x5_1 : Int) (of_decide_eq_true (by first | (with_reducible assumption) | assumption)) (by have h_ : (x5_1 : Int) < ((x0_1.length : Int) : Int) := of_decide_eq_true (by first | (with_reducible assumption) | assumption); first | exact h_ | (have e_ := (Kd.R_reads' HO_0.out).1; omega) | simpa using h_); obtain rfl := k142_openM hM10; have HP10 := Kd.R_seg HX10.out (x5_1 : Int) (of_decide_eq_true (by first | (with_reducible assumption) | assumption)) (by have h_ : (x5_1 : Int) < ((x0_1.length : Int) : Int) := of_decide_eq_true (by first | (with_reducible assumption) | assumption); first | exact h_ | (have e_ := (Kd.R_reads' HO_0.out).1; omega) | simpa using h_) (seg := [.string t1]) (j := 0) hcl10 hcc10 (show 1 ≤ 2 from by decide) (x' := (⟨t1, (rd_T142 x0_1 x5_1).f1⟩ : S142)) (k142_mkM _ _ _ (⟨t1, (rd_T142 x0_1 x5_1).f1⟩ : S142) ) (fun _ hk => hk); have hx10_0 := hcc10 0 _ rfl; (try simp only [show (k142).sz = 2 from rfl, Nat.mul_one, Nat.add_zero] at hx10_0); have hf10_0 := hfr10 0; (try simp only [show (k142).sz = 2 from rfl, Nat.mul_one, Nat.add_zero] at hf10_0); clear hcl10 hcc10 hfr10 hM10) | ((with_reducible refine gate_store (t := 9) (p := 17) rfl ?_); refine store_event (t := 9) (p := 17) (v := ?vo_w11) (w1 := (w9.setCell ⟨go6, (x5_1 : Int).toNat * 2, none⟩ (.string t1))) ?hg ?ho ?hn ?hr ?_; (case ho => rfl); (case hg => rfl); (case hn => rfl); (case hr => first | (go_simp; done) | (go_simp; rfl)); intro w11 hw; have hg : w9.grownBy w11 (some go6) := (by rw [hw]; exact HP10.2); have hp_ : Kd.R k142 142 w11 w0.heap.size (fun k_ => (P0_ k_ ∨ w.heap.size ≤ k_)) (.slice (some ⟨go6, 0, none⟩) x0_1.length co8) y2 := (by rw [hw, Ny2.out]; exact HP10.1); clear HP10; have n0_ := Aside0.mk (hp_); have n1_ := Aside0.mk ((by rw [hw]; exact below_set (HB.out) GB6.out : Below w0.heap.size w0 w11)); have n2_ := Aside0.mk (Kept.of_grown (S := (fun k_ => P0_ k_)) hg (by repeat (first | (with_reducible first | exact HK.out | apply Kept.alloc | apply Kept.drewN | apply Kept.drew) | exact HK.out)) (fun k_ e_ => (HO_0.out.1 k_ e_))); clear HO_0; clear HB; clear HK; have HO_0 := n0_; have HB := n1_; have HK := n2_; clear n0_ n1_ n2_; clear hg hw hp_; have p7 : 0 ≤ (x5_1 : Int) := of_decide_eq_true (by first | (with_reducible assumption) | assumption); have q7 : (x5_1 : Int) < ((x0_1.length : Int) : Int) := of_decide_eq_true (by first | (with_reducible assumption) | assumption); obtain ⟨ce7, hcl7, hM7, hcc7, hfr7⟩ := Kd.R_elem HO_0.out z142 (x5_1 : Int) p7 q7; obtain rfl := k142_openM hM7; have hx7_0 : w11.cell? ⟨go6, (x5_1 : Int).toNat * 2, none⟩ = some (.string ((rd_T142 y2 x5_1).f0)) := hcc7 0 _ rfl; have hx7_1 : w11.cell? ⟨go6, (x5_1 : Int).toNat * 2 + 1, none⟩ = some (.int .i64 ((rd_T142 y2 x5_1).f1)) := hcc7 1 _ rfl; have hf7_0 : w11.frozen? ⟨go6, (x5_1 : Int).toNat * 2, none⟩ = false := hfr7 0; have hf7_1 : w11.frozen? ⟨go6, (x5_1 : Int).toNat * 2 + 1, none⟩ = false := hfr7 1; clear hcl7 hcc7 hfr7 hM7; replace p7 := eq_true p7; replace q7 := eq_true q7; have HX12 := Aside0.mk (show Kd.R k142 142 w11 w0.heap.size (fun k_ => (P0_ k_ ∨ w.heap.size ≤ k_)) (.slice (some ⟨go6, 0, none⟩) x0_1.length co8) y2 from (by (with_reducible repeat (first | apply Kd.R_alloc | apply Kd.R_drewN | apply Kd.R_drew)); exact HO_0.out)); obtain ⟨ce12, hcl12, hM12, hcc12, hfr12⟩ := Kd.R_elem HX12.out z142 (x5_1 : Int) (of_decide_eq_true (by first | (with_reducible assumption) | assumption)) (by have h_ : (x5_1 : Int) < ((x0_1.length : Int) : Int) := of_decide_eq_true (by first | (with_reducible assumption) | assumption); first | exact h_ | (have e_ := (Kd.R_reads' HO_0.out).1; omega) | simpa using h_); obtain rfl := k142_openM hM12; have HP12 := Kd.R_seg HX12.out (x5_1 : Int) (of_decide_eq_true (by first | (with_reducible assumption) | assumption)) (by have h_ : (x5_1 : Int) < ((x0_1.length : Int) : Int) := of_decide_eq_true (by first | (with_reducible assumption) | assumption); first | exact h_ | (have e_ := (Kd.R_reads' HO_0.out).1; omega) | simpa using h_) (seg := [.int .i64 (wrap64 (x1_1 + 1))]) (j := 1) hcl12 hcc12 (show 2 ≤ 2 from by decide) (x' := (⟨(rd_T142 y2 x5_1).f0, wrap64 (x1_1 + 1)⟩ : S142)) (k142_mkM _ _ _ (⟨(rd_T142 y2 x5_1).f0, wrap64 (x1_1 + 1)⟩ : S142) ) (fun _ hk => hk); have hx12_1 := hcc12 1 _ rfl; (try simp only [show (k142).sz = 2 from rfl, Nat.mul_one, Nat.add_zero] at hx12_1); have hf12_1 := hfr12 1; (try simp only [show (k142).sz = 2 from rfl, Nat.mul_one, Nat.add_zero] at hf12_1); clear hcl12 hcc12 hfr12 hM12) | ((with_reducible refine gate_store (t := 3) (p := 24) rfl ?_); refine store_event (t := 3) (p := 24) (v := ?vo_w13) (w1 := (w11.setCell ⟨go6, (x5_1 : Int).toNat * 2 + 1, none⟩ (.int .i64 (wrap64 (x1_1 + 1))))) ?hg ?ho ?hn ?hr ?_; (case ho => rfl); (case hg => rfl); (case hn => rfl); (case hr => first | (go_simp; done) | (go_simp; rfl)); intro w13 hw; have hg : w11.grownBy w13 (some go6) := (by rw [hw]; exact HP12.2); have hp_ : Kd.R k142 142 w13 w0.heap.size (fun k_ => (P0_ k_ ∨ w.heap.size ≤ k_)) (.slice (some ⟨go6, 0, none⟩) x0_1.length co8) y3 := (by rw [hw, Ny3.out]; exact HP12.1); clear HP12; have n0_ := Aside0.mk (hp_); have n1_ := Aside0.mk ((by rw [hw]; exact below_set (HB.out) GB6.out : Below w0.heap.size w0 w13)); have n2_ := Aside0.mk (Kept.of_grown (S := (fun k_ => P0_ k_)) hg (by repeat (first | (with_reducible first | exact HK.out | apply Kept.alloc | apply Kept.drewN | apply Kept.drew) | exact HK.out)) (fun k_ e_ => (HO_0.out.1 k_ e_))); clear HO_0; clear HB; clear HK; have HO_0 := n0_; have HB := n1_; have HK := n2_; clear n0_ n1_ n2_; clear hg hw hp_))
          go_roundg k1
          case measure => have := HK1.out; omega
          case rel => exact ⟨(y3), (wrap64 ((wrap64 (x1_1 + 1)) + 1)), (wrap64 (x5_1 + 1)), (by first | rfl | (simp; done) | (simp [*]; done)), (by first | rfl | (simp; done) | (simp [*]; done)), H', ⟨by have := HK1.out; omega⟩, ⟨by (with_reducible repeat (first | apply Kd.R_alloc | apply Kd.R_drewN | apply Kd.R_drew)); exact HO_0.out⟩, ⟨by repeat (first | (with_reducible first | exact HK.out | apply Kept.alloc | apply Kept.drewN | apply Kept.drew) | exact HK.out)⟩, ⟨by repeat (first | (with_reducible first | exact HB.out | apply below_alloc | apply pw_below_drewN | apply below_drew1) | exact HB.out)⟩⟩
        · rw [if_neg c5] at H
          exact absurd H (by simp)
      · rw [if_neg c3] at H
        have c3b0 : decide (x5_1 < (x0_1.length : Int)) = false := decide_eq_false c3
        clear c3
        simp only [Option.some.injEq, Prod.mk.injEq] at H
        obtain ⟨rfl, rfl⟩ := H
        obtain ⟨Ao14, co14, eo14⟩ := Kd.R_slice HO_0.out
        subst eo14
        go_wp2
        go_ret
        exact ⟨by first | rfl | (simp [errW_none, errW_some] <;> rfl) | (simp [*, errW_none, errW_some] <;> rfl), by (with_reducible repeat (first | apply Kd.R_alloc | apply Kd.R_drewN | apply Kd.R_drew)); exact HO_0.out, by repeat (first | (with_reducible first | exact HB.out | apply below_alloc | apply pw_below_drewN | apply below_drew1) | exact HB.out), by repeat (first | (with_reducible first | exact HK.out | apply Kept.alloc | apply Kept.drewN | apply Kept.drew) | exact HK.out)⟩
theorem laws_markClassS_ev (l : List Cls) (a : Int) (h0 : 0 ≤ a) (hl : a + 2 * l.length ≤ 4611686018427387904) : ∃ l', Ev (fun k => laws_markClassS.f k l a) (a + 2 * l.length, l') := by
  have key : ∀ d i (a : Int) (l : List Cls), 0 ≤ a → i + d = l.length → l.length ≤ 4611686018427387904 → a + 2 * d ≤ 4611686018427387904 → ∃ l', Ev (fun k => laws_markClassS.l0 k l a (i : Int)) (a + 2 * d, l') := by
    intro d
    induction d with
    | zero =>
      intro i a l h0 hi hll ha
      refine ⟨l, Ev.succ (Ev.congr (Ev.const rfl) (fun k => ?_))⟩
      simp only [laws_markClassS.l0]
      rw [if_neg (by omega)]
      simp
    | succ d ih =>
      intro i a l h0 hi hll ha
      obtain ⟨s, hs⟩ := laws_markText_ev a (by omega)
      obtain ⟨l', hl'⟩ := ih (i + 1) (a + 1 + 1) ((l.set i ⟨s, (rd_T142 l i).f1⟩).set i ⟨(rd_T142 (l.set i ⟨s, (rd_T142 l i).f1⟩) i).f0, a + 1⟩) (by omega) (by simp; omega) (by simp; omega) (by omega)
      refine ⟨l', Ev.succ (Ev.congr (F := fun k => (laws_markText.f k a).bind fun s => laws_markClassS.l0 k ((l.set i ⟨s, (rd_T142 l i).f1⟩).set i ⟨(rd_T142 (l.set i ⟨s, (rd_T142 l i).f1⟩) i).f0, a + 1⟩) (a + 1 + 1) ((i + 1 : Nat) : Int)) ?_ (fun k => ?_))⟩
      · rw [show a + 2 * ((d + 1 : Nat) : Int) = a + 1 + 1 + 2 * d by omega]
        exact Ev.bind hs hl'
      · simp only [laws_markClassS.l0]
        rw [if_pos (by omega)]
        congr 1
        funext s
        rw [if_pos (by omega), wrap_in (i := a + 1) (by omega) (by omega), wrap_in (i := a + 1 + 1) (by omega) (by omega), wrap_succ (i := (i : Int)) (n := l.length) (by omega) (by omega) (by omega)]
        rfl
  obtain ⟨l', h⟩ := key l.length 0 a l h0 (by omega) (by omega) hl
  exact ⟨l', h⟩
end Go.Proofs.Ytgajfpebfnlipaa.P
namespace Go.Proofs.Ytgajfpebfnlipaa.P
open Go.RowKit Go.Proofs.YtgajfpebfnlipaaW.PrintWords Go.Proofs.YtgajfpebfnlipaaW.PrintLast Go.Proofs.YtgajfpebfnlipaaW.PrintMore
attribute [local go_sem] max2_int min2_int max_two min_two max_three min_three max_four min_four   -- for this text's walks alone
set_option linter.unusedVariables false
set_option linter.unusedSimpArgs false
/-! ### laws_markTree: function 53 -/
def laws_markTree.f (k : Nat) (l0_0 : List (S142)) (a1 : Int) : Option (Int × (List (S142))) := (laws_markClassS.f k l0_0 a1).bind fun bt2 => (some (bt2.1, bt2.2))
theorem laws_markTree.mono : ∀ a0 a1 k, LeO (laws_markTree.f k a0 a1) (laws_markTree.f (k + 1) a0 a1) := by
  intro a0 a1 k
  unfold laws_markTree.f
  repeat' first
      | (with_reducible exact laws_markClassS.mono _ _ _)
      | (with_reducible exact LeO.refl _)
      | (with_reducible exact LeO.none _)
      | (with_reducible refine LeO.ite ?_ ?_)
      | (with_reducible refine LeO.bind ?_ (fun _ => ?_))
      | exact laws_markClassS.mono _ _ _
      | exact LeO.none _
      | refine LeO.ite ?_ ?_
      | refine LeO.bind ?_ (fun _ => ?_)
set_option maxHeartbeats 8000000 in
set_option maxRecDepth 100000 in
theorem laws_markTree.calls (k : Nat) (P0_0_ : Nat → Prop) (u9000_ : Value) (l0_0 : List (S142)) (a1 : Int) (r1 : Int) (r2 : List (S142)) (w0 w : World) (hB : Below w0.heap.size w0 w) (ho0_0 : Kd.R k142 142 w w0.heap.size P0_0_ u9000_ l0_0) (h : laws_markTree.f k l0_0 a1 = some (r1, r2)) :
    Calls Try.prog 53 #[.agg #[u9000_], .int .i64 a1] w fun e w' => e = .returned (.int .i64 r1) ∧ Kd.R k142 142 w' w0.heap.size (fun k_ => (P0_0_ k_ ∨ w.heap.size ≤ k_)) u9000_ r2 ∧ Below w0.heap.size w0 w' ∧ Kept w w' (fun k_ => P0_0_ k_) := by
  have hu31 := Try.underlying31
  have HO0_0 := Aside0.mk (show Kd.R k142 142 w w0.heap.size (fun k_ => (P0_0_ k_ ∨ w.heap.size ≤ k_)) u9000_ l0_0 from Kd.R_mono ho0_0 (fun k_ hk => (.inl hk)))
  have HK := Aside0.mk (Kept.refl w (fun k_ => P0_0_ k_))
  have HW0 := Aside0.mk hB.size
  have HB := Aside0.mk hB
  clear hB
  have H : ((laws_markClassS.f k l0_0 a1).bind fun bt2 => (some (bt2.1, bt2.2))) = some (r1, r2) := h
  clear h
  replace H := Option.bind_eq_some_iff.mp H
  obtain ⟨⟨t2, t3⟩, A30, H⟩ := H
  replace H : (some (t2, t3)) = some (r1, r2) := H
  have A3 := Aside0.mk A30
  clear A30
  simp only [Option.some.injEq, Prod.mk.injEq] at H
  obtain ⟨rfl, rfl⟩ := H
  obtain ⟨Ao4, co4, eo4⟩ := Kd.R_slice HO0_0.out
  subst eo4
  go_enter Try.func53, Try.ntmps53
  go_wp2_with (first | ((with_reducible refine gate_dst (N := 2) rfl ?_); refine box_event ?hg (N := 2) ?hd (cs := #[.slice Ao4 l0_0.length co4]) (t := 31) ?hr ?_; (case hd => rfl); (case hg => rfl); (case hr => first | (go_simp; done) | (go_simp; rfl)); intro gb1 hg w5 hbox hb; have n0_ := Aside0.mk (Kd.R_below (by (with_reducible repeat (first | apply Kd.R_alloc | apply Kd.R_drewN | apply Kd.R_drew)); exact HO0_0.out) hb); have n1_ := Aside0.mk (Kept.below (S := (fun k_ => P0_0_ k_)) (by repeat (first | (with_reducible first | exact HK.out | apply Kept.alloc | apply Kept.drewN | apply Kept.drew) | exact HK.out)) hb); have n2_ := Aside0.mk (below_step (by repeat (first | (with_reducible first | exact HB.out | apply below_alloc | apply pw_below_drewN | apply below_drew1) | exact HB.out)) hb); have n3_ := Aside0.mk (hbox); have n4_ := Aside0.mk ((by rw [hg]; exact (by first | exact HK.out.1 | exact (show Kept w _ (fun k_ => P0_0_ k_) from by repeat (first | (with_reducible first | exact HK.out | apply Kept.alloc | apply Kept.drewN | apply Kept.drew) | exact HK.out)).1) : w.heap.size ≤ gb1)); have n5_ := Aside0.mk ((by rw [hg]; exact (below_size (by repeat (first | (with_reducible first | exact HB.out | apply below_alloc | apply pw_below_drewN | apply below_drew1) | exact HB.out))) : w0.heap.size ≤ gb1)); clear HO0_0; clear HK; clear HB; have HO0_0 := n0_; have HK := n1_; have HB := n2_; have BK1 := n3_; have GW1 := n4_; have GE1 := n5_; clear n0_ n1_ n2_ n3_ n4_ n5_; clear hb hbox hg; have hcz6_0 : w5.cell? ⟨gb1, 0, none⟩ = some (.slice Ao4 l0_0.length co4) := (blk_cell BK1.out 0).trans rfl; have hfz6_0 := blk_frozen BK1.out 0) | ((with_reducible refine gate_callee (f := 118) rfl ?_); refine goesL_ (some 8) rfl rfl Try.func118 (by kernel_rfl) rfl #[.slice Ao4 l0_0.length co4, .int .i64 a1] rfl (by (try simp only [List.map_toArray, List.map_cons, List.map_nil]); first | done | rfl | (simp only [List.length_drop, List.length_take]; rfl)) ?_; (with_reducible refine (laws_markClassS.calls k (fun k_ => some k_ = (.slice Ao4 l0_0.length co4 : Value).ownBlock) (.slice Ao4 l0_0.length co4) l0_0 a1 t2 t3 w0 _ ?side1 ?side2 A3.out).mono ?_); (case side1 => repeat (first | (with_reducible first | exact HB.out | apply below_alloc | apply pw_below_drewN | apply below_drew1 | refine below_set ?_ GE1.out) | exact HB.out)); (case side2 => exact Kd.R_tight rfl HO0_0.out); rintro e w7 ⟨rfl, hy0, hb, hkp⟩; refine ⟨_, rfl, ?_⟩; have n0_ := Aside0.mk (Kd.R_reok rfl hy0 (fun k_ e_ => HO0_0.out.1 k_ e_)); have n1_ := Aside0.mk (blk_kept (by (with_reducible repeat (first | refine blk_drewN ?_ _ | refine blk_drew ?_ | refine blk_alloc ?_ _)); exact BK1.out) hkp (fun hs_ => (fun e_ => (Kd.R_ne HO0_0.out BK1.out (by decide)) e_) hs_)); have n2_ := Aside0.mk (Kept.then_ (S := (fun k_ => P0_0_ k_)) (by repeat (first | (with_reducible first | exact HK.out | apply Kept.alloc | apply Kept.drewN | apply Kept.drew | refine Kept.setCell ?_ (.inr GW1.out) _) | exact HK.out)) hkp (fun k_ hs_ => (fun e_ => (HO0_0.out.1 k_ e_.symm)) hs_)); have n3_ := Aside0.mk (hb); clear HO0_0; clear BK1; clear HK; clear HB; have HO0_0 := n0_; have BK1 := n1_; have HK := n2_; have HB := n3_; clear n0_ n1_ n2_ n3_; (try clear hb); (try clear hkp); (try clear hy0)))
  go_ret
  exact ⟨by first | rfl | (simp [errW_none, errW_some] <;> rfl) | (simp [*, errW_none, errW_some] <;> rfl), by (with_reducible repeat (first | apply Kd.R_alloc | apply Kd.R_drewN | apply Kd.R_drew)); exact HO0_0.out, by repeat (first | (with_reducible first | exact HB.out | apply below_alloc | apply pw_below_drewN | apply below_drew1 | refine below_set ?_ GE1.out) | exact HB.out), by repeat (first | (with_reducible first | exact HK.out | apply Kept.alloc | apply Kept.drewN | apply Kept.drew | refine Kept.setCell ?_ (.inr GW1.out) _) | exact HK.out)⟩
theorem laws_markTree_ev (l : List Cls) (a : Int) (h0 : 0 ≤ a) (hl : a + 2 * l.length ≤ 4611686018427387904) : ∃ l', Ev (fun k => laws_markTree.f k l a) (a + 2 * l.length, l') := by
  obtain ⟨l', h⟩ := laws_markClassS_ev l a h0 hl
  exact ⟨l', Ev.bind h (Ev.const rfl)⟩
end Go.Proofs.Ytgajfpebfnlipaa.P
namespace Go.Proofs.Ytgajfpebfnlipaa.P
open Go.RowKit Go.Proofs.YtgajfpebfnlipaaW.PrintWords Go.Proofs.YtgajfpebfnlipaaW.PrintLast Go.Proofs.YtgajfpebfnlipaaW.PrintMore
attribute [local go_sem] max2_int min2_int max_two min_two max_three min_three max_four min_four   -- for this text's walks alone
set_option linter.unusedVariables false
set_option linter.unusedSimpArgs false
/-! ### laws_markIntS: function 54 -/
def laws_markIntS.l0 : Nat → List Int → Int → Int → Option (Int × List Int)
  | 0, _, _, _ => none
  | k + 1, x0, x1, x5 => if x5 < (x0.length : Int) then (if 0 ≤ x5 then (laws_markIntS.l0 k (x0.set (x5 : Int).toNat x1) (wrap64 (x1 + 1)) (wrap64 (x5 + 1))) else (none)) else (some (x1, x0))
def laws_markIntS.f (k : Nat) (l0 : List Int) (a1 : Int) : Option (Int × List Int) := laws_markIntS.l0 k l0 a1 0
theorem laws_markIntS.mono_l : ∀ k, (∀ y0 y1 y2, LeO (laws_markIntS.l0 k y0 y1 y2) (laws_markIntS.l0 (k + 1) y0 y1 y2))
  | 0 => fun _ _ _ r h => by simp [laws_markIntS.l0] at h
  | k + 1 => by
    have ih0 := laws_markIntS.mono_l k
    · intro y0 y1 y2
      unfold laws_markIntS.l0
      repeat' first
      | (with_reducible exact ih0 _ _ _)
      | (with_reducible exact LeO.refl _)
      | (with_reducible exact LeO.none _)
      | (with_reducible refine LeO.ite ?_ ?_)
      | (with_reducible refine LeO.bind ?_ (fun _ => ?_))
      | exact ih0 _ _ _
      | exact LeO.none _
      | refine LeO.ite ?_ ?_
      | refine LeO.bind ?_ (fun _ => ?_)
theorem laws_markIntS.mono : ∀ a0 a1 k, LeO (laws_markIntS.f k a0 a1) (laws_markIntS.f (k + 1) a0 a1) := by
  intro a0 a1 k
  have ih0 := laws_markIntS.mono_l k
  unfold laws_markIntS.f
  repeat' first
      | (with_reducible exact ih0 _ _ _)
      | (with_reducible exact LeO.refl _)
      | (with_reducible exact LeO.none _)
      | (with_reducible refine LeO.ite ?_ ?_)
      | (with_reducible refine LeO.bind ?_ (fun _ => ?_))
      | exact ih0 _ _ _
      | exact LeO.none _
      | refine LeO.ite ?_ ?_
      | refine LeO.bind ?_ (fun _ => ?_)
set_option maxHeartbeats 8000000 in
set_option maxRecDepth 100000 in
theorem laws_markIntS.calls (k : Nat) (P0_ : Nat → Prop) (u9000_ : Value) (l0 : List Int) (a1 : Int) (r1 : Int) (r2 : List Int) (w0 w : World) (hB : Below w0.heap.size w0 w) (ho0 : Kd.R (Kd.int .i64) 3 w w0.heap.size P0_ u9000_ l0) (h : laws_markIntS.f k l0 a1 = some (r1, r2)) :
    Calls Try.prog 54 #[u9000_, .int .i64 a1] w fun e w' => e = .returned (.int .i64 r1) ∧ Kd.R (Kd.int .i64) 3 w' w0.heap.size (fun k_ => (P0_ k_ ∨ w.heap.size ≤ k_)) u9000_ r2 ∧ Below w0.heap.size w0 w' ∧ Kept w w' (fun k_ => P0_ k_) := by
  have HO0 := Aside0.mk (show Kd.R (Kd.int .i64) 3 w w0.heap.size (fun k_ => (P0_ k_ ∨ w.heap.size ≤ k_)) u9000_ l0 from Kd.R_mono ho0 (fun k_ hk => (.inl hk)))
  have HK := Aside0.mk (Kept.refl w (fun k_ => P0_ k_))
  have HW0 := Aside0.mk hB.size
  have HB := Aside0.mk hB
  clear hB
  have H : (laws_markIntS.l0 k l0 a1 0) = some (r1, r2) := h
  clear h
  have H' := Aside0.mk H
  clear H
  go_enter Try.func54, Try.ntmps54
  go_wp2
  go_loopg [1, 5] k (fun kq v1 v5 w' => ∃ (x0_1 : List Int) (x1_1 : Int) (x5_1 : Int), v1 = .int .i64 x1_1 ∧ v5 = .int .i64 x5_1 ∧ Aside0 (laws_markIntS.l0 kq x0_1 x1_1 x5_1 = some (r1, r2)) ∧ Aside0 (kq ≤ k) ∧ Aside0 (Kd.R (Kd.int .i64) 3 w' w0.heap.size (fun k_ => (P0_ k_ ∨ w.heap.size ≤ k_)) u9000_ x0_1) ∧ Aside0 (Kept w w' (fun k_ => P0_ k_)) ∧ Aside0 (Below w0.heap.size w0 w'))
  case atStart => exact ⟨(l0), (a1), (0), (by first | rfl | (simp; done) | (simp [*]; done)), (by first | rfl | (simp; done) | (simp [*]; done)), H', ⟨Nat.le_refl _⟩, ⟨by (with_reducible repeat (first | apply Kd.R_alloc | apply Kd.R_drewN | apply Kd.R_drew)); exact HO0.out⟩, ⟨by repeat (first | (with_reducible first | exact HK.out | apply Kept.alloc | apply Kept.drewN | apply Kept.drew) | exact HK.out)⟩, ⟨by repeat (first | (with_reducible first | exact HB.out | apply below_alloc | apply pw_below_drewN | apply below_drew1) | exact HB.out)⟩⟩
  case round =>
    clear H'
    try clear p2
    obtain ⟨x0_1, x1_1, x5_1, rfl, rfl, HA, HK1, HO_0, HK, HB⟩ := hrel
    cases gk with
    | zero => exact absurd HA.out (by simp [laws_markIntS.l0])
    | succ k1 =>
      have H := HA.out
      clear HA
      simp only [laws_markIntS.l0] at H
      by_cases c3 : x5_1 < (x0_1.length : Int)
      · rw [if_pos c3] at H
        have c3b0 : decide (x5_1 < (x0_1.length : Int)) = true := decide_eq_true c3
        clear c3
        by_cases c4 : 0 ≤ x5_1
        · rw [if_pos c4] at H
          have c4b0 : decide (0 ≤ x5_1) = true := decide_eq_true c4
          clear c4
          obtain ⟨y1, hy1⟩ : ∃ y_ : List Int, y_ = (x0_1.set (x5_1 : Int).toNat x1_1) := ⟨_, rfl⟩
          replace H : (laws_markIntS.l0 k1 y1 (wrap64 (x1_1 + 1)) (wrap64 (x5_1 + 1))) = some (r1, r2) := by first | (rw [hy1]; with_reducible exact H) | (have H2_ := (Option.bind_some _ _).symm.trans H; rw [hy1]; with_reducible exact H2_) | (have H2_ := (Option.bind_some _ _).symm.trans H; with_reducible exact H2_) | with_reducible exact H | (rw [hy1]; exact H) | exact H
          have Ny1 := Aside0.mk hy1
          clear hy1
          have H' := Aside0.mk H
          clear H
          obtain ⟨Ao6, co6, eo6⟩ := Kd.R_slice HO_0.out
          subst eo6
          have p5 : 0 ≤ (x5_1 : Int) := of_decide_eq_true (by first | (with_reducible assumption) | assumption)
          have q5 : (x5_1 : Int) < ((x0_1.length : Int) : Int) := of_decide_eq_true (by first | (with_reducible assumption) | assumption)
          obtain ⟨go5, co5, eo5, gb5, gl5, cl5, HG5⟩ := Kd.R_form HO_0.out (by omega)
          (first | cases eo5 | (injection eo5 with ea_ en_ ec_; (first | subst ea_ | (injection ea_ with ea_; subst ea_)); subst ec_; clear en_))
          have GB5 := Aside0.mk gb5
          have GG5 := Aside0.mk HG5
          clear gb5 gl5 HG5
          have HMgo5 := Aside0.mk (show (P0_ go5 ∨ w.heap.size ≤ go5) from (HO_0.out.1 _ rfl))
          obtain ⟨hx5_0, hf5_0⟩ := Kd.R_celln 0 HO_0.out (x5_1 : Int) p5 q5
          replace p5 := eq_true p5
          replace q5 := eq_true q5
          have HP7 := Kd.R_putg HO_0.out (x5_1 : Int) x1_1
          go_wp2_with (first | ((with_reducible refine gate_store (t := 3) (p := 15) rfl ?_); refine store_event (t := 3) (p := 15) (v := ?vo_w8) (w1 := (wr.setCell ⟨go5, (x5_1 : Int).toNat, none⟩ (.int .i64 x1_1))) ?hg ?ho ?hn ?hr ?_; (case ho => rfl); (case hg => rfl); (case hn => rfl); (case hr => first | (go_simp; done) | (go_simp; rfl)); intro w8 hw; have hg : wr.grownBy w8 (some go5) := (by rw [hw]; exact HP7.2); have hp_ : Kd.R (Kd.int .i64) 3 w8 w0.heap.size (fun k_ => (P0_ k_ ∨ w.heap.size ≤ k_)) (.slice (some ⟨go5, 0, none⟩) x0_1.length co6) y1 := (by rw [hw, Ny1.out]; exact HP7.1); clear HP7; have n0_ := Aside0.mk (hp_); have n1_ := Aside0.mk ((by rw [hw]; exact below_set (HB.out) GB5.out : Below w0.heap.size w0 w8)); have n2_ := Aside0.mk (Kept.of_grown (S := (fun k_ => P0_ k_)) hg (by repeat (first | (with_reducible first | exact HK.out | apply Kept.alloc | apply Kept.drewN | apply Kept.drew) | exact HK.out)) (fun k_ e_ => (HO_0.out.1 k_ e_))); clear HO_0; clear HB; clear HK; have HO_0 := n0_; have HB := n1_; have HK := n2_; clear n0_ n1_ n2_; clear hg hw hp_))
          go_roundg k1
          case measure => have := HK1.out; omega
          case rel => exact ⟨(y1), (wrap64 (x1_1 + 1)), (wrap64 (x5_1 + 1)), (by first | rfl | (simp; done) | (simp [*]; done)), (by first | rfl | (simp; done) | (simp [*]; done)), H', ⟨by have := HK1.out; omega⟩, ⟨by (with_reducible repeat (first | apply Kd.R_alloc | apply Kd.R_drewN | apply Kd.R_drew)); exact HO_0.out⟩, ⟨by repeat (first | (with_reducible first | exact HK.out | apply Kept.alloc | apply Kept.drewN | apply Kept.drew) | exact HK.out)⟩, ⟨by repeat (first | (with_reducible first | exact HB.out | apply below_alloc | apply pw_below_drewN | apply below_drew1) | exact HB.out)⟩⟩
        · rw [if_neg c4] at H
          exact absurd H (by simp)
      · rw [if_neg c3] at H
        have c3b0 : decide (x5_1 < (x0_1.length : Int)) = false := decide_eq_false c3
        clear c3
        simp only [Option.some.injEq, Prod.mk.injEq] at H
        obtain ⟨rfl, rfl⟩ := H
        obtain ⟨Ao9, co9, eo9⟩ := Kd.R_slice HO_0.out
        subst eo9
        go_wp2
        go_ret
        exact ⟨by first | rfl | (simp [errW_none, errW_some] <;> rfl) | (simp [*, errW_none, errW_some] <;> rfl), by (with_reducible repeat (first | apply Kd.R_alloc | apply Kd.R_drewN | apply Kd.R_drew)); exact HO_0.out, by repeat (first | (with_reducible first | exact HB.out | apply below_alloc | apply pw_below_drewN | apply below_drew1) | exact HB.out), by repeat (first | (with_reducible first | exact HK.out | apply Kept.alloc | apply Kept.drewN | apply Kept.drew) | exact HK.out)⟩
theorem laws_markIntS_ev (l : List Int) (a : Int) (h0 : 0 ≤ a) (hl : a + l.length ≤ 9223372036854775807) : Ev (fun k => laws_markIntS.f k l a) (a + l.length, marks a l.length) := by
  have h := st_loop (fun k (s : List Int × Int) i => laws_markIntS.l0 k s.1 s.2 i) l.length (fun i => ((List.range i).map (fun j : Nat => a + (j : Int)) ++ l.drop i, a + (i : Int))) (a + l.length, marks a l.length) (by
    intro k i hi
    simp only [laws_markIntS.l0]
    have hlen : ((List.range i).map (fun j : Nat => a + (j : Int)) ++ l.drop i).length = l.length := by simp; omega
    rw [hlen, if_pos (by omega), if_pos (by omega), wrap_succ (i := (i : Int)) (n := l.length) (by omega) (by omega) (by omega), wrap_in (by omega) (by omega), Int.add_assoc]
    congr 1
    · rw [List.range_succ, List.map_append, show ((i : Int) : Int).toNat = i by omega, List.set_append_right _ _ (by simp), List.append_assoc]
      simp only [List.length_map, List.length_range, Nat.sub_self]
      rw [List.drop_eq_getElem_cons hi, List.set_cons_zero]
      rfl) (by
    intro k
    simp only [laws_markIntS.l0]
    rw [if_neg (by simp)]
    simp [marks])
  refine Ev.of_mono (laws_markIntS.mono l a) (K := l.length + 1) ?_
  unfold laws_markIntS.f
  simpa using h
end Go.Proofs.Ytgajfpebfnlipaa.P
namespace Go.Proofs.Ytgajfpebfnlipaa.P
open Go.RowKit Go.Proofs.YtgajfpebfnlipaaW.PrintWords Go.Proofs.YtgajfpebfnlipaaW.PrintLast Go.Proofs.YtgajfpebfnlipaaW.PrintMore
attribute [local go_sem] max2_int min2_int max_two min_two max_three min_three max_four min_four   -- for this text's walks alone
set_option linter.unusedVariables false
set_option linter.unusedSimpArgs false
/-! ### laws_heldIntS: function 55 -/
def laws_heldIntS.l0 : Nat → List Int → Int → Int → Option (Int)
  | 0, _, _, _ => none
  | k + 1, x0, x1, x5 => if x5 < (x0.length : Int) then (if 0 ≤ x5 then (if (rd x0 x5) = x1 then (laws_heldIntS.l0 k x0 (wrap64 (x1 + 1)) (wrap64 (x5 + 1))) else (some (-1))) else (none)) else (some x1)
def laws_heldIntS.f (k : Nat) (l0 : List Int) (a1 : Int) : Option (Int) := laws_heldIntS.l0 k l0 a1 0
theorem laws_heldIntS.mono_l : ∀ k, (∀ y0 y1 y2, LeO (laws_heldIntS.l0 k y0 y1 y2) (laws_heldIntS.l0 (k + 1) y0 y1 y2))
  | 0 => fun _ _ _ r h => by simp [laws_heldIntS.l0] at h
  | k + 1 => by
    have ih0 := laws_heldIntS.mono_l k
    · intro y0 y1 y2
      unfold laws_heldIntS.l0
      repeat' first
      | (with_reducible exact ih0 _ _ _)
      | (with_reducible exact LeO.refl _)
      | (with_reducible exact LeO.none _)
      | (with_reducible refine LeO.ite ?_ ?_)
      | (with_reducible refine LeO.bind ?_ (fun _ => ?_))
      | exact ih0 _ _ _
      | exact LeO.none _
      | refine LeO.ite ?_ ?_
      | refine LeO.bind ?_ (fun _ => ?_)
theorem laws_heldIntS.mono : ∀ a0 a1 k, LeO (laws_heldIntS.f k a0 a1) (laws_heldIntS.f (k + 1) a0 a1) := by
  intro a0 a1 k
  have ih0 := laws_heldIntS.mono_l k
  unfold laws_heldIntS.f
  repeat' first
      | (with_reducible exact ih0 _ _ _)
      | (with_reducible exact LeO.refl _)
      | (with_reducible exact LeO.none _)
      | (with_reducible refine LeO.ite ?_ ?_)
      | (with_reducible refine LeO.bind ?_ (fun _ => ?_))
      | exact ih0 _ _ _
      | exact LeO.none _
      | refine LeO.ite ?_ ?_
      | refine LeO.bind ?_ (fun _ => ?_)
set_option maxHeartbeats 8000000 in
set_option maxRecDepth 100000 in
theorem laws_heldIntS.calls (k : Nat) (A0 : Option Addr) (c0 : Nat) (l0 : List Int) (a1 : Int) (r : Int) (w : World) (hr0 : Kd.C (Kd.int .i64) w A0 l0.length l0) (hc0 : l0.length ≤ c0) (h : laws_heldIntS.f k l0 a1 = some r) :
    Calls Try.prog 55 #[.slice A0 l0.length c0, .int .i64 a1] w fun e w' => e = .returned (.int .i64 r) ∧ Drawn0 w w' := by
  have HR0 := Aside0.mk hr0
  have HC0 := Aside0.mk hc0
  clear hr0 hc0
  have H : (laws_heldIntS.l0 k l0 a1 0) = some r := h
  clear h
  have H' := Aside0.mk H
  clear H
  go_enter Try.func55, Try.ntmps55
  go_wp2
  go_loopg [1, 5] k (fun kq v1 v5 w' => ∃ (x1_1 : Int) (x5_1 : Int), v1 = .int .i64 x1_1 ∧ v5 = .int .i64 x5_1 ∧ Aside0 (laws_heldIntS.l0 kq l0 x1_1 x5_1 = some r) ∧ Aside0 (kq ≤ k) ∧ Drawn0 w w')
  case atStart => exact ⟨(a1), (0), (by first | rfl | (simp; done) | (simp [*]; done)), (by first | rfl | (simp; done) | (simp [*]; done)), H', ⟨Nat.le_refl _⟩, by repeat (first | exact Drawn0.refl _ | apply Drawn0.step)⟩
  case round =>
    clear H'
    try clear p2
    obtain ⟨x1_1, x5_1, rfl, rfl, HA, HK1, ⟨m1, rfl⟩⟩ := hrel
    cases gk with
    | zero => exact absurd HA.out (by simp [laws_heldIntS.l0])
    | succ k1 =>
      have H := HA.out
      clear HA
      simp only [laws_heldIntS.l0] at H
      by_cases c3 : x5_1 < (l0.length : Int)
      · rw [if_pos c3] at H
        have c3b0 : decide (x5_1 < (l0.length : Int)) = true := decide_eq_true c3
        clear c3
        by_cases c4 : 0 ≤ x5_1
        · rw [if_pos c4] at H
          have c4b0 : decide (0 ≤ x5_1) = true := decide_eq_true c4
          clear c4
          by_cases c5 : (rd l0 x5_1) = x1_1
          · rw [if_pos c5] at H
            have c5b0 : ((rd l0 x5_1) == x1_1) = true := beq_iff_eq.mpr c5
            have c5b1 : ((rd l0 x5_1) != x1_1) = false := bne_eq_false_iff_eq.mpr c5
            clear c5
            have H' := Aside0.mk H
            clear H
            have p1 : 0 ≤ (x5_1 : Int) := of_decide_eq_true (by first | (with_reducible assumption) | assumption)
            have q1 : x5_1 < (l0.length : Int) := of_decide_eq_true (by first | (with_reducible assumption) | assumption)
            obtain ⟨ad1, e1, hx1_0⟩ := Kd.at_int HR0.out x5_1 p1 q1
            cases e1
            replace p1 := eq_true p1
            replace q1 := eq_true q1
            go_wp2
            go_roundg k1
            case measure => have := HK1.out; omega
            case rel => exact ⟨(wrap64 (x1_1 + 1)), (wrap64 (x5_1 + 1)), (by first | rfl | (simp; done) | (simp [*]; done)), (by first | rfl | (simp; done) | (simp [*]; done)), H', ⟨by have := HK1.out; omega⟩, by repeat (first | exact Drawn0.refl _ | apply Drawn0.step)⟩
          · rw [if_neg c5] at H
            have c5b0 : ((rd l0 x5_1) == x1_1) = false := beq_eq_false_iff_ne.mpr c5
            have c5b1 : ((rd l0 x5_1) != x1_1) = true := bne_iff_ne.mpr c5
            obtain rfl := Option.some.inj H
            have p1 : 0 ≤ (x5_1 : Int) := of_decide_eq_true (by first | (with_reducible assumption) | assumption)
            have q1 : x5_1 < (l0.length : Int) := of_decide_eq_true (by first | (with_reducible assumption) | assumption)
            obtain ⟨ad1, e1, hx1_0⟩ := Kd.at_int HR0.out x5_1 p1 q1
            cases e1
            replace p1 := eq_true p1
            replace q1 := eq_true q1
            go_wp2
            go_ret
            exact ⟨by first | rfl | (simp; done) | (simp [*]; done), by repeat (first | exact Drawn0.refl _ | apply Drawn0.step)⟩
        · rw [if_neg c4] at H
          exact absurd H (by simp)
      · rw [if_neg c3] at H
        have c3b0 : decide (x5_1 < (l0.length : Int)) = false := decide_eq_false c3
        clear c3
        obtain rfl := Option.some.inj H
        go_wp2
        go_ret
        exact ⟨by first | rfl | (simp; done) | (simp [*]; done), by repeat (first | exact Drawn0.refl _ | apply Drawn0.step)⟩
theorem laws_heldIntS_ev (a : Int) (n : Nat) (h0 : 0 ≤ a) (hl : a + n ≤ 9223372036854775807) : Ev (fun k => laws_heldIntS.f k (marks a n) a) (a + n) := by
  have h := st_loop (fun k (s : Int) i => laws_heldIntS.l0 k (marks a n) s i) n (fun i => a + (i : Int)) (a + n) (by
    intro k i hi
    simp only [laws_heldIntS.l0]
    rw [marks_len, if_pos (by omega), if_pos (by omega), if_pos (by simp [rd, marks, hi]), wrap_succ (i := (i : Int)) (n := n) (by omega) (by omega) (by omega), wrap_in (by omega) (by omega), Int.add_assoc]
    rfl) (by
    intro k
    simp only [laws_heldIntS.l0]
    rw [marks_len, if_neg (by omega)])
  refine Ev.of_mono (laws_heldIntS.mono (marks a n) a) (K := n + 1) ?_
  unfold laws_heldIntS.f
  simpa using h
end Go.Proofs.Ytgajfpebfnlipaa.P
