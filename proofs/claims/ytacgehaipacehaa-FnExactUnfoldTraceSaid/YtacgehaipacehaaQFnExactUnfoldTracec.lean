/- Texts under the proof of FnExactUnfoldTrace: helper words, the functions' contracts and the plain laws. No condition. -/
import Derived.Test.YtacgehaipacehaaQFnExactUnfoldTraceb
import Derived.Test.YtacgehaipacehaaQFnExactUnfoldTracea
namespace Go.Proofs.Ytacgehaipacehaa.P
open Go.RowKit Go.Proofs.YtacgehaipacehaaW.PrintWords Go.Proofs.YtacgehaipacehaaW.PrintLast Go.Proofs.YtacgehaipacehaaW.PrintMore
attribute [local go_sem] max2_int min2_int max_two min_two max_three min_three max_four min_four
set_option linter.unusedVariables false
set_option linter.unusedSimpArgs false
def laws_heldFrameS.l0 : Nat → List (S113) → Int → Int → Option (Int)
 | 0,_,_,_=>none
 | k + 1,x0,x1,x5=>if x5 < (x0.length : Int) then (if 0 ≤ x5 then ((laws_markText.f k x1).bind fun t2=>(if ((rd_T113 x0 x5).f0).toList = t2.toList then (if ((rd_T113 x0 x5).f1) = (wrap64 (x1 + 1)) then (laws_heldFrameS.l0 k x0 (wrap64 ((wrap64 (x1 + 1)) + 1)) (wrap64 (x5 + 1))) else (some (-1))) else (some (-1)))) else (none)) else (some x1)
def laws_heldFrameS.f (k : Nat) (l0 : List (S113)) (a1 : Int) : Option (Int):=laws_heldFrameS.l0 k l0 a1 0
theorem laws_heldFrameS.mono_l : ∀ k,(∀ y0 y1 y2,LeO (laws_heldFrameS.l0 k y0 y1 y2) (laws_heldFrameS.l0 (k + 1) y0 y1 y2))
 | 0=>fun _ _ _ r h=>by simp [laws_heldFrameS.l0] at h
 | k + 1=>by
  have ih0:=laws_heldFrameS.mono_l k
  ·intro y0 y1 y2
   unfold laws_heldFrameS.l0
   repeat' first
   | (with_reducible exact ih0 _ _ _)
   | (with_reducible exact laws_markText.mono _ _)
   | (with_reducible exact LeO.refl _)
   | (with_reducible exact LeO.none _)
   | (with_reducible refine LeO.ite ?_ ?_)
   | (with_reducible refine LeO.bind ?_ (fun _=>?_))
   | exact ih0 _ _ _
   | exact laws_markText.mono _ _
   | exact LeO.none _
   | refine LeO.ite ?_ ?_
   | refine LeO.bind ?_ (fun _=>?_)
theorem laws_heldFrameS.mono : ∀ a0 a1 k,LeO (laws_heldFrameS.f k a0 a1) (laws_heldFrameS.f (k + 1) a0 a1):=by
 intro a0 a1 k
 have ih0:=laws_heldFrameS.mono_l k
 unfold laws_heldFrameS.f
 repeat' first
   | (with_reducible exact ih0 _ _ _)
   | (with_reducible exact laws_markText.mono _ _)
   | (with_reducible exact LeO.refl _)
   | (with_reducible exact LeO.none _)
   | (with_reducible refine LeO.ite ?_ ?_)
   | (with_reducible refine LeO.bind ?_ (fun _=>?_))
   | exact ih0 _ _ _
   | exact laws_markText.mono _ _
   | exact LeO.none _
   | refine LeO.ite ?_ ?_
   | refine LeO.bind ?_ (fun _=>?_)
def laws_heldFrameS.T4 : Bool × List (List Nat × List Nat):=(true,[([],[]),([],[]),([0,1],[0,1]),([2],[2]),([3],[3]),([],[]),([5],[5]),([4,6],[4,6])])
def laws_heldFrameS.B4 : List Nat:=[0,0,3,7,15,0,32,127]
theorem laws_heldFrameS.tab4 : rtab .any (opsOf Try.f37 4) = laws_heldFrameS.T4:=by kernel_rfl
theorem laws_heldFrameS.bits4 : waitsOk laws_heldFrameS.T4.2 laws_heldFrameS.B4 = true:=by kernel_rfl
set_option maxHeartbeats 8000000 in
set_option maxRecDepth 100000 in
theorem laws_heldFrameS.calls (k : Nat) (A0 : Option Addr) (c0 : Nat) (l0 : List (S113)) (a1 : Int) (r : Int) (w : World) (hr0 : Kd.C k113 w A0 l0.length l0) (hc0 : l0.length ≤ c0) (h : laws_heldFrameS.f k l0 a1 = some r) :
  Calls Try.prog 37 #[.slice A0 l0.length c0,.int .i64 a1] w fun e w'=>e = .returned (.int .i64 r) ∧ Below w.heap.size w w':=by
 have HR0:=a0_ hr0
 have HC0:=a0_ hc0
 clear hr0 hc0
 have HB:=a0_ (Below.refl w.heap.size w)
 have H : (laws_heldFrameS.l0 k l0 a1 0) = some r:=h
 clear h
 have H':=a0_ H
 clear H
 go_enter Try.func37,Try.ntmps37
 go_wp2
 go_loopg [1,5] k (fun kq v1 v5 w'=>∃ (x1_1 : Int) (x5_1 : Int),v1 = .int .i64 x1_1 ∧ v5 = .int .i64 x5_1 ∧ Aside0 (laws_heldFrameS.l0 kq l0 x1_1 x5_1 = some r) ∧ Aside0 (kq ≤ k) ∧ Aside0 (Below w.heap.size w w'))
 case atStart=>exact ⟨(a1),(0),(by first | rfl | (simp;done) | (simp [*];done)),(by first | rfl | (simp;done) | (simp [*];done)),H',⟨Nat.le_refl _⟩,⟨hbw_⟩⟩
 case round =>
  clear H'
  try clear p2
  obtain ⟨x1_1,x5_1,rfl,rfl,HA,HK1,HB⟩:=hrel
  cases gk with
  | zero=>exact absurd HA.out (by simp [laws_heldFrameS.l0])
  | succ k1 =>
   have H:=HA.out
   clear HA
   simp only [laws_heldFrameS.l0] at H
   by_cases c3 : x5_1 < (l0.length : Int)
   ·rw [if_pos c3] at H
    have c3b0 : decide (x5_1 < (l0.length : Int)) = true:=decide_eq_true c3
    clear c3
    by_cases c4 : 0 ≤ x5_1
    ·rw [if_pos c4] at H
     have c4b0 : decide (0 ≤ x5_1) = true:=decide_eq_true c4
     clear c4
     replace H:=Option.bind_eq_some_iff.mp H
     obtain ⟨t2,A50,H⟩:=H
     try dsimp only at H
     have A5:=a0_ A50
     clear A50
     by_cases c6 : ((rd_T113 l0 x5_1).f0).toList = t2.toList
     ·rw [if_pos c6] at H
      have c6b0 : (((rd_T113 l0 x5_1).f0).toList == t2.toList) = true:=beq_iff_eq.mpr c6
      have c6b1 : (((rd_T113 l0 x5_1).f0).toList != t2.toList) = false:=bne_eq_false_iff_eq.mpr c6
      clear c6
      by_cases c7 : ((rd_T113 l0 x5_1).f1) = (wrap64 (x1_1 + 1))
      ·rw [if_pos c7] at H
       have c7b0 : (((rd_T113 l0 x5_1).f1) == (wrap64 (x1_1 + 1))) = true:=beq_iff_eq.mpr c7
       have c7b1 : (((rd_T113 l0 x5_1).f1) != (wrap64 (x1_1 + 1))) = false:=bne_eq_false_iff_eq.mpr c7
       clear c7
       have H':=a0_ H
       clear H
       try go_wp2
       have n0_:=a0_ (below_drew1 HB.out)
       clear HB
       have HB:=n0_
       clear n0_
       have p1 : 0 ≤ (x5_1 : Int):=of_decide_eq_true (by first | (with_reducible assumption) | assumption)
       have q1 : x5_1 < (l0.length : Int):=of_decide_eq_true (by first | (with_reducible assumption) | assumption)
       obtain ⟨ad1,e1,hx1_0,hx1_1⟩:=at_T113 HR0.out x5_1 p1 q1
       have hw1_1:=hx1_1
       have hw1_0:=hx1_0
       cases e1
       replace hx1_0:=(HB.out.cell (World.block_lt_of_cell? w _ hx1_0)).trans hx1_0
       replace hx1_1:=(HB.out.cell (World.block_lt_of_cell? w _ hx1_1)).trans hx1_1
       replace p1:=eq_true p1
       replace q1:=eq_true q1
       refine start_ (n:=8) (S:=fun w'=>w'.cell? (ad1.add ((x5_1).toNat * 2)) = some (.string ((rd_T113 l0 x5_1).f0)) ∧ w'.cell? ⟨(ad1.add ((x5_1).toNat * 2)).block,(ad1.add ((x5_1).toNat * 2)).off + 1,none⟩ = some (.int .i64 ((rd_T113 l0 x5_1).f1))) (ds:=[]) #[false,false,false,false,false,false,false,false] (by kernel_rfl) rfl rfl ⟨((HB.out.cell (World.block_lt_of_cell? w _ hw1_0)).trans hw1_0),((HB.out.cell (World.block_lt_of_cell? w _ hw1_1)).trans hw1_1)⟩ (fun hHeld=>?_);refine with_tabW laws_heldFrameS.tab4 laws_heldFrameS.bits4 (fun HT_ HW_=>?_)
       generalize wr.drew = w8 at HB hx1_0 hx1_1 hHeld ⊢
       refine pure_ (i:=0) (N:=some 12) (v:=?_) (a':=?_) #[true,false,false,false,false,false,false,false] rfl rfl (any_of HT_.out (by kernel_rfl)) (fun _ _ _ h=>h) (Or.inl ⟨by rfl,?_⟩) ?_ ?_
       rotate_left
       ·intro w'
        go_simp
        with_reducible rfl
       rotate_left
       ·simp only [Act.put,s1_,s2_,s3_,i64_w,i32_w]
        rfl
       refine pure_ (i:=1) (N:=some 13) (v:=?_) (a':=?_) #[true,true,false,false,false,false,false,false] rfl rfl (any_of HT_.out (by kernel_rfl)) (fun _ _ _ h=>h) (Or.inl ⟨by rfl,?_⟩) ?_ ?_
       rotate_left
       ·intro w'
        go_simp
        with_reducible rfl
       rotate_left
       ·simp only [Act.put,s1_,s2_,s3_,i64_w,i32_w]
        rfl
       refine pure_ (i:=2) (N:=some 14) (v:=?_) (a':=?_) #[true,true,true,false,false,false,false,false] rfl rfl (any_of HT_.out (by kernel_rfl)) (fun _ _ _ h=>h) (Or.inl ⟨by rfl,?_⟩) ?_ ?_
       rotate_left
       ·intro w'
        go_simp
        with_reducible rfl
       rotate_left
       ·simp only [Act.put,s1_,s2_,s3_,i64_w,i32_w]
        rfl
       refine pure_ (i:=3) (N:=some 15) (v:=?_) (a':=?_) #[true,true,true,true,false,false,false,false] rfl rfl (any_of HT_.out (by kernel_rfl)) (fun _ _ _ h=>h) (Or.inl ⟨by rfl,?_⟩) ?_ ?_
       rotate_left
       ·intro w'
        go_simp
        with_reducible rfl
       rotate_left
       ·simp only [Act.put,s1_,s2_,s3_,i64_w,i32_w]
        rfl
       refine pure_ (i:=5) (N:=some 17) (v:=?_) (a':=?_) #[true,true,true,true,false,true,false,false] rfl rfl (any_of HT_.out (by kernel_rfl)) (fun _ _ _ h=>h) (Or.inl ⟨by rfl,?_⟩) ?_ ?_
       rotate_left
       ·intro w'
        go_simp
        with_reducible rfl
       rotate_left
       ·simp only [Act.put,s1_,s2_,s3_,i64_w,i32_w]
        rfl
       refine take_ (i:=4) (N:=some 16) (v:=?_) (a':=?_) #[true,true,true,true,true,true,false,false] rfl rfl (take_ofW HT_.out HW_.out (by kernel_rfl)) (fun _ _ _ h=>h) (Or.inl ⟨by rfl,?_⟩) hHeld ?_ ?_
       rotate_left
       ·rintro w' ⟨s0,s1⟩
        go_simp
        with_reducible rfl
       rotate_left
       ·simp only [Act.put,s1_,s2_,s3_,i64_w,i32_w]
        rfl
       refine one_ (i:=6) (N:=some 18) #[true,true,true,true,true,true,true,false] rfl rfl (one_of HT_.out (by kernel_rfl)) (by decide) (fun K hK=>?_)
       refine goes_ Try.func89 (by kernel_rfl) rfl #[.int .i64 x1_1] (by rfl) rfl rfl lm_ ?_
       with_reducible refine (laws_markText.calls k1 x1_1 t2 _ A5.out).mono ?_
       rintro e w9 ⟨rfl,hb⟩
       refine ⟨_,rfl,?_⟩
       have n0_:=a0_ (below_step hbw_ hb)
       clear HB
       have HB:=n0_
       clear n0_
       (try clear hb)
       (try clear hb2)
       (try clear hk)
       (try clear hi)
       refine hK.out _ _ ⟨((HB.out.cell (World.block_lt_of_cell? w _ hw1_0)).trans hw1_0),((HB.out.cell (World.block_lt_of_cell? w _ hw1_1)).trans hw1_1)⟩ (fun hHeld=>?_)
       clear hK K
       refine norm_ (a':=?_) ?_ ?_
       rotate_left
       ·show Act.put _ (some 18) _ = _
        simp only [Act.put,s1_,s2_,s3_,i64_w,i32_w]
        rfl
       refine pure_ (i:=7) (N:=some 19) (v:=?_) (a':=?_) #[true,true,true,true,true,true,true,true] rfl rfl (any_of HT_.out (by kernel_rfl)) (fun _ _ _ h=>h) (Or.inl ⟨by rfl,?_⟩) ?_ ?_
       rotate_left
       ·intro w'
        go_simp
        with_reducible rfl
       rotate_left
       ·simp only [Act.put,s1_,s2_,s3_,i64_w,i32_w]
        rfl
       refine done_ (done_of HT_.out (by kernel_rfl)) ?_
       have p3 : 0 ≤ (x5_1 : Int):=of_decide_eq_true (by first | (with_reducible assumption) | assumption)
       have q3 : x5_1 < (l0.length : Int):=of_decide_eq_true (by first | (with_reducible assumption) | assumption)
       obtain ⟨ad3,e3,hx3_0,hx3_1⟩:=at_T113 HR0.out x5_1 p3 q3
       obtain rfl : ad1 = ad3:=(by injection e3)
       replace hx3_0:=(HB.out.cell (World.block_lt_of_cell? w _ hx3_0)).trans hx3_0
       replace hx3_1:=(HB.out.cell (World.block_lt_of_cell? w _ hx3_1)).trans hx3_1
       replace p3:=eq_true p3
       replace q3:=eq_true q3
       try go_wp2
       go_roundg k1
       case measure=>have:=HK1.out;omega
       case rel=>exact ⟨(wrap64 ((wrap64 (x1_1 + 1)) + 1)),(wrap64 (x5_1 + 1)),(by first | rfl | (simp;done) | (simp [*];done)),(by first | rfl | (simp;done) | (simp [*];done)),H',⟨by have:=HK1.out;omega⟩,⟨hbw_⟩⟩
      ·rw [if_neg c7] at H
       have c7b0 : (((rd_T113 l0 x5_1).f1) == (wrap64 (x1_1 + 1))) = false:=beq_eq_false_iff_ne.mpr c7
       have c7b1 : (((rd_T113 l0 x5_1).f1) != (wrap64 (x1_1 + 1))) = true:=bne_iff_ne.mpr c7
       obtain rfl:=Option.some.inj H
       try go_wp2
       have n0_:=a0_ (below_drew1 HB.out)
       clear HB
       have HB:=n0_
       clear n0_
       have p1 : 0 ≤ (x5_1 : Int):=of_decide_eq_true (by first | (with_reducible assumption) | assumption)
       have q1 : x5_1 < (l0.length : Int):=of_decide_eq_true (by first | (with_reducible assumption) | assumption)
       obtain ⟨ad1,e1,hx1_0,hx1_1⟩:=at_T113 HR0.out x5_1 p1 q1
       have hw1_1:=hx1_1
       have hw1_0:=hx1_0
       cases e1
       replace hx1_0:=(HB.out.cell (World.block_lt_of_cell? w _ hx1_0)).trans hx1_0
       replace hx1_1:=(HB.out.cell (World.block_lt_of_cell? w _ hx1_1)).trans hx1_1
       replace p1:=eq_true p1
       replace q1:=eq_true q1
       refine start_ (n:=8) (S:=fun w'=>w'.cell? (ad1.add ((x5_1).toNat * 2)) = some (.string ((rd_T113 l0 x5_1).f0)) ∧ w'.cell? ⟨(ad1.add ((x5_1).toNat * 2)).block,(ad1.add ((x5_1).toNat * 2)).off + 1,none⟩ = some (.int .i64 ((rd_T113 l0 x5_1).f1))) (ds:=[]) #[false,false,false,false,false,false,false,false] (by kernel_rfl) rfl rfl ⟨((HB.out.cell (World.block_lt_of_cell? w _ hw1_0)).trans hw1_0),((HB.out.cell (World.block_lt_of_cell? w _ hw1_1)).trans hw1_1)⟩ (fun hHeld=>?_);refine with_tabW laws_heldFrameS.tab4 laws_heldFrameS.bits4 (fun HT_ HW_=>?_)
       generalize wr.drew = w10 at HB hx1_0 hx1_1 hHeld ⊢
       refine pure_ (i:=0) (N:=some 12) (v:=?_) (a':=?_) #[true,false,false,false,false,false,false,false] rfl rfl (any_of HT_.out (by kernel_rfl)) (fun _ _ _ h=>h) (Or.inl ⟨by rfl,?_⟩) ?_ ?_
       rotate_left
       ·intro w'
        go_simp
        with_reducible rfl
       rotate_left
       ·simp only [Act.put,s1_,s2_,s3_,i64_w,i32_w]
        rfl
       refine pure_ (i:=1) (N:=some 13) (v:=?_) (a':=?_) #[true,true,false,false,false,false,false,false] rfl rfl (any_of HT_.out (by kernel_rfl)) (fun _ _ _ h=>h) (Or.inl ⟨by rfl,?_⟩) ?_ ?_
       rotate_left
       ·intro w'
        go_simp
        with_reducible rfl
       rotate_left
       ·simp only [Act.put,s1_,s2_,s3_,i64_w,i32_w]
        rfl
       refine pure_ (i:=2) (N:=some 14) (v:=?_) (a':=?_) #[true,true,true,false,false,false,false,false] rfl rfl (any_of HT_.out (by kernel_rfl)) (fun _ _ _ h=>h) (Or.inl ⟨by rfl,?_⟩) ?_ ?_
       rotate_left
       ·intro w'
        go_simp
        with_reducible rfl
       rotate_left
       ·simp only [Act.put,s1_,s2_,s3_,i64_w,i32_w]
        rfl
       refine pure_ (i:=3) (N:=some 15) (v:=?_) (a':=?_) #[true,true,true,true,false,false,false,false] rfl rfl (any_of HT_.out (by kernel_rfl)) (fun _ _ _ h=>h) (Or.inl ⟨by rfl,?_⟩) ?_ ?_
       rotate_left
       ·intro w'
        go_simp
        with_reducible rfl
       rotate_left
       ·simp only [Act.put,s1_,s2_,s3_,i64_w,i32_w]
        rfl
       refine pure_ (i:=5) (N:=some 17) (v:=?_) (a':=?_) #[true,true,true,true,false,true,false,false] rfl rfl (any_of HT_.out (by kernel_rfl)) (fun _ _ _ h=>h) (Or.inl ⟨by rfl,?_⟩) ?_ ?_
       rotate_left
       ·intro w'
        go_simp
        with_reducible rfl
       rotate_left
       ·simp only [Act.put,s1_,s2_,s3_,i64_w,i32_w]
        rfl
       refine take_ (i:=4) (N:=some 16) (v:=?_) (a':=?_) #[true,true,true,true,true,true,false,false] rfl rfl (take_ofW HT_.out HW_.out (by kernel_rfl)) (fun _ _ _ h=>h) (Or.inl ⟨by rfl,?_⟩) hHeld ?_ ?_
       rotate_left
       ·rintro w' ⟨s0,s1⟩
        go_simp
        with_reducible rfl
       rotate_left
       ·simp only [Act.put,s1_,s2_,s3_,i64_w,i32_w]
        rfl
       refine one_ (i:=6) (N:=some 18) #[true,true,true,true,true,true,true,false] rfl rfl (one_of HT_.out (by kernel_rfl)) (by decide) (fun K hK=>?_)
       refine goes_ Try.func89 (by kernel_rfl) rfl #[.int .i64 x1_1] (by rfl) rfl rfl lm_ ?_
       with_reducible refine (laws_markText.calls k1 x1_1 t2 _ A5.out).mono ?_
       rintro e w11 ⟨rfl,hb⟩
       refine ⟨_,rfl,?_⟩
       have n0_:=a0_ (below_step hbw_ hb)
       clear HB
       have HB:=n0_
       clear n0_
       (try clear hb)
       (try clear hb2)
       (try clear hk)
       (try clear hi)
       refine hK.out _ _ ⟨((HB.out.cell (World.block_lt_of_cell? w _ hw1_0)).trans hw1_0),((HB.out.cell (World.block_lt_of_cell? w _ hw1_1)).trans hw1_1)⟩ (fun hHeld=>?_)
       clear hK K
       refine norm_ (a':=?_) ?_ ?_
       rotate_left
       ·show Act.put _ (some 18) _ = _
        simp only [Act.put,s1_,s2_,s3_,i64_w,i32_w]
        rfl
       refine pure_ (i:=7) (N:=some 19) (v:=?_) (a':=?_) #[true,true,true,true,true,true,true,true] rfl rfl (any_of HT_.out (by kernel_rfl)) (fun _ _ _ h=>h) (Or.inl ⟨by rfl,?_⟩) ?_ ?_
       rotate_left
       ·intro w'
        go_simp
        with_reducible rfl
       rotate_left
       ·simp only [Act.put,s1_,s2_,s3_,i64_w,i32_w]
        rfl
       refine done_ (done_of HT_.out (by kernel_rfl)) ?_
       have p3 : 0 ≤ (x5_1 : Int):=of_decide_eq_true (by first | (with_reducible assumption) | assumption)
       have q3 : x5_1 < (l0.length : Int):=of_decide_eq_true (by first | (with_reducible assumption) | assumption)
       obtain ⟨ad3,e3,hx3_0,hx3_1⟩:=at_T113 HR0.out x5_1 p3 q3
       obtain rfl : ad1 = ad3:=(by injection e3)
       replace hx3_0:=(HB.out.cell (World.block_lt_of_cell? w _ hx3_0)).trans hx3_0
       replace hx3_1:=(HB.out.cell (World.block_lt_of_cell? w _ hx3_1)).trans hx3_1
       replace p3:=eq_true p3
       replace q3:=eq_true q3
       try go_wp2
       go_ret
       exact ⟨by first | rfl | (simp [errW_none,errW_some] <;> rfl) | (simp [*,errW_none,errW_some] <;> rfl),hbw_⟩
     ·rw [if_neg c6] at H
      have c6b0 : (((rd_T113 l0 x5_1).f0).toList == t2.toList) = false:=beq_eq_false_iff_ne.mpr c6
      have c6b1 : (((rd_T113 l0 x5_1).f0).toList != t2.toList) = true:=bne_iff_ne.mpr c6
      obtain rfl:=Option.some.inj H
      try go_wp2
      have n0_:=a0_ (below_drew1 HB.out)
      clear HB
      have HB:=n0_
      clear n0_
      have p1 : 0 ≤ (x5_1 : Int):=of_decide_eq_true (by first | (with_reducible assumption) | assumption)
      have q1 : x5_1 < (l0.length : Int):=of_decide_eq_true (by first | (with_reducible assumption) | assumption)
      obtain ⟨ad1,e1,hx1_0,hx1_1⟩:=at_T113 HR0.out x5_1 p1 q1
      have hw1_1:=hx1_1
      have hw1_0:=hx1_0
      cases e1
      replace hx1_0:=(HB.out.cell (World.block_lt_of_cell? w _ hx1_0)).trans hx1_0
      replace hx1_1:=(HB.out.cell (World.block_lt_of_cell? w _ hx1_1)).trans hx1_1
      replace p1:=eq_true p1
      replace q1:=eq_true q1
      refine start_ (n:=8) (S:=fun w'=>w'.cell? (ad1.add ((x5_1).toNat * 2)) = some (.string ((rd_T113 l0 x5_1).f0)) ∧ w'.cell? ⟨(ad1.add ((x5_1).toNat * 2)).block,(ad1.add ((x5_1).toNat * 2)).off + 1,none⟩ = some (.int .i64 ((rd_T113 l0 x5_1).f1))) (ds:=[]) #[false,false,false,false,false,false,false,false] (by kernel_rfl) rfl rfl ⟨((HB.out.cell (World.block_lt_of_cell? w _ hw1_0)).trans hw1_0),((HB.out.cell (World.block_lt_of_cell? w _ hw1_1)).trans hw1_1)⟩ (fun hHeld=>?_);refine with_tabW laws_heldFrameS.tab4 laws_heldFrameS.bits4 (fun HT_ HW_=>?_)
      generalize wr.drew = w12 at HB hx1_0 hx1_1 hHeld ⊢
      refine pure_ (i:=0) (N:=some 12) (v:=?_) (a':=?_) #[true,false,false,false,false,false,false,false] rfl rfl (any_of HT_.out (by kernel_rfl)) (fun _ _ _ h=>h) (Or.inl ⟨by rfl,?_⟩) ?_ ?_
      rotate_left
      ·intro w'
       go_simp
       with_reducible rfl
      rotate_left
      ·simp only [Act.put,s1_,s2_,s3_,i64_w,i32_w]
       rfl
      refine pure_ (i:=1) (N:=some 13) (v:=?_) (a':=?_) #[true,true,false,false,false,false,false,false] rfl rfl (any_of HT_.out (by kernel_rfl)) (fun _ _ _ h=>h) (Or.inl ⟨by rfl,?_⟩) ?_ ?_
      rotate_left
      ·intro w'
       go_simp
       with_reducible rfl
      rotate_left
      ·simp only [Act.put,s1_,s2_,s3_,i64_w,i32_w]
       rfl
      refine pure_ (i:=2) (N:=some 14) (v:=?_) (a':=?_) #[true,true,true,false,false,false,false,false] rfl rfl (any_of HT_.out (by kernel_rfl)) (fun _ _ _ h=>h) (Or.inl ⟨by rfl,?_⟩) ?_ ?_
      rotate_left
      ·intro w'
       go_simp
       with_reducible rfl
      rotate_left
      ·simp only [Act.put,s1_,s2_,s3_,i64_w,i32_w]
       rfl
      refine pure_ (i:=3) (N:=some 15) (v:=?_) (a':=?_) #[true,true,true,true,false,false,false,false] rfl rfl (any_of HT_.out (by kernel_rfl)) (fun _ _ _ h=>h) (Or.inl ⟨by rfl,?_⟩) ?_ ?_
      rotate_left
      ·intro w'
       go_simp
       with_reducible rfl
      rotate_left
      ·simp only [Act.put,s1_,s2_,s3_,i64_w,i32_w]
       rfl
      refine pure_ (i:=5) (N:=some 17) (v:=?_) (a':=?_) #[true,true,true,true,false,true,false,false] rfl rfl (any_of HT_.out (by kernel_rfl)) (fun _ _ _ h=>h) (Or.inl ⟨by rfl,?_⟩) ?_ ?_
      rotate_left
      ·intro w'
       go_simp
       with_reducible rfl
      rotate_left
      ·simp only [Act.put,s1_,s2_,s3_,i64_w,i32_w]
       rfl
      refine take_ (i:=4) (N:=some 16) (v:=?_) (a':=?_) #[true,true,true,true,true,true,false,false] rfl rfl (take_ofW HT_.out HW_.out (by kernel_rfl)) (fun _ _ _ h=>h) (Or.inl ⟨by rfl,?_⟩) hHeld ?_ ?_
      rotate_left
      ·rintro w' ⟨s0,s1⟩
       go_simp
       with_reducible rfl
      rotate_left
      ·simp only [Act.put,s1_,s2_,s3_,i64_w,i32_w]
       rfl
      refine one_ (i:=6) (N:=some 18) #[true,true,true,true,true,true,true,false] rfl rfl (one_of HT_.out (by kernel_rfl)) (by decide) (fun K hK=>?_)
      refine goes_ Try.func89 (by kernel_rfl) rfl #[.int .i64 x1_1] (by rfl) rfl rfl lm_ ?_
      with_reducible refine (laws_markText.calls k1 x1_1 t2 _ A5.out).mono ?_
      rintro e w13 ⟨rfl,hb⟩
      refine ⟨_,rfl,?_⟩
      have n0_:=a0_ (below_step hbw_ hb)
      clear HB
      have HB:=n0_
      clear n0_
      (try clear hb)
      (try clear hb2)
      (try clear hk)
      (try clear hi)
      refine hK.out _ _ ⟨((HB.out.cell (World.block_lt_of_cell? w _ hw1_0)).trans hw1_0),((HB.out.cell (World.block_lt_of_cell? w _ hw1_1)).trans hw1_1)⟩ (fun hHeld=>?_)
      clear hK K
      refine norm_ (a':=?_) ?_ ?_
      rotate_left
      ·show Act.put _ (some 18) _ = _
       simp only [Act.put,s1_,s2_,s3_,i64_w,i32_w]
       rfl
      refine pure_ (i:=7) (N:=some 19) (v:=?_) (a':=?_) #[true,true,true,true,true,true,true,true] rfl rfl (any_of HT_.out (by kernel_rfl)) (fun _ _ _ h=>h) (Or.inl ⟨by rfl,?_⟩) ?_ ?_
      rotate_left
      ·intro w'
       go_simp
       with_reducible rfl
      rotate_left
      ·simp only [Act.put,s1_,s2_,s3_,i64_w,i32_w]
       rfl
      refine done_ (done_of HT_.out (by kernel_rfl)) ?_
      try go_wp2
      go_ret
      exact ⟨by first | rfl | (simp [errW_none,errW_some] <;> rfl) | (simp [*,errW_none,errW_some] <;> rfl),hbw_⟩
    ·rw [if_neg c4] at H
     exact absurd H (by simp)
   ·rw [if_neg c3] at H
    have c3b0 : decide (x5_1 < (l0.length : Int)) = false:=decide_eq_false c3
    clear c3
    obtain rfl:=Option.some.inj H
    go_wp2
    go_ret
    exact ⟨by first | rfl | (simp [errW_none,errW_some] <;> rfl) | (simp [*,errW_none,errW_some] <;> rfl),hbw_⟩
theorem laws_markFrameS_at : ∀ (d i : Nat) (a : Int) (l : List S113),0 ≤ a → i + d = l.length → l.length ≤ 4611686018427387904 → a + 2 * d ≤ 4611686018427387904 → ∃ l',Ev (fun k=>laws_markFrameS.l0 k l a (i : Int)) (a + 2 * d,l') ∧ l'.length = l.length ∧ (∀ j,j < i → l'.getD j z113 = l.getD j z113) ∧ ∀ j,j < d → ∃ s,Ev (fun k=>laws_markText.f k (a + 2 * (j : Int))) s ∧ l'.getD (i + j) z113 = ⟨s,a + 2 * (j : Int) + 1⟩:=by
 intro d
 induction d with
 | zero =>
  intro i a l h0 hi hll ha
  refine ⟨l,Ev.succ (Ev.congr (Ev.const rfl) (fun k=>?_)),rfl,fun _ _=>rfl,fun j hj=>absurd hj (Nat.not_lt_zero _)⟩
  simp only [laws_markFrameS.l0]
  rw [if_neg (by omega)]
  simp
 | succ d ih =>
  intro i a l h0 hi hll ha
  obtain ⟨s,hs⟩:=laws_markText_ev a (by omega)
  have hset : ((l.set i ⟨s,(rd_T113 l i).f1⟩).set i ⟨(rd_T113 (l.set i ⟨s,(rd_T113 l i).f1⟩) i).f0,a + 1⟩) = l.set i ⟨s,a + 1⟩:=by
   have hr : rd_T113 (l.set i ⟨s,(rd_T113 l i).f1⟩) (i : Int) = ⟨s,(rd_T113 l i).f1⟩:=by
    have : i < l.length:=by omega
    simp [rd_T113,this]
   rw [hr,List.set_set]
  obtain ⟨l',hl',hlen,hlow,hat⟩:=ih (i + 1) (a + 1 + 1) (l.set i ⟨s,a + 1⟩) (by omega) (by simp;omega) (by simp;omega) (by omega)
  refine ⟨l',Ev.succ (Ev.congr (F:=fun k=>(laws_markText.f k a).bind fun s=>laws_markFrameS.l0 k ((l.set i ⟨s,(rd_T113 l i).f1⟩).set i ⟨(rd_T113 (l.set i ⟨s,(rd_T113 l i).f1⟩) i).f0,a + 1⟩) (a + 1 + 1) ((i + 1 : Nat) : Int)) ?_ (fun k=>?_)),by rw [hlen,List.length_set],fun j hj=>?_,fun j hj=>?_⟩
  ·rw [show a + 2 * ((d + 1 : Nat) : Int) = a + 1 + 1 + 2 * d by omega]
   refine Ev.bind hs ?_
   rw [hset]
   exact hl'
  ·simp only [laws_markFrameS.l0]
   rw [if_pos (by omega)]
   congr 1
   funext s
   rw [if_pos (by omega),wrap_in (i:=a + 1) (by omega) (by omega),wrap_in (i:=a + 1 + 1) (by omega) (by omega),wrap_succ (i:=(i : Int)) (n:=l.length) (by omega) (by omega) (by omega)]
   rfl
  ·rw [hlow j (by omega),List.getD_eq_getElem?_getD,List.getD_eq_getElem?_getD,List.getElem?_set_ne (by omega)]
  ·cases j with
   | zero =>
    refine ⟨s,by simpa using hs,?_⟩
    rw [Nat.add_zero,hlow i (by omega),List.getD_eq_getElem?_getD,List.getElem?_set_self (by omega)]
    simp
   | succ j =>
    obtain ⟨u,hu,hu2⟩:=hat j (by omega)
    refine ⟨u,?_,?_⟩
    ·rw [show a + 2 * ((j + 1 : Nat) : Int) = a + 1 + 1 + 2 * (j : Int) by omega]
     exact hu
    ·rw [show i + (j + 1) = i + 1 + j by omega,hu2,show a + 1 + 1 + 2 * (j : Int) + 1 = a + 2 * ((j + 1 : Nat) : Int) + 1 by omega]
theorem laws_heldFrameS_at (l' : List S113) (a0 : Int) (h0 : 0 ≤ a0) (hl : a0 + 2 * l'.length ≤ 4611686018427387904) (hat : ∀ j,j < l'.length → ∃ s,Ev (fun k=>laws_markText.f k (a0 + 2 * (j : Int))) s ∧ l'.getD j z113 = ⟨s,a0 + 2 * (j : Int) + 1⟩) : Ev (fun k=>laws_heldFrameS.f k l' a0) (a0 + 2 * l'.length):=by
 have key : ∀ (d i : Nat),i + d = l'.length → Ev (fun k=>laws_heldFrameS.l0 k l' (a0 + 2 * (i : Int)) (i : Int)) (a0 + 2 * l'.length):=by
  intro d
  induction d with
  | zero =>
   intro i hi
   refine Ev.succ ?_
   simp only [laws_heldFrameS.l0]
   refine Ev.neg (by omega) (Ev.const ?_)
   rw [show i = l'.length by omega]
  | succ d ih =>
   intro i hi
   obtain ⟨s,hs,he⟩:=hat i (by omega)
   have hr : rd_T113 l' (i : Int) = ⟨s,a0 + 2 * (i : Int) + 1⟩:=by rw [← he];simp [rd_T113]
   have hn:=ih (i + 1) (by omega)
   refine Ev.succ ?_
   simp only [laws_heldFrameS.l0,hr]
   rw [wrap_in (i:=a0 + 2 * (i : Int) + 1) (by omega) (by omega),wrap_in (i:=a0 + 2 * (i : Int) + 1 + 1) (by omega) (by omega),wrap_succ (i:=(i : Int)) (n:=l'.length) (by omega) (by omega) (by omega)]
   refine Ev.pos (by omega) ?_
   refine Ev.pos (by omega) ?_
   refine Ev.bind hs ?_
   refine Ev.pos rfl ?_
   refine Ev.pos rfl ?_
   rw [show a0 + 2 * ((i + 1 : Nat) : Int) = a0 + 2 * (i : Int) + 1 + 1 by omega] at hn
   exact hn
 have:=key l'.length 0 (by omega)
 unfold laws_heldFrameS.f
 simpa using this
theorem laws_markHeldFrameS_ev (l : List S113) (a : Int) (h0 : 0 ≤ a) (hl : a + 2 * l.length ≤ 4611686018427387904) : ∃ l',Ev (fun k=>laws_markFrameS.f k l a) (a + 2 * l.length,l') ∧ Ev (fun k=>laws_heldFrameS.f k l' a) (a + 2 * l.length):=by
 obtain ⟨l',h1,h2,_,h3⟩:=laws_markFrameS_at l.length 0 a l h0 (by omega) (by omega) hl
 refine ⟨l',h1,?_⟩
 have h4:=laws_heldFrameS_at l' a h0 (by rw [h2];exact hl) (fun j hj=>by
  obtain ⟨s,hs,he⟩:=h3 j (by omega)
  exact ⟨s,hs,by simpa using he⟩)
 rw [h2] at h4
 exact h4
end Go.Proofs.Ytacgehaipacehaa.P
namespace Go.Proofs.Ytacgehaipacehaa.P
open Go.RowKit Go.Proofs.YtacgehaipacehaaW.PrintWords Go.Proofs.YtacgehaipacehaaW.PrintLast Go.Proofs.YtacgehaipacehaaW.PrintMore
attribute [local go_sem] max2_int min2_int max_two min_two max_three min_three max_four min_four
set_option linter.unusedVariables false
set_option linter.unusedSimpArgs false
mutual
def laws_FnExactUnfoldTrace.j0 : Nat → List (S109) → List (S113) → Bool → List (S115) → List (S113) → Bool → Bool → Option (Bool)
 | 0,_,_,_,_,_,_,_=>none
 | k + 1,x0,x4,x5,x6,x7,x8,x40=>if x40 = true then (some false) else ((laws_toRowS.f k x0).bind fun t17=>((laws_eqRowS.f k x6 t17).bind fun t20=>(if t20 = true then ((laws_markRowS.f k x6 1).bind fun bt21=>(if bt21.1 < 0 then (laws_FnExactUnfoldTrace.j1 k x0 x4 x5 x7 true) else ((laws_eqFrameS.f k x7 x4).bind fun t23=>(if t23 = true then (laws_FnExactUnfoldTrace.j1 k x0 x4 x5 x7 (x8 != x5)) else (laws_FnExactUnfoldTrace.j1 k x0 x4 x5 x7 true))))) else (some false))))
def laws_FnExactUnfoldTrace.j1 : Nat → List (S109) → List (S113) → Bool → List (S113) → Bool → Option (Bool)
 | 0,_,_,_,_,_=>none
 | k + 1,x0,x4,x5,x7,x61=>if x61 = true then (some false) else ((laws_markFrameS.f k x7 1).bind fun bt24=>((laws_heldFrameS.f k bt24.2 1).bind fun t26=>(if t26 < 0 then (some false) else (if t26 = bt24.1 then ((laws_toRowS.f k x0).bind fun t27=>((impl_UnfoldTrace.f k t27).bind fun bt30=>((laws_eqFrameS.f k bt30.1 x4).bind fun t34=>(if t34 = true then (laws_FnExactUnfoldTrace.j2 k bt24.2 bt24.1 (bt30.2 != x5)) else (laws_FnExactUnfoldTrace.j2 k bt24.2 bt24.1 true))))) else (some false)))))
def laws_FnExactUnfoldTrace.j2 : Nat → List (S113) → Int → Bool → Option (Bool)
 | 0,_,_,_=>none
 | k + 1,x7,x10,x87=>if x87 = true then (some false) else ((laws_heldFrameS.f k x7 1).bind fun t35=>(if t35 < 0 then (some false) else (if t35 = x10 then (some true) else (some false))))
end
def laws_FnExactUnfoldTrace.f (k : Nat) (l0 : List (S109)) : Option (Bool):=(laws_szRowS.f k l0 1048576).bind fun t1=>(if t1 < 0 then (some true) else ((laws_toRowS.f k l0).bind fun t2=>((spec_UnfoldTrace.f k t2).bind fun bt5=>((laws_toRowS.f k l0).bind fun t9=>((impl_UnfoldTrace.f k t9).bind fun bt12=>((laws_eqFrameS.f k bt12.1 bt5.1).bind fun t16=>(if t16 = true then (laws_FnExactUnfoldTrace.j0 k l0 bt5.1 bt5.2 t9 bt12.1 bt12.2 (bt12.2 != bt5.2)) else (laws_FnExactUnfoldTrace.j0 k l0 bt5.1 bt5.2 t9 bt12.1 bt12.2 true))))))))
theorem laws_FnExactUnfoldTrace.mono_l : ∀ k,(∀ y0 y1 y2 y3 y4 y5 y6,LeO (laws_FnExactUnfoldTrace.j0 k y0 y1 y2 y3 y4 y5 y6) (laws_FnExactUnfoldTrace.j0 (k + 1) y0 y1 y2 y3 y4 y5 y6)) ∧ (∀ y0 y1 y2 y3 y4,LeO (laws_FnExactUnfoldTrace.j1 k y0 y1 y2 y3 y4) (laws_FnExactUnfoldTrace.j1 (k + 1) y0 y1 y2 y3 y4)) ∧ (∀ y0 y1 y2,LeO (laws_FnExactUnfoldTrace.j2 k y0 y1 y2) (laws_FnExactUnfoldTrace.j2 (k + 1) y0 y1 y2))
 | 0=>⟨fun _ _ _ _ _ _ _ r h=>by simp [laws_FnExactUnfoldTrace.j0] at h,fun _ _ _ _ _ r h=>by simp [laws_FnExactUnfoldTrace.j1] at h,fun _ _ _ r h=>by simp [laws_FnExactUnfoldTrace.j2] at h⟩
 | k + 1=>by
  obtain ⟨ih0,ih1,ih2⟩:=laws_FnExactUnfoldTrace.mono_l k
  refine ⟨?_,?_,?_⟩
  ·intro y0 y1 y2 y3 y4 y5 y6
   unfold laws_FnExactUnfoldTrace.j0
   repeat' first
   | (with_reducible exact ih0 _ _ _ _ _ _ _)
   | (with_reducible exact ih1 _ _ _ _ _)
   | (with_reducible exact ih2 _ _ _)
   | (with_reducible exact impl_UnfoldTrace.mono _ _)
   | (with_reducible exact laws_eqFrameS.mono _ _ _)
   | (with_reducible exact laws_eqRowS.mono _ _ _)
   | (with_reducible exact laws_heldFrameS.mono _ _ _)
   | (with_reducible exact laws_markFrameS.mono _ _ _)
   | (with_reducible exact laws_markRowS.mono _ _ _)
   | (with_reducible exact laws_szRowS.mono _ _ _)
   | (with_reducible exact laws_toRowS.mono _ _)
   | (with_reducible exact spec_UnfoldTrace.mono _ _)
   | (with_reducible exact LeO.refl _)
   | (with_reducible exact LeO.none _)
   | (with_reducible refine LeO.ite ?_ ?_)
   | (with_reducible refine LeO.bind ?_ (fun _=>?_))
   | exact ih0 _ _ _ _ _ _ _
   | exact ih1 _ _ _ _ _
   | exact ih2 _ _ _
   | exact impl_UnfoldTrace.mono _ _
   | exact laws_eqFrameS.mono _ _ _
   | exact laws_eqRowS.mono _ _ _
   | exact laws_heldFrameS.mono _ _ _
   | exact laws_markFrameS.mono _ _ _
   | exact laws_markRowS.mono _ _ _
   | exact laws_szRowS.mono _ _ _
   | exact laws_toRowS.mono _ _
   | exact spec_UnfoldTrace.mono _ _
   | exact LeO.none _
   | refine LeO.ite ?_ ?_
   | refine LeO.bind ?_ (fun _=>?_)
  ·intro y0 y1 y2 y3 y4
   unfold laws_FnExactUnfoldTrace.j1
   repeat' first
   | (with_reducible exact ih0 _ _ _ _ _ _ _)
   | (with_reducible exact ih1 _ _ _ _ _)
   | (with_reducible exact ih2 _ _ _)
   | (with_reducible exact impl_UnfoldTrace.mono _ _)
   | (with_reducible exact laws_eqFrameS.mono _ _ _)
   | (with_reducible exact laws_eqRowS.mono _ _ _)
   | (with_reducible exact laws_heldFrameS.mono _ _ _)
   | (with_reducible exact laws_markFrameS.mono _ _ _)
   | (with_reducible exact laws_markRowS.mono _ _ _)
   | (with_reducible exact laws_szRowS.mono _ _ _)
   | (with_reducible exact laws_toRowS.mono _ _)
   | (with_reducible exact spec_UnfoldTrace.mono _ _)
   | (with_reducible exact LeO.refl _)
   | (with_reducible exact LeO.none _)
   | (with_reducible refine LeO.ite ?_ ?_)
   | (with_reducible refine LeO.bind ?_ (fun _=>?_))
   | exact ih0 _ _ _ _ _ _ _
   | exact ih1 _ _ _ _ _
   | exact ih2 _ _ _
   | exact impl_UnfoldTrace.mono _ _
   | exact laws_eqFrameS.mono _ _ _
   | exact laws_eqRowS.mono _ _ _
   | exact laws_heldFrameS.mono _ _ _
   | exact laws_markFrameS.mono _ _ _
   | exact laws_markRowS.mono _ _ _
   | exact laws_szRowS.mono _ _ _
   | exact laws_toRowS.mono _ _
   | exact spec_UnfoldTrace.mono _ _
   | exact LeO.none _
   | refine LeO.ite ?_ ?_
   | refine LeO.bind ?_ (fun _=>?_)
  ·intro y0 y1 y2
   unfold laws_FnExactUnfoldTrace.j2
   repeat' first
   | (with_reducible exact ih0 _ _ _ _ _ _ _)
   | (with_reducible exact ih1 _ _ _ _ _)
   | (with_reducible exact ih2 _ _ _)
   | (with_reducible exact impl_UnfoldTrace.mono _ _)
   | (with_reducible exact laws_eqFrameS.mono _ _ _)
   | (with_reducible exact laws_eqRowS.mono _ _ _)
   | (with_reducible exact laws_heldFrameS.mono _ _ _)
   | (with_reducible exact laws_markFrameS.mono _ _ _)
   | (with_reducible exact laws_markRowS.mono _ _ _)
   | (with_reducible exact laws_szRowS.mono _ _ _)
   | (with_reducible exact laws_toRowS.mono _ _)
   | (with_reducible exact spec_UnfoldTrace.mono _ _)
   | (with_reducible exact LeO.refl _)
   | (with_reducible exact LeO.none _)
   | (with_reducible refine LeO.ite ?_ ?_)
   | (with_reducible refine LeO.bind ?_ (fun _=>?_))
   | exact ih0 _ _ _ _ _ _ _
   | exact ih1 _ _ _ _ _
   | exact ih2 _ _ _
   | exact impl_UnfoldTrace.mono _ _
   | exact laws_eqFrameS.mono _ _ _
   | exact laws_eqRowS.mono _ _ _
   | exact laws_heldFrameS.mono _ _ _
   | exact laws_markFrameS.mono _ _ _
   | exact laws_markRowS.mono _ _ _
   | exact laws_szRowS.mono _ _ _
   | exact laws_toRowS.mono _ _
   | exact spec_UnfoldTrace.mono _ _
   | exact LeO.none _
   | refine LeO.ite ?_ ?_
   | refine LeO.bind ?_ (fun _=>?_)
theorem laws_FnExactUnfoldTrace.mono : ∀ a0 k,LeO (laws_FnExactUnfoldTrace.f k a0) (laws_FnExactUnfoldTrace.f (k + 1) a0):=by
 intro a0 k
 obtain ⟨ih0,ih1,ih2⟩:=laws_FnExactUnfoldTrace.mono_l k
 unfold laws_FnExactUnfoldTrace.f
 repeat' first
   | (with_reducible exact ih0 _ _ _ _ _ _ _)
   | (with_reducible exact ih1 _ _ _ _ _)
   | (with_reducible exact ih2 _ _ _)
   | (with_reducible exact impl_UnfoldTrace.mono _ _)
   | (with_reducible exact laws_eqFrameS.mono _ _ _)
   | (with_reducible exact laws_eqRowS.mono _ _ _)
   | (with_reducible exact laws_heldFrameS.mono _ _ _)
   | (with_reducible exact laws_markFrameS.mono _ _ _)
   | (with_reducible exact laws_markRowS.mono _ _ _)
   | (with_reducible exact laws_szRowS.mono _ _ _)
   | (with_reducible exact laws_toRowS.mono _ _)
   | (with_reducible exact spec_UnfoldTrace.mono _ _)
   | (with_reducible exact LeO.refl _)
   | (with_reducible exact LeO.none _)
   | (with_reducible refine LeO.ite ?_ ?_)
   | (with_reducible refine LeO.bind ?_ (fun _=>?_))
   | exact ih0 _ _ _ _ _ _ _
   | exact ih1 _ _ _ _ _
   | exact ih2 _ _ _
   | exact impl_UnfoldTrace.mono _ _
   | exact laws_eqFrameS.mono _ _ _
   | exact laws_eqRowS.mono _ _ _
   | exact laws_heldFrameS.mono _ _ _
   | exact laws_markFrameS.mono _ _ _
   | exact laws_markRowS.mono _ _ _
   | exact laws_szRowS.mono _ _ _
   | exact laws_toRowS.mono _ _
   | exact spec_UnfoldTrace.mono _ _
   | exact LeO.none _
   | refine LeO.ite ?_ ?_
   | refine LeO.bind ?_ (fun _=>?_)
set_option maxHeartbeats 8000000 in
set_option maxRecDepth 100000 in
theorem laws_FnExactUnfoldTrace.calls (k : Nat) (A0 : Option Addr) (c0 : Nat) (l0 : List (S109)) (r : Bool) (w : World) (hr0 : Kd.C k109 w A0 l0.length l0) (hc0 : l0.length ≤ c0) (h : laws_FnExactUnfoldTrace.f k l0 = some r) :
  Calls Try.prog 5 #[.slice A0 l0.length c0] w fun e w'=>e = .returned (.bool r) ∧ Below w.heap.size w w':=by
 have HR0:=a0_ hr0
 have HC0:=a0_ hc0
 clear hr0 hc0
 have HB:=a0_ (Below.refl w.heap.size w)
 have H : ((laws_szRowS.f k l0 1048576).bind fun t1=>(if t1 < 0 then (some true) else ((laws_toRowS.f k l0).bind fun t2=>((spec_UnfoldTrace.f k t2).bind fun bt5=>((laws_toRowS.f k l0).bind fun t9=>((impl_UnfoldTrace.f k t9).bind fun bt12=>((laws_eqFrameS.f k bt12.1 bt5.1).bind fun t16=>(if t16 = true then (laws_FnExactUnfoldTrace.j0 k l0 bt5.1 bt5.2 t9 bt12.1 bt12.2 (bt12.2 != bt5.2)) else (laws_FnExactUnfoldTrace.j0 k l0 bt5.1 bt5.2 t9 bt12.1 bt12.2 true))))))))) = some r:=h
 clear h
 replace H:=Option.bind_eq_some_iff.mp H
 obtain ⟨t1,A20,H⟩:=H
 try dsimp only at H
 have A2:=a0_ A20
 clear A20
 by_cases c3 : t1 < 0
 ·rw [if_pos c3] at H
  have c3b0 : decide (t1 < 0) = true:=decide_eq_true c3
  clear c3
  obtain rfl:=Option.some.inj H
  go_enter Try.func5,Try.ntmps5
  go_wp2_with (first | ((with_reducible refine gate_callee (f:=29) rfl ?_);refine goesL_ (some 16) rfl rfl Try.func29 (by kernel_rfl) rfl #[.slice A0 l0.length c0,.int .i64 1048576] rfl lm_ ?_;(with_reducible refine (laws_szRowS.calls k _ _ l0 1048576 t1 _ ?side1 ?side2 A2.out).mono ?_);(case side1=>repeat (first | exact HR0.out | (with_reducible refine Kd.C_alloc ?_ _) | (with_reducible refine Kd.C_drewN ?_ _) | (with_reducible refine Kd.C_drew ?_)));(case side2=>exact HC0.out);rintro e w4 ⟨rfl,hb⟩;refine ⟨_,rfl,?_⟩;replace HB:=a0_ (below_step hbw_ hb);(try clear hb);(try clear hb2);(try clear hk);(try clear hi)))
  go_ret
  exact ⟨by first | rfl | (simp [errW_none,errW_some] <;> rfl) | (simp [*,errW_none,errW_some] <;> rfl),hbw_⟩
 ·rw [if_neg c3] at H
  have c3b0 : decide (t1 < 0) = false:=decide_eq_false c3
  clear c3
  replace H:=Option.bind_eq_some_iff.mp H
  obtain ⟨t2,A50,H⟩:=H
  try dsimp only at H
  have A5:=a0_ A50
  clear A50
  replace H:=Option.bind_eq_some_iff.mp H
  obtain ⟨⟨t5,t6⟩,A60,H⟩:=H
  try dsimp only at H
  have A6:=a0_ A60
  clear A60
  replace H:=Option.bind_eq_some_iff.mp H
  obtain ⟨t9,A70,H⟩:=H
  try dsimp only at H
  have A7:=a0_ A70
  clear A70
  replace H:=Option.bind_eq_some_iff.mp H
  obtain ⟨⟨t12,t13⟩,A80,H⟩:=H
  try dsimp only at H
  have A8:=a0_ A80
  clear A80
  have HC9:=a0_ H
  clear H
  go_enter Try.func5,Try.ntmps5
  go_upto_region 8 with (first | ((with_reducible refine gate_callee (f:=29) rfl ?_);refine goesL_ (some 16) rfl rfl Try.func29 (by kernel_rfl) rfl #[.slice A0 l0.length c0,.int .i64 1048576] rfl lm_ ?_;(with_reducible refine (laws_szRowS.calls k _ _ l0 1048576 t1 _ ?side1 ?side2 A2.out).mono ?_);(case side1=>repeat (first | exact HR0.out | (with_reducible refine Kd.C_alloc ?_ _) | (with_reducible refine Kd.C_drewN ?_ _) | (with_reducible refine Kd.C_drew ?_)));(case side2=>exact HC0.out);rintro e w10 ⟨rfl,hb⟩;refine ⟨_,rfl,?_⟩;replace HB:=a0_ (below_step hbw_ hb);(try clear hb);(try clear hb2);(try clear hk);(try clear hi)) | ((with_reducible refine gate_callee (f:=31) rfl ?_);refine goesL_ (some 21) rfl rfl Try.func31 (by kernel_rfl) rfl #[.slice A0 l0.length c0] rfl lm_ ?_;(with_reducible refine (laws_toRowS.calls k _ _ l0 t2 _ ?side1 ?side2 A5.out).mono ?_);(case side1=>exact cc_ (Kd.C_below HR0.out HB.out));(case side2=>exact HC0.out);rintro e w11 ⟨v3,rfl,ho0,hb⟩;refine ⟨_,rfl,?_⟩;have HO4:=a0_ (Kd.R_lower ho0 (below_size hbw_));replace HB:=a0_ (below_step hbw_ hb);(try clear hb);(try clear ho0);obtain ⟨Ao12,co12,eo12⟩:=Kd.R_slice HO4.out;subst eo12) | ((with_reducible refine gate_callee (f:=30) rfl ?_);refine goesL_ (some 22) rfl rfl Try.func30 (by kernel_rfl) rfl #[.slice Ao12 t2.length co12] rfl lm_ ?_;(with_reducible refine (spec_UnfoldTrace.calls k _ _ t2 t5 t6 _ ?side1 ?side2 A6.out).mono ?_);(case side1=>exact cc_ (Kd.R_reads' HO4.out).2.2);(case side2=>exact (Kd.R_reads' HO4.out).2.1);rintro e w13 ⟨v7,rfl,ho0,hb⟩;refine ⟨_,rfl,?_⟩;replace HO4:=rb_ HO4 hb;have HO8:=a0_ (Kd.R_lower ho0 (below_size hbw_));replace HB:=a0_ (below_step hbw_ hb);(try clear hb);(try clear ho0)) | ((with_reducible refine gate_callee (f:=31) rfl ?_);refine goesL_ (some 26) rfl rfl Try.func31 (by kernel_rfl) rfl #[.slice A0 l0.length c0] rfl lm_ ?_;(with_reducible refine (laws_toRowS.calls k _ _ l0 t9 _ ?side1 ?side2 A7.out).mono ?_);(case side1=>exact cc_ (Kd.C_below HR0.out HB.out));(case side2=>exact HC0.out);rintro e w14 ⟨v10,rfl,ho0,hb⟩;refine ⟨_,rfl,?_⟩;have n0_:=a0_ (Kd.R_elder' (rr_ HO4.out) (Kd.R_base ho0) hb);have n1_:=rb_ HO8 hb;have n2_:=a0_ (Kd.R_lower (Kd.R_new' ho0 (Kd.R_lt (rr_ HO4.out))) (below_size hbw_));have n3_:=a0_ (below_step hbw_ hb);clear HO4 HO8 HB;have HO4:=n0_;have HO8:=n1_;have HO11:=n2_;have HB:=n3_;clear n0_ n1_ n2_ n3_;(try clear hb);(try clear ho0);obtain ⟨Ao15,co15,eo15⟩:=Kd.R_slice HO11.out;subst eo15) | ((with_reducible refine gate_callee (f:=32) rfl ?_);refine goesL_ (some 29) rfl rfl Try.func32 (by kernel_rfl) rfl #[.slice Ao15 t9.length co15] rfl lm_ ?_;(with_reducible refine (impl_UnfoldTrace.calls k _ _ t9 t12 t13 _ ?side1 ?side2 A8.out).mono ?_);(case side1=>exact cc_ (Kd.R_reads' HO11.out).2.2);(case side2=>exact (Kd.R_reads' HO11.out).2.1);rintro e w16 ⟨v14,rfl,ho0,hb⟩;refine ⟨_,rfl,?_⟩;have n0_:=rb_ HO4 hb;have n1_:=a0_ (Kd.R_elder' (rr_ HO8.out) (Kd.R_base ho0) hb);have n2_:=rb_ HO11 hb;have n3_:=a0_ (Kd.R_lower (Kd.R_new' ho0 (Kd.R_lt (rr_ HO8.out))) (below_size hbw_));have n4_:=a0_ (below_step hbw_ hb);clear HO4 HO8;clear HO11 HB;have HO4:=n0_;have HO8:=n1_;have HO11:=n2_;have HO15:=n3_;have HB:=n4_;clear n0_ n1_ n2_ n3_ n4_;(try clear hb);(try clear ho0)))
  (try simp only [Act.put,s1_,s2_,s3_])
  go_cut [40] (fun v40 wc=>∃ (kq : Nat) (x40_8 : Bool),v40 = .bool x40_8 ∧ Aside0 (laws_FnExactUnfoldTrace.j0 kq l0 t5 t6 t9 t12 t13 x40_8 = some r) ∧ Aside0 (kq ≤ k) ∧ Aside0 (Kd.R k113 113 wc w.heap.size (fun k_=>some k_ ≠ (v14 : Value).ownBlock) v7 t5) ∧ Aside0 (Kd.R k115 115 wc w.heap.size (fun _=>True) (.slice Ao15 t9.length co15) t9) ∧ Aside0 (Kd.R k113 113 wc w.heap.size (fun k_=>some k_ ≠ (v7 : Value).ownBlock) v14 t12) ∧ Aside0 (Below w.heap.size w wc))
  case first =>
   have H:=HC9.out
   clear HC9
   replace H:=Option.bind_eq_some_iff.mp H
   obtain ⟨t16,A170,H⟩:=H
   try dsimp only at H
   have A17:=a0_ A170
   clear A170
   by_cases c18 : t16 = true
   ·subst c18
    have H1 : (laws_FnExactUnfoldTrace.j0 k l0 t5 t6 t9 t12 t13 (t13 != t6)) = some r:=by rw [if_pos rfl] at H;exact H
    clear H
    have H:=H1
    clear H1
    have H':=a0_ H
    clear H
    obtain ⟨Ao19,co19,eo19⟩:=Kd.R_slice HO15.out
    subst eo19
    obtain ⟨Ao20,co20,eo20⟩:=Kd.R_slice HO8.out
    subst eo20
    go_wp2_with (first | ((with_reducible refine gate_callee (f:=33) rfl ?_);refine goesL_ (some 34) rfl rfl Try.func33 (by kernel_rfl) rfl #[.slice Ao19 t12.length co19,.slice Ao20 t5.length co20] rfl lm_ ?_;(with_reducible refine (laws_eqFrameS.calls k _ _ t12 _ _ t5 true _ ?side1 ?side2 ?side3 ?side4 A17.out).mono ?_);(case side1=>exact cc_ (Kd.R_reads' HO15.out).2.2);(case side2=>exact (Kd.R_reads' HO15.out).2.1);(case side3=>exact cc_ (Kd.R_reads' HO8.out).2.2);(case side4=>exact (Kd.R_reads' HO8.out).2.1);rintro e w21 ⟨rfl,hb⟩;refine ⟨_,rfl,?_⟩;replace HO4:=rb_ HO4 hb;replace HO8:=rb_ HO8 hb;replace HO11:=rb_ HO11 hb;replace HO15:=rb_ HO15 hb;replace HB:=a0_ (below_step hbw_ hb);(try clear hb);(try clear hb2);(try clear hk);(try clear hi)))
    go_meet
    case rel=>exact ⟨_,((t13 != t6)),(by first | rfl | (simp;done) | (simp [*];done)),H',⟨by first | omega | exact Nat.le_refl _⟩,⟨by (with_reducible repeat (first | apply Kd.R_alloc | apply Kd.R_drewN | apply Kd.R_drew));exact Kd.R_mono HO8.out (fun _ hk=>hk.2)⟩,⟨by (with_reducible repeat (first | apply Kd.R_alloc | apply Kd.R_drewN | apply Kd.R_drew));exact Kd.R_mono HO11.out (fun _ hk=>trivial)⟩,⟨by (with_reducible repeat (first | apply Kd.R_alloc | apply Kd.R_drewN | apply Kd.R_drew));exact Kd.R_mono HO15.out (fun _ hk=>hk.2)⟩,⟨hbw_⟩⟩
   ·replace c18:=Bool.eq_false_iff.mpr c18
    subst c18
    have H1 : (laws_FnExactUnfoldTrace.j0 k l0 t5 t6 t9 t12 t13 true) = some r:=by rw [if_neg (show ¬ (false = true) by decide)] at H;exact H
    clear H
    have H:=H1
    clear H1
    have H':=a0_ H
    clear H
    obtain ⟨Ao22,co22,eo22⟩:=Kd.R_slice HO15.out
    subst eo22
    obtain ⟨Ao23,co23,eo23⟩:=Kd.R_slice HO8.out
    subst eo23
    go_wp2_with (first | ((with_reducible refine gate_callee (f:=33) rfl ?_);refine goesL_ (some 34) rfl rfl Try.func33 (by kernel_rfl) rfl #[.slice Ao22 t12.length co22,.slice Ao23 t5.length co23] rfl lm_ ?_;(with_reducible refine (laws_eqFrameS.calls k _ _ t12 _ _ t5 false _ ?side1 ?side2 ?side3 ?side4 A17.out).mono ?_);(case side1=>exact cc_ (Kd.R_reads' HO15.out).2.2);(case side2=>exact (Kd.R_reads' HO15.out).2.1);(case side3=>exact cc_ (Kd.R_reads' HO8.out).2.2);(case side4=>exact (Kd.R_reads' HO8.out).2.1);rintro e w24 ⟨rfl,hb⟩;refine ⟨_,rfl,?_⟩;replace HO4:=rb_ HO4 hb;replace HO8:=rb_ HO8 hb;replace HO11:=rb_ HO11 hb;replace HO15:=rb_ HO15 hb;replace HB:=a0_ (below_step hbw_ hb);(try clear hb);(try clear hb2);(try clear hk);(try clear hi)))
    go_meet
    case rel=>exact ⟨_,(true),(by first | rfl | (simp;done) | (simp [*];done)),H',⟨by first | omega | exact Nat.le_refl _⟩,⟨by (with_reducible repeat (first | apply Kd.R_alloc | apply Kd.R_drewN | apply Kd.R_drew));exact Kd.R_mono HO8.out (fun _ hk=>hk.2)⟩,⟨by (with_reducible repeat (first | apply Kd.R_alloc | apply Kd.R_drewN | apply Kd.R_drew));exact Kd.R_mono HO11.out (fun _ hk=>trivial)⟩,⟨by (with_reducible repeat (first | apply Kd.R_alloc | apply Kd.R_drewN | apply Kd.R_drew));exact Kd.R_mono HO15.out (fun _ hk=>hk.2)⟩,⟨hbw_⟩⟩
  case rest =>
   clear HC9
   try clear c1
   try clear c2
   try clear p2
   try clear c3
   try clear c3b0
   try clear c5
   try clear c18
   obtain ⟨kq,x40_8,rfl,HA,HJ8,HO_4,HO_6,HO_7,HB⟩:=hcut
   cases kq with
   | zero=>exact absurd HA.out (by simp [laws_FnExactUnfoldTrace.j0])
   | succ kj8 =>
    have H:=HA.out
    clear HA
    simp only [laws_FnExactUnfoldTrace.j0] at H
    by_cases c25 : x40_8 = true
    ·subst c25
     have H1 : (some false) = some r:=by rw [if_pos rfl] at H;exact H
     clear H
     have H:=H1
     clear H1
     obtain rfl:=Option.some.inj H
     go_wp2
     go_ret
     exact ⟨by first | rfl | (simp [errW_none,errW_some] <;> rfl) | (simp [*,errW_none,errW_some] <;> rfl),hbw_⟩
    ·replace c25:=Bool.eq_false_iff.mpr c25
     subst c25
     have H1 : ((laws_toRowS.f kj8 l0).bind fun t17=>((laws_eqRowS.f kj8 t9 t17).bind fun t20=>(if t20 = true then ((laws_markRowS.f kj8 t9 1).bind fun bt21=>(if bt21.1 < 0 then (laws_FnExactUnfoldTrace.j1 kj8 l0 t5 t6 t12 true) else ((laws_eqFrameS.f kj8 t12 t5).bind fun t23=>(if t23 = true then (laws_FnExactUnfoldTrace.j1 kj8 l0 t5 t6 t12 (t13 != t6)) else (laws_FnExactUnfoldTrace.j1 kj8 l0 t5 t6 t12 true))))) else (some false)))) = some r:=by rw [if_neg (show ¬ (false = true) by decide)] at H;exact H
     clear H
     have H:=H1
     clear H1
     replace H:=Option.bind_eq_some_iff.mp H
     obtain ⟨t17,A260,H⟩:=H
     try dsimp only at H
     have A26:=a0_ A260
     clear A260
     replace H:=Option.bind_eq_some_iff.mp H
     obtain ⟨t20,A270,H⟩:=H
     try dsimp only at H
     have A27:=a0_ A270
     clear A270
     by_cases c28 : t20 = true
     ·subst c28
      have H1 : ((laws_markRowS.f kj8 t9 1).bind fun bt21=>(if bt21.1 < 0 then (laws_FnExactUnfoldTrace.j1 kj8 l0 t5 t6 t12 true) else ((laws_eqFrameS.f kj8 t12 t5).bind fun t23=>(if t23 = true then (laws_FnExactUnfoldTrace.j1 kj8 l0 t5 t6 t12 (t13 != t6)) else (laws_FnExactUnfoldTrace.j1 kj8 l0 t5 t6 t12 true))))) = some r:=by rw [if_pos rfl] at H;exact H
      clear H
      have H:=H1
      clear H1
      replace H:=Option.bind_eq_some_iff.mp H
      obtain ⟨⟨t21,t22⟩,A290,H⟩:=H
      try dsimp only at H
      have A29:=a0_ A290
      clear A290
      have HC30:=a0_ H
      clear H
      go_upto_region 14 with (first | ((with_reducible refine gate_callee (f:=31) rfl ?_);refine goesL_ (some 43) rfl rfl Try.func31 (by kernel_rfl) rfl #[.slice A0 l0.length c0] rfl lm_ ?_;(with_reducible refine (laws_toRowS.calls kj8 _ _ l0 t17 _ ?side1 ?side2 A26.out).mono ?_);(case side1=>exact cc_ (Kd.C_below HR0.out HB.out));(case side2=>exact HC0.out);rintro e w31 ⟨v18,rfl,ho0,hb⟩;refine ⟨_,rfl,?_⟩;have n0_:=rb_ HO_4 hb;have n1_:=a0_ (Kd.R_elder' (rr_ HO_6.out) (Kd.R_base ho0) hb);have n2_:=rb_ HO_7 hb;have n3_:=a0_ (Kd.R_lower (Kd.R_new' ho0 (Kd.R_lt (rr_ HO_6.out))) (below_size hbw_));have n4_:=a0_ (below_step hbw_ hb);clear HO_4 HO_6;clear HO_7 HB;have HO_4:=n0_;have HO_6:=n1_;have HO_7:=n2_;have HO19:=n3_;have HB:=n4_;clear n0_ n1_ n2_ n3_ n4_;(try clear hb);(try clear ho0);obtain ⟨Ao32,co32,eo32⟩:=Kd.R_slice HO19.out;subst eo32) | ((with_reducible refine gate_callee (f:=34) rfl ?_);refine goesL_ (some 44) rfl rfl Try.func34 (by kernel_rfl) rfl #[.slice Ao15 t9.length co15,.slice Ao32 t17.length co32] rfl lm_ ?_;(with_reducible refine (laws_eqRowS.calls kj8 _ _ t9 _ _ t17 true _ ?side1 ?side2 ?side3 ?side4 A27.out).mono ?_);(case side1=>exact cc_ (Kd.R_reads' HO_6.out).2.2);(case side2=>exact (Kd.R_reads' HO_6.out).2.1);(case side3=>exact cc_ (Kd.R_reads' HO19.out).2.2);(case side4=>exact (Kd.R_reads' HO19.out).2.1);rintro e w33 ⟨rfl,hb⟩;refine ⟨_,rfl,?_⟩;replace HO_4:=rb_ HO_4 hb;replace HO_6:=rb_ HO_6 hb;replace HO_7:=rb_ HO_7 hb;replace HO19:=rb_ HO19 hb;replace HB:=a0_ (below_step hbw_ hb);(try clear hb);(try clear hb2);(try clear hk);(try clear hi)) | ((with_reducible refine gate_callee (f:=35) rfl ?_);refine goesL_ (some 48) rfl rfl Try.func35 (by kernel_rfl) rfl #[.slice Ao15 t9.length co15,.int .i64 1] rfl lm_ ?_;(with_reducible refine (laws_markRowS.calls kj8 (fun k_=>some k_ = (.slice Ao15 t9.length co15 : Value).ownBlock) (.slice Ao15 t9.length co15) t9 1 t21 t22 w _ ?side1 ?side2 A29.out).mono ?_);(case side1=>exact hbw_);(case side2=>exact Kd.R_tight rfl HO_6.out);rintro e w34 ⟨rfl,hy0,hb,hkp⟩;refine ⟨_,rfl,?_⟩;have n0_:=a0_ (Kd.R_mono (ok':=fun k_=>some k_ ≠ (v14 : Value).ownBlock) (Kd.R_keptB ((Kd.R_apart' HO_4.out (Kd.R_typed HO_6.out) (by decide))) hkp (fun k_ hk_ hs_=>(hk_.2) hs_)) (fun k_ hk_=>hk_.1.1));have n1_:=a0_ (Kd.R_reok rfl hy0 (fun k_ e_=>HO_6.out.1 k_ e_));have n2_:=a0_ (Kd.R_mono (ok':=fun k_=>some k_ ≠ (v7 : Value).ownBlock) (Kd.R_keptB ((Kd.R_apart' HO_7.out (Kd.R_typed HO_6.out) (by decide))) hkp (fun k_ hk_ hs_=>(hk_.2) hs_)) (fun k_ hk_=>hk_.1.1));have n3_:=a0_ (Kd.R_mono (ok':=fun k_=>some k_ ≠ (.slice Ao15 t9.length co15 : Value).ownBlock) (Kd.R_keptB (HO19.out) hkp (fun k_ hk_ hs_=>(hk_.2) hs_)) (fun k_ hk_=>hk_.1.2));have n4_:=a0_ (hb);clear HO_4 HO_6;clear HO_7 HO19 HB;have HO_4:=n0_;have HO_6:=n1_;have HO_7:=n2_;have HO19:=n3_;have HB:=n4_;clear n0_ n1_ n2_ n3_ n4_;(try clear hb);(try clear hkp);(try clear hy0)))
      (try simp only [Act.put,s1_,s2_,s3_])
      go_cut [61] (fun v61 wc=>∃ (kq : Nat) (x61_29 : Bool),v61 = .bool x61_29 ∧ Aside0 (laws_FnExactUnfoldTrace.j1 kq l0 t5 t6 t12 x61_29 = some r) ∧ Aside0 (kq ≤ kj8) ∧ Aside0 (Kd.R k113 113 wc w.heap.size (fun k_=>some k_ ≠ (v14 : Value).ownBlock) v7 t5) ∧ Aside0 (Kd.R k113 113 wc w.heap.size (fun k_=>some k_ ≠ (v7 : Value).ownBlock) v14 t12) ∧ Aside0 (Below w.heap.size w wc))
      case first =>
       have H:=HC30.out
       clear HC30
       by_cases c35 : t21 < 0
       ·rw [if_pos c35] at H
        have c35b0 : decide (t21 < 0) = true:=decide_eq_true c35
        clear c35
        (first | rw [c35b0] | (simp only [i64_w,i32_w];rw [c35b0]) | skip)
        have H':=a0_ H
        clear H
        go_wp2
        go_meet
        case rel=>exact ⟨_,(true),(by first | rfl | (simp;done) | (simp [*];done)),H',⟨by have:=HJ8.out;first | omega | exact Nat.le_refl _⟩,⟨by (with_reducible repeat (first | apply Kd.R_alloc | apply Kd.R_drewN | apply Kd.R_drew));exact HO_4.out⟩,⟨by (with_reducible repeat (first | apply Kd.R_alloc | apply Kd.R_drewN | apply Kd.R_drew));exact HO_7.out⟩,⟨hbw_⟩⟩
       ·rw [if_neg c35] at H
        have c35b0 : decide (t21 < 0) = false:=decide_eq_false c35
        clear c35
        (first | rw [c35b0] | (simp only [i64_w,i32_w];rw [c35b0]) | skip)
        replace H:=Option.bind_eq_some_iff.mp H
        obtain ⟨t23,A360,H⟩:=H
        try dsimp only at H
        have A36:=a0_ A360
        clear A360
        by_cases c37 : t23 = true
        ·subst c37
         have H1 : (laws_FnExactUnfoldTrace.j1 kj8 l0 t5 t6 t12 (t13 != t6)) = some r:=by rw [if_pos rfl] at H;exact H
         clear H
         have H:=H1
         clear H1
         have H':=a0_ H
         clear H
         obtain ⟨Ao38,co38,eo38⟩:=Kd.R_slice HO_7.out
         subst eo38
         obtain ⟨Ao39,co39,eo39⟩:=Kd.R_slice HO_4.out
         subst eo39
         go_wp2_with (first | (go_at_call 33;(with_reducible refine (laws_eqFrameS.calls kj8 _ _ t12 _ _ t5 true _ ?side1 ?side2 ?side3 ?side4 A36.out).mono ?_);(case side1=>exact cc_ (Kd.R_reads' HO_7.out).2.2);(case side2=>exact (Kd.R_reads' HO_7.out).2.1);(case side3=>exact cc_ (Kd.R_reads' HO_4.out).2.2);(case side4=>exact (Kd.R_reads' HO_4.out).2.1);rintro e w40 ⟨rfl,hb⟩;replace HO_4:=rb_ HO_4 hb;replace HO_6:=rb_ HO_6 hb;replace HO_7:=rb_ HO_7 hb;replace HO19:=rb_ HO19 hb;replace HB:=a0_ (below_step hbw_ hb);(try clear hb);(try clear hb2);(try clear hk);(try clear hi)))
         go_meet
         case rel=>exact ⟨_,((t13 != t6)),(by first | rfl | (simp;done) | (simp [*];done)),H',⟨by have:=HJ8.out;first | omega | exact Nat.le_refl _⟩,⟨by (with_reducible repeat (first | apply Kd.R_alloc | apply Kd.R_drewN | apply Kd.R_drew));exact HO_4.out⟩,⟨by (with_reducible repeat (first | apply Kd.R_alloc | apply Kd.R_drewN | apply Kd.R_drew));exact HO_7.out⟩,⟨hbw_⟩⟩
        ·replace c37:=Bool.eq_false_iff.mpr c37
         subst c37
         have H1 : (laws_FnExactUnfoldTrace.j1 kj8 l0 t5 t6 t12 true) = some r:=by rw [if_neg (show ¬ (false = true) by decide)] at H;exact H
         clear H
         have H:=H1
         clear H1
         have H':=a0_ H
         clear H
         obtain ⟨Ao41,co41,eo41⟩:=Kd.R_slice HO_7.out
         subst eo41
         obtain ⟨Ao42,co42,eo42⟩:=Kd.R_slice HO_4.out
         subst eo42
         go_wp2_with (first | (go_at_call 33;(with_reducible refine (laws_eqFrameS.calls kj8 _ _ t12 _ _ t5 false _ ?side1 ?side2 ?side3 ?side4 A36.out).mono ?_);(case side1=>exact cc_ (Kd.R_reads' HO_7.out).2.2);(case side2=>exact (Kd.R_reads' HO_7.out).2.1);(case side3=>exact cc_ (Kd.R_reads' HO_4.out).2.2);(case side4=>exact (Kd.R_reads' HO_4.out).2.1);rintro e w43 ⟨rfl,hb⟩;replace HO_4:=rb_ HO_4 hb;replace HO_6:=rb_ HO_6 hb;replace HO_7:=rb_ HO_7 hb;replace HO19:=rb_ HO19 hb;replace HB:=a0_ (below_step hbw_ hb);(try clear hb);(try clear hb2);(try clear hk);(try clear hi)))
         go_meet
         case rel=>exact ⟨_,(true),(by first | rfl | (simp;done) | (simp [*];done)),H',⟨by have:=HJ8.out;first | omega | exact Nat.le_refl _⟩,⟨by (with_reducible repeat (first | apply Kd.R_alloc | apply Kd.R_drewN | apply Kd.R_drew));exact HO_4.out⟩,⟨by (with_reducible repeat (first | apply Kd.R_alloc | apply Kd.R_drewN | apply Kd.R_drew));exact HO_7.out⟩,⟨hbw_⟩⟩
      case rest =>
       clear HC30
       try clear c1
       try clear c2
       try clear p2
       try clear c3
       try clear c3b0
       try clear c5
       try clear c18
       try clear c25
       try clear c28
       try clear c29
       try clear c30
       try clear c31
       try clear c32
       try clear c33
       try clear c34
       try clear c35
       try clear c35b0
       try clear c37
       try clear p2
       obtain ⟨kq,x61_29,rfl,HA,HJ29,HO_4,HO_7,HB⟩:=hcut
       cases kq with
       | zero=>exact absurd HA.out (by simp [laws_FnExactUnfoldTrace.j1])
       | succ kj29 =>
        have H:=HA.out
        clear HA
        simp only [laws_FnExactUnfoldTrace.j1] at H
        by_cases c44 : x61_29 = true
        ·subst c44
         have H1 : (some false) = some r:=by rw [if_pos rfl] at H;exact H
         clear H
         have H:=H1
         clear H1
         obtain rfl:=Option.some.inj H
         go_wp2
         go_ret
         exact ⟨by first | rfl | (simp [errW_none,errW_some] <;> rfl) | (simp [*,errW_none,errW_some] <;> rfl),hbw_⟩
        ·replace c44:=Bool.eq_false_iff.mpr c44
         subst c44
         have H1 : ((laws_markFrameS.f kj29 t12 1).bind fun bt24=>((laws_heldFrameS.f kj29 bt24.2 1).bind fun t26=>(if t26 < 0 then (some false) else (if t26 = bt24.1 then ((laws_toRowS.f kj29 l0).bind fun t27=>((impl_UnfoldTrace.f kj29 t27).bind fun bt30=>((laws_eqFrameS.f kj29 bt30.1 t5).bind fun t34=>(if t34 = true then (laws_FnExactUnfoldTrace.j2 kj29 bt24.2 bt24.1 (bt30.2 != t6)) else (laws_FnExactUnfoldTrace.j2 kj29 bt24.2 bt24.1 true))))) else (some false))))) = some r:=by rw [if_neg (show ¬ (false = true) by decide)] at H;exact H
         clear H
         have H:=H1
         clear H1
         replace H:=Option.bind_eq_some_iff.mp H
         obtain ⟨⟨t24,t25⟩,A450,H⟩:=H
         try dsimp only at H
         have A45:=a0_ A450
         clear A450
         replace H:=Option.bind_eq_some_iff.mp H
         obtain ⟨t26,A460,H⟩:=H
         try dsimp only at H
         have A46:=a0_ A460
         clear A460
         by_cases c47 : t26 < 0
         ·rw [if_pos c47] at H
          have c47b0 : decide (t26 < 0) = true:=decide_eq_true c47
          clear c47
          obtain rfl:=Option.some.inj H
          obtain ⟨Ao48,co48,eo48⟩:=Kd.R_slice HO_7.out
          subst eo48
          go_wp2_with (first | ((with_reducible refine gate_callee (f:=36) rfl ?_);refine goesL_ (some 64) rfl rfl Try.func36 (by kernel_rfl) rfl #[.slice Ao48 t12.length co48,.int .i64 1] rfl lm_ ?_;(with_reducible refine (laws_markFrameS.calls kj29 (fun k_=>some k_ = (.slice Ao48 t12.length co48 : Value).ownBlock) (.slice Ao48 t12.length co48) t12 1 t24 t25 w _ ?side1 ?side2 A45.out).mono ?_);(case side1=>exact hbw_);(case side2=>exact Kd.R_tight rfl HO_7.out);rintro e w49 ⟨rfl,hy0,hb,hkp⟩;refine ⟨_,rfl,?_⟩;replace HO_4:=a0_ (Kd.R_mono (ok':=fun k_=>some k_ ≠ (.slice Ao48 t12.length co48 : Value).ownBlock) (Kd.R_keptB (HO_4.out) hkp (fun k_ hk_ hs_=>(hk_) hs_)) (fun k_ hk_=>hk_.1));replace HO_7:=a0_ (Kd.R_reok rfl hy0 (fun k_ e_=>HO_7.out.1 k_ e_));replace HB:=a0_ (hb);(try clear hb);(try clear hkp);(try clear hy0)) | ((with_reducible refine gate_callee (f:=37) rfl ?_);refine goesL_ (some 67) rfl rfl Try.func37 (by kernel_rfl) rfl #[.slice Ao48 t25.length co48,.int .i64 1] rfl (by (try simp only [List.map_toArray,List.map_cons,List.map_nil]);first | done | (rw [show t25.length = t12.length from (Kd.R_reads' HO_7.out).1.symm] <;> rfl) | rfl | (simp only [List.length_drop,List.length_take];rfl)) ?_;(with_reducible refine (laws_heldFrameS.calls kj29 _ _ t25 1 t26 _ ?side1 ?side2 A46.out).mono ?_);(case side1=>exact cc_ (Kd.R_reads' HO_7.out).2.2);(case side2=>rw [show t25.length = t12.length from (Kd.R_reads' HO_7.out).1.symm];exact (Kd.R_reads' HO_7.out).2.1);rintro e w50 ⟨rfl,hb⟩;refine ⟨_,rfl,?_⟩;replace HO_4:=rb_ HO_4 hb;replace HO_7:=rb_ HO_7 hb;replace HB:=a0_ (below_step hbw_ hb);(try clear hb);(try clear hb2);(try clear hk);(try clear hi)))
          go_ret
          exact ⟨by first | rfl | (simp [errW_none,errW_some] <;> rfl) | (simp [*,errW_none,errW_some] <;> rfl),hbw_⟩
         ·rw [if_neg c47] at H
          have c47b0 : decide (t26 < 0) = false:=decide_eq_false c47
          clear c47
          by_cases c51 : t26 = t24
          ·rw [if_pos c51] at H
           have c51b0 : (t26 == t24) = true:=beq_iff_eq.mpr c51
           have c51b1 : (t26 != t24) = false:=bne_eq_false_iff_eq.mpr c51
           clear c51
           replace H:=Option.bind_eq_some_iff.mp H
           obtain ⟨t27,A520,H⟩:=H
           try dsimp only at H
           have A52:=a0_ A520
           clear A520
           replace H:=Option.bind_eq_some_iff.mp H
           obtain ⟨⟨t30,t31⟩,A530,H⟩:=H
           try dsimp only at H
           have A53:=a0_ A530
           clear A530
           have HC54:=a0_ H
           clear H
           obtain ⟨Ao55,co55,eo55⟩:=Kd.R_slice HO_7.out
           subst eo55
           go_upto_region 25 with (first | ((with_reducible refine gate_callee (f:=36) rfl ?_);refine goesL_ (some 64) rfl rfl Try.func36 (by kernel_rfl) rfl #[.slice Ao55 t12.length co55,.int .i64 1] rfl lm_ ?_;(with_reducible refine (laws_markFrameS.calls kj29 (fun k_=>some k_ = (.slice Ao55 t12.length co55 : Value).ownBlock) (.slice Ao55 t12.length co55) t12 1 t24 t25 w _ ?side1 ?side2 A45.out).mono ?_);(case side1=>exact hbw_);(case side2=>exact Kd.R_tight rfl HO_7.out);rintro e w56 ⟨rfl,hy0,hb,hkp⟩;refine ⟨_,rfl,?_⟩;replace HO_4:=a0_ (Kd.R_mono (ok':=fun k_=>some k_ ≠ (.slice Ao55 t12.length co55 : Value).ownBlock) (Kd.R_keptB (HO_4.out) hkp (fun k_ hk_ hs_=>(hk_) hs_)) (fun k_ hk_=>hk_.1));replace HO_7:=a0_ (Kd.R_reok rfl hy0 (fun k_ e_=>HO_7.out.1 k_ e_));replace HB:=a0_ (hb);(try clear hb);(try clear hkp);(try clear hy0)) | ((with_reducible refine gate_callee (f:=37) rfl ?_);refine goesL_ (some 67) rfl rfl Try.func37 (by kernel_rfl) rfl #[.slice Ao55 t25.length co55,.int .i64 1] rfl (by (try simp only [List.map_toArray,List.map_cons,List.map_nil]);first | done | (rw [show t25.length = t12.length from (Kd.R_reads' HO_7.out).1.symm] <;> rfl) | rfl | (simp only [List.length_drop,List.length_take];rfl)) ?_;(with_reducible refine (laws_heldFrameS.calls kj29 _ _ t25 1 t26 _ ?side1 ?side2 A46.out).mono ?_);(case side1=>exact cc_ (Kd.R_reads' HO_7.out).2.2);(case side2=>rw [show t25.length = t12.length from (Kd.R_reads' HO_7.out).1.symm];exact (Kd.R_reads' HO_7.out).2.1);rintro e w57 ⟨rfl,hb⟩;refine ⟨_,rfl,?_⟩;replace HO_4:=rb_ HO_4 hb;replace HO_7:=rb_ HO_7 hb;replace HB:=a0_ (below_step hbw_ hb);(try clear hb);(try clear hb2);(try clear hk);(try clear hi)) | ((with_reducible refine gate_callee (f:=31) rfl ?_);refine goesL_ (some 75) rfl rfl Try.func31 (by kernel_rfl) rfl #[.slice A0 l0.length c0] rfl lm_ ?_;(with_reducible refine (laws_toRowS.calls kj29 _ _ l0 t27 _ ?side1 ?side2 A52.out).mono ?_);(case side1=>exact cc_ (Kd.C_below HR0.out HB.out));(case side2=>exact HC0.out);rintro e w58 ⟨v28,rfl,ho0,hb⟩;refine ⟨_,rfl,?_⟩;replace HO_4:=rb_ HO_4 hb;replace HO_7:=rb_ HO_7 hb;have HO29:=a0_ (Kd.R_lower ho0 (below_size hbw_));replace HB:=a0_ (below_step hbw_ hb);(try clear hb);(try clear ho0);obtain ⟨Ao59,co59,eo59⟩:=Kd.R_slice HO29.out;subst eo59) | ((with_reducible refine gate_callee (f:=32) rfl ?_);refine goesL_ (some 76) rfl rfl Try.func32 (by kernel_rfl) rfl #[.slice Ao59 t27.length co59] rfl lm_ ?_;(with_reducible refine (impl_UnfoldTrace.calls kj29 _ _ t27 t30 t31 _ ?side1 ?side2 A53.out).mono ?_);(case side1=>exact cc_ (Kd.R_reads' HO29.out).2.2);(case side2=>exact (Kd.R_reads' HO29.out).2.1);rintro e w60 ⟨v32,rfl,ho0,hb⟩;refine ⟨_,rfl,?_⟩;have n0_:=a0_ (Kd.R_elder' (rr_ HO_4.out) (Kd.R_base ho0) hb);have n1_:=a0_ (Kd.R_elder' (rr_ HO_7.out) (Kd.R_base ho0) hb);have n2_:=rb_ HO29 hb;have n3_:=a0_ (Kd.R_lower (Kd.R_new' (Kd.R_new' ho0 (Kd.R_lt (rr_ HO_4.out))) (Kd.R_lt (rr_ HO_7.out))) (below_size hbw_));have n4_:=a0_ (below_step hbw_ hb);clear HO_4 HO_7;clear HO29 HB;have HO_4:=n0_;have HO_7:=n1_;have HO29:=n2_;have HO33:=n3_;have HB:=n4_;clear n0_ n1_ n2_ n3_ n4_;(try clear hb);(try clear ho0)))
           (try simp only [Act.put,s1_,s2_,s3_])
           go_cut [87] (fun v87 wc=>∃ (kq : Nat) (x87_53 : Bool),v87 = .bool x87_53 ∧ Aside0 (laws_FnExactUnfoldTrace.j2 kq t25 t24 x87_53 = some r) ∧ Aside0 (kq ≤ kj29) ∧ Aside0 (Kd.R k113 113 wc w.heap.size (fun _=>True) (.slice Ao55 t12.length co55) t25) ∧ Aside0 (Below w.heap.size w wc))
           case first =>
            have H:=HC54.out
            clear HC54
            replace H:=Option.bind_eq_some_iff.mp H
            obtain ⟨t34,A610,H⟩:=H
            try dsimp only at H
            have A61:=a0_ A610
            clear A610
            by_cases c62 : t34 = true
            ·subst c62
             have H1 : (laws_FnExactUnfoldTrace.j2 kj29 t25 t24 (t31 != t6)) = some r:=by rw [if_pos rfl] at H;exact H
             clear H
             have H:=H1
             clear H1
             have H':=a0_ H
             clear H
             obtain ⟨Ao63,co63,eo63⟩:=Kd.R_slice HO33.out
             subst eo63
             obtain ⟨Ao64,co64,eo64⟩:=Kd.R_slice HO_4.out
             subst eo64
             go_wp2_with (first | ((with_reducible refine gate_callee (f:=33) rfl ?_);refine goesL_ (some 81) rfl rfl Try.func33 (by kernel_rfl) rfl #[.slice Ao63 t30.length co63,.slice Ao64 t5.length co64] rfl lm_ ?_;(with_reducible refine (laws_eqFrameS.calls kj29 _ _ t30 _ _ t5 true _ ?side1 ?side2 ?side3 ?side4 A61.out).mono ?_);(case side1=>exact cc_ (Kd.R_reads' HO33.out).2.2);(case side2=>exact (Kd.R_reads' HO33.out).2.1);(case side3=>exact cc_ (Kd.R_reads' HO_4.out).2.2);(case side4=>exact (Kd.R_reads' HO_4.out).2.1);rintro e w65 ⟨rfl,hb⟩;refine ⟨_,rfl,?_⟩;replace HO_4:=rb_ HO_4 hb;replace HO_7:=rb_ HO_7 hb;replace HO29:=rb_ HO29 hb;replace HO33:=rb_ HO33 hb;replace HB:=a0_ (below_step hbw_ hb);(try clear hb);(try clear hb2);(try clear hk);(try clear hi)))
             go_meet
             case rel=>exact ⟨_,((t31 != t6)),(by first | rfl | (simp;done) | (simp [*];done)),H',⟨by have:=HJ8.out;have:=HJ29.out;first | omega | exact Nat.le_refl _⟩,⟨by (with_reducible repeat (first | apply Kd.R_alloc | apply Kd.R_drewN | apply Kd.R_drew));exact Kd.R_mono HO_7.out (fun _ hk=>trivial)⟩,⟨hbw_⟩⟩
            ·replace c62:=Bool.eq_false_iff.mpr c62
             subst c62
             have H1 : (laws_FnExactUnfoldTrace.j2 kj29 t25 t24 true) = some r:=by rw [if_neg (show ¬ (false = true) by decide)] at H;exact H
             clear H
             have H:=H1
             clear H1
             have H':=a0_ H
             clear H
             obtain ⟨Ao66,co66,eo66⟩:=Kd.R_slice HO33.out
             subst eo66
             obtain ⟨Ao67,co67,eo67⟩:=Kd.R_slice HO_4.out
             subst eo67
             go_wp2_with (first | ((with_reducible refine gate_callee (f:=33) rfl ?_);refine goesL_ (some 81) rfl rfl Try.func33 (by kernel_rfl) rfl #[.slice Ao66 t30.length co66,.slice Ao67 t5.length co67] rfl lm_ ?_;(with_reducible refine (laws_eqFrameS.calls kj29 _ _ t30 _ _ t5 false _ ?side1 ?side2 ?side3 ?side4 A61.out).mono ?_);(case side1=>exact cc_ (Kd.R_reads' HO33.out).2.2);(case side2=>exact (Kd.R_reads' HO33.out).2.1);(case side3=>exact cc_ (Kd.R_reads' HO_4.out).2.2);(case side4=>exact (Kd.R_reads' HO_4.out).2.1);rintro e w68 ⟨rfl,hb⟩;refine ⟨_,rfl,?_⟩;replace HO_4:=rb_ HO_4 hb;replace HO_7:=rb_ HO_7 hb;replace HO29:=rb_ HO29 hb;replace HO33:=rb_ HO33 hb;replace HB:=a0_ (below_step hbw_ hb);(try clear hb);(try clear hb2);(try clear hk);(try clear hi)))
             go_meet
             case rel=>exact ⟨_,(true),(by first | rfl | (simp;done) | (simp [*];done)),H',⟨by have:=HJ8.out;have:=HJ29.out;first | omega | exact Nat.le_refl _⟩,⟨by (with_reducible repeat (first | apply Kd.R_alloc | apply Kd.R_drewN | apply Kd.R_drew));exact Kd.R_mono HO_7.out (fun _ hk=>trivial)⟩,⟨hbw_⟩⟩
           case rest =>
            clear HC54
            try clear c1
            try clear c2
            try clear p2
            try clear c3
            try clear c3b0
            try clear c4
            try clear c5
            try clear c6
            try clear c18
            try clear c25
            try clear c28
            try clear c29
            try clear c30
            try clear c31
            try clear c32
            try clear c33
            try clear c34
            try clear c35
            try clear c35b0
            try clear c36
            try clear c37
            try clear c44
            try clear c47
            try clear c47b0
            try clear c51
            try clear c51b0
            try clear c51b1
            try clear c62
            try clear p2
            obtain ⟨kq,x87_53,rfl,HA,HJ53,HO_7,HB⟩:=hcut
            have hl7_53:=(Kd.R_reads' HO_7.out).1
            rw [hl7_53] at HO_7
            (try simp only [hl7_53])
            cases kq with
            | zero=>exact absurd HA.out (by simp [laws_FnExactUnfoldTrace.j2])
            | succ kj53 =>
             have H:=HA.out
             clear HA
             simp only [laws_FnExactUnfoldTrace.j2] at H
             by_cases c69 : x87_53 = true
             ·subst c69
              have H1 : (some false) = some r:=by rw [if_pos rfl] at H;exact H
              clear H
              have H:=H1
              clear H1
              obtain rfl:=Option.some.inj H
              go_wp2
              go_ret
              exact ⟨by first | rfl | (simp [errW_none,errW_some] <;> rfl) | (simp [*,errW_none,errW_some] <;> rfl),hbw_⟩
             ·replace c69:=Bool.eq_false_iff.mpr c69
              subst c69
              have H1 : ((laws_heldFrameS.f kj53 t25 1).bind fun t35=>(if t35 < 0 then (some false) else (if t35 = t24 then (some true) else (some false)))) = some r:=by rw [if_neg (show ¬ (false = true) by decide)] at H;exact H
              clear H
              have H:=H1
              clear H1
              replace H:=Option.bind_eq_some_iff.mp H
              obtain ⟨t35,A700,H⟩:=H
              try dsimp only at H
              have A70:=a0_ A700
              clear A700
              by_cases c71 : t35 < 0
              ·rw [if_pos c71] at H
               have c71b0 : decide (t35 < 0) = true:=decide_eq_true c71
               clear c71
               obtain rfl:=Option.some.inj H
               go_wp2_with (first | ((with_reducible refine gate_callee (f:=37) rfl ?_);refine goesL_ (some 90) rfl rfl Try.func37 (by kernel_rfl) rfl #[.slice Ao55 t25.length co55,.int .i64 1] rfl lm_ ?_;(with_reducible refine (laws_heldFrameS.calls kj53 _ _ t25 1 t35 _ ?side1 ?side2 A70.out).mono ?_);(case side1=>exact cc_ (Kd.R_reads' HO_7.out).2.2);(case side2=>exact (Kd.R_reads' HO_7.out).2.1);rintro e w72 ⟨rfl,hb⟩;refine ⟨_,rfl,?_⟩;replace HO_7:=rb_ HO_7 hb;replace HB:=a0_ (below_step hbw_ hb);(try clear hb);(try clear hb2);(try clear hk);(try clear hi)))
               go_ret
               exact ⟨by first | rfl | (simp [errW_none,errW_some] <;> rfl) | (simp [*,errW_none,errW_some] <;> rfl),hbw_⟩
              ·rw [if_neg c71] at H
               have c71b0 : decide (t35 < 0) = false:=decide_eq_false c71
               clear c71
               by_cases c73 : t35 = t24
               ·rw [if_pos c73] at H
                have c73b0 : (t35 == t24) = true:=beq_iff_eq.mpr c73
                have c73b1 : (t35 != t24) = false:=bne_eq_false_iff_eq.mpr c73
                clear c73
                obtain rfl:=Option.some.inj H
                go_wp2_with (first | ((with_reducible refine gate_callee (f:=37) rfl ?_);refine goesL_ (some 90) rfl rfl Try.func37 (by kernel_rfl) rfl #[.slice Ao55 t25.length co55,.int .i64 1] rfl lm_ ?_;(with_reducible refine (laws_heldFrameS.calls kj53 _ _ t25 1 t35 _ ?side1 ?side2 A70.out).mono ?_);(case side1=>exact cc_ (Kd.R_reads' HO_7.out).2.2);(case side2=>exact (Kd.R_reads' HO_7.out).2.1);rintro e w74 ⟨rfl,hb⟩;refine ⟨_,rfl,?_⟩;replace HO_7:=rb_ HO_7 hb;replace HB:=a0_ (below_step hbw_ hb);(try clear hb);(try clear hb2);(try clear hk);(try clear hi)))
                go_ret
                exact ⟨by first | rfl | (simp [errW_none,errW_some] <;> rfl) | (simp [*,errW_none,errW_some] <;> rfl),hbw_⟩
               ·rw [if_neg c73] at H
                have c73b0 : (t35 == t24) = false:=beq_eq_false_iff_ne.mpr c73
                have c73b1 : (t35 != t24) = true:=bne_iff_ne.mpr c73
                obtain rfl:=Option.some.inj H
                go_wp2_with (first | ((with_reducible refine gate_callee (f:=37) rfl ?_);refine goesL_ (some 90) rfl rfl Try.func37 (by kernel_rfl) rfl #[.slice Ao55 t25.length co55,.int .i64 1] rfl lm_ ?_;(with_reducible refine (laws_heldFrameS.calls kj53 _ _ t25 1 t35 _ ?side1 ?side2 A70.out).mono ?_);(case side1=>exact cc_ (Kd.R_reads' HO_7.out).2.2);(case side2=>exact (Kd.R_reads' HO_7.out).2.1);rintro e w75 ⟨rfl,hb⟩;refine ⟨_,rfl,?_⟩;replace HO_7:=rb_ HO_7 hb;replace HB:=a0_ (below_step hbw_ hb);(try clear hb);(try clear hb2);(try clear hk);(try clear hi)))
                go_ret
                exact ⟨by first | rfl | (simp [errW_none,errW_some] <;> rfl) | (simp [*,errW_none,errW_some] <;> rfl),hbw_⟩
          ·rw [if_neg c51] at H
           have c51b0 : (t26 == t24) = false:=beq_eq_false_iff_ne.mpr c51
           have c51b1 : (t26 != t24) = true:=bne_iff_ne.mpr c51
           obtain rfl:=Option.some.inj H
           obtain ⟨Ao76,co76,eo76⟩:=Kd.R_slice HO_7.out
           subst eo76
           go_wp2_with (first | ((with_reducible refine gate_callee (f:=36) rfl ?_);refine goesL_ (some 64) rfl rfl Try.func36 (by kernel_rfl) rfl #[.slice Ao76 t12.length co76,.int .i64 1] rfl lm_ ?_;(with_reducible refine (laws_markFrameS.calls kj29 (fun k_=>some k_ = (.slice Ao76 t12.length co76 : Value).ownBlock) (.slice Ao76 t12.length co76) t12 1 t24 t25 w _ ?side1 ?side2 A45.out).mono ?_);(case side1=>exact hbw_);(case side2=>exact Kd.R_tight rfl HO_7.out);rintro e w77 ⟨rfl,hy0,hb,hkp⟩;refine ⟨_,rfl,?_⟩;replace HO_4:=a0_ (Kd.R_mono (ok':=fun k_=>some k_ ≠ (.slice Ao76 t12.length co76 : Value).ownBlock) (Kd.R_keptB (HO_4.out) hkp (fun k_ hk_ hs_=>(hk_) hs_)) (fun k_ hk_=>hk_.1));replace HO_7:=a0_ (Kd.R_reok rfl hy0 (fun k_ e_=>HO_7.out.1 k_ e_));replace HB:=a0_ (hb);(try clear hb);(try clear hkp);(try clear hy0)) | ((with_reducible refine gate_callee (f:=37) rfl ?_);refine goesL_ (some 67) rfl rfl Try.func37 (by kernel_rfl) rfl #[.slice Ao76 t25.length co76,.int .i64 1] rfl (by (try simp only [List.map_toArray,List.map_cons,List.map_nil]);first | done | (rw [show t25.length = t12.length from (Kd.R_reads' HO_7.out).1.symm] <;> rfl) | rfl | (simp only [List.length_drop,List.length_take];rfl)) ?_;(with_reducible refine (laws_heldFrameS.calls kj29 _ _ t25 1 t26 _ ?side1 ?side2 A46.out).mono ?_);(case side1=>exact cc_ (Kd.R_reads' HO_7.out).2.2);(case side2=>rw [show t25.length = t12.length from (Kd.R_reads' HO_7.out).1.symm];exact (Kd.R_reads' HO_7.out).2.1);rintro e w78 ⟨rfl,hb⟩;refine ⟨_,rfl,?_⟩;replace HO_4:=rb_ HO_4 hb;replace HO_7:=rb_ HO_7 hb;replace HB:=a0_ (below_step hbw_ hb);(try clear hb);(try clear hb2);(try clear hk);(try clear hi)))
           go_ret
           exact ⟨by first | rfl | (simp [errW_none,errW_some] <;> rfl) | (simp [*,errW_none,errW_some] <;> rfl),hbw_⟩
     ·replace c28:=Bool.eq_false_iff.mpr c28
      subst c28
      have H1 : (some false) = some r:=by rw [if_neg (show ¬ (false = true) by decide)] at H;exact H
      clear H
      have H:=H1
      clear H1
      obtain rfl:=Option.some.inj H
      go_wp2_with (first | ((with_reducible refine gate_callee (f:=31) rfl ?_);refine goesL_ (some 43) rfl rfl Try.func31 (by kernel_rfl) rfl #[.slice A0 l0.length c0] rfl lm_ ?_;(with_reducible refine (laws_toRowS.calls kj8 _ _ l0 t17 _ ?side1 ?side2 A26.out).mono ?_);(case side1=>exact cc_ (Kd.C_below HR0.out HB.out));(case side2=>exact HC0.out);rintro e w79 ⟨v18,rfl,ho0,hb⟩;refine ⟨_,rfl,?_⟩;have n0_:=rb_ HO_4 hb;have n1_:=a0_ (Kd.R_elder' (rr_ HO_6.out) (Kd.R_base ho0) hb);have n2_:=rb_ HO_7 hb;have n3_:=a0_ (Kd.R_lower (Kd.R_new' ho0 (Kd.R_lt (rr_ HO_6.out))) (below_size hbw_));have n4_:=a0_ (below_step hbw_ hb);clear HO_4 HO_6;clear HO_7 HB;have HO_4:=n0_;have HO_6:=n1_;have HO_7:=n2_;have HO19:=n3_;have HB:=n4_;clear n0_ n1_ n2_ n3_ n4_;(try clear hb);(try clear ho0);obtain ⟨Ao80,co80,eo80⟩:=Kd.R_slice HO19.out;subst eo80) | ((with_reducible refine gate_callee (f:=34) rfl ?_);refine goesL_ (some 44) rfl rfl Try.func34 (by kernel_rfl) rfl #[.slice Ao15 t9.length co15,.slice Ao80 t17.length co80] rfl lm_ ?_;(with_reducible refine (laws_eqRowS.calls kj8 _ _ t9 _ _ t17 false _ ?side1 ?side2 ?side3 ?side4 A27.out).mono ?_);(case side1=>exact cc_ (Kd.R_reads' HO_6.out).2.2);(case side2=>exact (Kd.R_reads' HO_6.out).2.1);(case side3=>exact cc_ (Kd.R_reads' HO19.out).2.2);(case side4=>exact (Kd.R_reads' HO19.out).2.1);rintro e w81 ⟨rfl,hb⟩;refine ⟨_,rfl,?_⟩;replace HO_4:=rb_ HO_4 hb;replace HO_6:=rb_ HO_6 hb;replace HO_7:=rb_ HO_7 hb;replace HO19:=rb_ HO19 hb;replace HB:=a0_ (below_step hbw_ hb);(try clear hb);(try clear hb2);(try clear hk);(try clear hi)))
      go_ret
      exact ⟨by first | rfl | (simp [errW_none,errW_some] <;> rfl) | (simp [*,errW_none,errW_some] <;> rfl),hbw_⟩
end Go.Proofs.Ytacgehaipacehaa.P
namespace Go.Proofs.Ytacgehaipacehaa.Pure
open Go.RowKit Go.Proofs.Ytacgehaipacehaa.P
open Go.Proofs.YtacgehaipacehaaW.PrintWords (rd rdOf wrap_succ wrap_pred wrap_in toL_beq idxP)
set_option linter.unusedVariables false
theorem FnExactUnfoldTrace (l0 : List S109) (g0 : (l0.length ≤ maxLen ∧ ∀ x ∈ l0,((x.f0.f0.size ≤ maxLen ∧ (Lit.int .i64 x.f0.f1).wf = true) ∧ (Lit.int .i64 x.f1).wf = true))) : ∃ k,laws_FnExactUnfoldTrace.f k l0 = some true:=by
 have hmax : maxLen = 9223372036854775807:=by decide
 rw [hmax] at g0
 refine Ev.out (F:=fun k=>laws_FnExactUnfoldTrace.f k l0) ?_
 unfold laws_FnExactUnfoldTrace.f
 obtain ⟨v0,hv0,hg0⟩:=laws_szRowS_ev l0 1048576 (by omega) (by omega) g0.1 (fun x hx=>(g0.2 x hx).1.1)
 refine Ev.bind hv0 ?_
 by_cases hn0 : v0 < 0
 ·exact Ev.pos hn0 (Ev.const rfl)
 refine Ev.neg hn0 ?_
 obtain ⟨hva0,hl0,_⟩:=hg0 (by omega)
 have hT0:=laws_toRowS_ev l0 (by omega)
 have hm0 : (l0.map toRowP).length ≤ 1048576:=by rw [List.length_map];omega
 have hsm : ∀ r ∈ l0.map toRowP,r.f0.f0.size ≤ 9223372036854775807:=by
  intro r hr
  obtain ⟨x,hx,rfl⟩:=List.mem_map.1 hr
  exact (g0.2 x hx).1.1
 have hS:=spec_UnfoldTrace_ev (l0.map toRowP) hm0 hsm
 have hG:=impl_UnfoldTrace_ev (l0.map toRowP) hm0 hsm
 have hrl : (utP (l0.map toRowP)).1.length ≤ 13 * (l0.map toRowP).length:=by
  unfold utP
  split
  ·exact unf_len _
  ·exact Nat.zero_le _
 generalize utP (l0.map toRowP) = r at hS hG hrl
 obtain ⟨r0,r1⟩:=r
 simp only at hrl
 have hEr0:=laws_eqFrameS_ev r0 (by omega)
 obtain ⟨l',hM0⟩:=laws_markRowS_ev (l0.map toRowP) 1 (by omega) (by omega)
 obtain ⟨rl',hm9r0,hhr0⟩:=laws_markHeldFrameS_ev r0 1 (by omega) (by omega)
 refine Ev.bind hT0 (Ev.bind hS (Ev.bind hT0 (Ev.bind hG (Ev.bind hEr0 (Ev.pos rfl ?_)))))
 refine Ev.succ ?_
 simp only [laws_FnExactUnfoldTrace.j0]
 refine Ev.neg (by simp) (Ev.bind hT0 (Ev.bind (laws_eqRowS_ev _ (by omega)) (Ev.pos rfl (Ev.bind hM0 (Ev.neg (by show ¬ (_ < (0 : Int));omega) (Ev.bind hEr0 (Ev.pos rfl ?_)))))))
 refine Ev.succ ?_
 simp only [laws_FnExactUnfoldTrace.j1]
 refine Ev.neg (by simp) (Ev.bind hm9r0 (Ev.bind hhr0 (Ev.neg (by omega) (Ev.pos rfl (Ev.bind hT0 (Ev.bind hG (Ev.bind hEr0 (Ev.pos rfl ?_))))))))
 refine Ev.succ ?_
 simp only [laws_FnExactUnfoldTrace.j2]
 exact Ev.neg (by simp) (Ev.bind hhr0 (Ev.neg (by omega) (Ev.pos rfl (Ev.const rfl))))
end Go.Proofs.Ytacgehaipacehaa.Pure
