/- Texts under the proof of FnExactValidProgram: helper words, the functions' contracts and the plain laws. No condition. -/
import Derived.Test.YtacgehaipacehaaQFnExactValidPrograma
namespace Go.Proofs.Ytacgehaipacehaa.P
open Go.RowKit Go.Proofs.YtacgehaipacehaaW.PrintWords Go.Proofs.YtacgehaipacehaaW.PrintLast Go.Proofs.YtacgehaipacehaaW.PrintMore
attribute [local go_sem] max2_int min2_int max_two min_two max_three min_three max_four min_four
set_option linter.unusedVariables false
set_option linter.unusedSimpArgs false
def spec_validChain.l0 : Nat → List (S75) → List Int → Int → Int → Option (Bool)
 | 0,_,_,_,_=>none
 | k + 1,x0,x5,x6,x7=>if x7 < (x5.length : Int) then (if 0 ≤ x7 then (if 0 ≤ (rd x5 x7) then (if (rd x5 x7) < (x0.length : Int) then (if ((rd_T75 x0 (rd x5 x7)).f1) = 8 then (if x7 > 1 then (if 0 ≤ (wrap64 (x7 - 1)) then (if (wrap64 (x7 - 1)) < (x5.length : Int) then (if 0 ≤ (rd x5 (wrap64 (x7 - 1))) then (if (rd x5 (wrap64 (x7 - 1))) < (x0.length : Int) then (if ((rd_T75 x0 (rd x5 x7)).f1) < ((rd_T75 x0 (rd x5 (wrap64 (x7 - 1)))).f1) then (some false) else (if ((rd_T75 x0 (rd x5 x7)).f1) = ((rd_T75 x0 (rd x5 (wrap64 (x7 - 1)))).f1) then (if ((rd_T75 x0 (rd x5 x7)).f1) = 9 then (if (wrap64 (x6 + 1)) = 0 then (some false) else (spec_validChain.l0 k x0 x5 (wrap64 (x6 + 1)) (wrap64 (x7 + 1)))) else (spec_validChain.l0 k x0 x5 (wrap64 (x6 + 1)) (wrap64 (x7 + 1)))) else (if ((rd_T75 x0 (rd x5 x7)).f1) = 9 then (if (wrap64 (x6 + 1)) = 0 then (some false) else (spec_validChain.l0 k x0 x5 (wrap64 (x6 + 1)) (wrap64 (x7 + 1)))) else (spec_validChain.l0 k x0 x5 (wrap64 (x6 + 1)) (wrap64 (x7 + 1)))))) else (none)) else (none)) else (none)) else (none)) else (if ((rd_T75 x0 (rd x5 x7)).f1) = 9 then (if (wrap64 (x6 + 1)) = 0 then (some false) else (spec_validChain.l0 k x0 x5 (wrap64 (x6 + 1)) (wrap64 (x7 + 1)))) else (spec_validChain.l0 k x0 x5 (wrap64 (x6 + 1)) (wrap64 (x7 + 1))))) else (if x7 > 1 then (if 0 ≤ (wrap64 (x7 - 1)) then (if (wrap64 (x7 - 1)) < (x5.length : Int) then (if 0 ≤ (rd x5 (wrap64 (x7 - 1))) then (if (rd x5 (wrap64 (x7 - 1))) < (x0.length : Int) then (if ((rd_T75 x0 (rd x5 x7)).f1) < ((rd_T75 x0 (rd x5 (wrap64 (x7 - 1)))).f1) then (some false) else (if ((rd_T75 x0 (rd x5 x7)).f1) = ((rd_T75 x0 (rd x5 (wrap64 (x7 - 1)))).f1) then (some false) else (if ((rd_T75 x0 (rd x5 x7)).f1) = 9 then (if x6 = 0 then (some false) else (spec_validChain.l0 k x0 x5 x6 (wrap64 (x7 + 1)))) else (spec_validChain.l0 k x0 x5 x6 (wrap64 (x7 + 1)))))) else (none)) else (none)) else (none)) else (none)) else (if ((rd_T75 x0 (rd x5 x7)).f1) = 9 then (if x6 = 0 then (some false) else (spec_validChain.l0 k x0 x5 x6 (wrap64 (x7 + 1)))) else (spec_validChain.l0 k x0 x5 x6 (wrap64 (x7 + 1)))))) else (none)) else (none)) else (none)) else (if (x5.length : Int) > 1 then (some (decide (x6 ≤ 6))) else (some false))
def spec_validChain.f (k : Nat) (l0 : List (S75)) (a1 : Int) : Option (Bool):=(spec_chainOf.f k l0 a1).bind fun t1=>(spec_validChain.l0 k l0 t1 0 1)
theorem spec_validChain.mono_l : ∀ k,(∀ y0 y1 y2 y3,LeO (spec_validChain.l0 k y0 y1 y2 y3) (spec_validChain.l0 (k + 1) y0 y1 y2 y3))
 | 0=>fun _ _ _ _ r h=>by simp [spec_validChain.l0] at h
 | k + 1=>by
  have ih0:=spec_validChain.mono_l k
  ·intro y0 y1 y2 y3
   unfold spec_validChain.l0
   repeat' first
   | (with_reducible exact ih0 _ _ _ _)
   | (with_reducible exact spec_chainOf.mono _ _ _)
   | (with_reducible exact LeO.refl _)
   | (with_reducible exact LeO.none _)
   | (with_reducible refine LeO.ite ?_ ?_)
   | (with_reducible refine LeO.bind ?_ (fun _=>?_))
   | exact ih0 _ _ _ _
   | exact spec_chainOf.mono _ _ _
   | exact LeO.none _
   | refine LeO.ite ?_ ?_
   | refine LeO.bind ?_ (fun _=>?_)
theorem spec_validChain.mono : ∀ a0 a1 k,LeO (spec_validChain.f k a0 a1) (spec_validChain.f (k + 1) a0 a1):=by
 intro a0 a1 k
 have ih0:=spec_validChain.mono_l k
 unfold spec_validChain.f
 repeat' first
   | (with_reducible exact ih0 _ _ _ _)
   | (with_reducible exact spec_chainOf.mono _ _ _)
   | (with_reducible exact LeO.refl _)
   | (with_reducible exact LeO.none _)
   | (with_reducible refine LeO.ite ?_ ?_)
   | (with_reducible refine LeO.bind ?_ (fun _=>?_))
   | exact ih0 _ _ _ _
   | exact spec_chainOf.mono _ _ _
   | exact LeO.none _
   | refine LeO.ite ?_ ?_
   | refine LeO.bind ?_ (fun _=>?_)
set_option maxHeartbeats 8000000 in
set_option maxRecDepth 100000 in
theorem spec_validChain.calls (k : Nat) (A0 : Option Addr) (c0 : Nat) (l0 : List (S75)) (a1 : Int) (r : Bool) (w : World) (hr0 : Kd.C k75 w A0 l0.length l0) (hc0 : l0.length ≤ c0) (h : spec_validChain.f k l0 a1 = some r) :
  Calls Try.prog 159 #[.slice A0 l0.length c0,.int .i64 a1] w fun e w'=>e = .returned (.bool r) ∧ Below w.heap.size w w':=by
 have HR0:=a0_ hr0
 have HC0:=a0_ hc0
 clear hr0 hc0
 have HB:=a0_ (Below.refl w.heap.size w)
 have H : ((spec_chainOf.f k l0 a1).bind fun t1=>(spec_validChain.l0 k l0 t1 0 1)) = some r:=h
 clear h
 replace H:=Option.bind_eq_some_iff.mp H
 obtain ⟨t1,A30,H⟩:=H
 replace H : (spec_validChain.l0 k l0 t1 0 1) = some r:=H
 have A3:=a0_ A30
 clear A30
 have H':=a0_ H
 clear H
 go_enter Try.func159,Try.ntmps159
 go_wp2_with (first | ((with_reducible refine gate_callee (f:=171) rfl ?_);refine goesL_ (some 11) rfl rfl Try.func171 (by kernel_rfl) rfl #[.slice A0 l0.length c0,.int .i64 a1] rfl lm_ ?_;(with_reducible refine (spec_chainOf.calls k _ _ l0 a1 t1 _ ?side1 ?side2 A3.out).mono ?_);(case side1=>repeat (first | exact HR0.out | (with_reducible refine Kd.C_alloc ?_ _) | (with_reducible refine Kd.C_drewN ?_ _) | (with_reducible refine Kd.C_drew ?_)));(case side2=>exact HC0.out);rintro e w4 ⟨v2,rfl,ho0,hb⟩;refine ⟨_,rfl,?_⟩;have HO3:=a0_ (Kd.R_lower ho0 (below_size hbw_));replace HB:=a0_ (below_step hbw_ hb);(try clear hb);(try clear ho0)))
 go_loopg [6,7] k (fun kq v6 v7 w'=>∃ (x6_1 : Int) (x7_1 : Int),v6 = .int .i64 x6_1 ∧ v7 = .int .i64 x7_1 ∧ Aside0 (spec_validChain.l0 kq l0 t1 x6_1 x7_1 = some r) ∧ Aside0 (kq ≤ k) ∧ Aside0 (Kd.R (Kd.int .i64) 3 w' w.heap.size (fun _=>True) v2 t1) ∧ Aside0 (Below w.heap.size w w'))
 case atStart=>exact ⟨(0),(1),(by first | rfl | (simp;done) | (simp [*];done)),(by first | rfl | (simp;done) | (simp [*];done)),H',⟨Nat.le_refl _⟩,⟨by (with_reducible repeat (first | apply Kd.R_alloc | apply Kd.R_drewN | apply Kd.R_drew));exact HO3.out⟩,⟨hbw_⟩⟩
 case round =>
  clear H'
  try clear c1
  try clear p2
  obtain ⟨x6_1,x7_1,rfl,rfl,HA,HK1,HO_5,HB⟩:=hrel
  cases gk with
  | zero=>exact absurd HA.out (by simp [spec_validChain.l0])
  | succ k1 =>
   have H:=HA.out
   clear HA
   simp only [spec_validChain.l0] at H
   by_cases c5 : x7_1 < (t1.length : Int)
   ·rw [if_pos c5] at H
    have c5b0 : decide (x7_1 < (t1.length : Int)) = true:=decide_eq_true c5
    clear c5
    by_cases c6 : 0 ≤ x7_1
    ·rw [if_pos c6] at H
     have c6b0 : decide (0 ≤ x7_1) = true:=decide_eq_true c6
     clear c6
     by_cases c7 : 0 ≤ (rd t1 x7_1)
     ·rw [if_pos c7] at H
      have c7b0 : decide (0 ≤ (rd t1 x7_1)) = true:=decide_eq_true c7
      clear c7
      by_cases c8 : (rd t1 x7_1) < (l0.length : Int)
      ·rw [if_pos c8] at H
       have c8b0 : decide ((rd t1 x7_1) < (l0.length : Int)) = true:=decide_eq_true c8
       clear c8
       by_cases c9 : ((rd_T75 l0 (rd t1 x7_1)).f1) = 8
       ·rw [if_pos c9] at H
        have c9b0 : (((rd_T75 l0 (rd t1 x7_1)).f1) == 8) = true:=beq_iff_eq.mpr c9
        have c9b1 : (((rd_T75 l0 (rd t1 x7_1)).f1) != 8) = false:=bne_eq_false_iff_eq.mpr c9
        clear c9
        by_cases c10 : x7_1 > 1
        ·rw [if_pos c10] at H
         have c10b0 : decide (1 < x7_1) = true:=decide_eq_true c10
         clear c10
         obtain ⟨ji11,hji11⟩ : ∃ j_ : Int,(wrap64 (x7_1 - 1)) = j_:=⟨_,rfl⟩
         replace H : (if 0 ≤ (ji11) then (if (ji11) < (t1.length : Int) then (if 0 ≤ (rd t1 (ji11)) then (if (rd t1 (ji11)) < (l0.length : Int) then (if ((rd_T75 l0 (rd t1 x7_1)).f1) < ((rd_T75 l0 (rd t1 (ji11))).f1) then (some false) else (if ((rd_T75 l0 (rd t1 x7_1)).f1) = ((rd_T75 l0 (rd t1 (ji11))).f1) then (if ((rd_T75 l0 (rd t1 x7_1)).f1) = 9 then (if (wrap64 (x6_1 + 1)) = 0 then (some false) else (spec_validChain.l0 k1 l0 t1 (wrap64 (x6_1 + 1)) (wrap64 (x7_1 + 1)))) else (spec_validChain.l0 k1 l0 t1 (wrap64 (x6_1 + 1)) (wrap64 (x7_1 + 1)))) else (if ((rd_T75 l0 (rd t1 x7_1)).f1) = 9 then (if (wrap64 (x6_1 + 1)) = 0 then (some false) else (spec_validChain.l0 k1 l0 t1 (wrap64 (x6_1 + 1)) (wrap64 (x7_1 + 1)))) else (spec_validChain.l0 k1 l0 t1 (wrap64 (x6_1 + 1)) (wrap64 (x7_1 + 1)))))) else (none)) else (none)) else (none)) else (none)) = some r:=by first | (rw [hji11] at H;exact H) | (simp only [hji11] at H ⊢;exact H)
         have hji11w : (IntKind.i64.wrap (x7_1 - 1)) = ji11:=(i64_w _).trans hji11
         by_cases c12 : 0 ≤ (ji11)
         ·rw [if_pos c12] at H
          have c12b0 : decide (0 ≤ (ji11)) = true:=decide_eq_true c12
          clear c12
          by_cases c13 : (ji11) < (t1.length : Int)
          ·rw [if_pos c13] at H
           have c13b0 : decide ((ji11) < (t1.length : Int)) = true:=decide_eq_true c13
           clear c13
           by_cases c14 : 0 ≤ (rd t1 (ji11))
           ·rw [if_pos c14] at H
            have c14b0 : decide (0 ≤ (rd t1 (ji11))) = true:=decide_eq_true c14
            clear c14
            by_cases c15 : (rd t1 (ji11)) < (l0.length : Int)
            ·rw [if_pos c15] at H
             have c15b0 : decide ((rd t1 (ji11)) < (l0.length : Int)) = true:=decide_eq_true c15
             clear c15
             by_cases c16 : ((rd_T75 l0 (rd t1 x7_1)).f1) < ((rd_T75 l0 (rd t1 (ji11))).f1)
             ·rw [if_pos c16] at H
              have c16b0 : decide (((rd_T75 l0 (rd t1 x7_1)).f1) < ((rd_T75 l0 (rd t1 (ji11))).f1)) = true:=decide_eq_true c16
              clear c16
              obtain rfl:=Option.some.inj H
              obtain ⟨Ao17,co17,eo17⟩:=Kd.R_slice HO_5.out
              subst eo17
              have p4 : 0 ≤ (x7_1 : Int):=of_decide_eq_true (by first | (with_reducible assumption) | assumption)
              have q4 : x7_1 < (t1.length : Int):=of_decide_eq_true (by first | (with_reducible assumption) | assumption)
              obtain ⟨ad4,e4,hx4_0⟩:=Kd.at_int (Kd.R_reads' HO_5.out).2.2 x7_1 p4 q4
              cases e4
              replace p4:=eq_true p4
              replace q4:=eq_true q4
              have p5 : 0 ≤ ((rd t1 x7_1) : Int):=of_decide_eq_true (by first | (with_reducible assumption) | assumption)
              have q5 : (rd t1 x7_1) < (l0.length : Int):=of_decide_eq_true (by first | (with_reducible assumption) | assumption)
              obtain ⟨ad5,e5,hx5_0,hx5_1,hx5_2,hx5_3⟩:=at_T75 HR0.out (rd t1 x7_1) p5 q5
              cases e5
              replace hx5_0:=(HB.out.cell (World.block_lt_of_cell? w _ hx5_0)).trans hx5_0
              replace hx5_1:=(HB.out.cell (World.block_lt_of_cell? w _ hx5_1)).trans hx5_1
              replace hx5_2:=(HB.out.cell (World.block_lt_of_cell? w _ hx5_2)).trans hx5_2
              replace hx5_3:=(HB.out.cell (World.block_lt_of_cell? w _ hx5_3)).trans hx5_3
              replace p5:=eq_true p5
              replace q5:=eq_true q5
              have p6 : 0 ≤ ((ji11) : Int):=of_decide_eq_true (by first | (with_reducible assumption) | assumption)
              have q6 : (ji11) < (t1.length : Int):=of_decide_eq_true (by first | (with_reducible assumption) | assumption)
              obtain ⟨ad6,e6,hx6_0⟩:=Kd.at_int (Kd.R_reads' HO_5.out).2.2 (ji11) p6 q6
              obtain rfl : ad4 = ad6:=(by injection e6)
              replace p6:=eq_true p6
              replace q6:=eq_true q6
              have p7 : 0 ≤ ((rd t1 (ji11)) : Int):=of_decide_eq_true (by first | (with_reducible assumption) | assumption)
              have q7 : (rd t1 (ji11)) < (l0.length : Int):=of_decide_eq_true (by first | (with_reducible assumption) | assumption)
              obtain ⟨ad7,e7,hx7_0,hx7_1,hx7_2,hx7_3⟩:=at_T75 HR0.out (rd t1 (ji11)) p7 q7
              obtain rfl : ad5 = ad7:=(by injection e7)
              replace hx7_0:=(HB.out.cell (World.block_lt_of_cell? w _ hx7_0)).trans hx7_0
              replace hx7_1:=(HB.out.cell (World.block_lt_of_cell? w _ hx7_1)).trans hx7_1
              replace hx7_2:=(HB.out.cell (World.block_lt_of_cell? w _ hx7_2)).trans hx7_2
              replace hx7_3:=(HB.out.cell (World.block_lt_of_cell? w _ hx7_3)).trans hx7_3
              replace p7:=eq_true p7
              replace q7:=eq_true q7
              go_wp2
              go_ret
              exact ⟨by first | rfl | (simp [errW_none,errW_some] <;> rfl) | (simp only [← hji11];first | rfl | (simp [errW_none,errW_some] <;> rfl)) | (simp [*,errW_none,errW_some] <;> rfl),hbw_⟩
             ·rw [if_neg c16] at H
              have c16b0 : decide (((rd_T75 l0 (rd t1 x7_1)).f1) < ((rd_T75 l0 (rd t1 (ji11))).f1)) = false:=decide_eq_false c16
              clear c16
              by_cases c18 : ((rd_T75 l0 (rd t1 x7_1)).f1) = ((rd_T75 l0 (rd t1 (ji11))).f1)
              ·rw [if_pos c18] at H
               have c18b0 : (((rd_T75 l0 (rd t1 x7_1)).f1) == ((rd_T75 l0 (rd t1 (ji11))).f1)) = true:=beq_iff_eq.mpr c18
               have c18b1 : (((rd_T75 l0 (rd t1 x7_1)).f1) != ((rd_T75 l0 (rd t1 (ji11))).f1)) = false:=bne_eq_false_iff_eq.mpr c18
               clear c18
               by_cases c19 : ((rd_T75 l0 (rd t1 x7_1)).f1) = 9
               ·rw [if_pos c19] at H
                have c19b0 : (((rd_T75 l0 (rd t1 x7_1)).f1) == 9) = true:=beq_iff_eq.mpr c19
                have c19b1 : (((rd_T75 l0 (rd t1 x7_1)).f1) != 9) = false:=bne_eq_false_iff_eq.mpr c19
                clear c19
                by_cases c20 : (wrap64 (x6_1 + 1)) = 0
                ·rw [if_pos c20] at H
                 have c20b0 : ((wrap64 (x6_1 + 1)) == 0) = true:=beq_iff_eq.mpr c20
                 have c20b1 : ((wrap64 (x6_1 + 1)) != 0) = false:=bne_eq_false_iff_eq.mpr c20
                 clear c20
                 obtain rfl:=Option.some.inj H
                 obtain ⟨Ao21,co21,eo21⟩:=Kd.R_slice HO_5.out
                 subst eo21
                 have p4 : 0 ≤ (x7_1 : Int):=of_decide_eq_true (by first | (with_reducible assumption) | assumption)
                 have q4 : x7_1 < (t1.length : Int):=of_decide_eq_true (by first | (with_reducible assumption) | assumption)
                 obtain ⟨ad4,e4,hx4_0⟩:=Kd.at_int (Kd.R_reads' HO_5.out).2.2 x7_1 p4 q4
                 cases e4
                 replace p4:=eq_true p4
                 replace q4:=eq_true q4
                 have p5 : 0 ≤ ((rd t1 x7_1) : Int):=of_decide_eq_true (by first | (with_reducible assumption) | assumption)
                 have q5 : (rd t1 x7_1) < (l0.length : Int):=of_decide_eq_true (by first | (with_reducible assumption) | assumption)
                 obtain ⟨ad5,e5,hx5_0,hx5_1,hx5_2,hx5_3⟩:=at_T75 HR0.out (rd t1 x7_1) p5 q5
                 cases e5
                 replace hx5_0:=(HB.out.cell (World.block_lt_of_cell? w _ hx5_0)).trans hx5_0
                 replace hx5_1:=(HB.out.cell (World.block_lt_of_cell? w _ hx5_1)).trans hx5_1
                 replace hx5_2:=(HB.out.cell (World.block_lt_of_cell? w _ hx5_2)).trans hx5_2
                 replace hx5_3:=(HB.out.cell (World.block_lt_of_cell? w _ hx5_3)).trans hx5_3
                 replace p5:=eq_true p5
                 replace q5:=eq_true q5
                 have p6 : 0 ≤ ((ji11) : Int):=of_decide_eq_true (by first | (with_reducible assumption) | assumption)
                 have q6 : (ji11) < (t1.length : Int):=of_decide_eq_true (by first | (with_reducible assumption) | assumption)
                 obtain ⟨ad6,e6,hx6_0⟩:=Kd.at_int (Kd.R_reads' HO_5.out).2.2 (ji11) p6 q6
                 obtain rfl : ad4 = ad6:=(by injection e6)
                 replace p6:=eq_true p6
                 replace q6:=eq_true q6
                 have p7 : 0 ≤ ((rd t1 (ji11)) : Int):=of_decide_eq_true (by first | (with_reducible assumption) | assumption)
                 have q7 : (rd t1 (ji11)) < (l0.length : Int):=of_decide_eq_true (by first | (with_reducible assumption) | assumption)
                 obtain ⟨ad7,e7,hx7_0,hx7_1,hx7_2,hx7_3⟩:=at_T75 HR0.out (rd t1 (ji11)) p7 q7
                 obtain rfl : ad5 = ad7:=(by injection e7)
                 replace hx7_0:=(HB.out.cell (World.block_lt_of_cell? w _ hx7_0)).trans hx7_0
                 replace hx7_1:=(HB.out.cell (World.block_lt_of_cell? w _ hx7_1)).trans hx7_1
                 replace hx7_2:=(HB.out.cell (World.block_lt_of_cell? w _ hx7_2)).trans hx7_2
                 replace hx7_3:=(HB.out.cell (World.block_lt_of_cell? w _ hx7_3)).trans hx7_3
                 replace p7:=eq_true p7
                 replace q7:=eq_true q7
                 have p8 : 0 ≤ ((ji11) : Int):=of_decide_eq_true (by first | (with_reducible assumption) | assumption)
                 have q8 : (ji11) < (t1.length : Int):=of_decide_eq_true (by first | (with_reducible assumption) | assumption)
                 obtain ⟨ad8,e8,hx8_0⟩:=Kd.at_int (Kd.R_reads' HO_5.out).2.2 (ji11) p8 q8
                 obtain rfl : ad4 = ad8:=(by injection e8)
                 replace p8:=eq_true p8
                 replace q8:=eq_true q8
                 have p9 : 0 ≤ ((rd t1 (ji11)) : Int):=of_decide_eq_true (by first | (with_reducible assumption) | assumption)
                 have q9 : (rd t1 (ji11)) < (l0.length : Int):=of_decide_eq_true (by first | (with_reducible assumption) | assumption)
                 obtain ⟨ad9,e9,hx9_0,hx9_1,hx9_2,hx9_3⟩:=at_T75 HR0.out (rd t1 (ji11)) p9 q9
                 obtain rfl : ad5 = ad9:=(by injection e9)
                 replace hx9_0:=(HB.out.cell (World.block_lt_of_cell? w _ hx9_0)).trans hx9_0
                 replace hx9_1:=(HB.out.cell (World.block_lt_of_cell? w _ hx9_1)).trans hx9_1
                 replace hx9_2:=(HB.out.cell (World.block_lt_of_cell? w _ hx9_2)).trans hx9_2
                 replace hx9_3:=(HB.out.cell (World.block_lt_of_cell? w _ hx9_3)).trans hx9_3
                 replace p9:=eq_true p9
                 replace q9:=eq_true q9
                 go_wp2
                 go_ret
                 exact ⟨by first | rfl | (simp [errW_none,errW_some] <;> rfl) | (simp only [← hji11];first | rfl | (simp [errW_none,errW_some] <;> rfl)) | (simp [*,errW_none,errW_some] <;> rfl),hbw_⟩
                ·rw [if_neg c20] at H
                 have c20b0 : ((wrap64 (x6_1 + 1)) == 0) = false:=beq_eq_false_iff_ne.mpr c20
                 have c20b1 : ((wrap64 (x6_1 + 1)) != 0) = true:=bne_iff_ne.mpr c20
                 have H':=a0_ H
                 clear H
                 obtain ⟨Ao22,co22,eo22⟩:=Kd.R_slice HO_5.out
                 subst eo22
                 have p4 : 0 ≤ (x7_1 : Int):=of_decide_eq_true (by first | (with_reducible assumption) | assumption)
                 have q4 : x7_1 < (t1.length : Int):=of_decide_eq_true (by first | (with_reducible assumption) | assumption)
                 obtain ⟨ad4,e4,hx4_0⟩:=Kd.at_int (Kd.R_reads' HO_5.out).2.2 x7_1 p4 q4
                 cases e4
                 replace p4:=eq_true p4
                 replace q4:=eq_true q4
                 have p5 : 0 ≤ ((rd t1 x7_1) : Int):=of_decide_eq_true (by first | (with_reducible assumption) | assumption)
                 have q5 : (rd t1 x7_1) < (l0.length : Int):=of_decide_eq_true (by first | (with_reducible assumption) | assumption)
                 obtain ⟨ad5,e5,hx5_0,hx5_1,hx5_2,hx5_3⟩:=at_T75 HR0.out (rd t1 x7_1) p5 q5
                 cases e5
                 replace hx5_0:=(HB.out.cell (World.block_lt_of_cell? w _ hx5_0)).trans hx5_0
                 replace hx5_1:=(HB.out.cell (World.block_lt_of_cell? w _ hx5_1)).trans hx5_1
                 replace hx5_2:=(HB.out.cell (World.block_lt_of_cell? w _ hx5_2)).trans hx5_2
                 replace hx5_3:=(HB.out.cell (World.block_lt_of_cell? w _ hx5_3)).trans hx5_3
                 replace p5:=eq_true p5
                 replace q5:=eq_true q5
                 have p6 : 0 ≤ ((ji11) : Int):=of_decide_eq_true (by first | (with_reducible assumption) | assumption)
                 have q6 : (ji11) < (t1.length : Int):=of_decide_eq_true (by first | (with_reducible assumption) | assumption)
                 obtain ⟨ad6,e6,hx6_0⟩:=Kd.at_int (Kd.R_reads' HO_5.out).2.2 (ji11) p6 q6
                 obtain rfl : ad4 = ad6:=(by injection e6)
                 replace p6:=eq_true p6
                 replace q6:=eq_true q6
                 have p7 : 0 ≤ ((rd t1 (ji11)) : Int):=of_decide_eq_true (by first | (with_reducible assumption) | assumption)
                 have q7 : (rd t1 (ji11)) < (l0.length : Int):=of_decide_eq_true (by first | (with_reducible assumption) | assumption)
                 obtain ⟨ad7,e7,hx7_0,hx7_1,hx7_2,hx7_3⟩:=at_T75 HR0.out (rd t1 (ji11)) p7 q7
                 obtain rfl : ad5 = ad7:=(by injection e7)
                 replace hx7_0:=(HB.out.cell (World.block_lt_of_cell? w _ hx7_0)).trans hx7_0
                 replace hx7_1:=(HB.out.cell (World.block_lt_of_cell? w _ hx7_1)).trans hx7_1
                 replace hx7_2:=(HB.out.cell (World.block_lt_of_cell? w _ hx7_2)).trans hx7_2
                 replace hx7_3:=(HB.out.cell (World.block_lt_of_cell? w _ hx7_3)).trans hx7_3
                 replace p7:=eq_true p7
                 replace q7:=eq_true q7
                 have p8 : 0 ≤ ((ji11) : Int):=of_decide_eq_true (by first | (with_reducible assumption) | assumption)
                 have q8 : (ji11) < (t1.length : Int):=of_decide_eq_true (by first | (with_reducible assumption) | assumption)
                 obtain ⟨ad8,e8,hx8_0⟩:=Kd.at_int (Kd.R_reads' HO_5.out).2.2 (ji11) p8 q8
                 obtain rfl : ad4 = ad8:=(by injection e8)
                 replace p8:=eq_true p8
                 replace q8:=eq_true q8
                 have p9 : 0 ≤ ((rd t1 (ji11)) : Int):=of_decide_eq_true (by first | (with_reducible assumption) | assumption)
                 have q9 : (rd t1 (ji11)) < (l0.length : Int):=of_decide_eq_true (by first | (with_reducible assumption) | assumption)
                 obtain ⟨ad9,e9,hx9_0,hx9_1,hx9_2,hx9_3⟩:=at_T75 HR0.out (rd t1 (ji11)) p9 q9
                 obtain rfl : ad5 = ad9:=(by injection e9)
                 replace hx9_0:=(HB.out.cell (World.block_lt_of_cell? w _ hx9_0)).trans hx9_0
                 replace hx9_1:=(HB.out.cell (World.block_lt_of_cell? w _ hx9_1)).trans hx9_1
                 replace hx9_2:=(HB.out.cell (World.block_lt_of_cell? w _ hx9_2)).trans hx9_2
                 replace hx9_3:=(HB.out.cell (World.block_lt_of_cell? w _ hx9_3)).trans hx9_3
                 replace p9:=eq_true p9
                 replace q9:=eq_true q9
                 go_wp2
                 go_roundg k1
                 case measure=>have:=HK1.out;omega
                 case rel=>exact ⟨(wrap64 (x6_1 + 1)),(wrap64 (x7_1 + 1)),(by first | rfl | (simp;done) | (simp [*];done)),(by first | rfl | (simp;done) | (simp [*];done)),H',⟨by have:=HK1.out;omega⟩,⟨by (with_reducible repeat (first | apply Kd.R_alloc | apply Kd.R_drewN | apply Kd.R_drew));exact HO_5.out⟩,⟨hbw_⟩⟩
               ·rw [if_neg c19] at H
                have c19b0 : (((rd_T75 l0 (rd t1 x7_1)).f1) == 9) = false:=beq_eq_false_iff_ne.mpr c19
                have c19b1 : (((rd_T75 l0 (rd t1 x7_1)).f1) != 9) = true:=bne_iff_ne.mpr c19
                have H':=a0_ H
                clear H
                obtain ⟨Ao23,co23,eo23⟩:=Kd.R_slice HO_5.out
                subst eo23
                have p4 : 0 ≤ (x7_1 : Int):=of_decide_eq_true (by first | (with_reducible assumption) | assumption)
                have q4 : x7_1 < (t1.length : Int):=of_decide_eq_true (by first | (with_reducible assumption) | assumption)
                obtain ⟨ad4,e4,hx4_0⟩:=Kd.at_int (Kd.R_reads' HO_5.out).2.2 x7_1 p4 q4
                cases e4
                replace p4:=eq_true p4
                replace q4:=eq_true q4
                have p5 : 0 ≤ ((rd t1 x7_1) : Int):=of_decide_eq_true (by first | (with_reducible assumption) | assumption)
                have q5 : (rd t1 x7_1) < (l0.length : Int):=of_decide_eq_true (by first | (with_reducible assumption) | assumption)
                obtain ⟨ad5,e5,hx5_0,hx5_1,hx5_2,hx5_3⟩:=at_T75 HR0.out (rd t1 x7_1) p5 q5
                cases e5
                replace hx5_0:=(HB.out.cell (World.block_lt_of_cell? w _ hx5_0)).trans hx5_0
                replace hx5_1:=(HB.out.cell (World.block_lt_of_cell? w _ hx5_1)).trans hx5_1
                replace hx5_2:=(HB.out.cell (World.block_lt_of_cell? w _ hx5_2)).trans hx5_2
                replace hx5_3:=(HB.out.cell (World.block_lt_of_cell? w _ hx5_3)).trans hx5_3
                replace p5:=eq_true p5
                replace q5:=eq_true q5
                have p6 : 0 ≤ ((ji11) : Int):=of_decide_eq_true (by first | (with_reducible assumption) | assumption)
                have q6 : (ji11) < (t1.length : Int):=of_decide_eq_true (by first | (with_reducible assumption) | assumption)
                obtain ⟨ad6,e6,hx6_0⟩:=Kd.at_int (Kd.R_reads' HO_5.out).2.2 (ji11) p6 q6
                obtain rfl : ad4 = ad6:=(by injection e6)
                replace p6:=eq_true p6
                replace q6:=eq_true q6
                have p7 : 0 ≤ ((rd t1 (ji11)) : Int):=of_decide_eq_true (by first | (with_reducible assumption) | assumption)
                have q7 : (rd t1 (ji11)) < (l0.length : Int):=of_decide_eq_true (by first | (with_reducible assumption) | assumption)
                obtain ⟨ad7,e7,hx7_0,hx7_1,hx7_2,hx7_3⟩:=at_T75 HR0.out (rd t1 (ji11)) p7 q7
                obtain rfl : ad5 = ad7:=(by injection e7)
                replace hx7_0:=(HB.out.cell (World.block_lt_of_cell? w _ hx7_0)).trans hx7_0
                replace hx7_1:=(HB.out.cell (World.block_lt_of_cell? w _ hx7_1)).trans hx7_1
                replace hx7_2:=(HB.out.cell (World.block_lt_of_cell? w _ hx7_2)).trans hx7_2
                replace hx7_3:=(HB.out.cell (World.block_lt_of_cell? w _ hx7_3)).trans hx7_3
                replace p7:=eq_true p7
                replace q7:=eq_true q7
                have p8 : 0 ≤ ((ji11) : Int):=of_decide_eq_true (by first | (with_reducible assumption) | assumption)
                have q8 : (ji11) < (t1.length : Int):=of_decide_eq_true (by first | (with_reducible assumption) | assumption)
                obtain ⟨ad8,e8,hx8_0⟩:=Kd.at_int (Kd.R_reads' HO_5.out).2.2 (ji11) p8 q8
                obtain rfl : ad4 = ad8:=(by injection e8)
                replace p8:=eq_true p8
                replace q8:=eq_true q8
                have p9 : 0 ≤ ((rd t1 (ji11)) : Int):=of_decide_eq_true (by first | (with_reducible assumption) | assumption)
                have q9 : (rd t1 (ji11)) < (l0.length : Int):=of_decide_eq_true (by first | (with_reducible assumption) | assumption)
                obtain ⟨ad9,e9,hx9_0,hx9_1,hx9_2,hx9_3⟩:=at_T75 HR0.out (rd t1 (ji11)) p9 q9
                obtain rfl : ad5 = ad9:=(by injection e9)
                replace hx9_0:=(HB.out.cell (World.block_lt_of_cell? w _ hx9_0)).trans hx9_0
                replace hx9_1:=(HB.out.cell (World.block_lt_of_cell? w _ hx9_1)).trans hx9_1
                replace hx9_2:=(HB.out.cell (World.block_lt_of_cell? w _ hx9_2)).trans hx9_2
                replace hx9_3:=(HB.out.cell (World.block_lt_of_cell? w _ hx9_3)).trans hx9_3
                replace p9:=eq_true p9
                replace q9:=eq_true q9
                go_wp2
                go_roundg k1
                case measure=>have:=HK1.out;omega
                case rel=>exact ⟨(wrap64 (x6_1 + 1)),(wrap64 (x7_1 + 1)),(by first | rfl | (simp;done) | (simp [*];done)),(by first | rfl | (simp;done) | (simp [*];done)),H',⟨by have:=HK1.out;omega⟩,⟨by (with_reducible repeat (first | apply Kd.R_alloc | apply Kd.R_drewN | apply Kd.R_drew));exact HO_5.out⟩,⟨hbw_⟩⟩
              ·rw [if_neg c18] at H
               have c18b0 : (((rd_T75 l0 (rd t1 x7_1)).f1) == ((rd_T75 l0 (rd t1 (ji11))).f1)) = false:=beq_eq_false_iff_ne.mpr c18
               have c18b1 : (((rd_T75 l0 (rd t1 x7_1)).f1) != ((rd_T75 l0 (rd t1 (ji11))).f1)) = true:=bne_iff_ne.mpr c18
               by_cases c24 : ((rd_T75 l0 (rd t1 x7_1)).f1) = 9
               ·rw [if_pos c24] at H
                have c24b0 : (((rd_T75 l0 (rd t1 x7_1)).f1) == 9) = true:=beq_iff_eq.mpr c24
                have c24b1 : (((rd_T75 l0 (rd t1 x7_1)).f1) != 9) = false:=bne_eq_false_iff_eq.mpr c24
                clear c24
                by_cases c25 : (wrap64 (x6_1 + 1)) = 0
                ·rw [if_pos c25] at H
                 have c25b0 : ((wrap64 (x6_1 + 1)) == 0) = true:=beq_iff_eq.mpr c25
                 have c25b1 : ((wrap64 (x6_1 + 1)) != 0) = false:=bne_eq_false_iff_eq.mpr c25
                 clear c25
                 obtain rfl:=Option.some.inj H
                 obtain ⟨Ao26,co26,eo26⟩:=Kd.R_slice HO_5.out
                 subst eo26
                 have p4 : 0 ≤ (x7_1 : Int):=of_decide_eq_true (by first | (with_reducible assumption) | assumption)
                 have q4 : x7_1 < (t1.length : Int):=of_decide_eq_true (by first | (with_reducible assumption) | assumption)
                 obtain ⟨ad4,e4,hx4_0⟩:=Kd.at_int (Kd.R_reads' HO_5.out).2.2 x7_1 p4 q4
                 cases e4
                 replace p4:=eq_true p4
                 replace q4:=eq_true q4
                 have p5 : 0 ≤ ((rd t1 x7_1) : Int):=of_decide_eq_true (by first | (with_reducible assumption) | assumption)
                 have q5 : (rd t1 x7_1) < (l0.length : Int):=of_decide_eq_true (by first | (with_reducible assumption) | assumption)
                 obtain ⟨ad5,e5,hx5_0,hx5_1,hx5_2,hx5_3⟩:=at_T75 HR0.out (rd t1 x7_1) p5 q5
                 cases e5
                 replace hx5_0:=(HB.out.cell (World.block_lt_of_cell? w _ hx5_0)).trans hx5_0
                 replace hx5_1:=(HB.out.cell (World.block_lt_of_cell? w _ hx5_1)).trans hx5_1
                 replace hx5_2:=(HB.out.cell (World.block_lt_of_cell? w _ hx5_2)).trans hx5_2
                 replace hx5_3:=(HB.out.cell (World.block_lt_of_cell? w _ hx5_3)).trans hx5_3
                 replace p5:=eq_true p5
                 replace q5:=eq_true q5
                 have p6 : 0 ≤ ((ji11) : Int):=of_decide_eq_true (by first | (with_reducible assumption) | assumption)
                 have q6 : (ji11) < (t1.length : Int):=of_decide_eq_true (by first | (with_reducible assumption) | assumption)
                 obtain ⟨ad6,e6,hx6_0⟩:=Kd.at_int (Kd.R_reads' HO_5.out).2.2 (ji11) p6 q6
                 obtain rfl : ad4 = ad6:=(by injection e6)
                 replace p6:=eq_true p6
                 replace q6:=eq_true q6
                 have p7 : 0 ≤ ((rd t1 (ji11)) : Int):=of_decide_eq_true (by first | (with_reducible assumption) | assumption)
                 have q7 : (rd t1 (ji11)) < (l0.length : Int):=of_decide_eq_true (by first | (with_reducible assumption) | assumption)
                 obtain ⟨ad7,e7,hx7_0,hx7_1,hx7_2,hx7_3⟩:=at_T75 HR0.out (rd t1 (ji11)) p7 q7
                 obtain rfl : ad5 = ad7:=(by injection e7)
                 replace hx7_0:=(HB.out.cell (World.block_lt_of_cell? w _ hx7_0)).trans hx7_0
                 replace hx7_1:=(HB.out.cell (World.block_lt_of_cell? w _ hx7_1)).trans hx7_1
                 replace hx7_2:=(HB.out.cell (World.block_lt_of_cell? w _ hx7_2)).trans hx7_2
                 replace hx7_3:=(HB.out.cell (World.block_lt_of_cell? w _ hx7_3)).trans hx7_3
                 replace p7:=eq_true p7
                 replace q7:=eq_true q7
                 have p8 : 0 ≤ ((ji11) : Int):=of_decide_eq_true (by first | (with_reducible assumption) | assumption)
                 have q8 : (ji11) < (t1.length : Int):=of_decide_eq_true (by first | (with_reducible assumption) | assumption)
                 obtain ⟨ad8,e8,hx8_0⟩:=Kd.at_int (Kd.R_reads' HO_5.out).2.2 (ji11) p8 q8
                 obtain rfl : ad4 = ad8:=(by injection e8)
                 replace p8:=eq_true p8
                 replace q8:=eq_true q8
                 have p9 : 0 ≤ ((rd t1 (ji11)) : Int):=of_decide_eq_true (by first | (with_reducible assumption) | assumption)
                 have q9 : (rd t1 (ji11)) < (l0.length : Int):=of_decide_eq_true (by first | (with_reducible assumption) | assumption)
                 obtain ⟨ad9,e9,hx9_0,hx9_1,hx9_2,hx9_3⟩:=at_T75 HR0.out (rd t1 (ji11)) p9 q9
                 obtain rfl : ad5 = ad9:=(by injection e9)
                 replace hx9_0:=(HB.out.cell (World.block_lt_of_cell? w _ hx9_0)).trans hx9_0
                 replace hx9_1:=(HB.out.cell (World.block_lt_of_cell? w _ hx9_1)).trans hx9_1
                 replace hx9_2:=(HB.out.cell (World.block_lt_of_cell? w _ hx9_2)).trans hx9_2
                 replace hx9_3:=(HB.out.cell (World.block_lt_of_cell? w _ hx9_3)).trans hx9_3
                 replace p9:=eq_true p9
                 replace q9:=eq_true q9
                 go_wp2
                 go_ret
                 exact ⟨by first | rfl | (simp [errW_none,errW_some] <;> rfl) | (simp only [← hji11];first | rfl | (simp [errW_none,errW_some] <;> rfl)) | (simp [*,errW_none,errW_some] <;> rfl),hbw_⟩
                ·rw [if_neg c25] at H
                 have c25b0 : ((wrap64 (x6_1 + 1)) == 0) = false:=beq_eq_false_iff_ne.mpr c25
                 have c25b1 : ((wrap64 (x6_1 + 1)) != 0) = true:=bne_iff_ne.mpr c25
                 have H':=a0_ H
                 clear H
                 obtain ⟨Ao27,co27,eo27⟩:=Kd.R_slice HO_5.out
                 subst eo27
                 have p4 : 0 ≤ (x7_1 : Int):=of_decide_eq_true (by first | (with_reducible assumption) | assumption)
                 have q4 : x7_1 < (t1.length : Int):=of_decide_eq_true (by first | (with_reducible assumption) | assumption)
                 obtain ⟨ad4,e4,hx4_0⟩:=Kd.at_int (Kd.R_reads' HO_5.out).2.2 x7_1 p4 q4
                 cases e4
                 replace p4:=eq_true p4
                 replace q4:=eq_true q4
                 have p5 : 0 ≤ ((rd t1 x7_1) : Int):=of_decide_eq_true (by first | (with_reducible assumption) | assumption)
                 have q5 : (rd t1 x7_1) < (l0.length : Int):=of_decide_eq_true (by first | (with_reducible assumption) | assumption)
                 obtain ⟨ad5,e5,hx5_0,hx5_1,hx5_2,hx5_3⟩:=at_T75 HR0.out (rd t1 x7_1) p5 q5
                 cases e5
                 replace hx5_0:=(HB.out.cell (World.block_lt_of_cell? w _ hx5_0)).trans hx5_0
                 replace hx5_1:=(HB.out.cell (World.block_lt_of_cell? w _ hx5_1)).trans hx5_1
                 replace hx5_2:=(HB.out.cell (World.block_lt_of_cell? w _ hx5_2)).trans hx5_2
                 replace hx5_3:=(HB.out.cell (World.block_lt_of_cell? w _ hx5_3)).trans hx5_3
                 replace p5:=eq_true p5
                 replace q5:=eq_true q5
                 have p6 : 0 ≤ ((ji11) : Int):=of_decide_eq_true (by first | (with_reducible assumption) | assumption)
                 have q6 : (ji11) < (t1.length : Int):=of_decide_eq_true (by first | (with_reducible assumption) | assumption)
                 obtain ⟨ad6,e6,hx6_0⟩:=Kd.at_int (Kd.R_reads' HO_5.out).2.2 (ji11) p6 q6
                 obtain rfl : ad4 = ad6:=(by injection e6)
                 replace p6:=eq_true p6
                 replace q6:=eq_true q6
                 have p7 : 0 ≤ ((rd t1 (ji11)) : Int):=of_decide_eq_true (by first | (with_reducible assumption) | assumption)
                 have q7 : (rd t1 (ji11)) < (l0.length : Int):=of_decide_eq_true (by first | (with_reducible assumption) | assumption)
                 obtain ⟨ad7,e7,hx7_0,hx7_1,hx7_2,hx7_3⟩:=at_T75 HR0.out (rd t1 (ji11)) p7 q7
                 obtain rfl : ad5 = ad7:=(by injection e7)
                 replace hx7_0:=(HB.out.cell (World.block_lt_of_cell? w _ hx7_0)).trans hx7_0
                 replace hx7_1:=(HB.out.cell (World.block_lt_of_cell? w _ hx7_1)).trans hx7_1
                 replace hx7_2:=(HB.out.cell (World.block_lt_of_cell? w _ hx7_2)).trans hx7_2
                 replace hx7_3:=(HB.out.cell (World.block_lt_of_cell? w _ hx7_3)).trans hx7_3
                 replace p7:=eq_true p7
                 replace q7:=eq_true q7
                 have p8 : 0 ≤ ((ji11) : Int):=of_decide_eq_true (by first | (with_reducible assumption) | assumption)
                 have q8 : (ji11) < (t1.length : Int):=of_decide_eq_true (by first | (with_reducible assumption) | assumption)
                 obtain ⟨ad8,e8,hx8_0⟩:=Kd.at_int (Kd.R_reads' HO_5.out).2.2 (ji11) p8 q8
                 obtain rfl : ad4 = ad8:=(by injection e8)
                 replace p8:=eq_true p8
                 replace q8:=eq_true q8
                 have p9 : 0 ≤ ((rd t1 (ji11)) : Int):=of_decide_eq_true (by first | (with_reducible assumption) | assumption)
                 have q9 : (rd t1 (ji11)) < (l0.length : Int):=of_decide_eq_true (by first | (with_reducible assumption) | assumption)
                 obtain ⟨ad9,e9,hx9_0,hx9_1,hx9_2,hx9_3⟩:=at_T75 HR0.out (rd t1 (ji11)) p9 q9
                 obtain rfl : ad5 = ad9:=(by injection e9)
                 replace hx9_0:=(HB.out.cell (World.block_lt_of_cell? w _ hx9_0)).trans hx9_0
                 replace hx9_1:=(HB.out.cell (World.block_lt_of_cell? w _ hx9_1)).trans hx9_1
                 replace hx9_2:=(HB.out.cell (World.block_lt_of_cell? w _ hx9_2)).trans hx9_2
                 replace hx9_3:=(HB.out.cell (World.block_lt_of_cell? w _ hx9_3)).trans hx9_3
                 replace p9:=eq_true p9
                 replace q9:=eq_true q9
                 go_wp2
                 go_roundg k1
                 case measure=>have:=HK1.out;omega
                 case rel=>exact ⟨(wrap64 (x6_1 + 1)),(wrap64 (x7_1 + 1)),(by first | rfl | (simp;done) | (simp [*];done)),(by first | rfl | (simp;done) | (simp [*];done)),H',⟨by have:=HK1.out;omega⟩,⟨by (with_reducible repeat (first | apply Kd.R_alloc | apply Kd.R_drewN | apply Kd.R_drew));exact HO_5.out⟩,⟨hbw_⟩⟩
               ·rw [if_neg c24] at H
                have c24b0 : (((rd_T75 l0 (rd t1 x7_1)).f1) == 9) = false:=beq_eq_false_iff_ne.mpr c24
                have c24b1 : (((rd_T75 l0 (rd t1 x7_1)).f1) != 9) = true:=bne_iff_ne.mpr c24
                have H':=a0_ H
                clear H
                obtain ⟨Ao28,co28,eo28⟩:=Kd.R_slice HO_5.out
                subst eo28
                have p4 : 0 ≤ (x7_1 : Int):=of_decide_eq_true (by first | (with_reducible assumption) | assumption)
                have q4 : x7_1 < (t1.length : Int):=of_decide_eq_true (by first | (with_reducible assumption) | assumption)
                obtain ⟨ad4,e4,hx4_0⟩:=Kd.at_int (Kd.R_reads' HO_5.out).2.2 x7_1 p4 q4
                cases e4
                replace p4:=eq_true p4
                replace q4:=eq_true q4
                have p5 : 0 ≤ ((rd t1 x7_1) : Int):=of_decide_eq_true (by first | (with_reducible assumption) | assumption)
                have q5 : (rd t1 x7_1) < (l0.length : Int):=of_decide_eq_true (by first | (with_reducible assumption) | assumption)
                obtain ⟨ad5,e5,hx5_0,hx5_1,hx5_2,hx5_3⟩:=at_T75 HR0.out (rd t1 x7_1) p5 q5
                cases e5
                replace hx5_0:=(HB.out.cell (World.block_lt_of_cell? w _ hx5_0)).trans hx5_0
                replace hx5_1:=(HB.out.cell (World.block_lt_of_cell? w _ hx5_1)).trans hx5_1
                replace hx5_2:=(HB.out.cell (World.block_lt_of_cell? w _ hx5_2)).trans hx5_2
                replace hx5_3:=(HB.out.cell (World.block_lt_of_cell? w _ hx5_3)).trans hx5_3
                replace p5:=eq_true p5
                replace q5:=eq_true q5
                have p6 : 0 ≤ ((ji11) : Int):=of_decide_eq_true (by first | (with_reducible assumption) | assumption)
                have q6 : (ji11) < (t1.length : Int):=of_decide_eq_true (by first | (with_reducible assumption) | assumption)
                obtain ⟨ad6,e6,hx6_0⟩:=Kd.at_int (Kd.R_reads' HO_5.out).2.2 (ji11) p6 q6
                obtain rfl : ad4 = ad6:=(by injection e6)
                replace p6:=eq_true p6
                replace q6:=eq_true q6
                have p7 : 0 ≤ ((rd t1 (ji11)) : Int):=of_decide_eq_true (by first | (with_reducible assumption) | assumption)
                have q7 : (rd t1 (ji11)) < (l0.length : Int):=of_decide_eq_true (by first | (with_reducible assumption) | assumption)
                obtain ⟨ad7,e7,hx7_0,hx7_1,hx7_2,hx7_3⟩:=at_T75 HR0.out (rd t1 (ji11)) p7 q7
                obtain rfl : ad5 = ad7:=(by injection e7)
                replace hx7_0:=(HB.out.cell (World.block_lt_of_cell? w _ hx7_0)).trans hx7_0
                replace hx7_1:=(HB.out.cell (World.block_lt_of_cell? w _ hx7_1)).trans hx7_1
                replace hx7_2:=(HB.out.cell (World.block_lt_of_cell? w _ hx7_2)).trans hx7_2
                replace hx7_3:=(HB.out.cell (World.block_lt_of_cell? w _ hx7_3)).trans hx7_3
                replace p7:=eq_true p7
                replace q7:=eq_true q7
                have p8 : 0 ≤ ((ji11) : Int):=of_decide_eq_true (by first | (with_reducible assumption) | assumption)
                have q8 : (ji11) < (t1.length : Int):=of_decide_eq_true (by first | (with_reducible assumption) | assumption)
                obtain ⟨ad8,e8,hx8_0⟩:=Kd.at_int (Kd.R_reads' HO_5.out).2.2 (ji11) p8 q8
                obtain rfl : ad4 = ad8:=(by injection e8)
                replace p8:=eq_true p8
                replace q8:=eq_true q8
                have p9 : 0 ≤ ((rd t1 (ji11)) : Int):=of_decide_eq_true (by first | (with_reducible assumption) | assumption)
                have q9 : (rd t1 (ji11)) < (l0.length : Int):=of_decide_eq_true (by first | (with_reducible assumption) | assumption)
                obtain ⟨ad9,e9,hx9_0,hx9_1,hx9_2,hx9_3⟩:=at_T75 HR0.out (rd t1 (ji11)) p9 q9
                obtain rfl : ad5 = ad9:=(by injection e9)
                replace hx9_0:=(HB.out.cell (World.block_lt_of_cell? w _ hx9_0)).trans hx9_0
                replace hx9_1:=(HB.out.cell (World.block_lt_of_cell? w _ hx9_1)).trans hx9_1
                replace hx9_2:=(HB.out.cell (World.block_lt_of_cell? w _ hx9_2)).trans hx9_2
                replace hx9_3:=(HB.out.cell (World.block_lt_of_cell? w _ hx9_3)).trans hx9_3
                replace p9:=eq_true p9
                replace q9:=eq_true q9
                go_wp2
                go_roundg k1
                case measure=>have:=HK1.out;omega
                case rel=>exact ⟨(wrap64 (x6_1 + 1)),(wrap64 (x7_1 + 1)),(by first | rfl | (simp;done) | (simp [*];done)),(by first | rfl | (simp;done) | (simp [*];done)),H',⟨by have:=HK1.out;omega⟩,⟨by (with_reducible repeat (first | apply Kd.R_alloc | apply Kd.R_drewN | apply Kd.R_drew));exact HO_5.out⟩,⟨hbw_⟩⟩
            ·rw [if_neg c15] at H
             exact absurd H (by simp)
           ·rw [if_neg c14] at H
            exact absurd H (by simp)
          ·rw [if_neg c13] at H
           exact absurd H (by simp)
         ·rw [if_neg c12] at H
          exact absurd H (by simp)
        ·rw [if_neg c10] at H
         have c10b0 : decide (1 < x7_1) = false:=decide_eq_false c10
         clear c10
         by_cases c29 : ((rd_T75 l0 (rd t1 x7_1)).f1) = 9
         ·rw [if_pos c29] at H
          have c29b0 : (((rd_T75 l0 (rd t1 x7_1)).f1) == 9) = true:=beq_iff_eq.mpr c29
          have c29b1 : (((rd_T75 l0 (rd t1 x7_1)).f1) != 9) = false:=bne_eq_false_iff_eq.mpr c29
          clear c29
          by_cases c30 : (wrap64 (x6_1 + 1)) = 0
          ·rw [if_pos c30] at H
           have c30b0 : ((wrap64 (x6_1 + 1)) == 0) = true:=beq_iff_eq.mpr c30
           have c30b1 : ((wrap64 (x6_1 + 1)) != 0) = false:=bne_eq_false_iff_eq.mpr c30
           clear c30
           obtain rfl:=Option.some.inj H
           obtain ⟨Ao31,co31,eo31⟩:=Kd.R_slice HO_5.out
           subst eo31
           have p4 : 0 ≤ (x7_1 : Int):=of_decide_eq_true (by first | (with_reducible assumption) | assumption)
           have q4 : x7_1 < (t1.length : Int):=of_decide_eq_true (by first | (with_reducible assumption) | assumption)
           obtain ⟨ad4,e4,hx4_0⟩:=Kd.at_int (Kd.R_reads' HO_5.out).2.2 x7_1 p4 q4
           cases e4
           replace p4:=eq_true p4
           replace q4:=eq_true q4
           have p5 : 0 ≤ ((rd t1 x7_1) : Int):=of_decide_eq_true (by first | (with_reducible assumption) | assumption)
           have q5 : (rd t1 x7_1) < (l0.length : Int):=of_decide_eq_true (by first | (with_reducible assumption) | assumption)
           obtain ⟨ad5,e5,hx5_0,hx5_1,hx5_2,hx5_3⟩:=at_T75 HR0.out (rd t1 x7_1) p5 q5
           cases e5
           replace hx5_0:=(HB.out.cell (World.block_lt_of_cell? w _ hx5_0)).trans hx5_0
           replace hx5_1:=(HB.out.cell (World.block_lt_of_cell? w _ hx5_1)).trans hx5_1
           replace hx5_2:=(HB.out.cell (World.block_lt_of_cell? w _ hx5_2)).trans hx5_2
           replace hx5_3:=(HB.out.cell (World.block_lt_of_cell? w _ hx5_3)).trans hx5_3
           replace p5:=eq_true p5
           replace q5:=eq_true q5
           go_wp2
           go_ret
           exact ⟨by first | rfl | (simp [errW_none,errW_some] <;> rfl) | (simp [*,errW_none,errW_some] <;> rfl),hbw_⟩
          ·rw [if_neg c30] at H
           have c30b0 : ((wrap64 (x6_1 + 1)) == 0) = false:=beq_eq_false_iff_ne.mpr c30
           have c30b1 : ((wrap64 (x6_1 + 1)) != 0) = true:=bne_iff_ne.mpr c30
           have H':=a0_ H
           clear H
           obtain ⟨Ao32,co32,eo32⟩:=Kd.R_slice HO_5.out
           subst eo32
           have p4 : 0 ≤ (x7_1 : Int):=of_decide_eq_true (by first | (with_reducible assumption) | assumption)
           have q4 : x7_1 < (t1.length : Int):=of_decide_eq_true (by first | (with_reducible assumption) | assumption)
           obtain ⟨ad4,e4,hx4_0⟩:=Kd.at_int (Kd.R_reads' HO_5.out).2.2 x7_1 p4 q4
           cases e4
           replace p4:=eq_true p4
           replace q4:=eq_true q4
           have p5 : 0 ≤ ((rd t1 x7_1) : Int):=of_decide_eq_true (by first | (with_reducible assumption) | assumption)
           have q5 : (rd t1 x7_1) < (l0.length : Int):=of_decide_eq_true (by first | (with_reducible assumption) | assumption)
           obtain ⟨ad5,e5,hx5_0,hx5_1,hx5_2,hx5_3⟩:=at_T75 HR0.out (rd t1 x7_1) p5 q5
           cases e5
           replace hx5_0:=(HB.out.cell (World.block_lt_of_cell? w _ hx5_0)).trans hx5_0
           replace hx5_1:=(HB.out.cell (World.block_lt_of_cell? w _ hx5_1)).trans hx5_1
           replace hx5_2:=(HB.out.cell (World.block_lt_of_cell? w _ hx5_2)).trans hx5_2
           replace hx5_3:=(HB.out.cell (World.block_lt_of_cell? w _ hx5_3)).trans hx5_3
           replace p5:=eq_true p5
           replace q5:=eq_true q5
           go_wp2
           go_roundg k1
           case measure=>have:=HK1.out;omega
           case rel=>exact ⟨(wrap64 (x6_1 + 1)),(wrap64 (x7_1 + 1)),(by first | rfl | (simp;done) | (simp [*];done)),(by first | rfl | (simp;done) | (simp [*];done)),H',⟨by have:=HK1.out;omega⟩,⟨by (with_reducible repeat (first | apply Kd.R_alloc | apply Kd.R_drewN | apply Kd.R_drew));exact HO_5.out⟩,⟨hbw_⟩⟩
         ·rw [if_neg c29] at H
          have c29b0 : (((rd_T75 l0 (rd t1 x7_1)).f1) == 9) = false:=beq_eq_false_iff_ne.mpr c29
          have c29b1 : (((rd_T75 l0 (rd t1 x7_1)).f1) != 9) = true:=bne_iff_ne.mpr c29
          have H':=a0_ H
          clear H
          obtain ⟨Ao33,co33,eo33⟩:=Kd.R_slice HO_5.out
          subst eo33
          have p4 : 0 ≤ (x7_1 : Int):=of_decide_eq_true (by first | (with_reducible assumption) | assumption)
          have q4 : x7_1 < (t1.length : Int):=of_decide_eq_true (by first | (with_reducible assumption) | assumption)
          obtain ⟨ad4,e4,hx4_0⟩:=Kd.at_int (Kd.R_reads' HO_5.out).2.2 x7_1 p4 q4
          cases e4
          replace p4:=eq_true p4
          replace q4:=eq_true q4
          have p5 : 0 ≤ ((rd t1 x7_1) : Int):=of_decide_eq_true (by first | (with_reducible assumption) | assumption)
          have q5 : (rd t1 x7_1) < (l0.length : Int):=of_decide_eq_true (by first | (with_reducible assumption) | assumption)
          obtain ⟨ad5,e5,hx5_0,hx5_1,hx5_2,hx5_3⟩:=at_T75 HR0.out (rd t1 x7_1) p5 q5
          cases e5
          replace hx5_0:=(HB.out.cell (World.block_lt_of_cell? w _ hx5_0)).trans hx5_0
          replace hx5_1:=(HB.out.cell (World.block_lt_of_cell? w _ hx5_1)).trans hx5_1
          replace hx5_2:=(HB.out.cell (World.block_lt_of_cell? w _ hx5_2)).trans hx5_2
          replace hx5_3:=(HB.out.cell (World.block_lt_of_cell? w _ hx5_3)).trans hx5_3
          replace p5:=eq_true p5
          replace q5:=eq_true q5
          go_wp2
          go_roundg k1
          case measure=>have:=HK1.out;omega
          case rel=>exact ⟨(wrap64 (x6_1 + 1)),(wrap64 (x7_1 + 1)),(by first | rfl | (simp;done) | (simp [*];done)),(by first | rfl | (simp;done) | (simp [*];done)),H',⟨by have:=HK1.out;omega⟩,⟨by (with_reducible repeat (first | apply Kd.R_alloc | apply Kd.R_drewN | apply Kd.R_drew));exact HO_5.out⟩,⟨hbw_⟩⟩
       ·rw [if_neg c9] at H
        have c9b0 : (((rd_T75 l0 (rd t1 x7_1)).f1) == 8) = false:=beq_eq_false_iff_ne.mpr c9
        have c9b1 : (((rd_T75 l0 (rd t1 x7_1)).f1) != 8) = true:=bne_iff_ne.mpr c9
        by_cases c34 : x7_1 > 1
        ·rw [if_pos c34] at H
         have c34b0 : decide (1 < x7_1) = true:=decide_eq_true c34
         clear c34
         obtain ⟨ji35,hji35⟩ : ∃ j_ : Int,(wrap64 (x7_1 - 1)) = j_:=⟨_,rfl⟩
         replace H : (if 0 ≤ (ji35) then (if (ji35) < (t1.length : Int) then (if 0 ≤ (rd t1 (ji35)) then (if (rd t1 (ji35)) < (l0.length : Int) then (if ((rd_T75 l0 (rd t1 x7_1)).f1) < ((rd_T75 l0 (rd t1 (ji35))).f1) then (some false) else (if ((rd_T75 l0 (rd t1 x7_1)).f1) = ((rd_T75 l0 (rd t1 (ji35))).f1) then (some false) else (if ((rd_T75 l0 (rd t1 x7_1)).f1) = 9 then (if x6_1 = 0 then (some false) else (spec_validChain.l0 k1 l0 t1 x6_1 (wrap64 (x7_1 + 1)))) else (spec_validChain.l0 k1 l0 t1 x6_1 (wrap64 (x7_1 + 1)))))) else (none)) else (none)) else (none)) else (none)) = some r:=by first | (rw [hji35] at H;exact H) | (simp only [hji35] at H ⊢;exact H)
         have hji35w : (IntKind.i64.wrap (x7_1 - 1)) = ji35:=(i64_w _).trans hji35
         by_cases c36 : 0 ≤ (ji35)
         ·rw [if_pos c36] at H
          have c36b0 : decide (0 ≤ (ji35)) = true:=decide_eq_true c36
          clear c36
          by_cases c37 : (ji35) < (t1.length : Int)
          ·rw [if_pos c37] at H
           have c37b0 : decide ((ji35) < (t1.length : Int)) = true:=decide_eq_true c37
           clear c37
           by_cases c38 : 0 ≤ (rd t1 (ji35))
           ·rw [if_pos c38] at H
            have c38b0 : decide (0 ≤ (rd t1 (ji35))) = true:=decide_eq_true c38
            clear c38
            by_cases c39 : (rd t1 (ji35)) < (l0.length : Int)
            ·rw [if_pos c39] at H
             have c39b0 : decide ((rd t1 (ji35)) < (l0.length : Int)) = true:=decide_eq_true c39
             clear c39
             by_cases c40 : ((rd_T75 l0 (rd t1 x7_1)).f1) < ((rd_T75 l0 (rd t1 (ji35))).f1)
             ·rw [if_pos c40] at H
              have c40b0 : decide (((rd_T75 l0 (rd t1 x7_1)).f1) < ((rd_T75 l0 (rd t1 (ji35))).f1)) = true:=decide_eq_true c40
              clear c40
              obtain rfl:=Option.some.inj H
              obtain ⟨Ao41,co41,eo41⟩:=Kd.R_slice HO_5.out
              subst eo41
              have p4 : 0 ≤ (x7_1 : Int):=of_decide_eq_true (by first | (with_reducible assumption) | assumption)
              have q4 : x7_1 < (t1.length : Int):=of_decide_eq_true (by first | (with_reducible assumption) | assumption)
              obtain ⟨ad4,e4,hx4_0⟩:=Kd.at_int (Kd.R_reads' HO_5.out).2.2 x7_1 p4 q4
              cases e4
              replace p4:=eq_true p4
              replace q4:=eq_true q4
              have p5 : 0 ≤ ((rd t1 x7_1) : Int):=of_decide_eq_true (by first | (with_reducible assumption) | assumption)
              have q5 : (rd t1 x7_1) < (l0.length : Int):=of_decide_eq_true (by first | (with_reducible assumption) | assumption)
              obtain ⟨ad5,e5,hx5_0,hx5_1,hx5_2,hx5_3⟩:=at_T75 HR0.out (rd t1 x7_1) p5 q5
              cases e5
              replace hx5_0:=(HB.out.cell (World.block_lt_of_cell? w _ hx5_0)).trans hx5_0
              replace hx5_1:=(HB.out.cell (World.block_lt_of_cell? w _ hx5_1)).trans hx5_1
              replace hx5_2:=(HB.out.cell (World.block_lt_of_cell? w _ hx5_2)).trans hx5_2
              replace hx5_3:=(HB.out.cell (World.block_lt_of_cell? w _ hx5_3)).trans hx5_3
              replace p5:=eq_true p5
              replace q5:=eq_true q5
              have p10 : 0 ≤ ((ji35) : Int):=of_decide_eq_true (by first | (with_reducible assumption) | assumption)
              have q10 : (ji35) < (t1.length : Int):=of_decide_eq_true (by first | (with_reducible assumption) | assumption)
              obtain ⟨ad10,e10,hx10_0⟩:=Kd.at_int (Kd.R_reads' HO_5.out).2.2 (ji35) p10 q10
              obtain rfl : ad4 = ad10:=(by injection e10)
              replace p10:=eq_true p10
              replace q10:=eq_true q10
              have p11 : 0 ≤ ((rd t1 (ji35)) : Int):=of_decide_eq_true (by first | (with_reducible assumption) | assumption)
              have q11 : (rd t1 (ji35)) < (l0.length : Int):=of_decide_eq_true (by first | (with_reducible assumption) | assumption)
              obtain ⟨ad11,e11,hx11_0,hx11_1,hx11_2,hx11_3⟩:=at_T75 HR0.out (rd t1 (ji35)) p11 q11
              obtain rfl : ad5 = ad11:=(by injection e11)
              replace hx11_0:=(HB.out.cell (World.block_lt_of_cell? w _ hx11_0)).trans hx11_0
              replace hx11_1:=(HB.out.cell (World.block_lt_of_cell? w _ hx11_1)).trans hx11_1
              replace hx11_2:=(HB.out.cell (World.block_lt_of_cell? w _ hx11_2)).trans hx11_2
              replace hx11_3:=(HB.out.cell (World.block_lt_of_cell? w _ hx11_3)).trans hx11_3
              replace p11:=eq_true p11
              replace q11:=eq_true q11
              go_wp2
              go_ret
              exact ⟨by first | rfl | (simp [errW_none,errW_some] <;> rfl) | (simp only [← hji35];first | rfl | (simp [errW_none,errW_some] <;> rfl)) | (simp [*,errW_none,errW_some] <;> rfl),hbw_⟩
             ·rw [if_neg c40] at H
              have c40b0 : decide (((rd_T75 l0 (rd t1 x7_1)).f1) < ((rd_T75 l0 (rd t1 (ji35))).f1)) = false:=decide_eq_false c40
              clear c40
              by_cases c42 : ((rd_T75 l0 (rd t1 x7_1)).f1) = ((rd_T75 l0 (rd t1 (ji35))).f1)
              ·rw [if_pos c42] at H
               have c42b0 : (((rd_T75 l0 (rd t1 x7_1)).f1) == ((rd_T75 l0 (rd t1 (ji35))).f1)) = true:=beq_iff_eq.mpr c42
               have c42b1 : (((rd_T75 l0 (rd t1 x7_1)).f1) != ((rd_T75 l0 (rd t1 (ji35))).f1)) = false:=bne_eq_false_iff_eq.mpr c42
               clear c42
               obtain rfl:=Option.some.inj H
               obtain ⟨Ao43,co43,eo43⟩:=Kd.R_slice HO_5.out
               subst eo43
               have p4 : 0 ≤ (x7_1 : Int):=of_decide_eq_true (by first | (with_reducible assumption) | assumption)
               have q4 : x7_1 < (t1.length : Int):=of_decide_eq_true (by first | (with_reducible assumption) | assumption)
               obtain ⟨ad4,e4,hx4_0⟩:=Kd.at_int (Kd.R_reads' HO_5.out).2.2 x7_1 p4 q4
               cases e4
               replace p4:=eq_true p4
               replace q4:=eq_true q4
               have p5 : 0 ≤ ((rd t1 x7_1) : Int):=of_decide_eq_true (by first | (with_reducible assumption) | assumption)
               have q5 : (rd t1 x7_1) < (l0.length : Int):=of_decide_eq_true (by first | (with_reducible assumption) | assumption)
               obtain ⟨ad5,e5,hx5_0,hx5_1,hx5_2,hx5_3⟩:=at_T75 HR0.out (rd t1 x7_1) p5 q5
               cases e5
               replace hx5_0:=(HB.out.cell (World.block_lt_of_cell? w _ hx5_0)).trans hx5_0
               replace hx5_1:=(HB.out.cell (World.block_lt_of_cell? w _ hx5_1)).trans hx5_1
               replace hx5_2:=(HB.out.cell (World.block_lt_of_cell? w _ hx5_2)).trans hx5_2
               replace hx5_3:=(HB.out.cell (World.block_lt_of_cell? w _ hx5_3)).trans hx5_3
               replace p5:=eq_true p5
               replace q5:=eq_true q5
               have p10 : 0 ≤ ((ji35) : Int):=of_decide_eq_true (by first | (with_reducible assumption) | assumption)
               have q10 : (ji35) < (t1.length : Int):=of_decide_eq_true (by first | (with_reducible assumption) | assumption)
               obtain ⟨ad10,e10,hx10_0⟩:=Kd.at_int (Kd.R_reads' HO_5.out).2.2 (ji35) p10 q10
               obtain rfl : ad4 = ad10:=(by injection e10)
               replace p10:=eq_true p10
               replace q10:=eq_true q10
               have p11 : 0 ≤ ((rd t1 (ji35)) : Int):=of_decide_eq_true (by first | (with_reducible assumption) | assumption)
               have q11 : (rd t1 (ji35)) < (l0.length : Int):=of_decide_eq_true (by first | (with_reducible assumption) | assumption)
               obtain ⟨ad11,e11,hx11_0,hx11_1,hx11_2,hx11_3⟩:=at_T75 HR0.out (rd t1 (ji35)) p11 q11
               obtain rfl : ad5 = ad11:=(by injection e11)
               replace hx11_0:=(HB.out.cell (World.block_lt_of_cell? w _ hx11_0)).trans hx11_0
               replace hx11_1:=(HB.out.cell (World.block_lt_of_cell? w _ hx11_1)).trans hx11_1
               replace hx11_2:=(HB.out.cell (World.block_lt_of_cell? w _ hx11_2)).trans hx11_2
               replace hx11_3:=(HB.out.cell (World.block_lt_of_cell? w _ hx11_3)).trans hx11_3
               replace p11:=eq_true p11
               replace q11:=eq_true q11
               have p12 : 0 ≤ ((ji35) : Int):=of_decide_eq_true (by first | (with_reducible assumption) | assumption)
               have q12 : (ji35) < (t1.length : Int):=of_decide_eq_true (by first | (with_reducible assumption) | assumption)
               obtain ⟨ad12,e12,hx12_0⟩:=Kd.at_int (Kd.R_reads' HO_5.out).2.2 (ji35) p12 q12
               obtain rfl : ad4 = ad12:=(by injection e12)
               replace p12:=eq_true p12
               replace q12:=eq_true q12
               have p13 : 0 ≤ ((rd t1 (ji35)) : Int):=of_decide_eq_true (by first | (with_reducible assumption) | assumption)
               have q13 : (rd t1 (ji35)) < (l0.length : Int):=of_decide_eq_true (by first | (with_reducible assumption) | assumption)
               obtain ⟨ad13,e13,hx13_0,hx13_1,hx13_2,hx13_3⟩:=at_T75 HR0.out (rd t1 (ji35)) p13 q13
               obtain rfl : ad5 = ad13:=(by injection e13)
               replace hx13_0:=(HB.out.cell (World.block_lt_of_cell? w _ hx13_0)).trans hx13_0
               replace hx13_1:=(HB.out.cell (World.block_lt_of_cell? w _ hx13_1)).trans hx13_1
               replace hx13_2:=(HB.out.cell (World.block_lt_of_cell? w _ hx13_2)).trans hx13_2
               replace hx13_3:=(HB.out.cell (World.block_lt_of_cell? w _ hx13_3)).trans hx13_3
               replace p13:=eq_true p13
               replace q13:=eq_true q13
               go_wp2
               go_ret
               exact ⟨by first | rfl | (simp [errW_none,errW_some] <;> rfl) | (simp only [← hji35];first | rfl | (simp [errW_none,errW_some] <;> rfl)) | (simp [*,errW_none,errW_some] <;> rfl),hbw_⟩
              ·rw [if_neg c42] at H
               have c42b0 : (((rd_T75 l0 (rd t1 x7_1)).f1) == ((rd_T75 l0 (rd t1 (ji35))).f1)) = false:=beq_eq_false_iff_ne.mpr c42
               have c42b1 : (((rd_T75 l0 (rd t1 x7_1)).f1) != ((rd_T75 l0 (rd t1 (ji35))).f1)) = true:=bne_iff_ne.mpr c42
               by_cases c44 : ((rd_T75 l0 (rd t1 x7_1)).f1) = 9
               ·rw [if_pos c44] at H
                have c44b0 : (((rd_T75 l0 (rd t1 x7_1)).f1) == 9) = true:=beq_iff_eq.mpr c44
                have c44b1 : (((rd_T75 l0 (rd t1 x7_1)).f1) != 9) = false:=bne_eq_false_iff_eq.mpr c44
                clear c44
                by_cases c45 : x6_1 = 0
                ·rw [if_pos c45] at H
                 have c45b0 : (x6_1 == 0) = true:=beq_iff_eq.mpr c45
                 have c45b1 : (x6_1 != 0) = false:=bne_eq_false_iff_eq.mpr c45
                 clear c45
                 obtain rfl:=Option.some.inj H
                 obtain ⟨Ao46,co46,eo46⟩:=Kd.R_slice HO_5.out
                 subst eo46
                 have p4 : 0 ≤ (x7_1 : Int):=of_decide_eq_true (by first | (with_reducible assumption) | assumption)
                 have q4 : x7_1 < (t1.length : Int):=of_decide_eq_true (by first | (with_reducible assumption) | assumption)
                 obtain ⟨ad4,e4,hx4_0⟩:=Kd.at_int (Kd.R_reads' HO_5.out).2.2 x7_1 p4 q4
                 cases e4
                 replace p4:=eq_true p4
                 replace q4:=eq_true q4
                 have p5 : 0 ≤ ((rd t1 x7_1) : Int):=of_decide_eq_true (by first | (with_reducible assumption) | assumption)
                 have q5 : (rd t1 x7_1) < (l0.length : Int):=of_decide_eq_true (by first | (with_reducible assumption) | assumption)
                 obtain ⟨ad5,e5,hx5_0,hx5_1,hx5_2,hx5_3⟩:=at_T75 HR0.out (rd t1 x7_1) p5 q5
                 cases e5
                 replace hx5_0:=(HB.out.cell (World.block_lt_of_cell? w _ hx5_0)).trans hx5_0
                 replace hx5_1:=(HB.out.cell (World.block_lt_of_cell? w _ hx5_1)).trans hx5_1
                 replace hx5_2:=(HB.out.cell (World.block_lt_of_cell? w _ hx5_2)).trans hx5_2
                 replace hx5_3:=(HB.out.cell (World.block_lt_of_cell? w _ hx5_3)).trans hx5_3
                 replace p5:=eq_true p5
                 replace q5:=eq_true q5
                 have p10 : 0 ≤ ((ji35) : Int):=of_decide_eq_true (by first | (with_reducible assumption) | assumption)
                 have q10 : (ji35) < (t1.length : Int):=of_decide_eq_true (by first | (with_reducible assumption) | assumption)
                 obtain ⟨ad10,e10,hx10_0⟩:=Kd.at_int (Kd.R_reads' HO_5.out).2.2 (ji35) p10 q10
                 obtain rfl : ad4 = ad10:=(by injection e10)
                 replace p10:=eq_true p10
                 replace q10:=eq_true q10
                 have p11 : 0 ≤ ((rd t1 (ji35)) : Int):=of_decide_eq_true (by first | (with_reducible assumption) | assumption)
                 have q11 : (rd t1 (ji35)) < (l0.length : Int):=of_decide_eq_true (by first | (with_reducible assumption) | assumption)
                 obtain ⟨ad11,e11,hx11_0,hx11_1,hx11_2,hx11_3⟩:=at_T75 HR0.out (rd t1 (ji35)) p11 q11
                 obtain rfl : ad5 = ad11:=(by injection e11)
                 replace hx11_0:=(HB.out.cell (World.block_lt_of_cell? w _ hx11_0)).trans hx11_0
                 replace hx11_1:=(HB.out.cell (World.block_lt_of_cell? w _ hx11_1)).trans hx11_1
                 replace hx11_2:=(HB.out.cell (World.block_lt_of_cell? w _ hx11_2)).trans hx11_2
                 replace hx11_3:=(HB.out.cell (World.block_lt_of_cell? w _ hx11_3)).trans hx11_3
                 replace p11:=eq_true p11
                 replace q11:=eq_true q11
                 have p12 : 0 ≤ ((ji35) : Int):=of_decide_eq_true (by first | (with_reducible assumption) | assumption)
                 have q12 : (ji35) < (t1.length : Int):=of_decide_eq_true (by first | (with_reducible assumption) | assumption)
                 obtain ⟨ad12,e12,hx12_0⟩:=Kd.at_int (Kd.R_reads' HO_5.out).2.2 (ji35) p12 q12
                 obtain rfl : ad4 = ad12:=(by injection e12)
                 replace p12:=eq_true p12
                 replace q12:=eq_true q12
                 have p13 : 0 ≤ ((rd t1 (ji35)) : Int):=of_decide_eq_true (by first | (with_reducible assumption) | assumption)
                 have q13 : (rd t1 (ji35)) < (l0.length : Int):=of_decide_eq_true (by first | (with_reducible assumption) | assumption)
                 obtain ⟨ad13,e13,hx13_0,hx13_1,hx13_2,hx13_3⟩:=at_T75 HR0.out (rd t1 (ji35)) p13 q13
                 obtain rfl : ad5 = ad13:=(by injection e13)
                 replace hx13_0:=(HB.out.cell (World.block_lt_of_cell? w _ hx13_0)).trans hx13_0
                 replace hx13_1:=(HB.out.cell (World.block_lt_of_cell? w _ hx13_1)).trans hx13_1
                 replace hx13_2:=(HB.out.cell (World.block_lt_of_cell? w _ hx13_2)).trans hx13_2
                 replace hx13_3:=(HB.out.cell (World.block_lt_of_cell? w _ hx13_3)).trans hx13_3
                 replace p13:=eq_true p13
                 replace q13:=eq_true q13
                 go_wp2
                 go_ret
                 exact ⟨by first | rfl | (simp [errW_none,errW_some] <;> rfl) | (simp only [← hji35];first | rfl | (simp [errW_none,errW_some] <;> rfl)) | (simp [*,errW_none,errW_some] <;> rfl),hbw_⟩
                ·rw [if_neg c45] at H
                 have c45b0 : (x6_1 == 0) = false:=beq_eq_false_iff_ne.mpr c45
                 have c45b1 : (x6_1 != 0) = true:=bne_iff_ne.mpr c45
                 have H':=a0_ H
                 clear H
                 obtain ⟨Ao47,co47,eo47⟩:=Kd.R_slice HO_5.out
                 subst eo47
                 have p4 : 0 ≤ (x7_1 : Int):=of_decide_eq_true (by first | (with_reducible assumption) | assumption)
                 have q4 : x7_1 < (t1.length : Int):=of_decide_eq_true (by first | (with_reducible assumption) | assumption)
                 obtain ⟨ad4,e4,hx4_0⟩:=Kd.at_int (Kd.R_reads' HO_5.out).2.2 x7_1 p4 q4
                 cases e4
                 replace p4:=eq_true p4
                 replace q4:=eq_true q4
                 have p5 : 0 ≤ ((rd t1 x7_1) : Int):=of_decide_eq_true (by first | (with_reducible assumption) | assumption)
                 have q5 : (rd t1 x7_1) < (l0.length : Int):=of_decide_eq_true (by first | (with_reducible assumption) | assumption)
                 obtain ⟨ad5,e5,hx5_0,hx5_1,hx5_2,hx5_3⟩:=at_T75 HR0.out (rd t1 x7_1) p5 q5
                 cases e5
                 replace hx5_0:=(HB.out.cell (World.block_lt_of_cell? w _ hx5_0)).trans hx5_0
                 replace hx5_1:=(HB.out.cell (World.block_lt_of_cell? w _ hx5_1)).trans hx5_1
                 replace hx5_2:=(HB.out.cell (World.block_lt_of_cell? w _ hx5_2)).trans hx5_2
                 replace hx5_3:=(HB.out.cell (World.block_lt_of_cell? w _ hx5_3)).trans hx5_3
                 replace p5:=eq_true p5
                 replace q5:=eq_true q5
                 have p10 : 0 ≤ ((ji35) : Int):=of_decide_eq_true (by first | (with_reducible assumption) | assumption)
                 have q10 : (ji35) < (t1.length : Int):=of_decide_eq_true (by first | (with_reducible assumption) | assumption)
                 obtain ⟨ad10,e10,hx10_0⟩:=Kd.at_int (Kd.R_reads' HO_5.out).2.2 (ji35) p10 q10
                 obtain rfl : ad4 = ad10:=(by injection e10)
                 replace p10:=eq_true p10
                 replace q10:=eq_true q10
                 have p11 : 0 ≤ ((rd t1 (ji35)) : Int):=of_decide_eq_true (by first | (with_reducible assumption) | assumption)
                 have q11 : (rd t1 (ji35)) < (l0.length : Int):=of_decide_eq_true (by first | (with_reducible assumption) | assumption)
                 obtain ⟨ad11,e11,hx11_0,hx11_1,hx11_2,hx11_3⟩:=at_T75 HR0.out (rd t1 (ji35)) p11 q11
                 obtain rfl : ad5 = ad11:=(by injection e11)
                 replace hx11_0:=(HB.out.cell (World.block_lt_of_cell? w _ hx11_0)).trans hx11_0
                 replace hx11_1:=(HB.out.cell (World.block_lt_of_cell? w _ hx11_1)).trans hx11_1
                 replace hx11_2:=(HB.out.cell (World.block_lt_of_cell? w _ hx11_2)).trans hx11_2
                 replace hx11_3:=(HB.out.cell (World.block_lt_of_cell? w _ hx11_3)).trans hx11_3
                 replace p11:=eq_true p11
                 replace q11:=eq_true q11
                 have p12 : 0 ≤ ((ji35) : Int):=of_decide_eq_true (by first | (with_reducible assumption) | assumption)
                 have q12 : (ji35) < (t1.length : Int):=of_decide_eq_true (by first | (with_reducible assumption) | assumption)
                 obtain ⟨ad12,e12,hx12_0⟩:=Kd.at_int (Kd.R_reads' HO_5.out).2.2 (ji35) p12 q12
                 obtain rfl : ad4 = ad12:=(by injection e12)
                 replace p12:=eq_true p12
                 replace q12:=eq_true q12
                 have p13 : 0 ≤ ((rd t1 (ji35)) : Int):=of_decide_eq_true (by first | (with_reducible assumption) | assumption)
                 have q13 : (rd t1 (ji35)) < (l0.length : Int):=of_decide_eq_true (by first | (with_reducible assumption) | assumption)
                 obtain ⟨ad13,e13,hx13_0,hx13_1,hx13_2,hx13_3⟩:=at_T75 HR0.out (rd t1 (ji35)) p13 q13
                 obtain rfl : ad5 = ad13:=(by injection e13)
                 replace hx13_0:=(HB.out.cell (World.block_lt_of_cell? w _ hx13_0)).trans hx13_0
                 replace hx13_1:=(HB.out.cell (World.block_lt_of_cell? w _ hx13_1)).trans hx13_1
                 replace hx13_2:=(HB.out.cell (World.block_lt_of_cell? w _ hx13_2)).trans hx13_2
                 replace hx13_3:=(HB.out.cell (World.block_lt_of_cell? w _ hx13_3)).trans hx13_3
                 replace p13:=eq_true p13
                 replace q13:=eq_true q13
                 go_wp2
                 go_roundg k1
                 case measure=>have:=HK1.out;omega
                 case rel=>exact ⟨(x6_1),(wrap64 (x7_1 + 1)),(by first | rfl | (simp;done) | (simp [*];done)),(by first | rfl | (simp;done) | (simp [*];done)),H',⟨by have:=HK1.out;omega⟩,⟨by (with_reducible repeat (first | apply Kd.R_alloc | apply Kd.R_drewN | apply Kd.R_drew));exact HO_5.out⟩,⟨hbw_⟩⟩
               ·rw [if_neg c44] at H
                have c44b0 : (((rd_T75 l0 (rd t1 x7_1)).f1) == 9) = false:=beq_eq_false_iff_ne.mpr c44
                have c44b1 : (((rd_T75 l0 (rd t1 x7_1)).f1) != 9) = true:=bne_iff_ne.mpr c44
                have H':=a0_ H
                clear H
                obtain ⟨Ao48,co48,eo48⟩:=Kd.R_slice HO_5.out
                subst eo48
                have p4 : 0 ≤ (x7_1 : Int):=of_decide_eq_true (by first | (with_reducible assumption) | assumption)
                have q4 : x7_1 < (t1.length : Int):=of_decide_eq_true (by first | (with_reducible assumption) | assumption)
                obtain ⟨ad4,e4,hx4_0⟩:=Kd.at_int (Kd.R_reads' HO_5.out).2.2 x7_1 p4 q4
                cases e4
                replace p4:=eq_true p4
                replace q4:=eq_true q4
                have p5 : 0 ≤ ((rd t1 x7_1) : Int):=of_decide_eq_true (by first | (with_reducible assumption) | assumption)
                have q5 : (rd t1 x7_1) < (l0.length : Int):=of_decide_eq_true (by first | (with_reducible assumption) | assumption)
                obtain ⟨ad5,e5,hx5_0,hx5_1,hx5_2,hx5_3⟩:=at_T75 HR0.out (rd t1 x7_1) p5 q5
                cases e5
                replace hx5_0:=(HB.out.cell (World.block_lt_of_cell? w _ hx5_0)).trans hx5_0
                replace hx5_1:=(HB.out.cell (World.block_lt_of_cell? w _ hx5_1)).trans hx5_1
                replace hx5_2:=(HB.out.cell (World.block_lt_of_cell? w _ hx5_2)).trans hx5_2
                replace hx5_3:=(HB.out.cell (World.block_lt_of_cell? w _ hx5_3)).trans hx5_3
                replace p5:=eq_true p5
                replace q5:=eq_true q5
                have p10 : 0 ≤ ((ji35) : Int):=of_decide_eq_true (by first | (with_reducible assumption) | assumption)
                have q10 : (ji35) < (t1.length : Int):=of_decide_eq_true (by first | (with_reducible assumption) | assumption)
                obtain ⟨ad10,e10,hx10_0⟩:=Kd.at_int (Kd.R_reads' HO_5.out).2.2 (ji35) p10 q10
                obtain rfl : ad4 = ad10:=(by injection e10)
                replace p10:=eq_true p10
                replace q10:=eq_true q10
                have p11 : 0 ≤ ((rd t1 (ji35)) : Int):=of_decide_eq_true (by first | (with_reducible assumption) | assumption)
                have q11 : (rd t1 (ji35)) < (l0.length : Int):=of_decide_eq_true (by first | (with_reducible assumption) | assumption)
                obtain ⟨ad11,e11,hx11_0,hx11_1,hx11_2,hx11_3⟩:=at_T75 HR0.out (rd t1 (ji35)) p11 q11
                obtain rfl : ad5 = ad11:=(by injection e11)
                replace hx11_0:=(HB.out.cell (World.block_lt_of_cell? w _ hx11_0)).trans hx11_0
                replace hx11_1:=(HB.out.cell (World.block_lt_of_cell? w _ hx11_1)).trans hx11_1
                replace hx11_2:=(HB.out.cell (World.block_lt_of_cell? w _ hx11_2)).trans hx11_2
                replace hx11_3:=(HB.out.cell (World.block_lt_of_cell? w _ hx11_3)).trans hx11_3
                replace p11:=eq_true p11
                replace q11:=eq_true q11
                have p12 : 0 ≤ ((ji35) : Int):=of_decide_eq_true (by first | (with_reducible assumption) | assumption)
                have q12 : (ji35) < (t1.length : Int):=of_decide_eq_true (by first | (with_reducible assumption) | assumption)
                obtain ⟨ad12,e12,hx12_0⟩:=Kd.at_int (Kd.R_reads' HO_5.out).2.2 (ji35) p12 q12
                obtain rfl : ad4 = ad12:=(by injection e12)
                replace p12:=eq_true p12
                replace q12:=eq_true q12
                have p13 : 0 ≤ ((rd t1 (ji35)) : Int):=of_decide_eq_true (by first | (with_reducible assumption) | assumption)
                have q13 : (rd t1 (ji35)) < (l0.length : Int):=of_decide_eq_true (by first | (with_reducible assumption) | assumption)
                obtain ⟨ad13,e13,hx13_0,hx13_1,hx13_2,hx13_3⟩:=at_T75 HR0.out (rd t1 (ji35)) p13 q13
                obtain rfl : ad5 = ad13:=(by injection e13)
                replace hx13_0:=(HB.out.cell (World.block_lt_of_cell? w _ hx13_0)).trans hx13_0
                replace hx13_1:=(HB.out.cell (World.block_lt_of_cell? w _ hx13_1)).trans hx13_1
                replace hx13_2:=(HB.out.cell (World.block_lt_of_cell? w _ hx13_2)).trans hx13_2
                replace hx13_3:=(HB.out.cell (World.block_lt_of_cell? w _ hx13_3)).trans hx13_3
                replace p13:=eq_true p13
                replace q13:=eq_true q13
                go_wp2
                go_roundg k1
                case measure=>have:=HK1.out;omega
                case rel=>exact ⟨(x6_1),(wrap64 (x7_1 + 1)),(by first | rfl | (simp;done) | (simp [*];done)),(by first | rfl | (simp;done) | (simp [*];done)),H',⟨by have:=HK1.out;omega⟩,⟨by (with_reducible repeat (first | apply Kd.R_alloc | apply Kd.R_drewN | apply Kd.R_drew));exact HO_5.out⟩,⟨hbw_⟩⟩
            ·rw [if_neg c39] at H
             exact absurd H (by simp)
           ·rw [if_neg c38] at H
            exact absurd H (by simp)
          ·rw [if_neg c37] at H
           exact absurd H (by simp)
         ·rw [if_neg c36] at H
          exact absurd H (by simp)
        ·rw [if_neg c34] at H
         have c34b0 : decide (1 < x7_1) = false:=decide_eq_false c34
         clear c34
         by_cases c49 : ((rd_T75 l0 (rd t1 x7_1)).f1) = 9
         ·rw [if_pos c49] at H
          have c49b0 : (((rd_T75 l0 (rd t1 x7_1)).f1) == 9) = true:=beq_iff_eq.mpr c49
          have c49b1 : (((rd_T75 l0 (rd t1 x7_1)).f1) != 9) = false:=bne_eq_false_iff_eq.mpr c49
          clear c49
          by_cases c50 : x6_1 = 0
          ·rw [if_pos c50] at H
           have c50b0 : (x6_1 == 0) = true:=beq_iff_eq.mpr c50
           have c50b1 : (x6_1 != 0) = false:=bne_eq_false_iff_eq.mpr c50
           clear c50
           obtain rfl:=Option.some.inj H
           obtain ⟨Ao51,co51,eo51⟩:=Kd.R_slice HO_5.out
           subst eo51
           have p4 : 0 ≤ (x7_1 : Int):=of_decide_eq_true (by first | (with_reducible assumption) | assumption)
           have q4 : x7_1 < (t1.length : Int):=of_decide_eq_true (by first | (with_reducible assumption) | assumption)
           obtain ⟨ad4,e4,hx4_0⟩:=Kd.at_int (Kd.R_reads' HO_5.out).2.2 x7_1 p4 q4
           cases e4
           replace p4:=eq_true p4
           replace q4:=eq_true q4
           have p5 : 0 ≤ ((rd t1 x7_1) : Int):=of_decide_eq_true (by first | (with_reducible assumption) | assumption)
           have q5 : (rd t1 x7_1) < (l0.length : Int):=of_decide_eq_true (by first | (with_reducible assumption) | assumption)
           obtain ⟨ad5,e5,hx5_0,hx5_1,hx5_2,hx5_3⟩:=at_T75 HR0.out (rd t1 x7_1) p5 q5
           cases e5
           replace hx5_0:=(HB.out.cell (World.block_lt_of_cell? w _ hx5_0)).trans hx5_0
           replace hx5_1:=(HB.out.cell (World.block_lt_of_cell? w _ hx5_1)).trans hx5_1
           replace hx5_2:=(HB.out.cell (World.block_lt_of_cell? w _ hx5_2)).trans hx5_2
           replace hx5_3:=(HB.out.cell (World.block_lt_of_cell? w _ hx5_3)).trans hx5_3
           replace p5:=eq_true p5
           replace q5:=eq_true q5
           go_wp2
           go_ret
           exact ⟨by first | rfl | (simp [errW_none,errW_some] <;> rfl) | (simp [*,errW_none,errW_some] <;> rfl),hbw_⟩
          ·rw [if_neg c50] at H
           have c50b0 : (x6_1 == 0) = false:=beq_eq_false_iff_ne.mpr c50
           have c50b1 : (x6_1 != 0) = true:=bne_iff_ne.mpr c50
           have H':=a0_ H
           clear H
           obtain ⟨Ao52,co52,eo52⟩:=Kd.R_slice HO_5.out
           subst eo52
           have p4 : 0 ≤ (x7_1 : Int):=of_decide_eq_true (by first | (with_reducible assumption) | assumption)
           have q4 : x7_1 < (t1.length : Int):=of_decide_eq_true (by first | (with_reducible assumption) | assumption)
           obtain ⟨ad4,e4,hx4_0⟩:=Kd.at_int (Kd.R_reads' HO_5.out).2.2 x7_1 p4 q4
           cases e4
           replace p4:=eq_true p4
           replace q4:=eq_true q4
           have p5 : 0 ≤ ((rd t1 x7_1) : Int):=of_decide_eq_true (by first | (with_reducible assumption) | assumption)
           have q5 : (rd t1 x7_1) < (l0.length : Int):=of_decide_eq_true (by first | (with_reducible assumption) | assumption)
           obtain ⟨ad5,e5,hx5_0,hx5_1,hx5_2,hx5_3⟩:=at_T75 HR0.out (rd t1 x7_1) p5 q5
           cases e5
           replace hx5_0:=(HB.out.cell (World.block_lt_of_cell? w _ hx5_0)).trans hx5_0
           replace hx5_1:=(HB.out.cell (World.block_lt_of_cell? w _ hx5_1)).trans hx5_1
           replace hx5_2:=(HB.out.cell (World.block_lt_of_cell? w _ hx5_2)).trans hx5_2
           replace hx5_3:=(HB.out.cell (World.block_lt_of_cell? w _ hx5_3)).trans hx5_3
           replace p5:=eq_true p5
           replace q5:=eq_true q5
           go_wp2
           go_roundg k1
           case measure=>have:=HK1.out;omega
           case rel=>exact ⟨(x6_1),(wrap64 (x7_1 + 1)),(by first | rfl | (simp;done) | (simp [*];done)),(by first | rfl | (simp;done) | (simp [*];done)),H',⟨by have:=HK1.out;omega⟩,⟨by (with_reducible repeat (first | apply Kd.R_alloc | apply Kd.R_drewN | apply Kd.R_drew));exact HO_5.out⟩,⟨hbw_⟩⟩
         ·rw [if_neg c49] at H
          have c49b0 : (((rd_T75 l0 (rd t1 x7_1)).f1) == 9) = false:=beq_eq_false_iff_ne.mpr c49
          have c49b1 : (((rd_T75 l0 (rd t1 x7_1)).f1) != 9) = true:=bne_iff_ne.mpr c49
          have H':=a0_ H
          clear H
          obtain ⟨Ao53,co53,eo53⟩:=Kd.R_slice HO_5.out
          subst eo53
          have p4 : 0 ≤ (x7_1 : Int):=of_decide_eq_true (by first | (with_reducible assumption) | assumption)
          have q4 : x7_1 < (t1.length : Int):=of_decide_eq_true (by first | (with_reducible assumption) | assumption)
          obtain ⟨ad4,e4,hx4_0⟩:=Kd.at_int (Kd.R_reads' HO_5.out).2.2 x7_1 p4 q4
          cases e4
          replace p4:=eq_true p4
          replace q4:=eq_true q4
          have p5 : 0 ≤ ((rd t1 x7_1) : Int):=of_decide_eq_true (by first | (with_reducible assumption) | assumption)
          have q5 : (rd t1 x7_1) < (l0.length : Int):=of_decide_eq_true (by first | (with_reducible assumption) | assumption)
          obtain ⟨ad5,e5,hx5_0,hx5_1,hx5_2,hx5_3⟩:=at_T75 HR0.out (rd t1 x7_1) p5 q5
          cases e5
          replace hx5_0:=(HB.out.cell (World.block_lt_of_cell? w _ hx5_0)).trans hx5_0
          replace hx5_1:=(HB.out.cell (World.block_lt_of_cell? w _ hx5_1)).trans hx5_1
          replace hx5_2:=(HB.out.cell (World.block_lt_of_cell? w _ hx5_2)).trans hx5_2
          replace hx5_3:=(HB.out.cell (World.block_lt_of_cell? w _ hx5_3)).trans hx5_3
          replace p5:=eq_true p5
          replace q5:=eq_true q5
          go_wp2
          go_roundg k1
          case measure=>have:=HK1.out;omega
          case rel=>exact ⟨(x6_1),(wrap64 (x7_1 + 1)),(by first | rfl | (simp;done) | (simp [*];done)),(by first | rfl | (simp;done) | (simp [*];done)),H',⟨by have:=HK1.out;omega⟩,⟨by (with_reducible repeat (first | apply Kd.R_alloc | apply Kd.R_drewN | apply Kd.R_drew));exact HO_5.out⟩,⟨hbw_⟩⟩
      ·rw [if_neg c8] at H
       exact absurd H (by simp)
     ·rw [if_neg c7] at H
      exact absurd H (by simp)
    ·rw [if_neg c6] at H
     exact absurd H (by simp)
   ·rw [if_neg c5] at H
    have c5b0 : decide (x7_1 < (t1.length : Int)) = false:=decide_eq_false c5
    clear c5
    by_cases c54 : (t1.length : Int) > 1
    ·rw [if_pos c54] at H
     have c54b0 : decide (1 < (t1.length : Int)) = true:=decide_eq_true c54
     have c54b1 : decide (1 < t1.length) = true:=decide_eq_true (by omega)
     clear c54
     obtain rfl:=Option.some.inj H
     obtain ⟨Ao55,co55,eo55⟩:=Kd.R_slice HO_5.out
     subst eo55
     go_wp2
     go_ret
     exact ⟨by first | rfl | (simp [errW_none,errW_some] <;> rfl) | (simp [*,errW_none,errW_some] <;> rfl),hbw_⟩
    ·rw [if_neg c54] at H
     have c54b0 : decide (1 < (t1.length : Int)) = false:=decide_eq_false c54
     have c54b1 : decide (1 < t1.length) = false:=decide_eq_false (by omega)
     clear c54
     obtain rfl:=Option.some.inj H
     obtain ⟨Ao56,co56,eo56⟩:=Kd.R_slice HO_5.out
     subst eo56
     go_wp2
     go_ret
     exact ⟨by first | rfl | (simp [errW_none,errW_some] <;> rfl) | (simp [*,errW_none,errW_some] <;> rfl),hbw_⟩
theorem spec_validChain_ev (l : List S75) (i : Nat) (hi : i < l.length) (hl : l.length ≤ 1099511627776) : Ev (fun k=>spec_validChain.f k l (i : Int)) (chOk l i):=by
 unfold spec_validChain.f chOk
 refine Ev.bind (spec_chainOf_ev l i hi hl) ?_
 have hR:=chR_mem l l.length i
 have hRl:=chR_len l l.length i
 generalize chR l l.length i = R at hR hRl
 have key : ∀ (R2 : List Nat) (m : Nat) (ex last : Int),R2 = R.drop m → m ≤ R.length → 0 ≤ ex → ex ≤ m → (m = 0 → last = 7 ∧ ex = 0) → (0 < m → last = lk l (R.getD (m - 1) 0) ∧ 8 ≤ last ∧ last ≤ 10) → (last = 8 → 1 ≤ ex) → Ev (fun k=>spec_validChain.l0 k l (nI (i :: R)) ex (((m + 1 : Nat) : Int))) (decide (1 ≤ R.length) && okR l R2 ex last):=by
  intro R2
  induction R2 with
  | nil =>
   intro m ex last hm hm2 h0 h1 _ _ _
   have : R.length ≤ m:=List.drop_eq_nil_iff.1 hm.symm
   refine Ev.succ ?_
   simp only [spec_validChain.l0]
   refine Ev.neg (by rw [nI_len,List.length_cons];omega) ?_
   rw [nI_len,List.length_cons]
   by_cases h1R : 1 ≤ R.length
   ·exact Ev.pos (by omega) (Ev.const (by simp [okR,h1R]))
   ·exact Ev.neg (by omega) (Ev.const (by simp [h1R]))
  | cons c R2 ih =>
   intro m ex last hm hm2 h0 h1 hz hp h8e
   obtain ⟨hlt,hc,hd⟩:=drop_cons_ hm
   obtain ⟨hcl,hk1,hk2⟩:=hR c (List.mem_of_mem_drop (i:=m) (by rw [← hm];exact List.mem_cons_self))
   have hw : wrap64 (((m + 1 : Nat) : Int) + 1) = ((m + 1 + 1 : Nat) : Int):=by rw [wrap_succ (i:=((m + 1 : Nat) : Int)) (n:=(R.length : Int) + 2) (by omega) (by omega) (by omega)];rfl
   have hw1 : wrap64 (((m + 1 : Nat) : Int) - 1) = (m : Int):=by rw [wrap_in (by omega) (by omega)];omega
   have hw2 : wrap64 (ex + 1) = ex + 1:=wrap_in (by omega) (by omega)
   have hcc : (i :: R).getD (m + 1) 0 = c:=by rw [List.getD_cons_succ];exact hc
   have ih1:=fun e (h : e = ex ∨ e = ex + 1) (h2 : lk l c = 8 → 1 ≤ e)=>ih (m + 1) e (lk l c) hd (by omega) (by omega) (by omega) (fun h=>by omega) (fun _=>⟨by rw [Nat.add_sub_cancel,hc],hk1,hk2⟩) h2
   refine Ev.succ ?_
   simp only [spec_validChain.l0,rd_nI,hcc,rd_lkS,hw1,hw2,hw]
   refine Ev.pos (by rw [nI_len,List.length_cons];omega) (Ev.pos (by omega) (Ev.pos (by omega) (Ev.pos (by omega) ?_)))
   rw [okR]
   by_cases hm0 : m = 0
   ·obtain ⟨rfl,rfl⟩:=hz hm0
    by_cases h8 : lk l c = 8
    ·rw [if_pos ⟨h8,by omega⟩]
     exact Ev.pos h8 (Ev.neg (by omega) (Ev.neg (by omega) (ih1 _ (.inr rfl) (fun _=>by omega))))
    ·rw [if_neg (fun h=>h8 h.1)]
     refine Ev.neg h8 (Ev.neg (by omega) ?_)
     by_cases h9 : lk l c = 9
     ·rw [if_neg (by omega),Bool.and_false]
      exact Ev.pos h9 (Ev.pos rfl (Ev.const rfl))
     ·rw [if_pos (by omega)]
      exact Ev.neg h9 (ih1 _ (.inl rfl) (fun h=>absurd h h8))
   ·obtain ⟨hl1,hl2,hl3⟩:=hp (by omega)
    have hpp : (i :: R).getD m 0 = R.getD (m - 1) 0:=by
     obtain ⟨m',rfl⟩ : ∃ m',m = m' + 1:=⟨m - 1,by omega⟩
     rw [List.getD_cons_succ,Nat.add_sub_cancel]
    have hpl : R.getD (m - 1) 0 < l.length:=by
     have hlt2 : m - 1 < R.length:=by omega
     have : R.getD (m - 1) 0 ∈ R:=by simp [List.getD,hlt2]
     exact (hR _ this).1
    simp only [hpp,← hl1]
    have hlen : (m : Int) < ((nI (i :: R)).length : Int):=by rw [nI_len,List.length_cons];omega
    by_cases h8 : lk l c = 8
    ·refine Ev.pos h8 (Ev.pos (by omega) (Ev.pos (by omega) (Ev.pos hlen (Ev.pos (by omega) (Ev.pos (by omega) ?_)))))
     by_cases hla : last ≤ 8
     ·rw [if_pos ⟨h8,hla⟩]
      exact Ev.neg (by omega) (Ev.pos (by omega) (Ev.neg (by omega) (ih1 _ (.inr rfl) (fun _=>by omega))))
     ·rw [if_neg (fun h=>hla h.2),if_neg (by omega),Bool.and_false]
      exact Ev.pos (by omega) (Ev.const rfl)
    ·rw [if_neg (fun h=>h8 h.1)]
     refine Ev.neg h8 (Ev.pos (by omega) (Ev.pos (by omega) (Ev.pos hlen (Ev.pos (by omega) (Ev.pos (by omega) ?_)))))
     by_cases hq : (lk l c = 9 ∧ last = 8) ∨ (lk l c = 10 ∧ last < 10)
     ·rw [if_pos hq]
      refine Ev.neg (by omega) (Ev.neg (by omega) ?_)
      by_cases h9 : lk l c = 9
      ·exact Ev.pos h9 (Ev.neg (by have:=h8e (by omega);omega) (ih1 _ (.inl rfl) (fun h=>absurd h h8)))
      ·exact Ev.neg h9 (ih1 _ (.inl rfl) (fun h=>absurd h h8))
     ·rw [if_neg hq,Bool.and_false]
      by_cases hlt' : lk l c < last
      ·exact Ev.pos hlt' (Ev.const rfl)
      ·exact Ev.neg hlt' (Ev.pos (by omega) (Ev.const rfl))
 exact key R 0 0 7 rfl (by omega) (by omega) (by omega) (fun _=>⟨rfl,rfl⟩) (fun h=>by omega) (fun h=>by omega)
end Go.Proofs.Ytacgehaipacehaa.P
namespace Go.Proofs.Ytacgehaipacehaa.P
open Go.RowKit Go.Proofs.YtacgehaipacehaaW.PrintWords Go.Proofs.YtacgehaipacehaaW.PrintLast Go.Proofs.YtacgehaipacehaaW.PrintMore
attribute [local go_sem] max2_int min2_int max_two min_two max_three min_three max_four min_four
set_option linter.unusedVariables false
set_option linter.unusedSimpArgs false
def spec_inLoop.l0 : Nat → List (S75) → Int → Int → Option (Bool)
 | 0,_,_,_=>none
 | k + 1,x0,x5,x6=>if x6 ≥ 0 then (if 0 ≤ x6 then (if x6 < (x0.length : Int) then (if ((rd_T75 x0 x6).f0) < x5 then (if ((rd_T75 x0 x6).f1) = 12 then (some true) else (spec_inLoop.l0 k x0 ((rd_T75 x0 x6).f0) (wrap64 (x6 - 1)))) else (spec_inLoop.l0 k x0 x5 (wrap64 (x6 - 1)))) else (none)) else (none)) else (some false)
def spec_inLoop.f (k : Nat) (l0 : List (S75)) (a1 : Int) : Option (Bool):=if 0 ≤ a1 then (if a1 < (l0.length : Int) then (spec_inLoop.l0 k l0 ((rd_T75 l0 a1).f0) (wrap64 (a1 - 1))) else (none)) else (none)
theorem spec_inLoop.mono_l : ∀ k,(∀ y0 y1 y2,LeO (spec_inLoop.l0 k y0 y1 y2) (spec_inLoop.l0 (k + 1) y0 y1 y2))
 | 0=>fun _ _ _ r h=>by simp [spec_inLoop.l0] at h
 | k + 1=>by
  have ih0:=spec_inLoop.mono_l k
  ·intro y0 y1 y2
   unfold spec_inLoop.l0
   repeat' first
   | (with_reducible exact ih0 _ _ _)
   | (with_reducible exact LeO.refl _)
   | (with_reducible exact LeO.none _)
   | (with_reducible refine LeO.ite ?_ ?_)
   | (with_reducible refine LeO.bind ?_ (fun _=>?_))
   | exact ih0 _ _ _
   | exact LeO.none _
   | refine LeO.ite ?_ ?_
   | refine LeO.bind ?_ (fun _=>?_)
theorem spec_inLoop.mono : ∀ a0 a1 k,LeO (spec_inLoop.f k a0 a1) (spec_inLoop.f (k + 1) a0 a1):=by
 intro a0 a1 k
 have ih0:=spec_inLoop.mono_l k
 unfold spec_inLoop.f
 repeat' first
   | (with_reducible exact ih0 _ _ _)
   | (with_reducible exact LeO.refl _)
   | (with_reducible exact LeO.none _)
   | (with_reducible refine LeO.ite ?_ ?_)
   | (with_reducible refine LeO.bind ?_ (fun _=>?_))
   | exact ih0 _ _ _
   | exact LeO.none _
   | refine LeO.ite ?_ ?_
   | refine LeO.bind ?_ (fun _=>?_)
set_option maxHeartbeats 8000000 in
set_option maxRecDepth 100000 in
theorem spec_inLoop.calls (k : Nat) (A0 : Option Addr) (c0 : Nat) (l0 : List (S75)) (a1 : Int) (r : Bool) (w : World) (hr0 : Kd.C k75 w A0 l0.length l0) (hc0 : l0.length ≤ c0) (h : spec_inLoop.f k l0 a1 = some r) :
  Calls Try.prog 160 #[.slice A0 l0.length c0,.int .i64 a1] w fun e w'=>e = .returned (.bool r) ∧ Drawn0 w w':=by
 have HR0:=a0_ hr0
 have HC0:=a0_ hc0
 clear hr0 hc0
 have H : (if 0 ≤ a1 then (if a1 < (l0.length : Int) then (spec_inLoop.l0 k l0 ((rd_T75 l0 a1).f0) (wrap64 (a1 - 1))) else (none)) else (none)) = some r:=h
 clear h
 by_cases c3 : 0 ≤ a1
 ·rw [if_pos c3] at H
  have c3b0 : decide (0 ≤ a1) = true:=decide_eq_true c3
  clear c3
  by_cases c4 : a1 < (l0.length : Int)
  ·rw [if_pos c4] at H
   have c4b0 : decide (a1 < (l0.length : Int)) = true:=decide_eq_true c4
   clear c4
   have H':=a0_ H
   clear H
   have p1 : 0 ≤ (a1 : Int):=of_decide_eq_true (by first | (with_reducible assumption) | assumption)
   have q1 : a1 < (l0.length : Int):=of_decide_eq_true (by first | (with_reducible assumption) | assumption)
   obtain ⟨ad1,e1,hx1_0,hx1_1,hx1_2,hx1_3⟩:=at_T75 HR0.out a1 p1 q1
   cases e1
   replace p1:=eq_true p1
   replace q1:=eq_true q1
   go_enter Try.func160,Try.ntmps160
   go_wp2
   go_loopg [5,6] k (fun kq v5 v6 w'=>∃ (x5_1 : Int) (x6_1 : Int),v5 = .int .i64 x5_1 ∧ v6 = .int .i64 x6_1 ∧ Aside0 (spec_inLoop.l0 kq l0 x5_1 x6_1 = some r) ∧ Aside0 (kq ≤ k) ∧ Drawn0 w w')
   case atStart=>exact ⟨((rd_T75 l0 a1).f0),(wrap64 (a1 - 1)),(by first | rfl | (simp;done) | (simp [*];done)),(by first | rfl | (simp;done) | (simp [*];done)),H',⟨Nat.le_refl _⟩,by repeat (first | exact Drawn0.refl _ | apply Drawn0.step)⟩
   case round =>
    clear H'
    try clear c1
    try clear p1
    try clear q1
    try clear hx1
    try clear p2
    try clear c3
    try clear c3b0
    try clear c4
    try clear c4b0
    try clear hx1_0
    try clear hx1_1
    try clear hx1_2
    try clear hx1_3
    try clear p1
    try clear q1
    obtain ⟨x5_1,x6_1,rfl,rfl,HA,HK1,⟨m1,rfl⟩⟩:=hrel
    cases gk with
    | zero=>exact absurd HA.out (by simp [spec_inLoop.l0])
    | succ k1 =>
     have H:=HA.out
     clear HA
     simp only [spec_inLoop.l0] at H
     by_cases c5 : x6_1 ≥ 0
     ·rw [if_pos c5] at H
      have c5b0 : decide (0 ≤ x6_1) = true:=decide_eq_true c5
      clear c5
      by_cases c6 : 0 ≤ x6_1
      ·rw [if_pos c6] at H
       have c6b0 : decide (0 ≤ x6_1) = true:=decide_eq_true c6
       clear c6
       by_cases c7 : x6_1 < (l0.length : Int)
       ·rw [if_pos c7] at H
        have c7b0 : decide (x6_1 < (l0.length : Int)) = true:=decide_eq_true c7
        clear c7
        by_cases c8 : ((rd_T75 l0 x6_1).f0) < x5_1
        ·rw [if_pos c8] at H
         have c8b0 : decide (((rd_T75 l0 x6_1).f0) < x5_1) = true:=decide_eq_true c8
         clear c8
         by_cases c9 : ((rd_T75 l0 x6_1).f1) = 12
         ·rw [if_pos c9] at H
          have c9b0 : (((rd_T75 l0 x6_1).f1) == 12) = true:=beq_iff_eq.mpr c9
          have c9b1 : (((rd_T75 l0 x6_1).f1) != 12) = false:=bne_eq_false_iff_eq.mpr c9
          clear c9
          obtain rfl:=Option.some.inj H
          have p2 : 0 ≤ (x6_1 : Int):=of_decide_eq_true (by first | (with_reducible assumption) | assumption)
          have q2 : x6_1 < (l0.length : Int):=of_decide_eq_true (by first | (with_reducible assumption) | assumption)
          obtain ⟨ad2,e2,hx2_0,hx2_1,hx2_2,hx2_3⟩:=at_T75 HR0.out x6_1 p2 q2
          obtain rfl : ad1 = ad2:=(by injection e2)
          replace p2:=eq_true p2
          replace q2:=eq_true q2
          have p3 : 0 ≤ (x6_1 : Int):=of_decide_eq_true (by first | (with_reducible assumption) | assumption)
          have q3 : x6_1 < (l0.length : Int):=of_decide_eq_true (by first | (with_reducible assumption) | assumption)
          obtain ⟨ad3,e3,hx3_0,hx3_1,hx3_2,hx3_3⟩:=at_T75 HR0.out x6_1 p3 q3
          obtain rfl : ad1 = ad3:=(by injection e3)
          replace p3:=eq_true p3
          replace q3:=eq_true q3
          have p4 : 0 ≤ (x6_1 : Int):=of_decide_eq_true (by first | (with_reducible assumption) | assumption)
          have q4 : x6_1 < (l0.length : Int):=of_decide_eq_true (by first | (with_reducible assumption) | assumption)
          obtain ⟨ad4,e4,hx4_0,hx4_1,hx4_2,hx4_3⟩:=at_T75 HR0.out x6_1 p4 q4
          obtain rfl : ad1 = ad4:=(by injection e4)
          replace p4:=eq_true p4
          replace q4:=eq_true q4
          go_wp2
          go_ret
          exact ⟨by first | rfl | (simp;done) | (simp [*];done),by repeat (first | exact Drawn0.refl _ | apply Drawn0.step)⟩
         ·rw [if_neg c9] at H
          have c9b0 : (((rd_T75 l0 x6_1).f1) == 12) = false:=beq_eq_false_iff_ne.mpr c9
          have c9b1 : (((rd_T75 l0 x6_1).f1) != 12) = true:=bne_iff_ne.mpr c9
          have H':=a0_ H
          clear H
          have p2 : 0 ≤ (x6_1 : Int):=of_decide_eq_true (by first | (with_reducible assumption) | assumption)
          have q2 : x6_1 < (l0.length : Int):=of_decide_eq_true (by first | (with_reducible assumption) | assumption)
          obtain ⟨ad2,e2,hx2_0,hx2_1,hx2_2,hx2_3⟩:=at_T75 HR0.out x6_1 p2 q2
          obtain rfl : ad1 = ad2:=(by injection e2)
          replace p2:=eq_true p2
          replace q2:=eq_true q2
          have p3 : 0 ≤ (x6_1 : Int):=of_decide_eq_true (by first | (with_reducible assumption) | assumption)
          have q3 : x6_1 < (l0.length : Int):=of_decide_eq_true (by first | (with_reducible assumption) | assumption)
          obtain ⟨ad3,e3,hx3_0,hx3_1,hx3_2,hx3_3⟩:=at_T75 HR0.out x6_1 p3 q3
          obtain rfl : ad1 = ad3:=(by injection e3)
          replace p3:=eq_true p3
          replace q3:=eq_true q3
          have p4 : 0 ≤ (x6_1 : Int):=of_decide_eq_true (by first | (with_reducible assumption) | assumption)
          have q4 : x6_1 < (l0.length : Int):=of_decide_eq_true (by first | (with_reducible assumption) | assumption)
          obtain ⟨ad4,e4,hx4_0,hx4_1,hx4_2,hx4_3⟩:=at_T75 HR0.out x6_1 p4 q4
          obtain rfl : ad1 = ad4:=(by injection e4)
          replace p4:=eq_true p4
          replace q4:=eq_true q4
          go_wp2
          go_roundg k1
          case measure=>have:=HK1.out;omega
          case rel=>exact ⟨((rd_T75 l0 x6_1).f0),(wrap64 (x6_1 - 1)),(by first | rfl | (simp;done) | (simp [*];done)),(by first | rfl | (simp;done) | (simp [*];done)),H',⟨by have:=HK1.out;omega⟩,by repeat (first | exact Drawn0.refl _ | apply Drawn0.step)⟩
        ·rw [if_neg c8] at H
         have c8b0 : decide (((rd_T75 l0 x6_1).f0) < x5_1) = false:=decide_eq_false c8
         clear c8
         have H':=a0_ H
         clear H
         have p2 : 0 ≤ (x6_1 : Int):=of_decide_eq_true (by first | (with_reducible assumption) | assumption)
         have q2 : x6_1 < (l0.length : Int):=of_decide_eq_true (by first | (with_reducible assumption) | assumption)
         obtain ⟨ad2,e2,hx2_0,hx2_1,hx2_2,hx2_3⟩:=at_T75 HR0.out x6_1 p2 q2
         obtain rfl : ad1 = ad2:=(by injection e2)
         replace p2:=eq_true p2
         replace q2:=eq_true q2
         go_wp2
         go_roundg k1
         case measure=>have:=HK1.out;omega
         case rel=>exact ⟨(x5_1),(wrap64 (x6_1 - 1)),(by first | rfl | (simp;done) | (simp [*];done)),(by first | rfl | (simp;done) | (simp [*];done)),H',⟨by have:=HK1.out;omega⟩,by repeat (first | exact Drawn0.refl _ | apply Drawn0.step)⟩
       ·rw [if_neg c7] at H
        exact absurd H (by simp)
      ·rw [if_neg c6] at H
       exact absurd H (by simp)
     ·rw [if_neg c5] at H
      have c5b0 : decide (0 ≤ x6_1) = false:=decide_eq_false c5
      clear c5
      obtain rfl:=Option.some.inj H
      go_wp2
      go_ret
      exact ⟨by first | rfl | (simp;done) | (simp [*];done),by repeat (first | exact Drawn0.refl _ | apply Drawn0.step)⟩
  ·rw [if_neg c4] at H
   exact absurd H (by simp)
 ·rw [if_neg c3] at H
  exact absurd H (by simp)
theorem spec_inLoop_ev (l : List S75) (i : Nat) (hi : i < l.length) (hl : l.length ≤ 1099511627776) : Ev (fun k=>spec_inLoop.f k l (i : Int)) (inL l i (ld l i)):=by
 have key : ∀ (n : Nat) (d : Int),n ≤ l.length → Ev (fun k=>spec_inLoop.l0 k l d ((n : Int) - 1)) (inL l n d):=by
  intro n
  induction n with
  | zero =>
   intro d _
   refine Ev.succ ?_
   simp only [spec_inLoop.l0]
   exact Ev.neg (by omega) (Ev.const rfl)
  | succ n ih =>
   intro d hn
   have e : (((n + 1 : Nat) : Int) - 1) = (n : Int):=by omega
   have hw : wrap64 ((n : Int) - 1) = (n : Int) - 1:=wrap_in (by omega) (by omega)
   rw [e,inL]
   refine Ev.succ ?_
   simp only [spec_inLoop.l0,rd_ldS,rd_lkS,hw]
   refine Ev.pos (by omega) (Ev.pos (by omega) (Ev.pos (by omega) ?_))
   by_cases h : ld l n < d
   ·rw [if_pos h]
    refine Ev.pos h ?_
    by_cases h2 : lk l n = 12
    ·rw [if_pos h2];exact Ev.pos h2 (Ev.const rfl)
    ·rw [if_neg h2];exact Ev.neg h2 (ih _ (by omega))
   ·rw [if_neg h]
    exact Ev.neg h (ih _ (by omega))
 unfold spec_inLoop.f
 have hw : wrap64 ((i : Int) - 1) = (i : Int) - 1:=wrap_in (by omega) (by omega)
 rw [hw]
 simp only [rd_ldS]
 exact Ev.pos (by omega) (Ev.pos (by omega) (key i (ld l i) (by omega)))
end Go.Proofs.Ytacgehaipacehaa.P
namespace Go.Proofs.Ytacgehaipacehaa.P
open Go.RowKit Go.Proofs.YtacgehaipacehaaW.PrintWords Go.Proofs.YtacgehaipacehaaW.PrintLast Go.Proofs.YtacgehaipacehaaW.PrintMore
attribute [local go_sem] max2_int min2_int max_two min_two max_three min_three max_four min_four
set_option linter.unusedVariables false
set_option linter.unusedSimpArgs false
def spec_headOf.l0 : Nat → List (S75) → Int → Int → Option (Int)
 | 0,_,_,_=>none
 | k + 1,x0,x1,x5=>if x5 ≥ 0 then (if 0 ≤ x5 then (if x5 < (x0.length : Int) then (if 0 ≤ x1 then (if x1 < (x0.length : Int) then (if ((rd_T75 x0 x5).f0) < ((rd_T75 x0 x1).f0) then (some (-1)) else (if ((rd_T75 x0 x5).f0) = ((rd_T75 x0 x1).f0) then (some x5) else (spec_headOf.l0 k x0 x1 (wrap64 (x5 - 1))))) else (none)) else (none)) else (none)) else (none)) else (some (-1))
def spec_headOf.f (k : Nat) (l0 : List (S75)) (a1 : Int) : Option (Int):=spec_headOf.l0 k l0 a1 (wrap64 (a1 - 1))
theorem spec_headOf.mono_l : ∀ k,(∀ y0 y1 y2,LeO (spec_headOf.l0 k y0 y1 y2) (spec_headOf.l0 (k + 1) y0 y1 y2))
 | 0=>fun _ _ _ r h=>by simp [spec_headOf.l0] at h
 | k + 1=>by
  have ih0:=spec_headOf.mono_l k
  ·intro y0 y1 y2
   unfold spec_headOf.l0
   repeat' first
   | (with_reducible exact ih0 _ _ _)
   | (with_reducible exact LeO.refl _)
   | (with_reducible exact LeO.none _)
   | (with_reducible refine LeO.ite ?_ ?_)
   | (with_reducible refine LeO.bind ?_ (fun _=>?_))
   | exact ih0 _ _ _
   | exact LeO.none _
   | refine LeO.ite ?_ ?_
   | refine LeO.bind ?_ (fun _=>?_)
theorem spec_headOf.mono : ∀ a0 a1 k,LeO (spec_headOf.f k a0 a1) (spec_headOf.f (k + 1) a0 a1):=by
 intro a0 a1 k
 have ih0:=spec_headOf.mono_l k
 unfold spec_headOf.f
 repeat' first
   | (with_reducible exact ih0 _ _ _)
   | (with_reducible exact LeO.refl _)
   | (with_reducible exact LeO.none _)
   | (with_reducible refine LeO.ite ?_ ?_)
   | (with_reducible refine LeO.bind ?_ (fun _=>?_))
   | exact ih0 _ _ _
   | exact LeO.none _
   | refine LeO.ite ?_ ?_
   | refine LeO.bind ?_ (fun _=>?_)
set_option maxHeartbeats 8000000 in
set_option maxRecDepth 100000 in
theorem spec_headOf.calls (k : Nat) (A0 : Option Addr) (c0 : Nat) (l0 : List (S75)) (a1 : Int) (r : Int) (w : World) (hr0 : Kd.C k75 w A0 l0.length l0) (hc0 : l0.length ≤ c0) (h : spec_headOf.f k l0 a1 = some r) :
  Calls Try.prog 162 #[.slice A0 l0.length c0,.int .i64 a1] w fun e w'=>e = .returned (.int .i64 r) ∧ Drawn0 w w':=by
 have HR0:=a0_ hr0
 have HC0:=a0_ hc0
 clear hr0 hc0
 have H : (spec_headOf.l0 k l0 a1 (wrap64 (a1 - 1))) = some r:=h
 clear h
 have H':=a0_ H
 clear H
 go_enter Try.func162,Try.ntmps162
 go_wp2
 repeat (go_quiet (fail);try go_wp2)
 go_loopg [5] k (fun kq v5 w'=>∃ (x5_1 : Int),v5 = .int .i64 x5_1 ∧ Aside0 (spec_headOf.l0 kq l0 a1 x5_1 = some r) ∧ Aside0 (kq ≤ k) ∧ Drawn0 w w')
 case atStart=>exact ⟨(wrap64 (a1 - 1)),(by first | rfl | (simp;done) | (simp [*];done)),H',⟨Nat.le_refl _⟩,by repeat (first | exact Drawn0.refl _ | apply Drawn0.step)⟩
 case round =>
  clear H'
  try clear c1
  try clear p2
  obtain ⟨x5_1,rfl,HA,HK1,⟨m1,rfl⟩⟩:=hrel
  cases gk with
  | zero=>exact absurd HA.out (by simp [spec_headOf.l0])
  | succ k1 =>
   have H:=HA.out
   clear HA
   simp only [spec_headOf.l0] at H
   by_cases c3 : x5_1 ≥ 0
   ·rw [if_pos c3] at H
    have c3b0 : decide (0 ≤ x5_1) = true:=decide_eq_true c3
    clear c3
    by_cases c4 : 0 ≤ x5_1
    ·rw [if_pos c4] at H
     have c4b0 : decide (0 ≤ x5_1) = true:=decide_eq_true c4
     clear c4
     by_cases c5 : x5_1 < (l0.length : Int)
     ·rw [if_pos c5] at H
      have c5b0 : decide (x5_1 < (l0.length : Int)) = true:=decide_eq_true c5
      clear c5
      by_cases c6 : 0 ≤ a1
      ·rw [if_pos c6] at H
       have c6b0 : decide (0 ≤ a1) = true:=decide_eq_true c6
       clear c6
       by_cases c7 : a1 < (l0.length : Int)
       ·rw [if_pos c7] at H
        have c7b0 : decide (a1 < (l0.length : Int)) = true:=decide_eq_true c7
        clear c7
        by_cases c8 : ((rd_T75 l0 x5_1).f0) < ((rd_T75 l0 a1).f0)
        ·rw [if_pos c8] at H
         have c8b0 : decide (((rd_T75 l0 x5_1).f0) < ((rd_T75 l0 a1).f0)) = true:=decide_eq_true c8
         clear c8
         obtain rfl:=Option.some.inj H
         have p1 : 0 ≤ (x5_1 : Int):=of_decide_eq_true (by first | (with_reducible assumption) | assumption)
         have q1 : x5_1 < (l0.length : Int):=of_decide_eq_true (by first | (with_reducible assumption) | assumption)
         obtain ⟨ad1,e1,hx1_0,hx1_1,hx1_2,hx1_3⟩:=at_T75 HR0.out x5_1 p1 q1
         cases e1
         replace p1:=eq_true p1
         replace q1:=eq_true q1
         have p2 : 0 ≤ (a1 : Int):=of_decide_eq_true (by first | (with_reducible assumption) | assumption)
         have q2 : a1 < (l0.length : Int):=of_decide_eq_true (by first | (with_reducible assumption) | assumption)
         obtain ⟨ad2,e2,hx2_0,hx2_1,hx2_2,hx2_3⟩:=at_T75 HR0.out a1 p2 q2
         obtain rfl : ad1 = ad2:=(by injection e2)
         replace p2:=eq_true p2
         replace q2:=eq_true q2
         go_wp2
         repeat (go_quiet (fail);try go_wp2)
         go_ret
         exact ⟨by first | rfl | (simp;done) | (simp [*];done),by repeat (first | exact Drawn0.refl _ | apply Drawn0.step)⟩
        ·rw [if_neg c8] at H
         have c8b0 : decide (((rd_T75 l0 x5_1).f0) < ((rd_T75 l0 a1).f0)) = false:=decide_eq_false c8
         clear c8
         by_cases c9 : ((rd_T75 l0 x5_1).f0) = ((rd_T75 l0 a1).f0)
         ·rw [if_pos c9] at H
          have c9b0 : (((rd_T75 l0 x5_1).f0) == ((rd_T75 l0 a1).f0)) = true:=beq_iff_eq.mpr c9
          have c9b1 : (((rd_T75 l0 x5_1).f0) != ((rd_T75 l0 a1).f0)) = false:=bne_eq_false_iff_eq.mpr c9
          clear c9
          obtain rfl:=Option.some.inj H
          have p1 : 0 ≤ (x5_1 : Int):=of_decide_eq_true (by first | (with_reducible assumption) | assumption)
          have q1 : x5_1 < (l0.length : Int):=of_decide_eq_true (by first | (with_reducible assumption) | assumption)
          obtain ⟨ad1,e1,hx1_0,hx1_1,hx1_2,hx1_3⟩:=at_T75 HR0.out x5_1 p1 q1
          cases e1
          replace p1:=eq_true p1
          replace q1:=eq_true q1
          have p2 : 0 ≤ (a1 : Int):=of_decide_eq_true (by first | (with_reducible assumption) | assumption)
          have q2 : a1 < (l0.length : Int):=of_decide_eq_true (by first | (with_reducible assumption) | assumption)
          obtain ⟨ad2,e2,hx2_0,hx2_1,hx2_2,hx2_3⟩:=at_T75 HR0.out a1 p2 q2
          obtain rfl : ad1 = ad2:=(by injection e2)
          replace p2:=eq_true p2
          replace q2:=eq_true q2
          have p3 : 0 ≤ (x5_1 : Int):=of_decide_eq_true (by first | (with_reducible assumption) | assumption)
          have q3 : x5_1 < (l0.length : Int):=of_decide_eq_true (by first | (with_reducible assumption) | assumption)
          obtain ⟨ad3,e3,hx3_0,hx3_1,hx3_2,hx3_3⟩:=at_T75 HR0.out x5_1 p3 q3
          obtain rfl : ad1 = ad3:=(by injection e3)
          replace p3:=eq_true p3
          replace q3:=eq_true q3
          have p4 : 0 ≤ (a1 : Int):=of_decide_eq_true (by first | (with_reducible assumption) | assumption)
          have q4 : a1 < (l0.length : Int):=of_decide_eq_true (by first | (with_reducible assumption) | assumption)
          obtain ⟨ad4,e4,hx4_0,hx4_1,hx4_2,hx4_3⟩:=at_T75 HR0.out a1 p4 q4
          obtain rfl : ad1 = ad4:=(by injection e4)
          replace p4:=eq_true p4
          replace q4:=eq_true q4
          go_wp2
          repeat (go_quiet (fail);try go_wp2)
          go_ret
          exact ⟨by first | rfl | (simp;done) | (simp [*];done),by repeat (first | exact Drawn0.refl _ | apply Drawn0.step)⟩
         ·rw [if_neg c9] at H
          have c9b0 : (((rd_T75 l0 x5_1).f0) == ((rd_T75 l0 a1).f0)) = false:=beq_eq_false_iff_ne.mpr c9
          have c9b1 : (((rd_T75 l0 x5_1).f0) != ((rd_T75 l0 a1).f0)) = true:=bne_iff_ne.mpr c9
          have H':=a0_ H
          clear H
          have p1 : 0 ≤ (x5_1 : Int):=of_decide_eq_true (by first | (with_reducible assumption) | assumption)
          have q1 : x5_1 < (l0.length : Int):=of_decide_eq_true (by first | (with_reducible assumption) | assumption)
          obtain ⟨ad1,e1,hx1_0,hx1_1,hx1_2,hx1_3⟩:=at_T75 HR0.out x5_1 p1 q1
          cases e1
          replace p1:=eq_true p1
          replace q1:=eq_true q1
          have p2 : 0 ≤ (a1 : Int):=of_decide_eq_true (by first | (with_reducible assumption) | assumption)
          have q2 : a1 < (l0.length : Int):=of_decide_eq_true (by first | (with_reducible assumption) | assumption)
          obtain ⟨ad2,e2,hx2_0,hx2_1,hx2_2,hx2_3⟩:=at_T75 HR0.out a1 p2 q2
          obtain rfl : ad1 = ad2:=(by injection e2)
          replace p2:=eq_true p2
          replace q2:=eq_true q2
          have p3 : 0 ≤ (x5_1 : Int):=of_decide_eq_true (by first | (with_reducible assumption) | assumption)
          have q3 : x5_1 < (l0.length : Int):=of_decide_eq_true (by first | (with_reducible assumption) | assumption)
          obtain ⟨ad3,e3,hx3_0,hx3_1,hx3_2,hx3_3⟩:=at_T75 HR0.out x5_1 p3 q3
          obtain rfl : ad1 = ad3:=(by injection e3)
          replace p3:=eq_true p3
          replace q3:=eq_true q3
          have p4 : 0 ≤ (a1 : Int):=of_decide_eq_true (by first | (with_reducible assumption) | assumption)
          have q4 : a1 < (l0.length : Int):=of_decide_eq_true (by first | (with_reducible assumption) | assumption)
          obtain ⟨ad4,e4,hx4_0,hx4_1,hx4_2,hx4_3⟩:=at_T75 HR0.out a1 p4 q4
          obtain rfl : ad1 = ad4:=(by injection e4)
          replace p4:=eq_true p4
          replace q4:=eq_true q4
          go_wp2
          repeat (go_quiet (fail);try go_wp2)
          go_roundg k1
          case measure=>have:=HK1.out;omega
          case rel=>exact ⟨(wrap64 (x5_1 - 1)),(by first | rfl | (simp;done) | (simp [*];done)),H',⟨by have:=HK1.out;omega⟩,by repeat (first | exact Drawn0.refl _ | apply Drawn0.step)⟩
       ·rw [if_neg c7] at H
        exact absurd H (by simp)
      ·rw [if_neg c6] at H
       exact absurd H (by simp)
     ·rw [if_neg c5] at H
      exact absurd H (by simp)
    ·rw [if_neg c4] at H
     exact absurd H (by simp)
   ·rw [if_neg c3] at H
    have c3b0 : decide (0 ≤ x5_1) = false:=decide_eq_false c3
    clear c3
    obtain rfl:=Option.some.inj H
    go_wp2
    repeat (go_quiet (fail);try go_wp2)
    go_ret
    exact ⟨by first | rfl | (simp;done) | (simp [*];done),by repeat (first | exact Drawn0.refl _ | apply Drawn0.step)⟩
theorem spec_headOf_ev (l : List S75) (i : Nat) (hi : i < l.length) (hl : l.length ≤ 1099511627776) : Ev (fun k=>spec_headOf.f k l (i : Int)) (hdL l i (ld l i)):=by
 have key : ∀ (n : Nat),n ≤ l.length → Ev (fun k=>spec_headOf.l0 k l (i : Int) ((n : Int) - 1)) (hdL l n (ld l i)):=by
  intro n
  induction n with
  | zero =>
   intro _
   refine Ev.succ ?_
   simp only [spec_headOf.l0]
   exact Ev.neg (by omega) (Ev.const rfl)
  | succ n ih =>
   intro hn
   have e : (((n + 1 : Nat) : Int) - 1) = (n : Int):=by omega
   have hw : wrap64 ((n : Int) - 1) = (n : Int) - 1:=wrap_in (by omega) (by omega)
   rw [e,hdL]
   refine Ev.succ ?_
   simp only [spec_headOf.l0,rd_ldS,hw]
   refine Ev.pos (by omega) (Ev.pos (by omega) (Ev.pos (by omega) (Ev.pos (by omega) (Ev.pos (by omega) ?_))))
   by_cases h : ld l n < ld l i
   ·rw [if_pos h];exact Ev.pos h (Ev.const rfl)
   ·rw [if_neg h]
    refine Ev.neg h ?_
    by_cases h2 : ld l n = ld l i
    ·rw [if_pos h2];exact Ev.pos h2 (Ev.const rfl)
    ·rw [if_neg h2];exact Ev.neg h2 (ih (by omega))
 unfold spec_headOf.f
 have hw : wrap64 ((i : Int) - 1) = (i : Int) - 1:=wrap_in (by omega) (by omega)
 rw [hw]
 exact key i (by omega)
end Go.Proofs.Ytacgehaipacehaa.P
