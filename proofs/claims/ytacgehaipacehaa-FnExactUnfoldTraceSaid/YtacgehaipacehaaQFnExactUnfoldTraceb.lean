/- Texts under the proof of FnExactUnfoldTrace: helper words, the functions' contracts and the plain laws. No condition. -/
import Derived.Test.YtacgehaipacehaaQFnExactUnfoldTracea
namespace Go.Proofs.Ytacgehaipacehaa.P
open Go.RowKit Go.Proofs.YtacgehaipacehaaW.PrintWords Go.Proofs.YtacgehaipacehaaW.PrintLast Go.Proofs.YtacgehaipacehaaW.PrintMore
attribute [local go_sem] max2_int min2_int max_two min_two max_three min_three max_four min_four
set_option linter.unusedVariables false
set_option linter.unusedSimpArgs false
attribute [local go_sem high] eqA113
def impl_rows.l0 : Nat → List (S113) → List (S115) → List (S113) → Int → Int → Option ((List (S115)))
 | 0,_,_,_,_,_=>none
 | k + 1,x0,x3,x7,x8,x9=>if x9 < x8 then (if 0 ≤ x9 then (if x9 < (x7.length : Int) then (if x9 > 0 then (if 0 ≤ (wrap64 (x9 - 1)) then (if (wrap64 (x9 - 1)) < (x0.length : Int) then (if ((((rd_T113 x0 (wrap64 (x9 - 1))).f0).toList) == (((rd_T113 x7 x9).f0).toList) && (((rd_T113 x0 (wrap64 (x9 - 1))).f1) == ((rd_T113 x7 x9).f1))) = true then (if 0 ≤ (wrap64 ((x3.length : Int) - 1)) then (if (wrap64 ((x3.length : Int) - 1)) < (x3.length : Int) then (impl_rows.l0 k x0 (x3.set ((wrap64 ((x3.length : Int) - 1)) : Int).toNat (⟨(⟨(rd_T115 x3 (wrap64 ((x3.length : Int) - 1))).f0.f0,(rd_T115 x3 (wrap64 ((x3.length : Int) - 1))).f0.f1⟩ : S113),wrap64 (((rd_T115 x3 (wrap64 ((x3.length : Int) - 1))).f1) + 1)⟩ : S115)) x7 x8 (wrap64 (x9 + 1))) else (none)) else (none)) else (if x3.length < 4398046511104 then (impl_rows.l0 k x0 (x3 ++ [(⟨(⟨(rd_T113 x7 x9).f0,(rd_T113 x7 x9).f1⟩ : S113),1⟩ : S115)]) x7 x8 (wrap64 (x9 + 1))) else (none))) else (none)) else (none)) else (if x3.length < 4398046511104 then (impl_rows.l0 k x0 (x3 ++ [(⟨(⟨(rd_T113 x7 x9).f0,(rd_T113 x7 x9).f1⟩ : S113),1⟩ : S115)]) x7 x8 (wrap64 (x9 + 1))) else (none))) else (none)) else (none)) else ((slices_Clip_Row.f x3).bind fun t15=>(some t15))
def impl_rows.f (k : Nat) (l0 : List (S113)) : Option ((List (S115))):=impl_rows.l0 k l0 (([] : List (S115))) l0 (l0.length : Int) 0
theorem impl_rows.mono_l : ∀ k,(∀ y0 y1 y2 y3 y4,LeO (impl_rows.l0 k y0 y1 y2 y3 y4) (impl_rows.l0 (k + 1) y0 y1 y2 y3 y4))
 | 0=>fun _ _ _ _ _ r h=>by simp [impl_rows.l0] at h
 | k + 1=>by
  have ih0:=impl_rows.mono_l k
  ·intro y0 y1 y2 y3 y4
   unfold impl_rows.l0
   repeat' first
   | (with_reducible exact ih0 _ _ _ _ _)
   | (with_reducible exact LeO.refl _)
   | (with_reducible exact LeO.none _)
   | (with_reducible refine LeO.ite ?_ ?_)
   | (with_reducible refine LeO.bind ?_ (fun _=>?_))
   | exact ih0 _ _ _ _ _
   | exact LeO.none _
   | refine LeO.ite ?_ ?_
   | refine LeO.bind ?_ (fun _=>?_)
theorem impl_rows.mono : ∀ a0 k,LeO (impl_rows.f k a0) (impl_rows.f (k + 1) a0):=by
 intro a0 k
 have ih0:=impl_rows.mono_l k
 unfold impl_rows.f
 repeat' first
   | (with_reducible exact ih0 _ _ _ _ _)
   | (with_reducible exact LeO.refl _)
   | (with_reducible exact LeO.none _)
   | (with_reducible refine LeO.ite ?_ ?_)
   | (with_reducible refine LeO.bind ?_ (fun _=>?_))
   | exact ih0 _ _ _ _ _
   | exact LeO.none _
   | refine LeO.ite ?_ ?_
   | refine LeO.bind ?_ (fun _=>?_)
set_option maxHeartbeats 8000000 in
set_option maxRecDepth 100000 in
theorem impl_rows.calls (k : Nat) (A0 : Option Addr) (c0 : Nat) (l0 : List (S113)) (r : List (S115)) (w : World) (hr0 : Kd.C k113 w A0 l0.length l0) (hc0 : l0.length ≤ c0) (h : impl_rows.f k l0 = some r) :
  Calls Try.prog 85 #[.slice A0 l0.length c0] w fun e w'=>∃ v0_ : Value,e = .returned (v0_) ∧ Kd.R k115 115 w' w.heap.size (fun _=>True) v0_ r ∧ Below w.heap.size w w':=by
 have hu113:=Try.underlying113
 have hu115:=Try.underlying115
 have HR0:=a0_ hr0
 have HC0:=a0_ hc0
 clear hr0 hc0
 have HB:=a0_ (Below.refl w.heap.size w)
 have H : (impl_rows.l0 k l0 (([] : List (S115))) l0 (l0.length : Int) 0) = some r:=h
 clear h
 obtain ⟨y1,hy1⟩ : ∃ y_ : List (S115),y_ = (([] : List (S115))):=⟨_,rfl⟩
 replace H : (impl_rows.l0 k l0 y1 l0 (l0.length : Int) 0) = some r:=by first | (rw [hy1];with_reducible exact H) | (have H2_:=(Option.bind_some _ _).symm.trans H;rw [hy1];with_reducible exact H2_) | (have H2_:=(Option.bind_some _ _).symm.trans H;with_reducible exact H2_) | with_reducible exact H | (rw [hy1];exact H) | exact H
 have Ny1:=a0_ hy1
 clear hy1
 have H':=a0_ H
 clear H
 go_enter Try.func85,Try.ntmps85
 go_wp2_with (first | ((with_reducible refine gate_dst (N:=6) rfl ?_);refine Kd.R_lit k115 _ 115 ?hg (N:=6) ?hd (xs:=([] : List (S115))) (inner:=[]) (ok:=fun _=>True) (okp:=fun _=>True) ?hr ?hp (fun _ hk=>hk) trivial (Below.refl _ _) (Nat.le_refl _) (by simp) ?_;(case hd=>rfl);(case hg=>rfl);(case hr=>first | (go_simp;done) | (go_simp;rfl));(case hp=>exact (Reps.none _ _));intro v2 w2 ho3 hb hg_ hnew_;clear hg_ hnew_;(first | rw [← Ny1.out] at ho3 | (simp only [Int.reduceToNat] at ho3;rw [← Ny1.out] at ho3));have HO3:=a0_ (Kd.R_lower ho3 (below_size hbw_));replace HB:=a0_ (below_step hbw_ hb);clear hb ho3))
 repeat (go_quiet (first | ((with_reducible refine gate_dst (N:=6) rfl ?_);refine Kd.R_lit k115 _ 115 ?hg (N:=6) ?hd (xs:=([] : List (S115))) (inner:=[]) (ok:=fun _=>True) (okp:=fun _=>True) ?hr ?hp (fun _ hk=>hk) trivial (Below.refl _ _) (Nat.le_refl _) (by simp) ?_;(case hd=>rfl);(case hg=>rfl);(case hr=>first | (go_simp;done) | (go_simp;rfl));(case hp=>exact (Reps.none _ _));intro v2 w2 ho3 hb hg_ hnew_;clear hg_ hnew_;(first | rw [← Ny1.out] at ho3 | (simp only [Int.reduceToNat] at ho3;rw [← Ny1.out] at ho3));have HO3:=a0_ (Kd.R_lower ho3 (below_size hbw_));replace HB:=a0_ (below_step hbw_ hb);clear hb ho3));try go_wp2_with (first | ((with_reducible refine gate_dst (N:=6) rfl ?_);refine Kd.R_lit k115 _ 115 ?hg (N:=6) ?hd (xs:=([] : List (S115))) (inner:=[]) (ok:=fun _=>True) (okp:=fun _=>True) ?hr ?hp (fun _ hk=>hk) trivial (Below.refl _ _) (Nat.le_refl _) (by simp) ?_;(case hd=>rfl);(case hg=>rfl);(case hr=>first | (go_simp;done) | (go_simp;rfl));(case hp=>exact (Reps.none _ _));intro v2 w2 ho3 hb hg_ hnew_;clear hg_ hnew_;(first | rw [← Ny1.out] at ho3 | (simp only [Int.reduceToNat] at ho3;rw [← Ny1.out] at ho3));have HO3:=a0_ (Kd.R_lower ho3 (below_size hbw_));replace HB:=a0_ (below_step hbw_ hb);clear hb ho3)))
 go_loopg [3,9] k (fun kq v3 v9 w'=>∃ (x3_1 : List (S115)) (x9_1 : Int),v9 = .int .i64 x9_1 ∧ Aside0 (impl_rows.l0 kq l0 x3_1 l0 (l0.length : Int) x9_1 = some r) ∧ Aside0 (kq ≤ k) ∧ Aside0 (Kd.R k115 115 w' w.heap.size (fun _=>True) v3 x3_1) ∧ Aside0 (Below w.heap.size w w'))
 case atStart=>exact ⟨(y1),(0),(by first | rfl | (simp;done) | (simp [*];done)),H',⟨Nat.le_refl _⟩,⟨by (with_reducible repeat (first | apply Kd.R_alloc | apply Kd.R_drewN | apply Kd.R_drew));exact HO3.out⟩,⟨hbw_⟩⟩
 case round =>
  clear H'
  try clear p2
  obtain ⟨x3_1,x9_1,rfl,HA,HK1,HO_3,HB⟩:=hrel
  cases gk with
  | zero=>exact absurd HA.out (by simp [impl_rows.l0])
  | succ k1 =>
   have H:=HA.out
   clear HA
   simp only [impl_rows.l0] at H
   by_cases c4 : x9_1 < (l0.length : Int)
   ·rw [if_pos c4] at H
    have c4b0 : decide (x9_1 < (l0.length : Int)) = true:=decide_eq_true c4
    clear c4
    by_cases c5 : 0 ≤ x9_1
    ·rw [if_pos c5] at H
     have c5b0 : decide (0 ≤ x9_1) = true:=decide_eq_true c5
     clear c5
     by_cases c6 : x9_1 < (l0.length : Int)
     ·rw [if_pos c6] at H
      have c6b0 : decide (x9_1 < (l0.length : Int)) = true:=decide_eq_true c6
      clear c6
      by_cases c7 : x9_1 > 0
      ·rw [if_pos c7] at H
       have c7b0 : decide (0 < x9_1) = true:=decide_eq_true c7
       clear c7
       obtain ⟨ji8,hji8⟩ : ∃ j_ : Int,(wrap64 (x9_1 - 1)) = j_:=⟨_,rfl⟩
       replace H : (if 0 ≤ (ji8) then (if (ji8) < (l0.length : Int) then (if ((((rd_T113 l0 (ji8)).f0).toList) == (((rd_T113 l0 x9_1).f0).toList) && (((rd_T113 l0 (ji8)).f1) == ((rd_T113 l0 x9_1).f1))) = true then (if 0 ≤ (wrap64 ((x3_1.length : Int) - 1)) then (if (wrap64 ((x3_1.length : Int) - 1)) < (x3_1.length : Int) then (impl_rows.l0 k1 l0 (x3_1.set ((wrap64 ((x3_1.length : Int) - 1)) : Int).toNat (⟨(⟨(rd_T115 x3_1 (wrap64 ((x3_1.length : Int) - 1))).f0.f0,(rd_T115 x3_1 (wrap64 ((x3_1.length : Int) - 1))).f0.f1⟩ : S113),wrap64 (((rd_T115 x3_1 (wrap64 ((x3_1.length : Int) - 1))).f1) + 1)⟩ : S115)) l0 (l0.length : Int) (wrap64 (x9_1 + 1))) else (none)) else (none)) else (if x3_1.length < 4398046511104 then (impl_rows.l0 k1 l0 (x3_1 ++ [(⟨(⟨(rd_T113 l0 x9_1).f0,(rd_T113 l0 x9_1).f1⟩ : S113),1⟩ : S115)]) l0 (l0.length : Int) (wrap64 (x9_1 + 1))) else (none))) else (none)) else (none)) = some r:=by first | (rw [hji8] at H;exact H) | (simp only [hji8] at H ⊢;exact H)
       have hji8w : (IntKind.i64.wrap (x9_1 - 1)) = ji8:=(i64_w _).trans hji8
       by_cases c9 : 0 ≤ (ji8)
       ·rw [if_pos c9] at H
        have c9b0 : decide (0 ≤ (ji8)) = true:=decide_eq_true c9
        clear c9
        by_cases c10 : (ji8) < (l0.length : Int)
        ·rw [if_pos c10] at H
         have c10b0 : decide ((ji8) < (l0.length : Int)) = true:=decide_eq_true c10
         clear c10
         by_cases c11 : ((((rd_T113 l0 (ji8)).f0).toList) == (((rd_T113 l0 x9_1).f0).toList) && (((rd_T113 l0 (ji8)).f1) == ((rd_T113 l0 x9_1).f1))) = true
         ·rw [if_pos c11] at H
          have c11b0 : ((((rd_T113 l0 (ji8)).f0).toList) == (((rd_T113 l0 x9_1).f0).toList) && (((rd_T113 l0 (ji8)).f1) == ((rd_T113 l0 x9_1).f1))) = true:=c11
          (try (have c11b1 : decide ((((rd_T113 l0 (ji8)).f0).toList) = (((rd_T113 l0 x9_1).f0).toList) && (((rd_T113 l0 (ji8)).f1) == ((rd_T113 l0 x9_1).f1))) = true:=by simpa using c11))
          (try (have c11b2 : ((((rd_T113 l0 (ji8)).f0).toList) == (((rd_T113 l0 x9_1).f0).toList) && (((rd_T113 l0 (ji8)).f1) == ((rd_T113 l0 x9_1).f1))) = true:=by simpa using c11))
          clear c11
          obtain ⟨ji12,hji12⟩ : ∃ j_ : Int,(wrap64 ((x3_1.length : Int) - 1)) = j_:=⟨_,rfl⟩
          replace H : (if 0 ≤ (ji12) then (if (ji12) < (x3_1.length : Int) then (impl_rows.l0 k1 l0 (x3_1.set ((ji12) : Int).toNat (⟨(⟨(rd_T115 x3_1 (ji12)).f0.f0,(rd_T115 x3_1 (ji12)).f0.f1⟩ : S113),wrap64 (((rd_T115 x3_1 (ji12)).f1) + 1)⟩ : S115)) l0 (l0.length : Int) (wrap64 (x9_1 + 1))) else (none)) else (none)) = some r:=by first | (rw [hji12] at H;exact H) | (simp only [hji12] at H ⊢;exact H)
          have hji12w : (IntKind.i64.wrap ((x3_1.length : Int) - 1)) = ji12:=(i64_w _).trans hji12
          by_cases c13 : 0 ≤ (ji12)
          ·rw [if_pos c13] at H
           have c13b0 : decide (0 ≤ (ji12)) = true:=decide_eq_true c13
           clear c13
           by_cases c14 : (ji12) < (x3_1.length : Int)
           ·rw [if_pos c14] at H
            have c14b0 : decide ((ji12) < (x3_1.length : Int)) = true:=decide_eq_true c14
            clear c14
            obtain ⟨y8,hy8⟩ : ∃ y_ : List (S115),y_ = (x3_1.set ((ji12) : Int).toNat (⟨(⟨(rd_T115 x3_1 (ji12)).f0.f0,(rd_T115 x3_1 (ji12)).f0.f1⟩ : S113),wrap64 (((rd_T115 x3_1 (ji12)).f1) + 1)⟩ : S115)):=⟨_,rfl⟩
            replace H : (impl_rows.l0 k1 l0 y8 l0 (l0.length : Int) (wrap64 (x9_1 + 1))) = some r:=by first | (rw [hy8];with_reducible exact H) | (have H2_:=(Option.bind_some _ _).symm.trans H;rw [hy8];with_reducible exact H2_) | (have H2_:=(Option.bind_some _ _).symm.trans H;with_reducible exact H2_) | with_reducible exact H | (rw [hy8];exact H) | exact H
            have Ny8:=a0_ hy8
            clear hy8
            have H':=a0_ H
            clear H
            have p4 : 0 ≤ (x9_1 : Int):=of_decide_eq_true (by first | (with_reducible assumption) | assumption)
            have q4 : x9_1 < (l0.length : Int):=of_decide_eq_true (by first | (with_reducible assumption) | assumption)
            obtain ⟨ad4,e4,hx4_0,hx4_1⟩:=at_T113 HR0.out x9_1 p4 q4
            cases e4
            replace hx4_0:=(HB.out.cell (World.block_lt_of_cell? w _ hx4_0)).trans hx4_0
            replace hx4_1:=(HB.out.cell (World.block_lt_of_cell? w _ hx4_1)).trans hx4_1
            replace p4:=eq_true p4
            replace q4:=eq_true q4
            go_wp2_with (first | ((with_reducible refine gate_dst (N:=5) rfl ?_);refine box_event ?hg (N:=5) ?hd (cs:=#[.string (⟨#[]⟩ : ByteArray),.int .i64 0]) (t:=113) ?hr ?_;(case hd=>rfl);(case hg=>rfl);(case hr=>first | (go_simp;done) | (go_simp;rfl));intro gb5 hg w16 hbox hb;replace HO_3:=rb_ HO_3 hb;have BK5:=a0_ (hbox);have GW5:=a0_ ((by rw [hg];exact (below_size hbw_) : w.heap.size ≤ gb5));have GE5:=a0_ ((by rw [hg];exact (below_size hbw_) : w.heap.size ≤ gb5));replace HB:=a0_ (below_step hbw_ hb);clear hb hbox hg;have hcz17_0 : w16.cell? ⟨gb5,0,none⟩ = some (.string (⟨#[]⟩ : ByteArray)):=(blk_cell BK5.out 0).trans rfl;have hcz17_1 : w16.cell? ⟨gb5,1,none⟩ = some (.int .i64 0):=(blk_cell BK5.out 1).trans rfl;have hfz17_0:=blk_frozen BK5.out 0;have hfz17_1:=blk_frozen BK5.out 1) | ((with_reducible refine gate_store (t:=113) (p:=5) rfl ?_);(try (rw [drewN_self w16];generalize hq_ : World.drewN w16 _ = w16;have n0_:=a0_ (Kd.R_at hq_ HO_3.out);have n1_:=a0_ (blk_at hq_ BK5.out);have n2_:=a0_ (below_at hq_ HB.out);clear hq_ HO_3 BK5 HB;have HO_3:=n0_;have BK5:=n1_;have HB:=n2_;clear n0_ n1_ n2_));refine store_event (t:=113) (p:=5) (v:=?vo_w18) (w1:=((w16.setCell ⟨gb5,0,none⟩ (.string ((rd_T113 l0 x9_1).f0))).setCell ⟨gb5,1,none⟩ (.int .i64 ((rd_T113 l0 x9_1).f1)))) ?hg ?ho ?hn ?hr ?_;(case ho=>rfl);(case hg=>rfl);(case hn=>rfl);(case hr=>first | (go_simp;done) | (go_simp;rfl));intro w18 hw;have n0_ : Aside0 (Kd.R k115 115 w18 w.heap.size (fun _=>True) u3 x3_1):=⟨(by rw [hw];exact (by (with_reducible repeat (first | apply Kd.R_alloc | apply Kd.R_drewN | apply Kd.R_drew));exact Kd.R_mono (Kd.R_far (p:=⟨gb5,1,none⟩) (Kd.R_far (p:=⟨gb5,0,none⟩) (Kd.R_types HO_3.out BK5.out (by decide)) (fun _ hk=>hk.2) (.string ((rd_T113 l0 x9_1).f0))) (fun _ hk=>hk.2) (.int .i64 ((rd_T113 l0 x9_1).f1))) (fun _ hk=>trivial)))⟩;have n1_ : Aside0 (w18.heap[gb5]? = some (.cells #[.string ((rd_T113 l0 x9_1).f0),.int .i64 ((rd_T113 l0 x9_1).f1)] 113 (0,0))):=⟨(by rw [hw];exact (by (with_reducible repeat (first | refine blk_drewN ?_ _ | refine blk_drew ?_ | refine blk_alloc ?_ _));refine blk_put (cs:=#[.string ((rd_T113 l0 x9_1).f0),.int .i64 0]) ?_ 1 _ rfl;(with_reducible repeat (first | refine blk_drewN ?_ _ | refine blk_drew ?_ | refine blk_alloc ?_ _));refine blk_put (cs:=#[.string (⟨#[]⟩ : ByteArray),.int .i64 0]) ?_ 0 _ rfl;(with_reducible repeat (first | refine blk_drewN ?_ _ | refine blk_drew ?_ | refine blk_alloc ?_ _));exact BK5.out))⟩;have n2_ : Aside0 (Below w.heap.size w w18):=⟨(by rw [hw];exact hbw_)⟩;clear hw HO_3;clear BK5 HB;have HO_3:=n0_;have BK5:=n1_;have HB:=n2_;clear n0_ n1_ n2_;have p6 : 0 ≤ ((ji8) : Int):=of_decide_eq_true (by first | (with_reducible assumption) | assumption);have q6 : (ji8) < (l0.length : Int):=of_decide_eq_true (by first | (with_reducible assumption) | assumption);obtain ⟨ad6,e6,hx6_0,hx6_1⟩:=at_T113 HR0.out (ji8) p6 q6;obtain rfl : ad4 = ad6:=(by injection e6);replace hx6_0:=(HB.out.cell (World.block_lt_of_cell? w _ hx6_0)).trans hx6_0;replace hx6_1:=(HB.out.cell (World.block_lt_of_cell? w _ hx6_1)).trans hx6_1;replace p6:=eq_true p6;replace q6:=eq_true q6;have hcz19_0 : w18.cell? ⟨gb5,0,none⟩ = some (.string ((rd_T113 l0 x9_1).f0)):=(blk_cell BK5.out 0).trans rfl;have hcz19_1 : w18.cell? ⟨gb5,1,none⟩ = some (.int .i64 ((rd_T113 l0 x9_1).f1)):=(blk_cell BK5.out 1).trans rfl;have hfz19_0:=blk_frozen BK5.out 0;have hfz19_1:=blk_frozen BK5.out 1;obtain ⟨Ao20,co20,eo20⟩:=Kd.R_slice HO_3.out;subst eo20;have p7 : 0 ≤ ((ji12) : Int):=of_decide_eq_true (by first | (with_reducible assumption) | assumption);have q7 : (ji12) < (x3_1.length : Int):=of_decide_eq_true (by first | (with_reducible assumption) | assumption);obtain ⟨ad7,e7,hx7_0,hx7_1,hx7_2⟩:=at_T115 (Kd.R_reads' HO_3.out).2.2 (ji12) p7 q7;cases e7;replace p7:=eq_true p7;replace q7:=eq_true q7;have p15 : 0 ≤ ((ji12) : Int):=of_decide_eq_true (by first | (with_reducible assumption) | assumption);have q15 : ((ji12) : Int) < ((x3_1.length : Int) : Int):=of_decide_eq_true (by first | (with_reducible assumption) | assumption);obtain ⟨go15,co15,eo15,gb15,gl15,cl15,HG15⟩:=Kd.R_form HO_3.out (by omega);(first | cases eo15 | (injection eo15 with ea_ en_ ec_;(first | subst ea_ | (injection ea_ with ea_;subst ea_));subst ec_;clear en_));have GB15:=a0_ gb15;have GG15:=a0_ HG15;clear gb15 gl15 HG15;(first | simp only [add_plain] at hx7_0 | skip);(first | simp only [add_plain] at hx7_1 | skip);(first | simp only [add_plain] at hx7_2 | skip);obtain ⟨ce15,hcl15,hM15,hcc15,hfr15⟩:=Kd.R_elem HO_3.out z115 ((ji12) : Int) p15 q15;obtain rfl:=k115_openM hM15;have hx15_0 : w18.cell? ⟨go15,((ji12) : Int).toNat * 3,none⟩ = some (.string ((rd_T115 x3_1 (ji12)).f0.f0)):=hcc15 0 _ rfl;have hx15_1 : w18.cell? ⟨go15,((ji12) : Int).toNat * 3 + 1,none⟩ = some (.int .i64 ((rd_T115 x3_1 (ji12)).f0.f1)):=hcc15 1 _ rfl;have hx15_2 : w18.cell? ⟨go15,((ji12) : Int).toNat * 3 + 2,none⟩ = some (.int .i64 ((rd_T115 x3_1 (ji12)).f1)):=hcc15 2 _ rfl;have hf15_0 : w18.frozen? ⟨go15,((ji12) : Int).toNat * 3,none⟩ = false:=hfr15 0;have hf15_1 : w18.frozen? ⟨go15,((ji12) : Int).toNat * 3 + 1,none⟩ = false:=hfr15 1;have hf15_2 : w18.frozen? ⟨go15,((ji12) : Int).toNat * 3 + 2,none⟩ = false:=hfr15 2;clear hcl15 hcc15 hfr15 hM15;replace p15:=eq_true p15;replace q15:=eq_true q15;have HX21:=a0_ (show Kd.R k115 115 w18 w.heap.size (fun _=>True) (.slice (some ⟨go15,0,none⟩) x3_1.length co20) x3_1 from (rr_ HO_3.out));obtain ⟨ce21,hcl21,hM21,hcc21,hfr21⟩:=Kd.R_elem HX21.out z115 ((ji12) : Int) (of_decide_eq_true (by first | (with_reducible assumption) | assumption)) (by have h_ : ((ji12) : Int) < ((x3_1.length : Int) : Int):=of_decide_eq_true (by first | (with_reducible assumption) | assumption);first | exact h_ | (have e_:=(Kd.R_reads' HO_3.out).1;omega) | simpa using h_);obtain rfl:=k115_openM hM21;have HP21:=Kd.R_seg HX21.out ((ji12) : Int) (of_decide_eq_true (by first | (with_reducible assumption) | assumption)) (by have h_ : ((ji12) : Int) < ((x3_1.length : Int) : Int):=of_decide_eq_true (by first | (with_reducible assumption) | assumption);first | exact h_ | (have e_:=(Kd.R_reads' HO_3.out).1;omega) | simpa using h_) (seg:=[.int .i64 (wrap64 (((rd_T115 x3_1 (ji12)).f1) + 1))]) (j:=2) hcl21 hcc21 (show 3 ≤ 3 from by decide) (x':=(⟨(⟨(rd_T115 x3_1 (ji12)).f0.f0,(rd_T115 x3_1 (ji12)).f0.f1⟩ : S113),wrap64 (((rd_T115 x3_1 (ji12)).f1) + 1)⟩ : S115)) (k115_mkM _ _ _ (⟨(⟨(rd_T115 x3_1 (ji12)).f0.f0,(rd_T115 x3_1 (ji12)).f0.f1⟩ : S113),wrap64 (((rd_T115 x3_1 (ji12)).f1) + 1)⟩ : S115) ) (fun _ hk=>hk);have hx21_2:=hcc21 2 _ rfl;(try simp only [show (k115).sz = 3 from rfl,Nat.mul_one,Nat.add_zero] at hx21_2);have hf21_2:=hfr21 2;(try simp only [show (k115).sz = 3 from rfl,Nat.mul_one,Nat.add_zero] at hf21_2);clear hcl21 hcc21 hfr21 hM21) | ((with_reducible refine gate_store (t:=3) (p:=34) rfl ?_);(try (rw [drewN_self w18];generalize hq_ : World.drewN w18 _ = w18;replace HO_3:=a0_ (Kd.R_at hq_ HO_3.out);replace BK5:=a0_ (blk_at hq_ BK5.out);replace HB:=a0_ (below_at hq_ HB.out);clear hq_;(try (have HX21:=a0_ (show Kd.R k115 115 w18 w.heap.size (fun _=>True) (.slice (some ⟨go15,0,none⟩) x3_1.length co20) x3_1 from (rr_ HO_3.out))));(try (obtain ⟨ce21,hcl21,hM21,hcc21,hfr21⟩:=Kd.R_elem HX21.out z115 ((ji12) : Int) (of_decide_eq_true (by first | (with_reducible assumption) | assumption)) (by have h_ : ((ji12) : Int) < ((x3_1.length : Int) : Int):=of_decide_eq_true (by first | (with_reducible assumption) | assumption);first | exact h_ | (have e_:=(Kd.R_reads' HO_3.out).1;omega) | simpa using h_)));(try (obtain rfl:=k115_openM hM21));(try (have HP21:=Kd.R_seg HX21.out ((ji12) : Int) (of_decide_eq_true (by first | (with_reducible assumption) | assumption)) (by have h_ : ((ji12) : Int) < ((x3_1.length : Int) : Int):=of_decide_eq_true (by first | (with_reducible assumption) | assumption);first | exact h_ | (have e_:=(Kd.R_reads' HO_3.out).1;omega) | simpa using h_) (seg:=[.int .i64 (wrap64 (((rd_T115 x3_1 (ji12)).f1) + 1))]) (j:=2) hcl21 hcc21 (show 3 ≤ 3 from by decide) (x':=(⟨(⟨(rd_T115 x3_1 (ji12)).f0.f0,(rd_T115 x3_1 (ji12)).f0.f1⟩ : S113),wrap64 (((rd_T115 x3_1 (ji12)).f1) + 1)⟩ : S115)) (k115_mkM _ _ _ (⟨(⟨(rd_T115 x3_1 (ji12)).f0.f0,(rd_T115 x3_1 (ji12)).f0.f1⟩ : S113),wrap64 (((rd_T115 x3_1 (ji12)).f1) + 1)⟩ : S115) ) (fun _ hk=>hk)));(try (have hx21_2:=hcc21 2 _ rfl));(try (try simp only [show (k115).sz = 3 from rfl,Nat.mul_one,Nat.add_zero] at hx21_2));(try (have hf21_2:=hfr21 2));(try (try simp only [show (k115).sz = 3 from rfl,Nat.mul_one,Nat.add_zero] at hf21_2));(try (clear hcl21 hcc21 hfr21 hM21))));refine store_event (t:=3) (p:=34) (v:=?vo_w22) (w1:=(w18.setCell ⟨go15,((ji12) : Int).toNat * 3 + 2,none⟩ (.int .i64 (wrap64 (((rd_T115 x3_1 (ji12)).f1) + 1))))) ?hg ?ho ?hn ?hr ?_;(case ho=>rfl);(case hg=>rfl);(case hn=>rfl);(case hr=>first | (go_simp;done) | (go_simp;rfl));intro w22 hw;have hg : w18.grownBy w22 (some go15):=(by rw [hw];exact HP21.2);have hp_ : Kd.R k115 115 w22 w.heap.size (fun _=>True) (.slice (some ⟨go15,0,none⟩) x3_1.length co20) y8:=(by rw [hw,Ny8.out];exact HP21.1);clear HP21;have n0_:=a0_ (hp_);have n1_:=a0_ (blk_grown (bb_ BK5.out) hg (Kd.R_ne HO_3.out BK5.out (by decide)));have n2_:=a0_ ((by rw [hw];exact below_set (HB.out) GB15.out : Below w.heap.size w w22));clear HO_3 BK5 HB;have HO_3:=n0_;have BK5:=n1_;have HB:=n2_;clear n0_ n1_ n2_;clear hg hw hp_))
            repeat (go_quiet (first | ((with_reducible refine gate_dst (N:=5) rfl ?_);refine box_event ?hg (N:=5) ?hd (cs:=#[.string (⟨#[]⟩ : ByteArray),.int .i64 0]) (t:=113) ?hr ?_;(case hd=>rfl);(case hg=>rfl);(case hr=>first | (go_simp;done) | (go_simp;rfl));intro gb5 hg w16 hbox hb;replace HO_3:=rb_ HO_3 hb;have BK5:=a0_ (hbox);have GW5:=a0_ ((by rw [hg];exact (below_size hbw_) : w.heap.size ≤ gb5));have GE5:=a0_ ((by rw [hg];exact (below_size hbw_) : w.heap.size ≤ gb5));replace HB:=a0_ (below_step hbw_ hb);clear hb hbox hg;have hcz17_0 : w16.cell? ⟨gb5,0,none⟩ = some (.string (⟨#[]⟩ : ByteArray)):=(blk_cell BK5.out 0).trans rfl;have hcz17_1 : w16.cell? ⟨gb5,1,none⟩ = some (.int .i64 0):=(blk_cell BK5.out 1).trans rfl;have hfz17_0:=blk_frozen BK5.out 0;have hfz17_1:=blk_frozen BK5.out 1) | ((with_reducible refine gate_store (t:=113) (p:=5) rfl ?_);(try (rw [drewN_self w16];generalize hq_ : World.drewN w16 _ = w16;have n0_:=a0_ (Kd.R_at hq_ HO_3.out);have n1_:=a0_ (blk_at hq_ BK5.out);have n2_:=a0_ (below_at hq_ HB.out);clear hq_ HO_3 BK5 HB;have HO_3:=n0_;have BK5:=n1_;have HB:=n2_;clear n0_ n1_ n2_));refine store_event (t:=113) (p:=5) (v:=?vo_w18) (w1:=((w16.setCell ⟨gb5,0,none⟩ (.string ((rd_T113 l0 x9_1).f0))).setCell ⟨gb5,1,none⟩ (.int .i64 ((rd_T113 l0 x9_1).f1)))) ?hg ?ho ?hn ?hr ?_;(case ho=>rfl);(case hg=>rfl);(case hn=>rfl);(case hr=>first | (go_simp;done) | (go_simp;rfl));intro w18 hw;have n0_ : Aside0 (Kd.R k115 115 w18 w.heap.size (fun _=>True) u3 x3_1):=⟨(by rw [hw];exact (by (with_reducible repeat (first | apply Kd.R_alloc | apply Kd.R_drewN | apply Kd.R_drew));exact Kd.R_mono (Kd.R_far (p:=⟨gb5,1,none⟩) (Kd.R_far (p:=⟨gb5,0,none⟩) (Kd.R_types HO_3.out BK5.out (by decide)) (fun _ hk=>hk.2) (.string ((rd_T113 l0 x9_1).f0))) (fun _ hk=>hk.2) (.int .i64 ((rd_T113 l0 x9_1).f1))) (fun _ hk=>trivial)))⟩;have n1_ : Aside0 (w18.heap[gb5]? = some (.cells #[.string ((rd_T113 l0 x9_1).f0),.int .i64 ((rd_T113 l0 x9_1).f1)] 113 (0,0))):=⟨(by rw [hw];exact (by (with_reducible repeat (first | refine blk_drewN ?_ _ | refine blk_drew ?_ | refine blk_alloc ?_ _));refine blk_put (cs:=#[.string ((rd_T113 l0 x9_1).f0),.int .i64 0]) ?_ 1 _ rfl;(with_reducible repeat (first | refine blk_drewN ?_ _ | refine blk_drew ?_ | refine blk_alloc ?_ _));refine blk_put (cs:=#[.string (⟨#[]⟩ : ByteArray),.int .i64 0]) ?_ 0 _ rfl;(with_reducible repeat (first | refine blk_drewN ?_ _ | refine blk_drew ?_ | refine blk_alloc ?_ _));exact BK5.out))⟩;have n2_ : Aside0 (Below w.heap.size w w18):=⟨(by rw [hw];exact hbw_)⟩;clear hw HO_3;clear BK5 HB;have HO_3:=n0_;have BK5:=n1_;have HB:=n2_;clear n0_ n1_ n2_;have p6 : 0 ≤ ((ji8) : Int):=of_decide_eq_true (by first | (with_reducible assumption) | assumption);have q6 : (ji8) < (l0.length : Int):=of_decide_eq_true (by first | (with_reducible assumption) | assumption);obtain ⟨ad6,e6,hx6_0,hx6_1⟩:=at_T113 HR0.out (ji8) p6 q6;obtain rfl : ad4 = ad6:=(by injection e6);replace hx6_0:=(HB.out.cell (World.block_lt_of_cell? w _ hx6_0)).trans hx6_0;replace hx6_1:=(HB.out.cell (World.block_lt_of_cell? w _ hx6_1)).trans hx6_1;replace p6:=eq_true p6;replace q6:=eq_true q6;have hcz19_0 : w18.cell? ⟨gb5,0,none⟩ = some (.string ((rd_T113 l0 x9_1).f0)):=(blk_cell BK5.out 0).trans rfl;have hcz19_1 : w18.cell? ⟨gb5,1,none⟩ = some (.int .i64 ((rd_T113 l0 x9_1).f1)):=(blk_cell BK5.out 1).trans rfl;have hfz19_0:=blk_frozen BK5.out 0;have hfz19_1:=blk_frozen BK5.out 1;obtain ⟨Ao20,co20,eo20⟩:=Kd.R_slice HO_3.out;subst eo20;have p7 : 0 ≤ ((ji12) : Int):=of_decide_eq_true (by first | (with_reducible assumption) | assumption);have q7 : (ji12) < (x3_1.length : Int):=of_decide_eq_true (by first | (with_reducible assumption) | assumption);obtain ⟨ad7,e7,hx7_0,hx7_1,hx7_2⟩:=at_T115 (Kd.R_reads' HO_3.out).2.2 (ji12) p7 q7;cases e7;replace p7:=eq_true p7;replace q7:=eq_true q7;have p15 : 0 ≤ ((ji12) : Int):=of_decide_eq_true (by first | (with_reducible assumption) | assumption);have q15 : ((ji12) : Int) < ((x3_1.length : Int) : Int):=of_decide_eq_true (by first | (with_reducible assumption) | assumption);obtain ⟨go15,co15,eo15,gb15,gl15,cl15,HG15⟩:=Kd.R_form HO_3.out (by omega);(first | cases eo15 | (injection eo15 with ea_ en_ ec_;(first | subst ea_ | (injection ea_ with ea_;subst ea_));subst ec_;clear en_));have GB15:=a0_ gb15;have GG15:=a0_ HG15;clear gb15 gl15 HG15;(first | simp only [add_plain] at hx7_0 | skip);(first | simp only [add_plain] at hx7_1 | skip);(first | simp only [add_plain] at hx7_2 | skip);obtain ⟨ce15,hcl15,hM15,hcc15,hfr15⟩:=Kd.R_elem HO_3.out z115 ((ji12) : Int) p15 q15;obtain rfl:=k115_openM hM15;have hx15_0 : w18.cell? ⟨go15,((ji12) : Int).toNat * 3,none⟩ = some (.string ((rd_T115 x3_1 (ji12)).f0.f0)):=hcc15 0 _ rfl;have hx15_1 : w18.cell? ⟨go15,((ji12) : Int).toNat * 3 + 1,none⟩ = some (.int .i64 ((rd_T115 x3_1 (ji12)).f0.f1)):=hcc15 1 _ rfl;have hx15_2 : w18.cell? ⟨go15,((ji12) : Int).toNat * 3 + 2,none⟩ = some (.int .i64 ((rd_T115 x3_1 (ji12)).f1)):=hcc15 2 _ rfl;have hf15_0 : w18.frozen? ⟨go15,((ji12) : Int).toNat * 3,none⟩ = false:=hfr15 0;have hf15_1 : w18.frozen? ⟨go15,((ji12) : Int).toNat * 3 + 1,none⟩ = false:=hfr15 1;have hf15_2 : w18.frozen? ⟨go15,((ji12) : Int).toNat * 3 + 2,none⟩ = false:=hfr15 2;clear hcl15 hcc15 hfr15 hM15;replace p15:=eq_true p15;replace q15:=eq_true q15;have HX21:=a0_ (show Kd.R k115 115 w18 w.heap.size (fun _=>True) (.slice (some ⟨go15,0,none⟩) x3_1.length co20) x3_1 from (rr_ HO_3.out));obtain ⟨ce21,hcl21,hM21,hcc21,hfr21⟩:=Kd.R_elem HX21.out z115 ((ji12) : Int) (of_decide_eq_true (by first | (with_reducible assumption) | assumption)) (by have h_ : ((ji12) : Int) < ((x3_1.length : Int) : Int):=of_decide_eq_true (by first | (with_reducible assumption) | assumption);first | exact h_ | (have e_:=(Kd.R_reads' HO_3.out).1;omega) | simpa using h_);obtain rfl:=k115_openM hM21;have HP21:=Kd.R_seg HX21.out ((ji12) : Int) (of_decide_eq_true (by first | (with_reducible assumption) | assumption)) (by have h_ : ((ji12) : Int) < ((x3_1.length : Int) : Int):=of_decide_eq_true (by first | (with_reducible assumption) | assumption);first | exact h_ | (have e_:=(Kd.R_reads' HO_3.out).1;omega) | simpa using h_) (seg:=[.int .i64 (wrap64 (((rd_T115 x3_1 (ji12)).f1) + 1))]) (j:=2) hcl21 hcc21 (show 3 ≤ 3 from by decide) (x':=(⟨(⟨(rd_T115 x3_1 (ji12)).f0.f0,(rd_T115 x3_1 (ji12)).f0.f1⟩ : S113),wrap64 (((rd_T115 x3_1 (ji12)).f1) + 1)⟩ : S115)) (k115_mkM _ _ _ (⟨(⟨(rd_T115 x3_1 (ji12)).f0.f0,(rd_T115 x3_1 (ji12)).f0.f1⟩ : S113),wrap64 (((rd_T115 x3_1 (ji12)).f1) + 1)⟩ : S115) ) (fun _ hk=>hk);have hx21_2:=hcc21 2 _ rfl;(try simp only [show (k115).sz = 3 from rfl,Nat.mul_one,Nat.add_zero] at hx21_2);have hf21_2:=hfr21 2;(try simp only [show (k115).sz = 3 from rfl,Nat.mul_one,Nat.add_zero] at hf21_2);clear hcl21 hcc21 hfr21 hM21) | ((with_reducible refine gate_store (t:=3) (p:=34) rfl ?_);(try (rw [drewN_self w18];generalize hq_ : World.drewN w18 _ = w18;replace HO_3:=a0_ (Kd.R_at hq_ HO_3.out);replace BK5:=a0_ (blk_at hq_ BK5.out);replace HB:=a0_ (below_at hq_ HB.out);clear hq_;(try (have HX21:=a0_ (show Kd.R k115 115 w18 w.heap.size (fun _=>True) (.slice (some ⟨go15,0,none⟩) x3_1.length co20) x3_1 from (rr_ HO_3.out))));(try (obtain ⟨ce21,hcl21,hM21,hcc21,hfr21⟩:=Kd.R_elem HX21.out z115 ((ji12) : Int) (of_decide_eq_true (by first | (with_reducible assumption) | assumption)) (by have h_ : ((ji12) : Int) < ((x3_1.length : Int) : Int):=of_decide_eq_true (by first | (with_reducible assumption) | assumption);first | exact h_ | (have e_:=(Kd.R_reads' HO_3.out).1;omega) | simpa using h_)));(try (obtain rfl:=k115_openM hM21));(try (have HP21:=Kd.R_seg HX21.out ((ji12) : Int) (of_decide_eq_true (by first | (with_reducible assumption) | assumption)) (by have h_ : ((ji12) : Int) < ((x3_1.length : Int) : Int):=of_decide_eq_true (by first | (with_reducible assumption) | assumption);first | exact h_ | (have e_:=(Kd.R_reads' HO_3.out).1;omega) | simpa using h_) (seg:=[.int .i64 (wrap64 (((rd_T115 x3_1 (ji12)).f1) + 1))]) (j:=2) hcl21 hcc21 (show 3 ≤ 3 from by decide) (x':=(⟨(⟨(rd_T115 x3_1 (ji12)).f0.f0,(rd_T115 x3_1 (ji12)).f0.f1⟩ : S113),wrap64 (((rd_T115 x3_1 (ji12)).f1) + 1)⟩ : S115)) (k115_mkM _ _ _ (⟨(⟨(rd_T115 x3_1 (ji12)).f0.f0,(rd_T115 x3_1 (ji12)).f0.f1⟩ : S113),wrap64 (((rd_T115 x3_1 (ji12)).f1) + 1)⟩ : S115) ) (fun _ hk=>hk)));(try (have hx21_2:=hcc21 2 _ rfl));(try (try simp only [show (k115).sz = 3 from rfl,Nat.mul_one,Nat.add_zero] at hx21_2));(try (have hf21_2:=hfr21 2));(try (try simp only [show (k115).sz = 3 from rfl,Nat.mul_one,Nat.add_zero] at hf21_2));(try (clear hcl21 hcc21 hfr21 hM21))));refine store_event (t:=3) (p:=34) (v:=?vo_w22) (w1:=(w18.setCell ⟨go15,((ji12) : Int).toNat * 3 + 2,none⟩ (.int .i64 (wrap64 (((rd_T115 x3_1 (ji12)).f1) + 1))))) ?hg ?ho ?hn ?hr ?_;(case ho=>rfl);(case hg=>rfl);(case hn=>rfl);(case hr=>first | (go_simp;done) | (go_simp;rfl));intro w22 hw;have hg : w18.grownBy w22 (some go15):=(by rw [hw];exact HP21.2);have hp_ : Kd.R k115 115 w22 w.heap.size (fun _=>True) (.slice (some ⟨go15,0,none⟩) x3_1.length co20) y8:=(by rw [hw,Ny8.out];exact HP21.1);clear HP21;have n0_:=a0_ (hp_);have n1_:=a0_ (blk_grown (bb_ BK5.out) hg (Kd.R_ne HO_3.out BK5.out (by decide)));have n2_:=a0_ ((by rw [hw];exact below_set (HB.out) GB15.out : Below w.heap.size w w22));clear HO_3 BK5 HB;have HO_3:=n0_;have BK5:=n1_;have HB:=n2_;clear n0_ n1_ n2_;clear hg hw hp_));try go_wp2_with (first | ((with_reducible refine gate_dst (N:=5) rfl ?_);refine box_event ?hg (N:=5) ?hd (cs:=#[.string (⟨#[]⟩ : ByteArray),.int .i64 0]) (t:=113) ?hr ?_;(case hd=>rfl);(case hg=>rfl);(case hr=>first | (go_simp;done) | (go_simp;rfl));intro gb5 hg w16 hbox hb;replace HO_3:=rb_ HO_3 hb;have BK5:=a0_ (hbox);have GW5:=a0_ ((by rw [hg];exact (below_size hbw_) : w.heap.size ≤ gb5));have GE5:=a0_ ((by rw [hg];exact (below_size hbw_) : w.heap.size ≤ gb5));replace HB:=a0_ (below_step hbw_ hb);clear hb hbox hg;have hcz17_0 : w16.cell? ⟨gb5,0,none⟩ = some (.string (⟨#[]⟩ : ByteArray)):=(blk_cell BK5.out 0).trans rfl;have hcz17_1 : w16.cell? ⟨gb5,1,none⟩ = some (.int .i64 0):=(blk_cell BK5.out 1).trans rfl;have hfz17_0:=blk_frozen BK5.out 0;have hfz17_1:=blk_frozen BK5.out 1) | ((with_reducible refine gate_store (t:=113) (p:=5) rfl ?_);(try (rw [drewN_self w16];generalize hq_ : World.drewN w16 _ = w16;have n0_:=a0_ (Kd.R_at hq_ HO_3.out);have n1_:=a0_ (blk_at hq_ BK5.out);have n2_:=a0_ (below_at hq_ HB.out);clear hq_ HO_3 BK5 HB;have HO_3:=n0_;have BK5:=n1_;have HB:=n2_;clear n0_ n1_ n2_));refine store_event (t:=113) (p:=5) (v:=?vo_w18) (w1:=((w16.setCell ⟨gb5,0,none⟩ (.string ((rd_T113 l0 x9_1).f0))).setCell ⟨gb5,1,none⟩ (.int .i64 ((rd_T113 l0 x9_1).f1)))) ?hg ?ho ?hn ?hr ?_;(case ho=>rfl);(case hg=>rfl);(case hn=>rfl);(case hr=>first | (go_simp;done) | (go_simp;rfl));intro w18 hw;have n0_ : Aside0 (Kd.R k115 115 w18 w.heap.size (fun _=>True) u3 x3_1):=⟨(by rw [hw];exact (by (with_reducible repeat (first | apply Kd.R_alloc | apply Kd.R_drewN | apply Kd.R_drew));exact Kd.R_mono (Kd.R_far (p:=⟨gb5,1,none⟩) (Kd.R_far (p:=⟨gb5,0,none⟩) (Kd.R_types HO_3.out BK5.out (by decide)) (fun _ hk=>hk.2) (.string ((rd_T113 l0 x9_1).f0))) (fun _ hk=>hk.2) (.int .i64 ((rd_T113 l0 x9_1).f1))) (fun _ hk=>trivial)))⟩;have n1_ : Aside0 (w18.heap[gb5]? = some (.cells #[.string ((rd_T113 l0 x9_1).f0),.int .i64 ((rd_T113 l0 x9_1).f1)] 113 (0,0))):=⟨(by rw [hw];exact (by (with_reducible repeat (first | refine blk_drewN ?_ _ | refine blk_drew ?_ | refine blk_alloc ?_ _));refine blk_put (cs:=#[.string ((rd_T113 l0 x9_1).f0),.int .i64 0]) ?_ 1 _ rfl;(with_reducible repeat (first | refine blk_drewN ?_ _ | refine blk_drew ?_ | refine blk_alloc ?_ _));refine blk_put (cs:=#[.string (⟨#[]⟩ : ByteArray),.int .i64 0]) ?_ 0 _ rfl;(with_reducible repeat (first | refine blk_drewN ?_ _ | refine blk_drew ?_ | refine blk_alloc ?_ _));exact BK5.out))⟩;have n2_ : Aside0 (Below w.heap.size w w18):=⟨(by rw [hw];exact hbw_)⟩;clear hw HO_3;clear BK5 HB;have HO_3:=n0_;have BK5:=n1_;have HB:=n2_;clear n0_ n1_ n2_;have p6 : 0 ≤ ((ji8) : Int):=of_decide_eq_true (by first | (with_reducible assumption) | assumption);have q6 : (ji8) < (l0.length : Int):=of_decide_eq_true (by first | (with_reducible assumption) | assumption);obtain ⟨ad6,e6,hx6_0,hx6_1⟩:=at_T113 HR0.out (ji8) p6 q6;obtain rfl : ad4 = ad6:=(by injection e6);replace hx6_0:=(HB.out.cell (World.block_lt_of_cell? w _ hx6_0)).trans hx6_0;replace hx6_1:=(HB.out.cell (World.block_lt_of_cell? w _ hx6_1)).trans hx6_1;replace p6:=eq_true p6;replace q6:=eq_true q6;have hcz19_0 : w18.cell? ⟨gb5,0,none⟩ = some (.string ((rd_T113 l0 x9_1).f0)):=(blk_cell BK5.out 0).trans rfl;have hcz19_1 : w18.cell? ⟨gb5,1,none⟩ = some (.int .i64 ((rd_T113 l0 x9_1).f1)):=(blk_cell BK5.out 1).trans rfl;have hfz19_0:=blk_frozen BK5.out 0;have hfz19_1:=blk_frozen BK5.out 1;obtain ⟨Ao20,co20,eo20⟩:=Kd.R_slice HO_3.out;subst eo20;have p7 : 0 ≤ ((ji12) : Int):=of_decide_eq_true (by first | (with_reducible assumption) | assumption);have q7 : (ji12) < (x3_1.length : Int):=of_decide_eq_true (by first | (with_reducible assumption) | assumption);obtain ⟨ad7,e7,hx7_0,hx7_1,hx7_2⟩:=at_T115 (Kd.R_reads' HO_3.out).2.2 (ji12) p7 q7;cases e7;replace p7:=eq_true p7;replace q7:=eq_true q7;have p15 : 0 ≤ ((ji12) : Int):=of_decide_eq_true (by first | (with_reducible assumption) | assumption);have q15 : ((ji12) : Int) < ((x3_1.length : Int) : Int):=of_decide_eq_true (by first | (with_reducible assumption) | assumption);obtain ⟨go15,co15,eo15,gb15,gl15,cl15,HG15⟩:=Kd.R_form HO_3.out (by omega);(first | cases eo15 | (injection eo15 with ea_ en_ ec_;(first | subst ea_ | (injection ea_ with ea_;subst ea_));subst ec_;clear en_));have GB15:=a0_ gb15;have GG15:=a0_ HG15;clear gb15 gl15 HG15;(first | simp only [add_plain] at hx7_0 | skip);(first | simp only [add_plain] at hx7_1 | skip);(first | simp only [add_plain] at hx7_2 | skip);obtain ⟨ce15,hcl15,hM15,hcc15,hfr15⟩:=Kd.R_elem HO_3.out z115 ((ji12) : Int) p15 q15;obtain rfl:=k115_openM hM15;have hx15_0 : w18.cell? ⟨go15,((ji12) : Int).toNat * 3,none⟩ = some (.string ((rd_T115 x3_1 (ji12)).f0.f0)):=hcc15 0 _ rfl;have hx15_1 : w18.cell? ⟨go15,((ji12) : Int).toNat * 3 + 1,none⟩ = some (.int .i64 ((rd_T115 x3_1 (ji12)).f0.f1)):=hcc15 1 _ rfl;have hx15_2 : w18.cell? ⟨go15,((ji12) : Int).toNat * 3 + 2,none⟩ = some (.int .i64 ((rd_T115 x3_1 (ji12)).f1)):=hcc15 2 _ rfl;have hf15_0 : w18.frozen? ⟨go15,((ji12) : Int).toNat * 3,none⟩ = false:=hfr15 0;have hf15_1 : w18.frozen? ⟨go15,((ji12) : Int).toNat * 3 + 1,none⟩ = false:=hfr15 1;have hf15_2 : w18.frozen? ⟨go15,((ji12) : Int).toNat * 3 + 2,none⟩ = false:=hfr15 2;clear hcl15 hcc15 hfr15 hM15;replace p15:=eq_true p15;replace q15:=eq_true q15;have HX21:=a0_ (show Kd.R k115 115 w18 w.heap.size (fun _=>True) (.slice (some ⟨go15,0,none⟩) x3_1.length co20) x3_1 from (rr_ HO_3.out));obtain ⟨ce21,hcl21,hM21,hcc21,hfr21⟩:=Kd.R_elem HX21.out z115 ((ji12) : Int) (of_decide_eq_true (by first | (with_reducible assumption) | assumption)) (by have h_ : ((ji12) : Int) < ((x3_1.length : Int) : Int):=of_decide_eq_true (by first | (with_reducible assumption) | assumption);first | exact h_ | (have e_:=(Kd.R_reads' HO_3.out).1;omega) | simpa using h_);obtain rfl:=k115_openM hM21;have HP21:=Kd.R_seg HX21.out ((ji12) : Int) (of_decide_eq_true (by first | (with_reducible assumption) | assumption)) (by have h_ : ((ji12) : Int) < ((x3_1.length : Int) : Int):=of_decide_eq_true (by first | (with_reducible assumption) | assumption);first | exact h_ | (have e_:=(Kd.R_reads' HO_3.out).1;omega) | simpa using h_) (seg:=[.int .i64 (wrap64 (((rd_T115 x3_1 (ji12)).f1) + 1))]) (j:=2) hcl21 hcc21 (show 3 ≤ 3 from by decide) (x':=(⟨(⟨(rd_T115 x3_1 (ji12)).f0.f0,(rd_T115 x3_1 (ji12)).f0.f1⟩ : S113),wrap64 (((rd_T115 x3_1 (ji12)).f1) + 1)⟩ : S115)) (k115_mkM _ _ _ (⟨(⟨(rd_T115 x3_1 (ji12)).f0.f0,(rd_T115 x3_1 (ji12)).f0.f1⟩ : S113),wrap64 (((rd_T115 x3_1 (ji12)).f1) + 1)⟩ : S115) ) (fun _ hk=>hk);have hx21_2:=hcc21 2 _ rfl;(try simp only [show (k115).sz = 3 from rfl,Nat.mul_one,Nat.add_zero] at hx21_2);have hf21_2:=hfr21 2;(try simp only [show (k115).sz = 3 from rfl,Nat.mul_one,Nat.add_zero] at hf21_2);clear hcl21 hcc21 hfr21 hM21) | ((with_reducible refine gate_store (t:=3) (p:=34) rfl ?_);(try (rw [drewN_self w18];generalize hq_ : World.drewN w18 _ = w18;replace HO_3:=a0_ (Kd.R_at hq_ HO_3.out);replace BK5:=a0_ (blk_at hq_ BK5.out);replace HB:=a0_ (below_at hq_ HB.out);clear hq_;(try (have HX21:=a0_ (show Kd.R k115 115 w18 w.heap.size (fun _=>True) (.slice (some ⟨go15,0,none⟩) x3_1.length co20) x3_1 from (rr_ HO_3.out))));(try (obtain ⟨ce21,hcl21,hM21,hcc21,hfr21⟩:=Kd.R_elem HX21.out z115 ((ji12) : Int) (of_decide_eq_true (by first | (with_reducible assumption) | assumption)) (by have h_ : ((ji12) : Int) < ((x3_1.length : Int) : Int):=of_decide_eq_true (by first | (with_reducible assumption) | assumption);first | exact h_ | (have e_:=(Kd.R_reads' HO_3.out).1;omega) | simpa using h_)));(try (obtain rfl:=k115_openM hM21));(try (have HP21:=Kd.R_seg HX21.out ((ji12) : Int) (of_decide_eq_true (by first | (with_reducible assumption) | assumption)) (by have h_ : ((ji12) : Int) < ((x3_1.length : Int) : Int):=of_decide_eq_true (by first | (with_reducible assumption) | assumption);first | exact h_ | (have e_:=(Kd.R_reads' HO_3.out).1;omega) | simpa using h_) (seg:=[.int .i64 (wrap64 (((rd_T115 x3_1 (ji12)).f1) + 1))]) (j:=2) hcl21 hcc21 (show 3 ≤ 3 from by decide) (x':=(⟨(⟨(rd_T115 x3_1 (ji12)).f0.f0,(rd_T115 x3_1 (ji12)).f0.f1⟩ : S113),wrap64 (((rd_T115 x3_1 (ji12)).f1) + 1)⟩ : S115)) (k115_mkM _ _ _ (⟨(⟨(rd_T115 x3_1 (ji12)).f0.f0,(rd_T115 x3_1 (ji12)).f0.f1⟩ : S113),wrap64 (((rd_T115 x3_1 (ji12)).f1) + 1)⟩ : S115) ) (fun _ hk=>hk)));(try (have hx21_2:=hcc21 2 _ rfl));(try (try simp only [show (k115).sz = 3 from rfl,Nat.mul_one,Nat.add_zero] at hx21_2));(try (have hf21_2:=hfr21 2));(try (try simp only [show (k115).sz = 3 from rfl,Nat.mul_one,Nat.add_zero] at hf21_2));(try (clear hcl21 hcc21 hfr21 hM21))));refine store_event (t:=3) (p:=34) (v:=?vo_w22) (w1:=(w18.setCell ⟨go15,((ji12) : Int).toNat * 3 + 2,none⟩ (.int .i64 (wrap64 (((rd_T115 x3_1 (ji12)).f1) + 1))))) ?hg ?ho ?hn ?hr ?_;(case ho=>rfl);(case hg=>rfl);(case hn=>rfl);(case hr=>first | (go_simp;done) | (go_simp;rfl));intro w22 hw;have hg : w18.grownBy w22 (some go15):=(by rw [hw];exact HP21.2);have hp_ : Kd.R k115 115 w22 w.heap.size (fun _=>True) (.slice (some ⟨go15,0,none⟩) x3_1.length co20) y8:=(by rw [hw,Ny8.out];exact HP21.1);clear HP21;have n0_:=a0_ (hp_);have n1_:=a0_ (blk_grown (bb_ BK5.out) hg (Kd.R_ne HO_3.out BK5.out (by decide)));have n2_:=a0_ ((by rw [hw];exact below_set (HB.out) GB15.out : Below w.heap.size w w22));clear HO_3 BK5 HB;have HO_3:=n0_;have BK5:=n1_;have HB:=n2_;clear n0_ n1_ n2_;clear hg hw hp_)))
            go_roundg k1
            case measure=>have:=HK1.out;omega
            case rel=>exact ⟨(y8),(wrap64 (x9_1 + 1)),(by first | rfl | (simp;done) | (simp [*];done)),H',⟨by have:=HK1.out;omega⟩,⟨by (with_reducible repeat (first | apply Kd.R_alloc | apply Kd.R_drewN | apply Kd.R_drew));exact HO_3.out⟩,⟨hbw_⟩⟩
           ·rw [if_neg c14] at H
            exact absurd H (by simp)
          ·rw [if_neg c13] at H
           exact absurd H (by simp)
         ·rw [if_neg c11] at H
          have c11b0 : ((((rd_T113 l0 (ji8)).f0).toList) == (((rd_T113 l0 x9_1).f0).toList) && (((rd_T113 l0 (ji8)).f1) == ((rd_T113 l0 x9_1).f1))) = false:=by simpa using c11
          (try (have c11b1 : decide ((((rd_T113 l0 (ji8)).f0).toList) = (((rd_T113 l0 x9_1).f0).toList) && (((rd_T113 l0 (ji8)).f1) == ((rd_T113 l0 x9_1).f1))) = false:=by simpa using c11))
          (try (have c11b2 : ((((rd_T113 l0 (ji8)).f0).toList) == (((rd_T113 l0 x9_1).f0).toList) && (((rd_T113 l0 (ji8)).f1) == ((rd_T113 l0 x9_1).f1))) = false:=by simpa using c11))
          (try (have c11b3 : ¬ ((((rd_T113 l0 (ji8)).f0).toList) = (((rd_T113 l0 x9_1).f0).toList) && (((rd_T113 l0 (ji8)).f1) == ((rd_T113 l0 x9_1).f1))):=by simpa using c11))
          clear c11
          by_cases c23 : x3_1.length < 4398046511104
          ·rw [if_pos c23] at H
           have LMc23:=a0_ c23
           clear c23
           obtain ⟨y9,hy9⟩ : ∃ y_ : List (S115),y_ = (x3_1 ++ [(⟨(⟨(rd_T113 l0 x9_1).f0,(rd_T113 l0 x9_1).f1⟩ : S113),1⟩ : S115)]):=⟨_,rfl⟩
           replace H : (impl_rows.l0 k1 l0 y9 l0 (l0.length : Int) (wrap64 (x9_1 + 1))) = some r:=by first | (rw [hy9];with_reducible exact H) | (have H2_:=(Option.bind_some _ _).symm.trans H;rw [hy9];with_reducible exact H2_) | (have H2_:=(Option.bind_some _ _).symm.trans H;with_reducible exact H2_) | with_reducible exact H | (rw [hy9];exact H) | exact H
           have Ny9:=a0_ hy9
           clear hy9
           have H':=a0_ H
           clear H
           have p4 : 0 ≤ (x9_1 : Int):=of_decide_eq_true (by first | (with_reducible assumption) | assumption)
           have q4 : x9_1 < (l0.length : Int):=of_decide_eq_true (by first | (with_reducible assumption) | assumption)
           obtain ⟨ad4,e4,hx4_0,hx4_1⟩:=at_T113 HR0.out x9_1 p4 q4
           cases e4
           replace hx4_0:=(HB.out.cell (World.block_lt_of_cell? w _ hx4_0)).trans hx4_0
           replace hx4_1:=(HB.out.cell (World.block_lt_of_cell? w _ hx4_1)).trans hx4_1
           replace p4:=eq_true p4
           replace q4:=eq_true q4
           go_wp2_with (first | ((with_reducible refine gate_dst (N:=5) rfl ?_);refine box_event ?hg (N:=5) ?hd (cs:=#[.string (⟨#[]⟩ : ByteArray),.int .i64 0]) (t:=113) ?hr ?_;(case hd=>rfl);(case hg=>rfl);(case hr=>first | (go_simp;done) | (go_simp;rfl));intro gb5 hg w24 hbox hb;replace HO_3:=rb_ HO_3 hb;have BK5:=a0_ (hbox);have GW5:=a0_ ((by rw [hg];exact (below_size hbw_) : w.heap.size ≤ gb5));have GE5:=a0_ ((by rw [hg];exact (below_size hbw_) : w.heap.size ≤ gb5));replace HB:=a0_ (below_step hbw_ hb);clear hb hbox hg;have hcz25_0 : w24.cell? ⟨gb5,0,none⟩ = some (.string (⟨#[]⟩ : ByteArray)):=(blk_cell BK5.out 0).trans rfl;have hcz25_1 : w24.cell? ⟨gb5,1,none⟩ = some (.int .i64 0):=(blk_cell BK5.out 1).trans rfl;have hfz25_0:=blk_frozen BK5.out 0;have hfz25_1:=blk_frozen BK5.out 1;have p6 : 0 ≤ ((ji8) : Int):=of_decide_eq_true (by first | (with_reducible assumption) | assumption);have q6 : (ji8) < (l0.length : Int):=of_decide_eq_true (by first | (with_reducible assumption) | assumption);obtain ⟨ad6,e6,hx6_0,hx6_1⟩:=at_T113 HR0.out (ji8) p6 q6;obtain rfl : ad4 = ad6:=(by injection e6);have hn6_0 : ad4.block ≠ gb5:=Nat.ne_of_lt (Nat.lt_of_lt_of_le (by have:=World.block_lt_of_cell? _ _ hx6_0;first | rwa [add_block] at this | exact this) GW5.out);have hn6_1 : ad4.block ≠ gb5:=Nat.ne_of_lt (Nat.lt_of_lt_of_le (by have:=World.block_lt_of_cell? _ _ hx6_0;first | rwa [add_block] at this | exact this) GW5.out);replace hx6_0:=(HB.out.cell (World.block_lt_of_cell? w _ hx6_0)).trans hx6_0;replace hx6_1:=(HB.out.cell (World.block_lt_of_cell? w _ hx6_1)).trans hx6_1;replace hx6_0:=(cell_far (p:=⟨gb5,0,none⟩) (by first | (rw [add_block];exact hn6_0) | (show (Addr.add _ _).block ≠ _;rw [add_block];exact hn6_0) | exact hn6_0) (.string ((rd_T113 l0 x9_1).f0))).trans hx6_0;replace hx6_1:=(cell_far (p:=⟨gb5,0,none⟩) (by first | (rw [add_block];exact hn6_0) | (show (Addr.add _ _).block ≠ _;rw [add_block];exact hn6_0) | exact hn6_0) (.string ((rd_T113 l0 x9_1).f0))).trans hx6_1;replace hx6_0:=(cell_far (p:=⟨gb5,1,none⟩) (by first | (rw [add_block];exact hn6_1) | (show (Addr.add _ _).block ≠ _;rw [add_block];exact hn6_1) | exact hn6_1) (.int .i64 ((rd_T113 l0 x9_1).f1))).trans hx6_0;replace hx6_1:=(cell_far (p:=⟨gb5,1,none⟩) (by first | (rw [add_block];exact hn6_1) | (show (Addr.add _ _).block ≠ _;rw [add_block];exact hn6_1) | exact hn6_1) (.int .i64 ((rd_T113 l0 x9_1).f1))).trans hx6_1;(try have hy6_0:=fun (n_ : Nat)=>(show ((((w24.drewN n_).setCell ⟨gb5,0,none⟩ (.string ((rd_T113 l0 x9_1).f0))).setCell ⟨gb5,1,none⟩ (.int .i64 ((rd_T113 l0 x9_1).f1)))).cell? _ = some _ from hx6_0));(try have hy6_1:=fun (n_ : Nat)=>(show ((((w24.drewN n_).setCell ⟨gb5,0,none⟩ (.string ((rd_T113 l0 x9_1).f0))).setCell ⟨gb5,1,none⟩ (.int .i64 ((rd_T113 l0 x9_1).f1)))).cell? _ = some _ from hx6_1));clear hn6_0 hn6_1;replace p6:=eq_true p6;replace q6:=eq_true q6) | ((with_reducible refine gate_builtin (b:=.append) (xs:=#[.tmp 35,.tmp 38]) rfl ?_);at_builtin;refine Kd.R_append k115 (w0:=w) w.heap.size rfl (.tmp 35) (.tmp 38) 54 115 (.agg #[(.string ⟨#[]⟩),(.int .i64 0),(.int .i64 0)]) 32 rfl Try.underlying54 info115 rfl (by decide) (by omega) u3 x3_1 (⟨(⟨(rd_T113 l0 x9_1).f0,(rd_T113 l0 x9_1).f1⟩ : S113),1⟩ : S115) [.string ((rd_T113 l0 x9_1).f0),.int .i64 ((rd_T113 l0 x9_1).f1),.int .i64 1] (fun _=>True) (fun _=>False) rfl (by first | (go_simp;done) | (go_simp;rfl)) ?aP (fun _ hk=>hk.elim) ?aF ?aO ?aB ?aS ?aL ?_;(case aP=>exact k115_mkM _ _ _ (⟨(⟨(rd_T113 l0 x9_1).f0,(rd_T113 l0 x9_1).f1⟩ : S113),1⟩ : S115));(case aB=>exact hbw_);(case aF=>exact (fun _ _=>trivial));(case aO=>exact (by (with_reducible repeat (first | apply Kd.R_alloc | apply Kd.R_drewN | apply Kd.R_drew));exact Kd.R_mono (Kd.R_far (p:=⟨gb5,1,none⟩) (Kd.R_far (p:=⟨gb5,0,none⟩) (Kd.R_types HO_3.out BK5.out (by decide)) (fun _ hk=>hk.2) (.string ((rd_T113 l0 x9_1).f0))) (fun _ hk=>hk.2) (.int .i64 ((rd_T113 l0 x9_1).f1))) (fun _ hk=>trivial)));(case aS=>exact (below_size hbw_));(case aL=>have:=LMc23.out;omega);intro v10 w26 ho hb hg hat;rw [← Ny9.out] at ho;replace BK5:=a0_ (blk_grown (g:=gb5) (o:=.cells #[.string ((rd_T113 l0 x9_1).f0),.int .i64 ((rd_T113 l0 x9_1).f1)] 113 (0,0)) (by (with_reducible repeat (first | refine blk_drewN ?_ _ | refine blk_drew ?_ | refine blk_alloc ?_ _));refine blk_put (cs:=#[.string ((rd_T113 l0 x9_1).f0),.int .i64 0]) ?_ 1 _ rfl;(with_reducible repeat (first | refine blk_drewN ?_ _ | refine blk_drew ?_ | refine blk_alloc ?_ _));refine blk_put (cs:=#[.string (⟨#[]⟩ : ByteArray),.int .i64 0]) ?_ 0 _ rfl;(with_reducible repeat (first | refine blk_drewN ?_ _ | refine blk_drew ?_ | refine blk_alloc ?_ _));exact BK5.out) hg (Kd.R_ne HO_3.out BK5.out (by decide)));have HO11:=a0_ (ho);replace HB:=a0_ (hb);clear HO_3;clear ho hb hg hat))
           repeat (go_quiet (first | ((with_reducible refine gate_dst (N:=5) rfl ?_);refine box_event ?hg (N:=5) ?hd (cs:=#[.string (⟨#[]⟩ : ByteArray),.int .i64 0]) (t:=113) ?hr ?_;(case hd=>rfl);(case hg=>rfl);(case hr=>first | (go_simp;done) | (go_simp;rfl));intro gb5 hg w24 hbox hb;replace HO_3:=rb_ HO_3 hb;have BK5:=a0_ (hbox);have GW5:=a0_ ((by rw [hg];exact (below_size hbw_) : w.heap.size ≤ gb5));have GE5:=a0_ ((by rw [hg];exact (below_size hbw_) : w.heap.size ≤ gb5));replace HB:=a0_ (below_step hbw_ hb);clear hb hbox hg;have hcz25_0 : w24.cell? ⟨gb5,0,none⟩ = some (.string (⟨#[]⟩ : ByteArray)):=(blk_cell BK5.out 0).trans rfl;have hcz25_1 : w24.cell? ⟨gb5,1,none⟩ = some (.int .i64 0):=(blk_cell BK5.out 1).trans rfl;have hfz25_0:=blk_frozen BK5.out 0;have hfz25_1:=blk_frozen BK5.out 1;have p6 : 0 ≤ ((ji8) : Int):=of_decide_eq_true (by first | (with_reducible assumption) | assumption);have q6 : (ji8) < (l0.length : Int):=of_decide_eq_true (by first | (with_reducible assumption) | assumption);obtain ⟨ad6,e6,hx6_0,hx6_1⟩:=at_T113 HR0.out (ji8) p6 q6;obtain rfl : ad4 = ad6:=(by injection e6);have hn6_0 : ad4.block ≠ gb5:=Nat.ne_of_lt (Nat.lt_of_lt_of_le (by have:=World.block_lt_of_cell? _ _ hx6_0;first | rwa [add_block] at this | exact this) GW5.out);have hn6_1 : ad4.block ≠ gb5:=Nat.ne_of_lt (Nat.lt_of_lt_of_le (by have:=World.block_lt_of_cell? _ _ hx6_0;first | rwa [add_block] at this | exact this) GW5.out);replace hx6_0:=(HB.out.cell (World.block_lt_of_cell? w _ hx6_0)).trans hx6_0;replace hx6_1:=(HB.out.cell (World.block_lt_of_cell? w _ hx6_1)).trans hx6_1;replace hx6_0:=(cell_far (p:=⟨gb5,0,none⟩) (by first | (rw [add_block];exact hn6_0) | (show (Addr.add _ _).block ≠ _;rw [add_block];exact hn6_0) | exact hn6_0) (.string ((rd_T113 l0 x9_1).f0))).trans hx6_0;replace hx6_1:=(cell_far (p:=⟨gb5,0,none⟩) (by first | (rw [add_block];exact hn6_0) | (show (Addr.add _ _).block ≠ _;rw [add_block];exact hn6_0) | exact hn6_0) (.string ((rd_T113 l0 x9_1).f0))).trans hx6_1;replace hx6_0:=(cell_far (p:=⟨gb5,1,none⟩) (by first | (rw [add_block];exact hn6_1) | (show (Addr.add _ _).block ≠ _;rw [add_block];exact hn6_1) | exact hn6_1) (.int .i64 ((rd_T113 l0 x9_1).f1))).trans hx6_0;replace hx6_1:=(cell_far (p:=⟨gb5,1,none⟩) (by first | (rw [add_block];exact hn6_1) | (show (Addr.add _ _).block ≠ _;rw [add_block];exact hn6_1) | exact hn6_1) (.int .i64 ((rd_T113 l0 x9_1).f1))).trans hx6_1;(try have hy6_0:=fun (n_ : Nat)=>(show ((((w24.drewN n_).setCell ⟨gb5,0,none⟩ (.string ((rd_T113 l0 x9_1).f0))).setCell ⟨gb5,1,none⟩ (.int .i64 ((rd_T113 l0 x9_1).f1)))).cell? _ = some _ from hx6_0));(try have hy6_1:=fun (n_ : Nat)=>(show ((((w24.drewN n_).setCell ⟨gb5,0,none⟩ (.string ((rd_T113 l0 x9_1).f0))).setCell ⟨gb5,1,none⟩ (.int .i64 ((rd_T113 l0 x9_1).f1)))).cell? _ = some _ from hx6_1));clear hn6_0 hn6_1;replace p6:=eq_true p6;replace q6:=eq_true q6) | ((with_reducible refine gate_builtin (b:=.append) (xs:=#[.tmp 35,.tmp 38]) rfl ?_);at_builtin;refine Kd.R_append k115 (w0:=w) w.heap.size rfl (.tmp 35) (.tmp 38) 54 115 (.agg #[(.string ⟨#[]⟩),(.int .i64 0),(.int .i64 0)]) 32 rfl Try.underlying54 info115 rfl (by decide) (by omega) u3 x3_1 (⟨(⟨(rd_T113 l0 x9_1).f0,(rd_T113 l0 x9_1).f1⟩ : S113),1⟩ : S115) [.string ((rd_T113 l0 x9_1).f0),.int .i64 ((rd_T113 l0 x9_1).f1),.int .i64 1] (fun _=>True) (fun _=>False) rfl (by first | (go_simp;done) | (go_simp;rfl)) ?aP (fun _ hk=>hk.elim) ?aF ?aO ?aB ?aS ?aL ?_;(case aP=>exact k115_mkM _ _ _ (⟨(⟨(rd_T113 l0 x9_1).f0,(rd_T113 l0 x9_1).f1⟩ : S113),1⟩ : S115));(case aB=>exact hbw_);(case aF=>exact (fun _ _=>trivial));(case aO=>exact (by (with_reducible repeat (first | apply Kd.R_alloc | apply Kd.R_drewN | apply Kd.R_drew));exact Kd.R_mono (Kd.R_far (p:=⟨gb5,1,none⟩) (Kd.R_far (p:=⟨gb5,0,none⟩) (Kd.R_types HO_3.out BK5.out (by decide)) (fun _ hk=>hk.2) (.string ((rd_T113 l0 x9_1).f0))) (fun _ hk=>hk.2) (.int .i64 ((rd_T113 l0 x9_1).f1))) (fun _ hk=>trivial)));(case aS=>exact (below_size hbw_));(case aL=>have:=LMc23.out;omega);intro v10 w26 ho hb hg hat;rw [← Ny9.out] at ho;replace BK5:=a0_ (blk_grown (g:=gb5) (o:=.cells #[.string ((rd_T113 l0 x9_1).f0),.int .i64 ((rd_T113 l0 x9_1).f1)] 113 (0,0)) (by (with_reducible repeat (first | refine blk_drewN ?_ _ | refine blk_drew ?_ | refine blk_alloc ?_ _));refine blk_put (cs:=#[.string ((rd_T113 l0 x9_1).f0),.int .i64 0]) ?_ 1 _ rfl;(with_reducible repeat (first | refine blk_drewN ?_ _ | refine blk_drew ?_ | refine blk_alloc ?_ _));refine blk_put (cs:=#[.string (⟨#[]⟩ : ByteArray),.int .i64 0]) ?_ 0 _ rfl;(with_reducible repeat (first | refine blk_drewN ?_ _ | refine blk_drew ?_ | refine blk_alloc ?_ _));exact BK5.out) hg (Kd.R_ne HO_3.out BK5.out (by decide)));have HO11:=a0_ (ho);replace HB:=a0_ (hb);clear HO_3;clear ho hb hg hat));try go_wp2_with (first | ((with_reducible refine gate_dst (N:=5) rfl ?_);refine box_event ?hg (N:=5) ?hd (cs:=#[.string (⟨#[]⟩ : ByteArray),.int .i64 0]) (t:=113) ?hr ?_;(case hd=>rfl);(case hg=>rfl);(case hr=>first | (go_simp;done) | (go_simp;rfl));intro gb5 hg w24 hbox hb;replace HO_3:=rb_ HO_3 hb;have BK5:=a0_ (hbox);have GW5:=a0_ ((by rw [hg];exact (below_size hbw_) : w.heap.size ≤ gb5));have GE5:=a0_ ((by rw [hg];exact (below_size hbw_) : w.heap.size ≤ gb5));replace HB:=a0_ (below_step hbw_ hb);clear hb hbox hg;have hcz25_0 : w24.cell? ⟨gb5,0,none⟩ = some (.string (⟨#[]⟩ : ByteArray)):=(blk_cell BK5.out 0).trans rfl;have hcz25_1 : w24.cell? ⟨gb5,1,none⟩ = some (.int .i64 0):=(blk_cell BK5.out 1).trans rfl;have hfz25_0:=blk_frozen BK5.out 0;have hfz25_1:=blk_frozen BK5.out 1;have p6 : 0 ≤ ((ji8) : Int):=of_decide_eq_true (by first | (with_reducible assumption) | assumption);have q6 : (ji8) < (l0.length : Int):=of_decide_eq_true (by first | (with_reducible assumption) | assumption);obtain ⟨ad6,e6,hx6_0,hx6_1⟩:=at_T113 HR0.out (ji8) p6 q6;obtain rfl : ad4 = ad6:=(by injection e6);have hn6_0 : ad4.block ≠ gb5:=Nat.ne_of_lt (Nat.lt_of_lt_of_le (by have:=World.block_lt_of_cell? _ _ hx6_0;first | rwa [add_block] at this | exact this) GW5.out);have hn6_1 : ad4.block ≠ gb5:=Nat.ne_of_lt (Nat.lt_of_lt_of_le (by have:=World.block_lt_of_cell? _ _ hx6_0;first | rwa [add_block] at this | exact this) GW5.out);replace hx6_0:=(HB.out.cell (World.block_lt_of_cell? w _ hx6_0)).trans hx6_0;replace hx6_1:=(HB.out.cell (World.block_lt_of_cell? w _ hx6_1)).trans hx6_1;replace hx6_0:=(cell_far (p:=⟨gb5,0,none⟩) (by first | (rw [add_block];exact hn6_0) | (show (Addr.add _ _).block ≠ _;rw [add_block];exact hn6_0) | exact hn6_0) (.string ((rd_T113 l0 x9_1).f0))).trans hx6_0;replace hx6_1:=(cell_far (p:=⟨gb5,0,none⟩) (by first | (rw [add_block];exact hn6_0) | (show (Addr.add _ _).block ≠ _;rw [add_block];exact hn6_0) | exact hn6_0) (.string ((rd_T113 l0 x9_1).f0))).trans hx6_1;replace hx6_0:=(cell_far (p:=⟨gb5,1,none⟩) (by first | (rw [add_block];exact hn6_1) | (show (Addr.add _ _).block ≠ _;rw [add_block];exact hn6_1) | exact hn6_1) (.int .i64 ((rd_T113 l0 x9_1).f1))).trans hx6_0;replace hx6_1:=(cell_far (p:=⟨gb5,1,none⟩) (by first | (rw [add_block];exact hn6_1) | (show (Addr.add _ _).block ≠ _;rw [add_block];exact hn6_1) | exact hn6_1) (.int .i64 ((rd_T113 l0 x9_1).f1))).trans hx6_1;(try have hy6_0:=fun (n_ : Nat)=>(show ((((w24.drewN n_).setCell ⟨gb5,0,none⟩ (.string ((rd_T113 l0 x9_1).f0))).setCell ⟨gb5,1,none⟩ (.int .i64 ((rd_T113 l0 x9_1).f1)))).cell? _ = some _ from hx6_0));(try have hy6_1:=fun (n_ : Nat)=>(show ((((w24.drewN n_).setCell ⟨gb5,0,none⟩ (.string ((rd_T113 l0 x9_1).f0))).setCell ⟨gb5,1,none⟩ (.int .i64 ((rd_T113 l0 x9_1).f1)))).cell? _ = some _ from hx6_1));clear hn6_0 hn6_1;replace p6:=eq_true p6;replace q6:=eq_true q6) | ((with_reducible refine gate_builtin (b:=.append) (xs:=#[.tmp 35,.tmp 38]) rfl ?_);at_builtin;refine Kd.R_append k115 (w0:=w) w.heap.size rfl (.tmp 35) (.tmp 38) 54 115 (.agg #[(.string ⟨#[]⟩),(.int .i64 0),(.int .i64 0)]) 32 rfl Try.underlying54 info115 rfl (by decide) (by omega) u3 x3_1 (⟨(⟨(rd_T113 l0 x9_1).f0,(rd_T113 l0 x9_1).f1⟩ : S113),1⟩ : S115) [.string ((rd_T113 l0 x9_1).f0),.int .i64 ((rd_T113 l0 x9_1).f1),.int .i64 1] (fun _=>True) (fun _=>False) rfl (by first | (go_simp;done) | (go_simp;rfl)) ?aP (fun _ hk=>hk.elim) ?aF ?aO ?aB ?aS ?aL ?_;(case aP=>exact k115_mkM _ _ _ (⟨(⟨(rd_T113 l0 x9_1).f0,(rd_T113 l0 x9_1).f1⟩ : S113),1⟩ : S115));(case aB=>exact hbw_);(case aF=>exact (fun _ _=>trivial));(case aO=>exact (by (with_reducible repeat (first | apply Kd.R_alloc | apply Kd.R_drewN | apply Kd.R_drew));exact Kd.R_mono (Kd.R_far (p:=⟨gb5,1,none⟩) (Kd.R_far (p:=⟨gb5,0,none⟩) (Kd.R_types HO_3.out BK5.out (by decide)) (fun _ hk=>hk.2) (.string ((rd_T113 l0 x9_1).f0))) (fun _ hk=>hk.2) (.int .i64 ((rd_T113 l0 x9_1).f1))) (fun _ hk=>trivial)));(case aS=>exact (below_size hbw_));(case aL=>have:=LMc23.out;omega);intro v10 w26 ho hb hg hat;rw [← Ny9.out] at ho;replace BK5:=a0_ (blk_grown (g:=gb5) (o:=.cells #[.string ((rd_T113 l0 x9_1).f0),.int .i64 ((rd_T113 l0 x9_1).f1)] 113 (0,0)) (by (with_reducible repeat (first | refine blk_drewN ?_ _ | refine blk_drew ?_ | refine blk_alloc ?_ _));refine blk_put (cs:=#[.string ((rd_T113 l0 x9_1).f0),.int .i64 0]) ?_ 1 _ rfl;(with_reducible repeat (first | refine blk_drewN ?_ _ | refine blk_drew ?_ | refine blk_alloc ?_ _));refine blk_put (cs:=#[.string (⟨#[]⟩ : ByteArray),.int .i64 0]) ?_ 0 _ rfl;(with_reducible repeat (first | refine blk_drewN ?_ _ | refine blk_drew ?_ | refine blk_alloc ?_ _));exact BK5.out) hg (Kd.R_ne HO_3.out BK5.out (by decide)));have HO11:=a0_ (ho);replace HB:=a0_ (hb);clear HO_3;clear ho hb hg hat)))
           go_roundg k1
           case measure=>have:=HK1.out;omega
           case rel=>exact ⟨(y9),(wrap64 (x9_1 + 1)),(by first | rfl | (simp;done) | (simp [*];done)),H',⟨by have:=HK1.out;omega⟩,⟨by (with_reducible repeat (first | apply Kd.R_alloc | apply Kd.R_drewN | apply Kd.R_drew));exact HO11.out⟩,⟨hbw_⟩⟩
          ·rw [if_neg c23] at H
           exact absurd H (by simp)
        ·rw [if_neg c10] at H
         exact absurd H (by simp)
       ·rw [if_neg c9] at H
        exact absurd H (by simp)
      ·rw [if_neg c7] at H
       have c7b0 : decide (0 < x9_1) = false:=decide_eq_false c7
       clear c7
       by_cases c27 : x3_1.length < 4398046511104
       ·rw [if_pos c27] at H
        have LMc27:=a0_ c27
        clear c27
        obtain ⟨y12,hy12⟩ : ∃ y_ : List (S115),y_ = (x3_1 ++ [(⟨(⟨(rd_T113 l0 x9_1).f0,(rd_T113 l0 x9_1).f1⟩ : S113),1⟩ : S115)]):=⟨_,rfl⟩
        replace H : (impl_rows.l0 k1 l0 y12 l0 (l0.length : Int) (wrap64 (x9_1 + 1))) = some r:=by first | (rw [hy12];with_reducible exact H) | (have H2_:=(Option.bind_some _ _).symm.trans H;rw [hy12];with_reducible exact H2_) | (have H2_:=(Option.bind_some _ _).symm.trans H;with_reducible exact H2_) | with_reducible exact H | (rw [hy12];exact H) | exact H
        have Ny12:=a0_ hy12
        clear hy12
        have H':=a0_ H
        clear H
        have p4 : 0 ≤ (x9_1 : Int):=of_decide_eq_true (by first | (with_reducible assumption) | assumption)
        have q4 : x9_1 < (l0.length : Int):=of_decide_eq_true (by first | (with_reducible assumption) | assumption)
        obtain ⟨ad4,e4,hx4_0,hx4_1⟩:=at_T113 HR0.out x9_1 p4 q4
        cases e4
        replace hx4_0:=(HB.out.cell (World.block_lt_of_cell? w _ hx4_0)).trans hx4_0
        replace hx4_1:=(HB.out.cell (World.block_lt_of_cell? w _ hx4_1)).trans hx4_1
        replace p4:=eq_true p4
        replace q4:=eq_true q4
        go_wp2_with (first | ((with_reducible refine gate_dst (N:=5) rfl ?_);refine box_event ?hg (N:=5) ?hd (cs:=#[.string (⟨#[]⟩ : ByteArray),.int .i64 0]) (t:=113) ?hr ?_;(case hd=>rfl);(case hg=>rfl);(case hr=>first | (go_simp;done) | (go_simp;rfl));intro gb5 hg w28 hbox hb;replace HO_3:=rb_ HO_3 hb;have BK5:=a0_ (hbox);have GW5:=a0_ ((by rw [hg];exact (below_size hbw_) : w.heap.size ≤ gb5));have GE5:=a0_ ((by rw [hg];exact (below_size hbw_) : w.heap.size ≤ gb5));replace HB:=a0_ (below_step hbw_ hb);clear hb hbox hg;have hcz29_0 : w28.cell? ⟨gb5,0,none⟩ = some (.string (⟨#[]⟩ : ByteArray)):=(blk_cell BK5.out 0).trans rfl;have hcz29_1 : w28.cell? ⟨gb5,1,none⟩ = some (.int .i64 0):=(blk_cell BK5.out 1).trans rfl;have hfz29_0:=blk_frozen BK5.out 0;have hfz29_1:=blk_frozen BK5.out 1) | ((with_reducible refine gate_builtin (b:=.append) (xs:=#[.tmp 35,.tmp 38]) rfl ?_);at_builtin;refine Kd.R_append k115 (w0:=w) w.heap.size rfl (.tmp 35) (.tmp 38) 54 115 (.agg #[(.string ⟨#[]⟩),(.int .i64 0),(.int .i64 0)]) 32 rfl Try.underlying54 info115 rfl (by decide) (by omega) u3 x3_1 (⟨(⟨(rd_T113 l0 x9_1).f0,(rd_T113 l0 x9_1).f1⟩ : S113),1⟩ : S115) [.string ((rd_T113 l0 x9_1).f0),.int .i64 ((rd_T113 l0 x9_1).f1),.int .i64 1] (fun _=>True) (fun _=>False) rfl (by first | (go_simp;done) | (go_simp;rfl)) ?aP (fun _ hk=>hk.elim) ?aF ?aO ?aB ?aS ?aL ?_;(case aP=>exact k115_mkM _ _ _ (⟨(⟨(rd_T113 l0 x9_1).f0,(rd_T113 l0 x9_1).f1⟩ : S113),1⟩ : S115));(case aB=>exact hbw_);(case aF=>exact (fun _ _=>trivial));(case aO=>exact (by (with_reducible repeat (first | apply Kd.R_alloc | apply Kd.R_drewN | apply Kd.R_drew));exact Kd.R_mono (Kd.R_far (p:=⟨gb5,1,none⟩) (Kd.R_far (p:=⟨gb5,0,none⟩) (Kd.R_types HO_3.out BK5.out (by decide)) (fun _ hk=>hk.2) (.string ((rd_T113 l0 x9_1).f0))) (fun _ hk=>hk.2) (.int .i64 ((rd_T113 l0 x9_1).f1))) (fun _ hk=>trivial)));(case aS=>exact (below_size hbw_));(case aL=>have:=LMc27.out;omega);intro v13 w30 ho hb hg hat;rw [← Ny12.out] at ho;replace BK5:=a0_ (blk_grown (g:=gb5) (o:=.cells #[.string ((rd_T113 l0 x9_1).f0),.int .i64 ((rd_T113 l0 x9_1).f1)] 113 (0,0)) (by (with_reducible repeat (first | refine blk_drewN ?_ _ | refine blk_drew ?_ | refine blk_alloc ?_ _));refine blk_put (cs:=#[.string ((rd_T113 l0 x9_1).f0),.int .i64 0]) ?_ 1 _ rfl;(with_reducible repeat (first | refine blk_drewN ?_ _ | refine blk_drew ?_ | refine blk_alloc ?_ _));refine blk_put (cs:=#[.string (⟨#[]⟩ : ByteArray),.int .i64 0]) ?_ 0 _ rfl;(with_reducible repeat (first | refine blk_drewN ?_ _ | refine blk_drew ?_ | refine blk_alloc ?_ _));exact BK5.out) hg (Kd.R_ne HO_3.out BK5.out (by decide)));have HO14:=a0_ (ho);replace HB:=a0_ (hb);clear HO_3;clear ho hb hg hat))
        repeat (go_quiet (first | ((with_reducible refine gate_dst (N:=5) rfl ?_);refine box_event ?hg (N:=5) ?hd (cs:=#[.string (⟨#[]⟩ : ByteArray),.int .i64 0]) (t:=113) ?hr ?_;(case hd=>rfl);(case hg=>rfl);(case hr=>first | (go_simp;done) | (go_simp;rfl));intro gb5 hg w28 hbox hb;replace HO_3:=rb_ HO_3 hb;have BK5:=a0_ (hbox);have GW5:=a0_ ((by rw [hg];exact (below_size hbw_) : w.heap.size ≤ gb5));have GE5:=a0_ ((by rw [hg];exact (below_size hbw_) : w.heap.size ≤ gb5));replace HB:=a0_ (below_step hbw_ hb);clear hb hbox hg;have hcz29_0 : w28.cell? ⟨gb5,0,none⟩ = some (.string (⟨#[]⟩ : ByteArray)):=(blk_cell BK5.out 0).trans rfl;have hcz29_1 : w28.cell? ⟨gb5,1,none⟩ = some (.int .i64 0):=(blk_cell BK5.out 1).trans rfl;have hfz29_0:=blk_frozen BK5.out 0;have hfz29_1:=blk_frozen BK5.out 1) | ((with_reducible refine gate_builtin (b:=.append) (xs:=#[.tmp 35,.tmp 38]) rfl ?_);at_builtin;refine Kd.R_append k115 (w0:=w) w.heap.size rfl (.tmp 35) (.tmp 38) 54 115 (.agg #[(.string ⟨#[]⟩),(.int .i64 0),(.int .i64 0)]) 32 rfl Try.underlying54 info115 rfl (by decide) (by omega) u3 x3_1 (⟨(⟨(rd_T113 l0 x9_1).f0,(rd_T113 l0 x9_1).f1⟩ : S113),1⟩ : S115) [.string ((rd_T113 l0 x9_1).f0),.int .i64 ((rd_T113 l0 x9_1).f1),.int .i64 1] (fun _=>True) (fun _=>False) rfl (by first | (go_simp;done) | (go_simp;rfl)) ?aP (fun _ hk=>hk.elim) ?aF ?aO ?aB ?aS ?aL ?_;(case aP=>exact k115_mkM _ _ _ (⟨(⟨(rd_T113 l0 x9_1).f0,(rd_T113 l0 x9_1).f1⟩ : S113),1⟩ : S115));(case aB=>exact hbw_);(case aF=>exact (fun _ _=>trivial));(case aO=>exact (by (with_reducible repeat (first | apply Kd.R_alloc | apply Kd.R_drewN | apply Kd.R_drew));exact Kd.R_mono (Kd.R_far (p:=⟨gb5,1,none⟩) (Kd.R_far (p:=⟨gb5,0,none⟩) (Kd.R_types HO_3.out BK5.out (by decide)) (fun _ hk=>hk.2) (.string ((rd_T113 l0 x9_1).f0))) (fun _ hk=>hk.2) (.int .i64 ((rd_T113 l0 x9_1).f1))) (fun _ hk=>trivial)));(case aS=>exact (below_size hbw_));(case aL=>have:=LMc27.out;omega);intro v13 w30 ho hb hg hat;rw [← Ny12.out] at ho;replace BK5:=a0_ (blk_grown (g:=gb5) (o:=.cells #[.string ((rd_T113 l0 x9_1).f0),.int .i64 ((rd_T113 l0 x9_1).f1)] 113 (0,0)) (by (with_reducible repeat (first | refine blk_drewN ?_ _ | refine blk_drew ?_ | refine blk_alloc ?_ _));refine blk_put (cs:=#[.string ((rd_T113 l0 x9_1).f0),.int .i64 0]) ?_ 1 _ rfl;(with_reducible repeat (first | refine blk_drewN ?_ _ | refine blk_drew ?_ | refine blk_alloc ?_ _));refine blk_put (cs:=#[.string (⟨#[]⟩ : ByteArray),.int .i64 0]) ?_ 0 _ rfl;(with_reducible repeat (first | refine blk_drewN ?_ _ | refine blk_drew ?_ | refine blk_alloc ?_ _));exact BK5.out) hg (Kd.R_ne HO_3.out BK5.out (by decide)));have HO14:=a0_ (ho);replace HB:=a0_ (hb);clear HO_3;clear ho hb hg hat));try go_wp2_with (first | ((with_reducible refine gate_dst (N:=5) rfl ?_);refine box_event ?hg (N:=5) ?hd (cs:=#[.string (⟨#[]⟩ : ByteArray),.int .i64 0]) (t:=113) ?hr ?_;(case hd=>rfl);(case hg=>rfl);(case hr=>first | (go_simp;done) | (go_simp;rfl));intro gb5 hg w28 hbox hb;replace HO_3:=rb_ HO_3 hb;have BK5:=a0_ (hbox);have GW5:=a0_ ((by rw [hg];exact (below_size hbw_) : w.heap.size ≤ gb5));have GE5:=a0_ ((by rw [hg];exact (below_size hbw_) : w.heap.size ≤ gb5));replace HB:=a0_ (below_step hbw_ hb);clear hb hbox hg;have hcz29_0 : w28.cell? ⟨gb5,0,none⟩ = some (.string (⟨#[]⟩ : ByteArray)):=(blk_cell BK5.out 0).trans rfl;have hcz29_1 : w28.cell? ⟨gb5,1,none⟩ = some (.int .i64 0):=(blk_cell BK5.out 1).trans rfl;have hfz29_0:=blk_frozen BK5.out 0;have hfz29_1:=blk_frozen BK5.out 1) | ((with_reducible refine gate_builtin (b:=.append) (xs:=#[.tmp 35,.tmp 38]) rfl ?_);at_builtin;refine Kd.R_append k115 (w0:=w) w.heap.size rfl (.tmp 35) (.tmp 38) 54 115 (.agg #[(.string ⟨#[]⟩),(.int .i64 0),(.int .i64 0)]) 32 rfl Try.underlying54 info115 rfl (by decide) (by omega) u3 x3_1 (⟨(⟨(rd_T113 l0 x9_1).f0,(rd_T113 l0 x9_1).f1⟩ : S113),1⟩ : S115) [.string ((rd_T113 l0 x9_1).f0),.int .i64 ((rd_T113 l0 x9_1).f1),.int .i64 1] (fun _=>True) (fun _=>False) rfl (by first | (go_simp;done) | (go_simp;rfl)) ?aP (fun _ hk=>hk.elim) ?aF ?aO ?aB ?aS ?aL ?_;(case aP=>exact k115_mkM _ _ _ (⟨(⟨(rd_T113 l0 x9_1).f0,(rd_T113 l0 x9_1).f1⟩ : S113),1⟩ : S115));(case aB=>exact hbw_);(case aF=>exact (fun _ _=>trivial));(case aO=>exact (by (with_reducible repeat (first | apply Kd.R_alloc | apply Kd.R_drewN | apply Kd.R_drew));exact Kd.R_mono (Kd.R_far (p:=⟨gb5,1,none⟩) (Kd.R_far (p:=⟨gb5,0,none⟩) (Kd.R_types HO_3.out BK5.out (by decide)) (fun _ hk=>hk.2) (.string ((rd_T113 l0 x9_1).f0))) (fun _ hk=>hk.2) (.int .i64 ((rd_T113 l0 x9_1).f1))) (fun _ hk=>trivial)));(case aS=>exact (below_size hbw_));(case aL=>have:=LMc27.out;omega);intro v13 w30 ho hb hg hat;rw [← Ny12.out] at ho;replace BK5:=a0_ (blk_grown (g:=gb5) (o:=.cells #[.string ((rd_T113 l0 x9_1).f0),.int .i64 ((rd_T113 l0 x9_1).f1)] 113 (0,0)) (by (with_reducible repeat (first | refine blk_drewN ?_ _ | refine blk_drew ?_ | refine blk_alloc ?_ _));refine blk_put (cs:=#[.string ((rd_T113 l0 x9_1).f0),.int .i64 0]) ?_ 1 _ rfl;(with_reducible repeat (first | refine blk_drewN ?_ _ | refine blk_drew ?_ | refine blk_alloc ?_ _));refine blk_put (cs:=#[.string (⟨#[]⟩ : ByteArray),.int .i64 0]) ?_ 0 _ rfl;(with_reducible repeat (first | refine blk_drewN ?_ _ | refine blk_drew ?_ | refine blk_alloc ?_ _));exact BK5.out) hg (Kd.R_ne HO_3.out BK5.out (by decide)));have HO14:=a0_ (ho);replace HB:=a0_ (hb);clear HO_3;clear ho hb hg hat)))
        go_roundg k1
        case measure=>have:=HK1.out;omega
        case rel=>exact ⟨(y12),(wrap64 (x9_1 + 1)),(by first | rfl | (simp;done) | (simp [*];done)),H',⟨by have:=HK1.out;omega⟩,⟨by (with_reducible repeat (first | apply Kd.R_alloc | apply Kd.R_drewN | apply Kd.R_drew));exact HO14.out⟩,⟨hbw_⟩⟩
       ·rw [if_neg c27] at H
        exact absurd H (by simp)
     ·rw [if_neg c6] at H
      exact absurd H (by simp)
    ·rw [if_neg c5] at H
     exact absurd H (by simp)
   ·rw [if_neg c4] at H
    have c4b0 : decide (x9_1 < (l0.length : Int)) = false:=decide_eq_false c4
    clear c4
    replace H:=Option.bind_eq_some_iff.mp H
    obtain ⟨t15,A310,H⟩:=H
    replace H : (some t15) = some r:=H
    have A31:=a0_ A310
    clear A310
    obtain rfl:=Option.some.inj H
    obtain ⟨Ao32,co32,eo32⟩:=Kd.R_slice HO_3.out
    subst eo32
    go_wp2_with (first | (go_at_call 130;(with_reducible refine (slices_Clip_Row.calls (fun k_=>some k_ = (.slice Ao32 x3_1.length co32 : Value).ownBlock) (.slice Ao32 x3_1.length co32) x3_1 t15 w _ ?side1 ?side2 A31.out).mono ?_);(case side1=>exact hbw_);(case side2=>exact Kd.R_tight rfl HO_3.out);rintro e w33 ⟨v16,rfl,ho0,hb,hkp⟩;have HO17:=a0_ (Kd.R_mono (ok':=fun k_=>True) ho0 (fun k_ hk_=>trivial));replace HB:=a0_ (hb);clear HO_3;(try clear hb);(try clear hkp);(try clear ho0)))
    repeat (go_quiet (first | (go_at_call 130;(with_reducible refine (slices_Clip_Row.calls (fun k_=>some k_ = (.slice Ao32 x3_1.length co32 : Value).ownBlock) (.slice Ao32 x3_1.length co32) x3_1 t15 w _ ?side1 ?side2 A31.out).mono ?_);(case side1=>exact hbw_);(case side2=>exact Kd.R_tight rfl HO_3.out);rintro e w33 ⟨v16,rfl,ho0,hb,hkp⟩;have HO17:=a0_ (Kd.R_mono (ok':=fun k_=>True) ho0 (fun k_ hk_=>trivial));replace HB:=a0_ (hb);clear HO_3;(try clear hb);(try clear hkp);(try clear ho0)));try go_wp2_with (first | (go_at_call 130;(with_reducible refine (slices_Clip_Row.calls (fun k_=>some k_ = (.slice Ao32 x3_1.length co32 : Value).ownBlock) (.slice Ao32 x3_1.length co32) x3_1 t15 w _ ?side1 ?side2 A31.out).mono ?_);(case side1=>exact hbw_);(case side2=>exact Kd.R_tight rfl HO_3.out);rintro e w33 ⟨v16,rfl,ho0,hb,hkp⟩;have HO17:=a0_ (Kd.R_mono (ok':=fun k_=>True) ho0 (fun k_ hk_=>trivial));replace HB:=a0_ (hb);clear HO_3;(try clear hb);(try clear hkp);(try clear ho0))))
    go_ret
    exact ⟨_,by first | rfl | (simp [errW_none,errW_some] <;> rfl) | (simp [*,errW_none,errW_some] <;> rfl),by (with_reducible repeat (first | apply Kd.R_alloc | apply Kd.R_drewN | apply Kd.R_drew));exact HO17.out,hbw_⟩
theorem frEq_iff (a b : S113) : frEq a b = true ↔ a.f0.toList = b.f0.toList ∧ a.f1 = b.f1:=by
 unfold frEq
 rw [Bool.and_eq_true,beq_iff_eq,beq_iff_eq]
theorem rowStep_last (acc : List S115) (f : S113) : 1 ≤ (rowStep acc f).length ∧ frEq (lastR (rowStep acc f)).f0 f = true:=by
 unfold rowStep
 split
 ·rename_i h
  refine ⟨by rw [List.length_set];exact h.1,?_⟩
  have : lastR (acc.set (acc.length - 1) (incR (lastR acc))) = incR (lastR acc):=by
   have hlt : acc.length - 1 < acc.length:=by omega
   unfold lastR
   rw [List.length_set,List.getD_eq_getElem?_getD,List.getElem?_set_self hlt]
   rfl
  rw [this]
  exact h.2
 ·refine ⟨by simp,?_⟩
  have : lastR (acc ++ [(⟨f,1⟩ : S115)]) = ⟨f,1⟩:=by simp [lastR]
  rw [this]
  exact (frEq_iff f f).2 ⟨rfl,rfl⟩
theorem slices_Clip_Row_ev (l : List S115) : slices_Clip_Row.f l = some l:=by
 unfold slices_Clip_Row.f
 rw [if_pos (by omega),if_pos (by omega)]
 simp
theorem impl_rows_ev (l : List S113) (hl : l.length ≤ 1099511627776) : Ev (fun k=>impl_rows.f k l) (rowsP l):=by
 have key : ∀ d i (acc : List S115),i + d = l.length → acc.length ≤ i → (1 ≤ i → 1 ≤ acc.length ∧ frEq (lastR acc).f0 (l.getD (i - 1) z113) = true) → Ev (fun k=>impl_rows.l0 k l acc l (l.length : Int) (i : Int)) ((l.drop i).foldl rowStep acc):=by
  intro d
  induction d with
  | zero =>
   intro i acc hi ha _
   refine Ev.succ ?_
   simp only [impl_rows.l0]
   rw [List.drop_eq_nil_of_le (by omega)]
   exact Ev.neg (by omega) (Ev.bind (Ev.const (slices_Clip_Row_ev acc)) (Ev.const rfl))
  | succ d ih =>
   intro i acc hi ha hp
   have hlt : i < l.length:=by omega
   have hrd : rd_T113 l (i : Int) = l[i]:=by simp [rd_T113,hlt]
   have hlast:=rowStep_last acc l[i]
   have hgi : l.getD (i + 1 - 1) z113 = l[i]:=by rw [Nat.add_sub_cancel];simp [List.getD,hlt]
   have hn:=ih (i + 1) (rowStep acc l[i]) (by omega) (by have:=rowStep_len acc l[i];omega) (fun _=>by rw [hgi];exact hlast)
   rw [List.drop_eq_getElem_cons hlt,List.foldl_cons]
   refine Ev.succ ?_
   simp only [impl_rows.l0,hrd]
   have hws2 : wrap64 ((i : Int) + 1) = ((i + 1 : Nat) : Int):=by rw [wrap_succ (i:=(i : Int)) (n:=l.length) (by omega) (by omega) (by omega)];rfl
   rw [hws2]
   refine Ev.pos (by omega) (Ev.pos (by omega) (Ev.pos (by omega) ?_))
   by_cases h0 : i = 0
   ·have e : rowStep acc l[i] = acc ++ [⟨l[i],1⟩]:=by rw [rowStep,if_neg (fun h=>by omega)]
    rw [e] at hn ⊢
    exact Ev.neg (by omega) (Ev.pos (by omega) hn)
   ·obtain ⟨hp1,hp2⟩:=hp (by omega)
    have hwi : wrap64 ((i : Int) - 1) = ((i - 1 : Nat) : Int):=by rw [wrap_in (by omega) (by omega)];omega
    have hri : rd_T113 l ((i - 1 : Nat) : Int) = l.getD (i - 1) z113:=by simp [rd_T113]
    have hw : wrap64 ((acc.length : Int) - 1) = ((acc.length - 1 : Nat) : Int):=by rw [wrap_in (by omega) (by omega)];omega
    have hra : rd_T115 acc ((acc.length - 1 : Nat) : Int) = lastR acc:=by simp [rd_T115,lastR]
    rw [hwi,hri,hw,hra,Int.toNat_natCast]
    obtain ⟨ha1,ha2⟩:=(frEq_iff _ _).1 hp2
    refine Ev.pos (by omega) (Ev.pos (by omega) (Ev.pos (by omega) ?_))
    by_cases hq : frEq (l.getD (i - 1) z113) l[i] = true
    ·have hq2 : frEq (lastR acc).f0 l[i] = true:=by
      obtain ⟨hb1,hb2⟩:=(frEq_iff _ _).1 hq
      exact (frEq_iff _ _).2 ⟨ha1.trans hb1,ha2.trans hb2⟩
     have e : rowStep acc l[i] = acc.set (acc.length - 1) (incR (lastR acc)):=by rw [rowStep,if_pos ⟨hp1,hq2⟩]
     rw [e] at hn ⊢
     exact Ev.pos hq (Ev.pos (by omega) (Ev.pos (by omega) hn))
    ·have hq2 : ¬ frEq (lastR acc).f0 l[i] = true:=fun h=>by
      obtain ⟨hb1,hb2⟩:=(frEq_iff _ _).1 h
      exact hq ((frEq_iff _ _).2 ⟨ha1.symm.trans hb1,ha2.symm.trans hb2⟩)
     have e : rowStep acc l[i] = acc ++ [⟨l[i],1⟩]:=by rw [rowStep,if_neg (fun h=>hq2 h.2)]
     rw [e] at hn ⊢
     exact Ev.neg hq (Ev.pos (by omega) hn)
 exact key l.length 0 [] (by omega) (Nat.le_refl _) (fun h=>by omega)
end Go.Proofs.Ytacgehaipacehaa.P
namespace Go.Proofs.Ytacgehaipacehaa.P
open Go.RowKit Go.Proofs.YtacgehaipacehaaW.PrintWords Go.Proofs.YtacgehaipacehaaW.PrintLast Go.Proofs.YtacgehaipacehaaW.PrintMore
attribute [local go_sem] max2_int min2_int max_two min_two max_three min_three max_four min_four
set_option linter.unusedVariables false
set_option linter.unusedSimpArgs false
def impl_nameOk.l0 : Nat → ByteArray → Int → Int → Option (Bool)
 | 0,_,_,_=>none
 | k + 1,x0,x5,x6=>if x6 < x5 then (if 0 ≤ x6 then (if x6 < (x0.size : Int) then (if (bt x0 x6) < 97 then (some false) else (if (bt x0 x6) > 122 then (some false) else (impl_nameOk.l0 k x0 x5 (wrap64 (x6 + 1))))) else (none)) else (none)) else ((impl_within.f (x0.size : Int) 1 6).bind fun t1=>(some t1))
def impl_nameOk.f (k : Nat) (a0 : ByteArray) : Option (Bool):=impl_nameOk.l0 k a0 (a0.size : Int) 0
theorem impl_nameOk.mono_l : ∀ k,(∀ y0 y1 y2,LeO (impl_nameOk.l0 k y0 y1 y2) (impl_nameOk.l0 (k + 1) y0 y1 y2))
 | 0=>fun _ _ _ r h=>by simp [impl_nameOk.l0] at h
 | k + 1=>by
  have ih0:=impl_nameOk.mono_l k
  ·intro y0 y1 y2
   unfold impl_nameOk.l0
   repeat' first
   | (with_reducible exact ih0 _ _ _)
   | (with_reducible exact LeO.refl _)
   | (with_reducible exact LeO.none _)
   | (with_reducible refine LeO.ite ?_ ?_)
   | (with_reducible refine LeO.bind ?_ (fun _=>?_))
   | exact ih0 _ _ _
   | exact LeO.none _
   | refine LeO.ite ?_ ?_
   | refine LeO.bind ?_ (fun _=>?_)
theorem impl_nameOk.mono : ∀ a0 k,LeO (impl_nameOk.f k a0) (impl_nameOk.f (k + 1) a0):=by
 intro a0 k
 have ih0:=impl_nameOk.mono_l k
 unfold impl_nameOk.f
 repeat' first
   | (with_reducible exact ih0 _ _ _)
   | (with_reducible exact LeO.refl _)
   | (with_reducible exact LeO.none _)
   | (with_reducible refine LeO.ite ?_ ?_)
   | (with_reducible refine LeO.bind ?_ (fun _=>?_))
   | exact ih0 _ _ _
   | exact LeO.none _
   | refine LeO.ite ?_ ?_
   | refine LeO.bind ?_ (fun _=>?_)
set_option maxHeartbeats 8000000 in
set_option maxRecDepth 100000 in
theorem impl_nameOk.calls (k : Nat) (a0 : ByteArray) (r : Bool) (w : World) (h : impl_nameOk.f k a0 = some r) :
  Calls Try.prog 112 #[.string a0] w fun e w'=>e = .returned (.bool r) ∧ Drawn0 w w':=by
 have H : (impl_nameOk.l0 k a0 (a0.size : Int) 0) = some r:=h
 clear h
 have H':=a0_ H
 clear H
 go_enter Try.func112,Try.ntmps112
 go_wp2
 go_loopg [6] k (fun kq v6 w'=>∃ (x6_1 : Int),v6 = .int .i64 x6_1 ∧ Aside0 (impl_nameOk.l0 kq a0 (a0.size : Int) x6_1 = some r) ∧ Aside0 (kq ≤ k) ∧ Drawn0 w w')
 case atStart=>exact ⟨(0),(by first | rfl | (simp;done) | (simp [*];done)),H',⟨Nat.le_refl _⟩,by repeat (first | exact Drawn0.refl _ | apply Drawn0.step)⟩
 case round =>
  clear H'
  try clear c1
  obtain ⟨x6_1,rfl,HA,HK1,⟨m1,rfl⟩⟩:=hrel
  cases gk with
  | zero=>exact absurd HA.out (by simp [impl_nameOk.l0])
  | succ k1 =>
   have H:=HA.out
   clear HA
   simp only [impl_nameOk.l0] at H
   by_cases c2 : x6_1 < (a0.size : Int)
   ·rw [if_pos c2] at H
    have c2b0 : decide (x6_1 < (a0.size : Int)) = true:=decide_eq_true c2
    clear c2
    by_cases c3 : 0 ≤ x6_1
    ·rw [if_pos c3] at H
     have c3b0 : decide (0 ≤ x6_1) = true:=decide_eq_true c3
     clear c3
     by_cases c4 : x6_1 < (a0.size : Int)
     ·rw [if_pos c4] at H
      have c4b0 : decide (x6_1 < (a0.size : Int)) = true:=decide_eq_true c4
      clear c4
      by_cases c6 : (bt a0 x6_1) < 97
      ·rw [if_pos c6] at H
       have c6b0 : decide ((bt a0 x6_1) < 97) = true:=decide_eq_true c6
       clear c6
       obtain rfl:=Option.some.inj H
       have p5 : 0 ≤ (x6_1 : Int):=of_decide_eq_true (by first | (with_reducible assumption) | assumption)
       have q5 : x6_1 < (a0.size : Int):=of_decide_eq_true (by first | (with_reducible assumption) | assumption)
       have hx5:=bt_at a0 x6_1
       replace p5:=eq_true p5
       replace q5:=eq_true q5
       go_wp2
       go_ret
       exact ⟨by first | rfl | (simp;done) | (simp [*];done),by repeat (first | exact Drawn0.refl _ | apply Drawn0.step)⟩
      ·rw [if_neg c6] at H
       have c6b0 : decide ((bt a0 x6_1) < 97) = false:=decide_eq_false c6
       clear c6
       by_cases c8 : (bt a0 x6_1) > 122
       ·rw [if_pos c8] at H
        have c8b0 : decide (122 < (bt a0 x6_1)) = true:=decide_eq_true c8
        clear c8
        obtain rfl:=Option.some.inj H
        have p5 : 0 ≤ (x6_1 : Int):=of_decide_eq_true (by first | (with_reducible assumption) | assumption)
        have q5 : x6_1 < (a0.size : Int):=of_decide_eq_true (by first | (with_reducible assumption) | assumption)
        have hx5:=bt_at a0 x6_1
        replace p5:=eq_true p5
        replace q5:=eq_true q5
        have p7 : 0 ≤ (x6_1 : Int):=of_decide_eq_true (by first | (with_reducible assumption) | assumption)
        have q7 : x6_1 < (a0.size : Int):=of_decide_eq_true (by first | (with_reducible assumption) | assumption)
        have hx7:=bt_at a0 x6_1
        replace p7:=eq_true p7
        replace q7:=eq_true q7
        go_wp2
        go_ret
        exact ⟨by first | rfl | (simp;done) | (simp [*];done),by repeat (first | exact Drawn0.refl _ | apply Drawn0.step)⟩
       ·rw [if_neg c8] at H
        have c8b0 : decide (122 < (bt a0 x6_1)) = false:=decide_eq_false c8
        clear c8
        have H':=a0_ H
        clear H
        have p5 : 0 ≤ (x6_1 : Int):=of_decide_eq_true (by first | (with_reducible assumption) | assumption)
        have q5 : x6_1 < (a0.size : Int):=of_decide_eq_true (by first | (with_reducible assumption) | assumption)
        have hx5:=bt_at a0 x6_1
        replace p5:=eq_true p5
        replace q5:=eq_true q5
        have p7 : 0 ≤ (x6_1 : Int):=of_decide_eq_true (by first | (with_reducible assumption) | assumption)
        have q7 : x6_1 < (a0.size : Int):=of_decide_eq_true (by first | (with_reducible assumption) | assumption)
        have hx7:=bt_at a0 x6_1
        replace p7:=eq_true p7
        replace q7:=eq_true q7
        go_wp2
        go_roundg k1
        case measure=>have:=HK1.out;omega
        case rel=>exact ⟨(wrap64 (x6_1 + 1)),(by first | rfl | (simp;done) | (simp [*];done)),H',⟨by have:=HK1.out;omega⟩,by repeat (first | exact Drawn0.refl _ | apply Drawn0.step)⟩
     ·rw [if_neg c4] at H
      exact absurd H (by simp)
    ·rw [if_neg c3] at H
     exact absurd H (by simp)
   ·rw [if_neg c2] at H
    have c2b0 : decide (x6_1 < (a0.size : Int)) = false:=decide_eq_false c2
    clear c2
    replace H:=Option.bind_eq_some_iff.mp H
    obtain ⟨t1,A90,H⟩:=H
    replace H : (some t1) = some r:=H
    have A9:=a0_ A90
    clear A90
    obtain rfl:=Option.some.inj H
    go_wp2_with (first | ((with_reducible refine gate_callee (f:=75) rfl ?_);refine goesL_ (some 22) rfl rfl Try.func75 (by kernel_rfl) rfl #[.int .i64 (a0.size : Int),.int .i64 1,.int .i64 6] rfl lm_ ?_;(with_reducible refine (impl_within.calls (a0.size : Int) 1 6 t1 _ A9.out).mono ?_);rintro e w' ⟨rfl,⟨nd,rfl⟩⟩;refine ⟨_,rfl,?_⟩))
    go_ret
    exact ⟨by first | rfl | (simp;done) | (simp [*];done),by repeat (first | exact Drawn0.refl _ | apply Drawn0.step)⟩
theorem impl_nameOk_l0 (s : ByteArray) (hs : s.size ≤ 9223372036854775807) (d : Nat) : ∀ (k : Nat) (i : Nat),i ≤ s.size → s.size - i = d → d < k → impl_nameOk.l0 k s (s.size : Int) (i : Int) = some ((s.data.toList.drop i).all (fun c=>decide (97 ≤ c.toNat) && decide (c.toNat ≤ 122)) && (decide (1 ≤ s.size) && decide (s.size ≤ 6))):=by
 induction d with
 | zero =>
  intro k i hi hd hk
  obtain ⟨k,rfl⟩ : ∃ m,k = m + 1:=⟨k - 1,by omega⟩
  simp only [impl_nameOk.l0]
  rw [if_neg (by omega)]
  have : s.data.toList.drop i = []:=by
   apply List.drop_eq_nil_of_le
   have : s.data.toList.length = s.size:=toL_len s
   omega
  rw [this]
  simp only [impl_within.f,List.all_nil,Bool.true_and]
  by_cases h1 : 1 ≤ s.size
  ·rw [if_pos (show (s.size : Int) ≥ 1 by omega)]
   by_cases h2 : s.size ≤ 6
   ·simp [h1,h2];omega
   ·simp [h2];omega
  ·rw [if_neg (show ¬ (s.size : Int) ≥ 1 by omega)];simp [h1]
 | succ d ih =>
  intro k i hi hd hk
  obtain ⟨k,rfl⟩ : ∃ m,k = m + 1:=⟨k - 1,by omega⟩
  have hlt : i < s.size:=by omega
  have hl : s.data.toList.length = s.size:=toL_len s
  simp only [impl_nameOk.l0]
  rw [if_pos (show (i : Int) < (s.size : Int) by omega),if_pos (show (0 : Int) ≤ (i : Int) by omega),if_pos (show (i : Int) < (s.size : Int) by omega),bt_getElem s i hlt]
  have hd2 : s.data.toList.drop i = s[i] :: s.data.toList.drop (i + 1):=by
   rw [List.drop_eq_getElem_cons (by omega)]
   congr 1
  rw [hd2,List.all_cons]
  by_cases h1 : (s[i].toNat : Int) < 97
  ·rw [if_pos h1];have : ¬ 97 ≤ s[i].toNat:=by omega
   simp [this]
  ·rw [if_neg h1]
   by_cases h2 : (s[i].toNat : Int) > 122
   ·rw [if_pos h2];have : ¬ s[i].toNat ≤ 122:=by omega
    simp [this]
   ·rw [if_neg h2,wrap_succ (n:=s.size) (by omega) (by omega) (by omega)]
    have:=ih k (i + 1) (by omega) (by omega) (by omega)
    rw [show ((i : Int) + 1) = ((i + 1 : Nat) : Int) by omega,this]
    have a : 97 ≤ s[i].toNat:=by omega
    have b : s[i].toNat ≤ 122:=by omega
    simp [a,b]
theorem impl_nameOk_ev (s : ByteArray) (hs : s.size ≤ 9223372036854775807) : impl_nameOk.f (s.size + 1) s = some (okName s):=by
 unfold impl_nameOk.f okName
 have:=impl_nameOk_l0 s hs s.size (s.size + 1) 0 (by omega) (by omega) (by omega)
 simpa using this
end Go.Proofs.Ytacgehaipacehaa.P
namespace Go.Proofs.Ytacgehaipacehaa.P
open Go.RowKit Go.Proofs.YtacgehaipacehaaW.PrintWords Go.Proofs.YtacgehaipacehaaW.PrintLast Go.Proofs.YtacgehaipacehaaW.PrintMore
attribute [local go_sem] max2_int min2_int max_two min_two max_three min_three max_four min_four
set_option linter.unusedVariables false
set_option linter.unusedSimpArgs false
set_option maxHeartbeats 2000000 in
theorem slices_IndexFunc_Frame.callsF (A : Option Addr) (c : Nat) (l : List S113) (g : Nat) (lb : Array Value) (p : S113 → Bool) (w : World) (eg : ∀ args w,(callFunc g args).run Try.prog w = .ok (.enter g args) w)
  (hr : Kd.C k113 w A l.length l) (hc : l.length ≤ c) (hp : ∀ x,x ∈ l → ∀ W,Below w.heap.size w W → Calls Try.prog g (#[.agg #[.string x.f0,.int .i64 x.f1]] ++ lb) W fun e w'=>e = .returned (.bool (p x)) ∧ Below W.heap.size W w') :
  Calls Try.prog 166 #[.slice A l.length c,.func (.func g) #[] lb] w fun e w'=>e = .returned (.int .i64 (idxP p l)) ∧ Below w.heap.size w w':=by
 have HR:=a0_ hr
 have HP:=a0_ hp
 have hmax : l.length ≤ 9223372036854775807:=hr.2.1
 clear hr hp hc
 go_enter Try.func166,Try.ntmps166
 go_wp2
 go_loopg [5,8] l.length (fun gg _ s8 wr=>∃ kk : Nat,kk ≤ l.length ∧ l.length - kk ≤ gg ∧ s8 = .int .i64 kk ∧ Aside0 (Below w.heap.size w wr) ∧ Aside0 (∀ j (hj : j < l.length),j < kk → p l[j] = false))
 case atStart=>exact ⟨0,Nat.zero_le _,by omega,rfl,⟨Below.refl _ w⟩,⟨fun j _ hj=>absurd hj (Nat.not_lt_zero _)⟩⟩
 case round =>
  obtain ⟨kk,hkk,hg,rfl,BW,HA⟩:=hrel
  by_cases hlt : kk < l.length
  ·have hltz : (kk : Int) < (l.length : Int):=by omega
   obtain ⟨ad,ea,hx0,hx1⟩:=at_T113 HR.out (kk : Int) (by omega) (by omega)
   cases ea
   have hrd : rd_T113 l (kk : Int) = l[kk]:=by simp [rd_T113,hlt]
   rw [hrd] at hx0 hx1
   rw [Int.toNat_natCast] at hx0 hx1
   replace hx0:=(BW.out.cell (World.block_lt_of_cell? w _ hx0)).trans hx0
   replace hx1:=(BW.out.cell (World.block_lt_of_cell? w _ hx1)).trans hx1
   have hcall:=HP.out l[kk] (List.getElem_mem hlt) wr BW.out
   clear hrd
   generalize hy : l[kk] = y at hx0 hx1 hcall
   have B:=a0_ hy
   clear hy
   cases hq : p y with
   | true =>
    rw [hq] at hcall
    go_wp2_with (go_at_fn g;refine hcall.mono ?_;rintro e w' ⟨rfl,hb'⟩)
    go_ret
    refine ⟨?_,below_step BW.out hb'⟩
    rw [idxP_hit p l kk hlt (by rw [B.out];exact hq) HA.out];rfl
   | false =>
    rw [hq] at hcall
    go_wp2_with (go_at_fn g;refine hcall.mono ?_;rintro e w' ⟨rfl,hb'⟩)
    go_roundg (l.length - (kk + 1))
    case measure=>omega
    case rel =>
     refine ⟨kk + 1,by omega,by omega,by go_num,⟨below_step BW.out hb'⟩,⟨fun j hj hjk=>?_⟩⟩
     by_cases e : j = kk
     ·subst e
      rw [B.out];exact hq
     ·exact HA.out j hj (by omega)
  ·have hltz : ¬ (kk : Int) < (l.length : Int):=by omega
   have : kk = l.length:=by omega
   subst this
   go_wp2
   go_ret
   refine ⟨?_,BW.out⟩
   rw [idxP_miss p l (fun j hj=>HA.out j hj hj)];rfl
end Go.Proofs.Ytacgehaipacehaa.P
namespace Go.Proofs.Ytacgehaipacehaa.P
open Go.RowKit Go.Proofs.YtacgehaipacehaaW.PrintWords Go.Proofs.YtacgehaipacehaaW.PrintLast Go.Proofs.YtacgehaipacehaaW.PrintMore
attribute [local go_sem] max2_int min2_int max_two min_two max_three min_three max_four min_four
set_option linter.unusedVariables false
set_option linter.unusedSimpArgs false
set_option maxHeartbeats 2000000 in
theorem slices_ContainsFunc_Frame.callsF (A : Option Addr) (c : Nat) (l : List S113) (g : Nat) (lb : Array Value) (p : S113 → Bool) (w : World) (eg : ∀ args w,(callFunc g args).run Try.prog w = .ok (.enter g args) w)
  (hr : Kd.C k113 w A l.length l) (hc : l.length ≤ c) (hp : ∀ x,x ∈ l → ∀ W,Below w.heap.size w W → Calls Try.prog g (#[.agg #[.string x.f0,.int .i64 x.f1]] ++ lb) W fun e w'=>e = .returned (.bool (p x)) ∧ Below W.heap.size W w') :
  Calls Try.prog 154 #[.slice A l.length c,.func (.func g) #[] lb] w fun e w'=>e = .returned (.bool (l.any p)) ∧ Below w.heap.size w w':=by
 have hcon:=slices_IndexFunc_Frame.callsF A c l g lb p w eg hr hc hp
 rw [← idxP_nonneg]
 clear eg hr hc hp
 generalize idxP p l = r at hcon ⊢
 go_enter Try.func154,Try.ntmps154
 go_wp2_with (go_at_call 166;refine hcon.mono ?_;rintro e w' ⟨rfl,hb'⟩)
 go_ret
 exact ⟨rfl,hb'⟩
end Go.Proofs.Ytacgehaipacehaa.P
namespace Go.Proofs.Ytacgehaipacehaa.P
open Go.RowKit Go.Proofs.YtacgehaipacehaaW.PrintWords Go.Proofs.YtacgehaipacehaaW.PrintLast Go.Proofs.YtacgehaipacehaaW.PrintMore
attribute [local go_sem] max2_int min2_int max_two min_two max_three min_three max_four min_four
set_option linter.unusedVariables false
set_option linter.unusedSimpArgs false
theorem impl_ValidTrace_1.callsF (x : S113) (hx : x.f0.size ≤ 9223372036854775807) (w : World) :
  Calls Try.prog 155 #[.agg #[.string x.f0,.int .i64 x.f1]] w fun e w'=>e = .returned (.bool (!frOk x)) ∧ Below w.heap.size w w':=by
 have hu74:=Try.underlying113
 have HN:=a0_ (impl_nameOk_ev x.f0 hx)
 have hdef : frOk x = (okName x.f0 && (decide (1 ≤ x.f1) && decide (x.f1 ≤ 999))):=rfl
 obtain ⟨p0,p1⟩:=x
 dsimp only at HN hdef
 have HB:=a0_ (below1 w (.cells #[.string p0,.int .i64 p1] 113))
 have BK:=a0_ (heap_new1 w (.cells #[.string p0,.int .i64 p1] 113))
 have hx0:=(blk_cell BK.out 0).trans rfl
 have hx1:=(blk_cell BK.out 1).trans rfl
 have HWI:=a0_ (impl_within_ev p1 1 999)
 generalize okName p0 = q1 at HN hdef
 generalize (decide (1 ≤ p1) && decide (p1 ≤ 999)) = q2 at HWI hdef
 rw [hdef]
 cases q1 with
 | false =>
  go_enter Try.func155,Try.ntmps155
  go_wp2_with (fail)
  refine (impl_nameOk.calls _ p0 _ _ HN.out).mono ?_
  rintro e w2 ⟨rfl,hd⟩
  have hb:=hd.below
  clear hd hx0 hx1
  replace HB:=a0_ (below_step HB.out hb)
  go_wp2
  go_ret
  exact ⟨rfl,HB.out⟩
 | true =>
  go_enter Try.func155,Try.ntmps155
  go_wp2_with (fail)
  refine (impl_nameOk.calls _ p0 _ _ HN.out).mono ?_
  rintro e w2 ⟨rfl,hd⟩
  have hb:=hd.below
  clear hd hx0 hx1
  replace HB:=a0_ (below_step HB.out hb)
  replace BK:=a0_ (blk_keptB BK.out hb)
  clear hb
  have hx0:=(blk_cell BK.out 0).trans rfl
  have hx1:=(blk_cell BK.out 1).trans rfl
  go_wp2_with (fail)
  refine (impl_within.calls p1 1 999 q2 _ HWI.out).mono ?_
  rintro e w3 ⟨rfl,hd⟩
  have hb:=hd.below
  clear hd hx0 hx1
  replace HB:=a0_ (below_step HB.out hb)
  go_wp2
  go_ret
  exact ⟨by simp,HB.out⟩
def impl_ValidTrace.f (l0 : List S113) : Option Bool:=if smF l0 = true then some (vR l0) else none
theorem impl_ValidTrace.calls (A0 : Option Addr) (c0 : Nat) (l0 : List (S113)) (r : Bool) (w : World) (hr0 : Kd.C k113 w A0 l0.length l0) (hc0 : l0.length ≤ c0) (h : impl_ValidTrace.f l0 = some r) :
  Calls Try.prog 131 #[.slice A0 l0.length c0] w fun e w'=>e = .returned (.bool r) ∧ Below w.heap.size w w':=by
 have hsm : smF l0 = true:=by
  apply Classical.byContradiction
  intro hn
  rw [impl_ValidTrace.f,if_neg hn] at h
  cases h
 rw [impl_ValidTrace.f,if_pos hsm] at h
 obtain rfl:=Option.some.inj h
 clear h
 have eg : ∀ args w,(callFunc 155 args).run Try.prog w = .ok (.enter 155 args) w:=enters_of Try.func155 (by kernel_rfl) rfl
 have HC:=a0_ (slices_ContainsFunc_Frame.callsF A0 c0 l0 155 #[] (fun x=>!frOk x) w eg hr0 hc0 (fun x hx W' hW=>impl_ValidTrace_1.callsF x (smF_mem hsm hx) W'))
 have e : vR l0 = (decide ((l0.length : Int) ≤ 12) && !(l0.any fun x=>!frOk x)):=by
  unfold vR
  rw [List.all_eq_not_any_not]
 rw [e]
 clear hr0 hsm eg e
 generalize (l0.any fun x=>!frOk x) = b3 at HC ⊢
 cases hq : decide ((l0.length : Int) ≤ 12) with
 | false =>
  clear HC
  go_enter Try.func131,Try.ntmps131
  go_wp2
  go_ret
  exact ⟨rfl,Below.refl _ _⟩
 | true =>
  go_enter Try.func131,Try.ntmps131
  go_wp2_with (fail)
  refine HC.out.mono ?_
  rintro e w2 ⟨rfl,hb⟩
  go_wp2
  go_ret
  exact ⟨by simp,hb⟩
theorem impl_ValidTrace_ev (l : List S113) (hs : smF l = true) : impl_ValidTrace.f l = some (vR l):=by rw [impl_ValidTrace.f,if_pos hs]
end Go.Proofs.Ytacgehaipacehaa.P
namespace Go.Proofs.Ytacgehaipacehaa.P
open Go.RowKit Go.Proofs.YtacgehaipacehaaW.PrintWords Go.Proofs.YtacgehaipacehaaW.PrintLast Go.Proofs.YtacgehaipacehaaW.PrintMore
attribute [local go_sem] max2_int min2_int max_two min_two max_three min_three max_four min_four
set_option linter.unusedVariables false
set_option linter.unusedSimpArgs false
def slices_Clip_Frame.f (l0 : List (S113)) : Option ((List (S113))):=if 0 ≤ (l0.length : Int) then (if (l0.length : Int) ≤ (l0.length : Int) then (some (l0.take ((l0.length : Int) : Int).toNat)) else (none)) else (none)
set_option maxHeartbeats 8000000 in
set_option maxRecDepth 100000 in
theorem slices_Clip_Frame.calls (P0_ : Nat → Prop) (u9000_ : Value) (l0 : List (S113)) (r : List (S113)) (w0 w : World) (hB : Below w0.heap.size w0 w) (ho0 : Kd.R k113 113 w w0.heap.size P0_ u9000_ l0) (h : slices_Clip_Frame.f l0 = some r) :
  Calls Try.prog 132 #[u9000_] w fun e w'=>∃ v0_ : Value,e = .returned (v0_) ∧ Kd.R k113 113 w' w0.heap.size (fun k_=>(P0_ k_ ∨ w.heap.size ≤ k_)) v0_ r ∧ Below w0.heap.size w0 w' ∧ Kept w w' (fun k_=>P0_ k_):=by
 have HO0:=a0_ (show Kd.R k113 113 w w0.heap.size (fun k_=>(P0_ k_ ∨ w.heap.size ≤ k_)) u9000_ l0 from Kd.R_mono ho0 (fun k_ hk=>(.inl hk)))
 have HK:=a0_ (Kept.refl w (fun k_=>P0_ k_))
 have HW0:=a0_ hB.size
 have HB:=a0_ hB
 clear hB
 have H : (if 0 ≤ (l0.length : Int) then (if (l0.length : Int) ≤ (l0.length : Int) then (some (l0.take ((l0.length : Int) : Int).toNat)) else (none)) else (none)) = some r:=h
 clear h
 by_cases c2 : 0 ≤ (l0.length : Int)
 ·rw [if_pos c2] at H
  have c2b0:=eq_true c2
  have c2b1 : decide (0 ≤ (l0.length : Int)) = true:=decide_eq_true c2
  clear c2
  by_cases c3 : (l0.length : Int) ≤ (l0.length : Int)
  ·rw [if_pos c3] at H
   have c3b0:=eq_true c3
   have c3b1 : decide ((l0.length : Int) ≤ (l0.length : Int)) = true:=decide_eq_true c3
   clear c3
   obtain ⟨y1,hy1⟩ : ∃ y_ : List (S113),y_ = (l0.take ((l0.length : Int) : Int).toNat):=⟨_,rfl⟩
   replace H : (some y1) = some r:=by first | (rw [hy1];with_reducible exact H) | (have H2_:=(Option.bind_some _ _).symm.trans H;rw [hy1];with_reducible exact H2_) | (have H2_:=(Option.bind_some _ _).symm.trans H;with_reducible exact H2_) | with_reducible exact H | (rw [hy1];exact H) | exact H
   have Ny1:=a0_ hy1
   clear hy1
   obtain rfl:=Option.some.inj H
   obtain ⟨Ao4,co4,eo4⟩:=Kd.R_slice HO0.out
   subst eo4
   have q5 : l0.length ≤ co4:=(Kd.R_reads' HO0.out).2.1
   have hr5:=Kd.R_clip2 HO0.out (((l0.length : Int) : Int).toNat) (by omega)
   rw [← Ny1.out] at hr5
   clear HO0
   have HO3:=a0_ hr5
   clear hr5
   go_enter Try.func132,Try.ntmps132
   go_wp2
   go_ret
   exact ⟨_,by first | rfl | (simp [errW_none,errW_some] <;> rfl) | (simp [*,errW_none,errW_some] <;> rfl),by (with_reducible repeat (first | apply Kd.R_alloc | apply Kd.R_drewN | apply Kd.R_drew));exact HO3.out,hbw_,by repeat (first | (with_reducible first | exact HK.out | apply Kept.alloc | apply Kept.drewN | apply Kept.drew) | exact HK.out)⟩
  ·rw [if_neg c3] at H
   exact absurd H (by simp)
 ·rw [if_neg c2] at H
  exact absurd H (by simp)
end Go.Proofs.Ytacgehaipacehaa.P
namespace Go.Proofs.Ytacgehaipacehaa.P
open Go.RowKit Go.Proofs.YtacgehaipacehaaW.PrintWords Go.Proofs.YtacgehaipacehaaW.PrintLast Go.Proofs.YtacgehaipacehaaW.PrintMore
attribute [local go_sem] max2_int min2_int max_two min_two max_three min_three max_four min_four
set_option linter.unusedVariables false
set_option linter.unusedSimpArgs false
theorem pw_eqlnil {P : Program} {t e : TypeId} (a : Option Addr) (h : P.underlying t = some (.slice e)) : ∀ n c w,(binOp .eql t (.slice a n c) (.slice none 0 0)).run P w = .ok (.bool a.isNone) w:=by
 intro n c w
 have h1 : ∀ d,(Op.equalIn (d + 1) t (.slice a n c) (.slice none 0 0)).run P w = .ok a.isNone w:=by
  intro d
  cases a <;> simp [Op.equalIn,run_underlying h]
 have h2 : (Op.equal t (.slice a n c) (.slice none 0 0)).run P w = .ok a.isNone w:=h1 9999
 simp [binOp,h2]
end Go.Proofs.Ytacgehaipacehaa.P
namespace Go.Proofs.Ytacgehaipacehaa.P
open Go.RowKit Go.Proofs.YtacgehaipacehaaW.PrintWords Go.Proofs.YtacgehaipacehaaW.PrintLast Go.Proofs.YtacgehaipacehaaW.PrintMore
attribute [local go_sem] max2_int min2_int max_two min_two max_three min_three max_four min_four
set_option linter.unusedVariables false
set_option linter.unusedSimpArgs false
def slices_Clone_Frame.f (l0 : List (S113)) : Option (List (S113)):=if l0.length < 5864062014805 then some l0 else none
set_option maxHeartbeats 2000000 in
set_option maxRecDepth 100000 in
theorem slices_Clone_Frame.calls (A0 : Option Addr) (c0 : Nat) (l0 : List (S113)) (r : List (S113)) (w : World) (hr0 : Kd.C k113 w A0 l0.length l0) (hc0 : l0.length ≤ c0) (h : slices_Clone_Frame.f l0 = some r) :
  Calls Try.prog 133 #[.slice A0 l0.length c0] w fun e w'=>∃ v0_ : Value,e = .returned (v0_) ∧ Kd.R k113 113 w' w.heap.size (fun _=>True) v0_ r ∧ Below w.heap.size w w':=by
 have hlm : l0.length < 5864062014805:=by
  apply Classical.byContradiction
  intro hn
  rw [slices_Clone_Frame.f,if_neg hn] at h
  cases h
 rw [slices_Clone_Frame.f,if_pos hlm] at h
 obtain rfl:=Option.some.inj h
 clear h
 have HR0:=a0_ hr0
 have HC0:=a0_ hc0
 have LM:=a0_ hlm
 clear hlm hc0
 have HB:=a0_ (Below.refl w.heap.size w)
 obtain ⟨y1,hy1⟩ : ∃ y_ : List (S113),y_ = (([] : List (S113))):=⟨_,rfl⟩
 have Ny1:=a0_ hy1
 obtain ⟨y4,hy4⟩ : ∃ y_ : List (S113),y_ = y1 ++ l0:=⟨_,rfl⟩
 have Ny4:=a0_ hy4
 have Ny5:=a0_ (show y4 = l0 by rw [hy4,hy1,List.nil_append])
 have Ny6:=a0_ (show y1.length = 0 by rw [hy1];rfl)
 clear hy1 hy4
 cases A0 with
 | none =>
  have e0 : l0.length = 0:=by
   apply Classical.byContradiction
   intro hn
   obtain ⟨ad,e,_⟩:=hr0.2.2 (by omega)
   cases e
  clear hr0
  have e1 : l0 = []:=List.length_eq_zero_iff.1 e0
  have hnl:=pw_eqlnil (P:=Try.prog) none Try.underlying51
  simp only [Option.isNone_none] at hnl
  go_enter Try.func133,Try.ntmps133
  go_wp2
  go_ret
  exact ⟨_,rfl,by rw [e1];exact Kd.R_nil _ _ _ _ _,HB.out⟩
 | some a0 =>
  clear hr0
  have hnl:=pw_eqlnil (P:=Try.prog) (some a0) Try.underlying51
  simp only [Option.isNone_some] at hnl
  go_enter Try.func133,Try.ntmps133
  go_wp2_with (first | ((with_reducible refine gate_dst (N:=5) rfl ?_);refine Kd.R_lit k113 _ 113 ?hg (N:=5) ?hd (xs:=([] : List (S113))) (inner:=[]) (ok:=fun _=>True) (okp:=fun _=>True) ?hr ?hp (fun _ hk=>hk) trivial (Below.refl _ _) (Nat.le_refl _) (by simp) ?_;(case hd=>rfl);(case hg=>rfl);(case hr=>first | (go_simp;done) | (go_simp;rfl));(case hp=>exact (Reps.none _ _));intro v2 w4 ho5 hb hg_ hnew_;clear hg_ hnew_;(first | rw [← Ny1.out] at ho5 | (simp only [Int.reduceToNat] at ho5;rw [← Ny1.out] at ho5));have HO3:=a0_ (Kd.R_lower ho5 (below_size hbw_));replace HB:=a0_ (below_step hbw_ hb);clear hb ho5) | ((with_reducible refine gate_builtin (b:=.append) (xs:=#[.tmp 5,.tmp 6]) rfl ?_);at_builtin;refine Kd.R_append_rows k113 (w0:=w) w.heap.size rfl (.tmp 5) (.tmp 6) 51 113 (.agg #[(.string ByteArray.empty),(.int .i64 0)]) 24 rfl Try.underlying51 info113 rfl (by decide) (by omega) v2 y1 l0 _ _ _ (fun _=>True) (fun _=>False) rfl rfl ?aO ?aR (fun _ _ h=>h) (fun _ h=>h.elim) ?aF ?aB ?aS ?aL ?_;(case aR=>exact cc_ (Kd.C_below HR0.out HB.out));(case aB=>exact hbw_);(case aF=>exact (fun _ _=>trivial));(case aO=>exact (rr_ HO3.out));(case aS=>exact (below_size hbw_));(case aL=>have:=LM.out;have:=Ny6.out;omega);intro v5 w6 ho hb hg hat;rw [← Ny4.out] at ho;have HO6:=a0_ (ho);replace HB:=a0_ (hb);clear HO3;clear ho hb hg hat))
  go_ret
  exact ⟨_,rfl,by rw [← Ny5.out];exact HO6.out,HB.out⟩
end Go.Proofs.Ytacgehaipacehaa.P
namespace Go.Proofs.Ytacgehaipacehaa.P
open Go.RowKit Go.Proofs.YtacgehaipacehaaW.PrintWords Go.Proofs.YtacgehaipacehaaW.PrintLast Go.Proofs.YtacgehaipacehaaW.PrintMore
attribute [local go_sem] max2_int min2_int max_two min_two max_three min_three max_four min_four
set_option linter.unusedVariables false
set_option linter.unusedSimpArgs false
def impl_traceMade.f (l0 : List (S113)) : Option ((List (S113)) × Bool):=(impl_ValidTrace.f l0).bind fun t1=>(if t1 = true then ((slices_Clone_Frame.f l0).bind fun t2=>((slices_Clip_Frame.f t2).bind fun t5=>(some (t5,true)))) else (some (([] : List (S113)),false)))
set_option maxHeartbeats 8000000 in
set_option maxRecDepth 100000 in
theorem impl_traceMade.calls (A0 : Option Addr) (c0 : Nat) (l0 : List (S113)) (r1 : List (S113)) (r2 : Bool) (w : World) (hr0 : Kd.C k113 w A0 l0.length l0) (hc0 : l0.length ≤ c0) (h : impl_traceMade.f l0 = some (r1,r2)) :
  Calls Try.prog 86 #[.slice A0 l0.length c0] w fun e w'=>∃ v0_ : Value,e = .returned (.tuple #[v0_,.bool r2]) ∧ Kd.R k113 113 w' w.heap.size (fun _=>True) v0_ r1 ∧ Below w.heap.size w w':=by
 have HR0:=a0_ hr0
 have HC0:=a0_ hc0
 clear hr0 hc0
 have HB:=a0_ (Below.refl w.heap.size w)
 have H : ((impl_ValidTrace.f l0).bind fun t1=>(if t1 = true then ((slices_Clone_Frame.f l0).bind fun t2=>((slices_Clip_Frame.f t2).bind fun t5=>(some (t5,true)))) else (some (([] : List (S113)),false)))) = some (r1,r2):=h
 clear h
 replace H:=Option.bind_eq_some_iff.mp H
 obtain ⟨t1,A20,H⟩:=H
 try dsimp only at H
 have A2:=a0_ A20
 clear A20
 by_cases c3 : t1 = true
 ·subst c3
  have H1 : ((slices_Clone_Frame.f l0).bind fun t2=>((slices_Clip_Frame.f t2).bind fun t5=>(some (t5,true)))) = some (r1,r2):=by rw [if_pos rfl] at H;exact H
  clear H
  have H:=H1
  clear H1
  replace H:=Option.bind_eq_some_iff.mp H
  obtain ⟨t2,A40,H⟩:=H
  try dsimp only at H
  have A4:=a0_ A40
  clear A40
  replace H:=Option.bind_eq_some_iff.mp H
  obtain ⟨t5,A50,H⟩:=H
  replace H : (some (t5,true)) = some (r1,r2):=H
  have A5:=a0_ A50
  clear A50
  simp only [Option.some.injEq,Prod.mk.injEq] at H
  obtain ⟨rfl,rfl⟩:=H
  go_enter Try.func86,Try.ntmps86
  go_wp2_with (first | ((with_reducible refine gate_callee (f:=131) rfl ?_);refine goesL_ (some 5) rfl rfl Try.func131 (by kernel_rfl) rfl #[.slice A0 l0.length c0] rfl lm_ ?_;(with_reducible refine (impl_ValidTrace.calls _ _ l0 true _ ?side1 ?side2 A2.out).mono ?_);(case side1=>repeat (first | exact HR0.out | (with_reducible refine Kd.C_alloc ?_ _) | (with_reducible refine Kd.C_drewN ?_ _) | (with_reducible refine Kd.C_drew ?_)));(case side2=>exact HC0.out);rintro e w6 ⟨rfl,hb⟩;refine ⟨_,rfl,?_⟩;replace HB:=a0_ (below_step hbw_ hb);(try clear hb);(try clear hb2);(try clear hk);(try clear hi)) | ((with_reducible refine gate_callee (f:=133) rfl ?_);refine goesL_ (some 8) rfl rfl Try.func133 (by kernel_rfl) rfl #[.slice A0 l0.length c0] rfl lm_ ?_;(with_reducible refine (slices_Clone_Frame.calls _ _ l0 t2 _ ?side1 ?side2 A4.out).mono ?_);(case side1=>exact cc_ (Kd.C_below HR0.out HB.out));(case side2=>exact HC0.out);rintro e w7 ⟨v3,rfl,ho0,hb⟩;refine ⟨_,rfl,?_⟩;have HO4:=a0_ (Kd.R_lower ho0 (below_size hbw_));replace HB:=a0_ (below_step hbw_ hb);(try clear hb);(try clear ho0);obtain ⟨Ao8,co8,eo8⟩:=Kd.R_slice HO4.out;subst eo8) | ((with_reducible refine gate_callee (f:=132) rfl ?_);refine goesL_ (some 9) rfl rfl Try.func132 (by kernel_rfl) rfl #[.slice Ao8 t2.length co8] rfl lm_ ?_;(with_reducible refine (slices_Clip_Frame.calls (fun k_=>some k_ = (.slice Ao8 t2.length co8 : Value).ownBlock) (.slice Ao8 t2.length co8) t2 t5 w _ ?side1 ?side2 A5.out).mono ?_);(case side1=>exact hbw_);(case side2=>exact Kd.R_tight rfl HO4.out);rintro e w9 ⟨v6,rfl,ho0,hb,hkp⟩;refine ⟨_,rfl,?_⟩;have HO7:=a0_ (Kd.R_mono (ok':=fun k_=>True) ho0 (fun k_ hk_=>trivial));replace HB:=a0_ (hb);clear HO4;(try clear hb);(try clear hkp);(try clear ho0)))
  go_ret2
  exact ⟨_,by first | rfl | (simp [errW_none,errW_some] <;> rfl) | (simp [*,errW_none,errW_some] <;> rfl),by (with_reducible repeat (first | apply Kd.R_alloc | apply Kd.R_drewN | apply Kd.R_drew));exact HO7.out,hbw_⟩
 ·replace c3:=Bool.eq_false_iff.mpr c3
  subst c3
  have H1 : (some (([] : List (S113)),false)) = some (r1,r2):=by rw [if_neg (show ¬ (false = true) by decide)] at H;exact H
  clear H
  have H:=H1
  clear H1
  simp only [Option.some.injEq,Prod.mk.injEq] at H
  obtain ⟨rfl,rfl⟩:=H
  go_enter Try.func86,Try.ntmps86
  go_wp2_with (first | ((with_reducible refine gate_callee (f:=131) rfl ?_);refine goesL_ (some 5) rfl rfl Try.func131 (by kernel_rfl) rfl #[.slice A0 l0.length c0] rfl lm_ ?_;(with_reducible refine (impl_ValidTrace.calls _ _ l0 false _ ?side1 ?side2 A2.out).mono ?_);(case side1=>repeat (first | exact HR0.out | (with_reducible refine Kd.C_alloc ?_ _) | (with_reducible refine Kd.C_drewN ?_ _) | (with_reducible refine Kd.C_drew ?_)));(case side2=>exact HC0.out);rintro e w10 ⟨rfl,hb⟩;refine ⟨_,rfl,?_⟩;replace HB:=a0_ (below_step hbw_ hb);(try clear hb);(try clear hb2);(try clear hk);(try clear hi)))
  go_ret2
  exact ⟨_,by first | rfl | (simp [errW_none,errW_some] <;> rfl) | (simp [*,errW_none,errW_some] <;> rfl),by first | exact Kd.R_nil _ _ _ _ _ | exact Kd.N_nil _ _ _ _ _ | exact Kd.V_nil _ _ _ _ _ | exact Kd.Q_nil _ _ _ _ _ | exact Kd.S_nil _ _ _ _ _,hbw_⟩
end Go.Proofs.Ytacgehaipacehaa.P
namespace Go.Proofs.Ytacgehaipacehaa.P
open Go.RowKit Go.Proofs.YtacgehaipacehaaW.PrintWords Go.Proofs.YtacgehaipacehaaW.PrintLast Go.Proofs.YtacgehaipacehaaW.PrintMore
attribute [local go_sem] max2_int min2_int max_two min_two max_three min_three max_four min_four
set_option linter.unusedVariables false
set_option linter.unusedSimpArgs false
def impl_UnfoldTrace.l0 : Nat → List (S115) → List (S113) → List (S115) → Int → Int → Option ((List (S113)) × Bool)
 | 0,_,_,_,_,_=>none
 | k + 1,x0,x4,x8,x9,x10=>if x10 < x9 then (if 0 ≤ x10 then (if x10 < (x8.length : Int) then ((impl_within.f ((rd_T115 x8 x10).f1) 1 (wrap64 (12 - (x4.length : Int)))).bind fun t6=>(if t6 = true then ((slices_Repeat_Frame.f (([(⟨(rd_T115 x8 x10).f0.f0,(rd_T115 x8 x10).f0.f1⟩ : S113)] : List (S113))) ((rd_T115 x8 x10).f1)).bind fun t10=>(if x4.length + t10.length < 5864062014805 then (impl_UnfoldTrace.l0 k x0 (x4 ++ t10) x8 x9 (wrap64 (x10 + 1))) else (none))) else (some (([] : List (S113)),false)))) else (none)) else (none)) else ((impl_rows.f k x4).bind fun t16=>((slices_Equal_Row.f k t16 x0).bind fun t19=>(if t19 = true then ((impl_traceMade.f x4).bind fun bt20=>(some (bt20.1,bt20.2))) else (some (([] : List (S113)),false)))))
def impl_UnfoldTrace.f (k : Nat) (l0 : List (S115)) : Option ((List (S113)) × Bool):=impl_UnfoldTrace.l0 k l0 (([] : List (S113))) l0 (l0.length : Int) 0
theorem impl_UnfoldTrace.mono_l : ∀ k,(∀ y0 y1 y2 y3 y4,LeO (impl_UnfoldTrace.l0 k y0 y1 y2 y3 y4) (impl_UnfoldTrace.l0 (k + 1) y0 y1 y2 y3 y4))
 | 0=>fun _ _ _ _ _ r h=>by simp [impl_UnfoldTrace.l0] at h
 | k + 1=>by
  have ih0:=impl_UnfoldTrace.mono_l k
  ·intro y0 y1 y2 y3 y4
   unfold impl_UnfoldTrace.l0
   repeat' first
   | (with_reducible exact ih0 _ _ _ _ _)
   | (with_reducible exact impl_rows.mono _ _)
   | (with_reducible exact slices_Equal_Row.mono _ _ _)
   | (with_reducible exact LeO.refl _)
   | (with_reducible exact LeO.none _)
   | (with_reducible refine LeO.ite ?_ ?_)
   | (with_reducible refine LeO.bind ?_ (fun _=>?_))
   | exact ih0 _ _ _ _ _
   | exact impl_rows.mono _ _
   | exact slices_Equal_Row.mono _ _ _
   | exact LeO.none _
   | refine LeO.ite ?_ ?_
   | refine LeO.bind ?_ (fun _=>?_)
theorem impl_UnfoldTrace.mono : ∀ a0 k,LeO (impl_UnfoldTrace.f k a0) (impl_UnfoldTrace.f (k + 1) a0):=by
 intro a0 k
 have ih0:=impl_UnfoldTrace.mono_l k
 unfold impl_UnfoldTrace.f
 repeat' first
   | (with_reducible exact ih0 _ _ _ _ _)
   | (with_reducible exact impl_rows.mono _ _)
   | (with_reducible exact slices_Equal_Row.mono _ _ _)
   | (with_reducible exact LeO.refl _)
   | (with_reducible exact LeO.none _)
   | (with_reducible refine LeO.ite ?_ ?_)
   | (with_reducible refine LeO.bind ?_ (fun _=>?_))
   | exact ih0 _ _ _ _ _
   | exact impl_rows.mono _ _
   | exact slices_Equal_Row.mono _ _ _
   | exact LeO.none _
   | refine LeO.ite ?_ ?_
   | refine LeO.bind ?_ (fun _=>?_)
set_option maxHeartbeats 8000000 in
set_option maxRecDepth 100000 in
theorem impl_UnfoldTrace.calls (k : Nat) (A0 : Option Addr) (c0 : Nat) (l0 : List (S115)) (r1 : List (S113)) (r2 : Bool) (w : World) (hr0 : Kd.C k115 w A0 l0.length l0) (hc0 : l0.length ≤ c0) (h : impl_UnfoldTrace.f k l0 = some (r1,r2)) :
  Calls Try.prog 32 #[.slice A0 l0.length c0] w fun e w'=>∃ v0_ : Value,e = .returned (.tuple #[v0_,.bool r2]) ∧ Kd.R k113 113 w' w.heap.size (fun _=>True) v0_ r1 ∧ Below w.heap.size w w':=by
 have hu115:=Try.underlying115
 have hu113:=Try.underlying113
 have HR0:=a0_ hr0
 have HC0:=a0_ hc0
 clear hr0 hc0
 have HB:=a0_ (Below.refl w.heap.size w)
 have H : (impl_UnfoldTrace.l0 k l0 (([] : List (S113))) l0 (l0.length : Int) 0) = some (r1,r2):=h
 clear h
 obtain ⟨y1,hy1⟩ : ∃ y_ : List (S113),y_ = (([] : List (S113))):=⟨_,rfl⟩
 replace H : (impl_UnfoldTrace.l0 k l0 y1 l0 (l0.length : Int) 0) = some (r1,r2):=by first | (rw [hy1];with_reducible exact H) | (have H2_:=(Option.bind_some _ _).symm.trans H;rw [hy1];with_reducible exact H2_) | (have H2_:=(Option.bind_some _ _).symm.trans H;with_reducible exact H2_) | with_reducible exact H | (rw [hy1];exact H) | exact H
 have Ny1:=a0_ hy1
 clear hy1
 have H':=a0_ H
 clear H
 go_enter Try.func32,Try.ntmps32
 go_wp2_with (first | ((with_reducible refine gate_dst (N:=7) rfl ?_);refine Kd.R_lit k113 _ 113 ?hg (N:=7) ?hd (xs:=([] : List (S113))) (inner:=[]) (ok:=fun _=>True) (okp:=fun _=>True) ?hr ?hp (fun _ hk=>hk) trivial (Below.refl _ _) (Nat.le_refl _) (by simp) ?_;(case hd=>rfl);(case hg=>rfl);(case hr=>first | (go_simp;done) | (go_simp;rfl));(case hp=>exact (Reps.none _ _));intro v2 w2 ho3 hb hg_ hnew_;clear hg_ hnew_;(first | rw [← Ny1.out] at ho3 | (simp only [Int.reduceToNat] at ho3;rw [← Ny1.out] at ho3));have HO3:=a0_ (Kd.R_lower ho3 (below_size hbw_));replace HB:=a0_ (below_step hbw_ hb);clear hb ho3))
 go_loopg [4,10] k (fun kq v4 v10 w'=>∃ (x4_1 : List (S113)) (x10_1 : Int),v10 = .int .i64 x10_1 ∧ Aside0 (impl_UnfoldTrace.l0 kq l0 x4_1 l0 (l0.length : Int) x10_1 = some (r1,r2)) ∧ Aside0 (kq ≤ k) ∧ Aside0 (Kd.R k113 113 w' w.heap.size (fun _=>True) v4 x4_1) ∧ Aside0 (Below w.heap.size w w'))
 case atStart=>exact ⟨(y1),(0),(by first | rfl | (simp;done) | (simp [*];done)),H',⟨Nat.le_refl _⟩,⟨by (with_reducible repeat (first | apply Kd.R_alloc | apply Kd.R_drewN | apply Kd.R_drew));exact HO3.out⟩,⟨hbw_⟩⟩
 case round =>
  clear H'
  try clear p2
  try clear c3
  obtain ⟨x4_1,x10_1,rfl,HA,HK1,HO_4,HB⟩:=hrel
  cases gk with
  | zero=>exact absurd HA.out (by simp [impl_UnfoldTrace.l0])
  | succ k1 =>
   have H:=HA.out
   clear HA
   simp only [impl_UnfoldTrace.l0] at H
   by_cases c4 : x10_1 < (l0.length : Int)
   ·rw [if_pos c4] at H
    have c4b0 : decide (x10_1 < (l0.length : Int)) = true:=decide_eq_true c4
    clear c4
    by_cases c5 : 0 ≤ x10_1
    ·rw [if_pos c5] at H
     have c5b0 : decide (0 ≤ x10_1) = true:=decide_eq_true c5
     clear c5
     by_cases c6 : x10_1 < (l0.length : Int)
     ·rw [if_pos c6] at H
      have c6b0 : decide (x10_1 < (l0.length : Int)) = true:=decide_eq_true c6
      clear c6
      replace H:=Option.bind_eq_some_iff.mp H
      obtain ⟨t6,A70,H⟩:=H
      try dsimp only at H
      have A7:=a0_ A70
      clear A70
      by_cases c8 : t6 = true
      ·subst c8
       have H1 : ((slices_Repeat_Frame.f (([(⟨(rd_T115 l0 x10_1).f0.f0,(rd_T115 l0 x10_1).f0.f1⟩ : S113)] : List (S113))) ((rd_T115 l0 x10_1).f1)).bind fun t10=>(if x4_1.length + t10.length < 5864062014805 then (impl_UnfoldTrace.l0 k1 l0 (x4_1 ++ t10) l0 (l0.length : Int) (wrap64 (x10_1 + 1))) else (none))) = some (r1,r2):=by rw [if_pos rfl] at H;exact H
       clear H
       have H:=H1
       clear H1
       obtain ⟨y7,hy7⟩ : ∃ y_ : List (S113),y_ = (([(⟨(rd_T115 l0 x10_1).f0.f0,(rd_T115 l0 x10_1).f0.f1⟩ : S113)] : List (S113))):=⟨_,rfl⟩
       replace H : ((slices_Repeat_Frame.f y7 ((rd_T115 l0 x10_1).f1)).bind fun t10=>(if x4_1.length + t10.length < 5864062014805 then (impl_UnfoldTrace.l0 k1 l0 (x4_1 ++ t10) l0 (l0.length : Int) (wrap64 (x10_1 + 1))) else (none))) = some (r1,r2):=by first | (rw [hy7];with_reducible exact H) | (have H2_:=(Option.bind_some _ _).symm.trans H;rw [hy7];with_reducible exact H2_) | (have H2_:=(Option.bind_some _ _).symm.trans H;with_reducible exact H2_) | with_reducible exact H | (rw [hy7];exact H) | exact H
       have Ny7:=a0_ hy7
       clear hy7
       replace H:=Option.bind_eq_some_iff.mp H
       obtain ⟨t10,A90,H⟩:=H
       try dsimp only at H
       have A9:=a0_ A90
       clear A90
       by_cases c10 : x4_1.length + t10.length < 5864062014805
       ·rw [if_pos c10] at H
        have LMc10:=a0_ c10
        clear c10
        obtain ⟨y13,hy13⟩ : ∃ y_ : List (S113),y_ = (x4_1 ++ t10):=⟨_,rfl⟩
        replace H : (impl_UnfoldTrace.l0 k1 l0 y13 l0 (l0.length : Int) (wrap64 (x10_1 + 1))) = some (r1,r2):=by first | (rw [hy13];with_reducible exact H) | (have H2_:=(Option.bind_some _ _).symm.trans H;rw [hy13];with_reducible exact H2_) | (have H2_:=(Option.bind_some _ _).symm.trans H;with_reducible exact H2_) | with_reducible exact H | (rw [hy13];exact H) | exact H
        have Ny13:=a0_ hy13
        clear hy13
        have H':=a0_ H
        clear H
        have p4 : 0 ≤ (x10_1 : Int):=of_decide_eq_true (by first | (with_reducible assumption) | assumption)
        have q4 : x10_1 < (l0.length : Int):=of_decide_eq_true (by first | (with_reducible assumption) | assumption)
        obtain ⟨ad4,e4,hx4_0,hx4_1,hx4_2⟩:=at_T115 HR0.out x10_1 p4 q4
        cases e4
        replace hx4_0:=(HB.out.cell (World.block_lt_of_cell? w _ hx4_0)).trans hx4_0
        replace hx4_1:=(HB.out.cell (World.block_lt_of_cell? w _ hx4_1)).trans hx4_1
        replace hx4_2:=(HB.out.cell (World.block_lt_of_cell? w _ hx4_2)).trans hx4_2
        replace p4:=eq_true p4
        replace q4:=eq_true q4
        go_wp2_with (first | ((with_reducible refine gate_dst (N:=6) rfl ?_);refine box_event ?hg (N:=6) ?hd (cs:=#[.string (⟨#[]⟩ : ByteArray),.int .i64 0,.int .i64 0]) (t:=115) ?hr ?_;(case hd=>rfl);(case hg=>rfl);(case hr=>first | (go_simp;done) | (go_simp;rfl));intro gb5 hg w11 hbox hb;replace HO_4:=rb_ HO_4 hb;have BK5:=a0_ (hbox);have GW5:=a0_ ((by rw [hg];exact (below_size hbw_) : w.heap.size ≤ gb5));have GE5:=a0_ ((by rw [hg];exact (below_size hbw_) : w.heap.size ≤ gb5));replace HB:=a0_ (below_step hbw_ hb);clear hb hbox hg;have hcz12_0 : w11.cell? ⟨gb5,0,none⟩ = some (.string (⟨#[]⟩ : ByteArray)):=(blk_cell BK5.out 0).trans rfl;have hcz12_1 : w11.cell? ⟨gb5,1,none⟩ = some (.int .i64 0):=(blk_cell BK5.out 1).trans rfl;have hcz12_2 : w11.cell? ⟨gb5,2,none⟩ = some (.int .i64 0):=(blk_cell BK5.out 2).trans rfl;have hfz12_0:=blk_frozen BK5.out 0;have hfz12_1:=blk_frozen BK5.out 1;have hfz12_2:=blk_frozen BK5.out 2;obtain ⟨Ao13,co13,eo13⟩:=Kd.R_slice HO_4.out;subst eo13) | ((with_reducible refine gate_callee (f:=75) rfl ?_);refine goesL_ (some 19) rfl rfl Try.func75 (by kernel_rfl) rfl #[.int .i64 ((rd_T115 l0 x10_1).f1),.int .i64 1,.int .i64 (wrap64 (12 - (x4_1.length : Int)))] rfl lm_ ?_;(with_reducible refine (impl_within.calls ((rd_T115 l0 x10_1).f1) 1 (wrap64 (12 - (x4_1.length : Int))) true _ A7.out).mono ?_);rintro e w' ⟨rfl,⟨nd,rfl⟩⟩;refine ⟨_,rfl,?_⟩) | ((with_reducible refine gate_dst (N:=24) rfl ?_);refine Kd.R_lit k113 _ 113 ?hg (N:=24) ?hd (xs:=([(⟨(rd_T115 l0 x10_1).f0.f0,(rd_T115 l0 x10_1).f0.f1⟩ : S113)] : List (S113))) (inner:=[.string ((rd_T115 l0 x10_1).f0.f0),.int .i64 ((rd_T115 l0 x10_1).f0.f1)]) (ok:=fun _=>True) (okp:=fun _=>True) ?hr ?hp (fun _ hk=>hk) trivial (Below.refl _ _) (Nat.le_refl _) (by simp) ?_;(case hd=>rfl);(case hg=>rfl);(case hr=>first | (go_simp;done) | (go_simp;rfl));(case hp=>exact (Reps.c2 (show Kd.M k113 _ _ _ (⟨(rd_T115 l0 x10_1).f0.f0,(rd_T115 l0 x10_1).f0.f1⟩ : S113) [.string ((rd_T115 l0 x10_1).f0.f0),.int .i64 ((rd_T115 l0 x10_1).f0.f1)] from (k113_mkM _ _ _ (⟨(rd_T115 l0 x10_1).f0.f0,(rd_T115 l0 x10_1).f0.f1⟩ : S113) )) (Reps.none _ _)));intro v8 w14 ho15 hb hg_ hnew_;clear hg_ hnew_;(first | rw [← Ny7.out] at ho15 | (simp only [Int.reduceToNat] at ho15;rw [← Ny7.out] at ho15));have n0_:=a0_ (Kd.R_elder' (by (with_reducible repeat (first | apply Kd.R_alloc | apply Kd.R_drewN | apply Kd.R_drew));exact (Kd.R_mono (Kd.R_far (p:=⟨gb5,2,none⟩) (Kd.R_far (p:=⟨gb5,1,none⟩) (Kd.R_far (p:=⟨gb5,0,none⟩) (Kd.R_types HO_4.out BK5.out (by decide)) (fun _ hk=>hk.2) (.string ((rd_T115 l0 x10_1).f0.f0))) (fun _ hk=>hk.2) (.int .i64 ((rd_T115 l0 x10_1).f0.f1))) (fun _ hk=>hk.2) (.int .i64 ((rd_T115 l0 x10_1).f1))) (fun _ h_=>h_.1))) (Kd.R_base ho15) hb);have n1_:=a0_ (Kd.R_lower (Kd.R_new' ho15 (Kd.R_lt (by (with_reducible repeat (first | apply Kd.R_alloc | apply Kd.R_drewN | apply Kd.R_drew));exact (Kd.R_mono (Kd.R_far (p:=⟨gb5,2,none⟩) (Kd.R_far (p:=⟨gb5,1,none⟩) (Kd.R_far (p:=⟨gb5,0,none⟩) (Kd.R_types HO_4.out BK5.out (by decide)) (fun _ hk=>hk.2) (.string ((rd_T115 l0 x10_1).f0.f0))) (fun _ hk=>hk.2) (.int .i64 ((rd_T115 l0 x10_1).f0.f1))) (fun _ hk=>hk.2) (.int .i64 ((rd_T115 l0 x10_1).f1))) (fun _ h_=>h_.1))))) (below_size hbw_));have n2_:=a0_ (blk_below (g:=gb5) (o:=.cells #[.string ((rd_T115 l0 x10_1).f0.f0),.int .i64 ((rd_T115 l0 x10_1).f0.f1),.int .i64 ((rd_T115 l0 x10_1).f1)] 115 (0,0)) (by (with_reducible repeat (first | refine blk_drewN ?_ _ | refine blk_drew ?_ | refine blk_alloc ?_ _));refine blk_put (cs:=#[.string ((rd_T115 l0 x10_1).f0.f0),.int .i64 ((rd_T115 l0 x10_1).f0.f1),.int .i64 0]) ?_ 2 _ rfl;(with_reducible repeat (first | refine blk_drewN ?_ _ | refine blk_drew ?_ | refine blk_alloc ?_ _));refine blk_put (cs:=#[.string ((rd_T115 l0 x10_1).f0.f0),.int .i64 0,.int .i64 0]) ?_ 1 _ rfl;(with_reducible repeat (first | refine blk_drewN ?_ _ | refine blk_drew ?_ | refine blk_alloc ?_ _));refine blk_put (cs:=#[.string (⟨#[]⟩ : ByteArray),.int .i64 0,.int .i64 0]) ?_ 0 _ rfl;(with_reducible repeat (first | refine blk_drewN ?_ _ | refine blk_drew ?_ | refine blk_alloc ?_ _));exact BK5.out) hb);have n3_:=a0_ (below_step hbw_ hb);clear HO_4 BK5 HB;have HO_4:=n0_;have HO9:=n1_;have BK5:=n2_;have HB:=n3_;clear n0_ n1_ n2_ n3_;clear hb ho15;have hcz16_0 : w14.cell? ⟨gb5,0,none⟩ = some (.string ((rd_T115 l0 x10_1).f0.f0)):=(blk_cell BK5.out 0).trans rfl;have hcz16_1 : w14.cell? ⟨gb5,1,none⟩ = some (.int .i64 ((rd_T115 l0 x10_1).f0.f1)):=(blk_cell BK5.out 1).trans rfl;have hcz16_2 : w14.cell? ⟨gb5,2,none⟩ = some (.int .i64 ((rd_T115 l0 x10_1).f1)):=(blk_cell BK5.out 2).trans rfl;have hfz16_0:=blk_frozen BK5.out 0;have hfz16_1:=blk_frozen BK5.out 1;have hfz16_2:=blk_frozen BK5.out 2;obtain ⟨Ao17,co17,eo17⟩:=Kd.R_slice HO9.out;subst eo17) | ((with_reducible refine gate_callee (f:=83) rfl ?_);refine goesL_ (some 27) rfl rfl Try.func83 (by kernel_rfl) rfl #[.slice Ao17 y7.length co17,.int .i64 ((rd_T115 l0 x10_1).f1)] rfl lm_ ?_;(with_reducible refine (slices_Repeat_Frame.calls _ _ y7 ((rd_T115 l0 x10_1).f1) t10 _ ?side1 ?side2 A9.out).mono ?_);(case side1=>exact cc_ (Kd.R_reads' HO9.out).2.2);(case side2=>exact (Kd.R_reads' HO9.out).2.1);rintro e w18 ⟨v11,rfl,ho0,hb⟩;refine ⟨_,rfl,?_⟩;have n0_:=a0_ (Kd.R_elder' (rr_ HO_4.out) (Kd.R_base ho0) hb);have n1_:=a0_ (Kd.R_elder' (rr_ HO9.out) (Kd.R_base ho0) hb);have n2_:=a0_ (Kd.R_lower (Kd.R_new' (Kd.R_new' ho0 (Kd.R_lt (rr_ HO_4.out))) (Kd.R_lt (rr_ HO9.out))) (below_size hbw_));have n3_:=kb_ BK5 hb;have n4_:=a0_ (below_step hbw_ hb);clear HO_4 HO9;clear BK5 HB;have HO_4:=n0_;have HO9:=n1_;have HO12:=n2_;have BK5:=n3_;have HB:=n4_;clear n0_ n1_ n2_ n3_ n4_;(try clear hb);(try clear ho0);obtain ⟨Ao20,co20,eo20⟩:=Kd.R_slice HO12.out;subst eo20) | ((with_reducible refine gate_builtin (b:=.append) (xs:=#[.tmp 21,.tmp 27]) rfl ?_);at_builtin;refine Kd.R_append_rows k113 (w0:=w) w.heap.size rfl (.tmp 21) (.tmp 27) 51 113 (.agg #[(.string ⟨#[]⟩),(.int .i64 0)]) 24 rfl Try.underlying51 info113 rfl (by decide) (by omega) (.slice Ao13 x4_1.length co13) x4_1 t10 _ _ _ (fun k_=>some k_ ≠ (.slice Ao17 y7.length co17 : Value).ownBlock ∧ some k_ ≠ (.slice Ao20 t10.length co20 : Value).ownBlock) (fun _=>False) rfl rfl ?aO ?aR (fun _ _ h=>h) (fun _ h=>h.elim) ?aF ?aB ?aS ?aL ?_;(case aR=>exact cc_ (Kd.R_reads' HO12.out).2.2);(case aB=>exact hbw_);(case aF=>exact (fun k_ hk=>⟨Kd.fresh' (Kd.R_lt (rr_ HO9.out)) k_ hk,Kd.fresh' (Kd.R_lt (rr_ HO12.out)) k_ hk⟩));(case aO=>exact (rm_ HO_4.out (fun _ hk=>⟨hk.1.2,hk.2⟩)));(case aS=>exact (below_size hbw_));(case aL=>have:=LMc10.out;omega);intro v14 w19 ho hb hg hat;rw [← Ny13.out] at ho;replace BK5:=a0_ (blk_grown (bb_ BK5.out) hg (Kd.R_ne HO_4.out BK5.out (by decide)));replace HO9:=a0_ (Kd.R_after (ok:=(fun k_=>some k_ ≠ (.slice Ao20 t10.length co20 : Value).ownBlock)) (rm_ HO9.out (fun _ hk=>⟨hk.2,hk.1.2⟩)) hg hat);replace HO12:=a0_ (Kd.R_after (ok:=(fun k_=>some k_ ≠ (.slice Ao17 y7.length co17 : Value).ownBlock)) (rm_ HO12.out (fun _ hk=>⟨hk.2,hk.1.2⟩)) hg hat);have HO15:=a0_ (ho);replace HB:=a0_ (hb);clear HO_4;clear ho hb hg hat))
        go_roundg k1
        case measure=>have:=HK1.out;omega
        case rel=>exact ⟨(y13),(wrap64 (x10_1 + 1)),(by first | rfl | (simp;done) | (simp [*];done)),H',⟨by have:=HK1.out;omega⟩,⟨by (with_reducible repeat (first | apply Kd.R_alloc | apply Kd.R_drewN | apply Kd.R_drew));exact Kd.R_mono HO15.out (fun _ hk=>trivial)⟩,⟨hbw_⟩⟩
       ·rw [if_neg c10] at H
        exact absurd H (by simp)
      ·replace c8:=Bool.eq_false_iff.mpr c8
       subst c8
       have H1 : (some (([] : List (S113)),false)) = some (r1,r2):=by rw [if_neg (show ¬ (false = true) by decide)] at H;exact H
       clear H
       have H:=H1
       clear H1
       simp only [Option.some.injEq,Prod.mk.injEq] at H
       obtain ⟨rfl,rfl⟩:=H
       have p4 : 0 ≤ (x10_1 : Int):=of_decide_eq_true (by first | (with_reducible assumption) | assumption)
       have q4 : x10_1 < (l0.length : Int):=of_decide_eq_true (by first | (with_reducible assumption) | assumption)
       obtain ⟨ad4,e4,hx4_0,hx4_1,hx4_2⟩:=at_T115 HR0.out x10_1 p4 q4
       cases e4
       replace hx4_0:=(HB.out.cell (World.block_lt_of_cell? w _ hx4_0)).trans hx4_0
       replace hx4_1:=(HB.out.cell (World.block_lt_of_cell? w _ hx4_1)).trans hx4_1
       replace hx4_2:=(HB.out.cell (World.block_lt_of_cell? w _ hx4_2)).trans hx4_2
       replace p4:=eq_true p4
       replace q4:=eq_true q4
       go_wp2_with (first | ((with_reducible refine gate_dst (N:=6) rfl ?_);refine box_event ?hg (N:=6) ?hd (cs:=#[.string (⟨#[]⟩ : ByteArray),.int .i64 0,.int .i64 0]) (t:=115) ?hr ?_;(case hd=>rfl);(case hg=>rfl);(case hr=>first | (go_simp;done) | (go_simp;rfl));intro gb5 hg w21 hbox hb;replace HO_4:=rb_ HO_4 hb;have BK5:=a0_ (hbox);have GW5:=a0_ ((by rw [hg];exact (below_size hbw_) : w.heap.size ≤ gb5));have GE5:=a0_ ((by rw [hg];exact (below_size hbw_) : w.heap.size ≤ gb5));replace HB:=a0_ (below_step hbw_ hb);clear hb hbox hg;have hcz22_0 : w21.cell? ⟨gb5,0,none⟩ = some (.string (⟨#[]⟩ : ByteArray)):=(blk_cell BK5.out 0).trans rfl;have hcz22_1 : w21.cell? ⟨gb5,1,none⟩ = some (.int .i64 0):=(blk_cell BK5.out 1).trans rfl;have hcz22_2 : w21.cell? ⟨gb5,2,none⟩ = some (.int .i64 0):=(blk_cell BK5.out 2).trans rfl;have hfz22_0:=blk_frozen BK5.out 0;have hfz22_1:=blk_frozen BK5.out 1;have hfz22_2:=blk_frozen BK5.out 2;obtain ⟨Ao23,co23,eo23⟩:=Kd.R_slice HO_4.out;subst eo23) | ((with_reducible refine gate_callee (f:=75) rfl ?_);refine goesL_ (some 19) rfl rfl Try.func75 (by kernel_rfl) rfl #[.int .i64 ((rd_T115 l0 x10_1).f1),.int .i64 1,.int .i64 (wrap64 (12 - (x4_1.length : Int)))] rfl lm_ ?_;(with_reducible refine (impl_within.calls ((rd_T115 l0 x10_1).f1) 1 (wrap64 (12 - (x4_1.length : Int))) false _ A7.out).mono ?_);rintro e w' ⟨rfl,⟨nd,rfl⟩⟩;refine ⟨_,rfl,?_⟩))
       go_ret2
       exact ⟨_,by first | rfl | (simp [errW_none,errW_some] <;> rfl) | (simp [*,errW_none,errW_some] <;> rfl),by first | exact Kd.R_nil _ _ _ _ _ | exact Kd.N_nil _ _ _ _ _ | exact Kd.V_nil _ _ _ _ _ | exact Kd.Q_nil _ _ _ _ _ | exact Kd.S_nil _ _ _ _ _,hbw_⟩
     ·rw [if_neg c6] at H
      exact absurd H (by simp)
    ·rw [if_neg c5] at H
     exact absurd H (by simp)
   ·rw [if_neg c4] at H
    have c4b0 : decide (x10_1 < (l0.length : Int)) = false:=decide_eq_false c4
    clear c4
    replace H:=Option.bind_eq_some_iff.mp H
    obtain ⟨t16,A240,H⟩:=H
    try dsimp only at H
    have A24:=a0_ A240
    clear A240
    replace H:=Option.bind_eq_some_iff.mp H
    obtain ⟨t19,A250,H⟩:=H
    try dsimp only at H
    have A25:=a0_ A250
    clear A250
    by_cases c26 : t19 = true
    ·subst c26
     have H1 : ((impl_traceMade.f x4_1).bind fun bt20=>(some (bt20.1,bt20.2))) = some (r1,r2):=by rw [if_pos rfl] at H;exact H
     clear H
     have H:=H1
     clear H1
     replace H:=Option.bind_eq_some_iff.mp H
     obtain ⟨⟨t20,t21⟩,A270,H⟩:=H
     replace H : (some (t20,t21)) = some (r1,r2):=H
     have A27:=a0_ A270
     clear A270
     simp only [Option.some.injEq,Prod.mk.injEq] at H
     obtain ⟨rfl,rfl⟩:=H
     obtain ⟨Ao28,co28,eo28⟩:=Kd.R_slice HO_4.out
     subst eo28
     go_wp2_with (first | ((with_reducible refine gate_callee (f:=85) rfl ?_);refine goesL_ (some 31) rfl rfl Try.func85 (by kernel_rfl) rfl #[.slice Ao28 x4_1.length co28] rfl lm_ ?_;(with_reducible refine (impl_rows.calls k1 _ _ x4_1 t16 _ ?side1 ?side2 A24.out).mono ?_);(case side1=>exact cc_ (Kd.R_reads' HO_4.out).2.2);(case side2=>exact (Kd.R_reads' HO_4.out).2.1);rintro e w29 ⟨v17,rfl,ho0,hb⟩;refine ⟨_,rfl,?_⟩;replace HO_4:=rb_ HO_4 hb;have HO18:=a0_ (Kd.R_lower ho0 (below_size hbw_));replace HB:=a0_ (below_step hbw_ hb);(try clear hb);(try clear ho0);obtain ⟨Ao30,co30,eo30⟩:=Kd.R_slice HO18.out;subst eo30) | ((with_reducible refine gate_callee (f:=84) rfl ?_);refine goesL_ (some 33) rfl rfl Try.func84 (by kernel_rfl) rfl #[.slice Ao30 t16.length co30,.slice A0 l0.length c0] rfl lm_ ?_;(with_reducible refine (slices_Equal_Row.calls k1 _ _ t16 _ _ l0 true _ ?side1 ?side2 ?side3 ?side4 A25.out).mono ?_);(case side1=>exact cc_ (Kd.R_reads' HO18.out).2.2);(case side2=>exact (Kd.R_reads' HO18.out).2.1);(case side3=>exact cc_ (Kd.C_below HR0.out HB.out));(case side4=>exact HC0.out);rintro e w' ⟨rfl,⟨nd,rfl⟩⟩;refine ⟨_,rfl,?_⟩) | ((with_reducible refine gate_callee (f:=86) rfl ?_);refine goesL_ (some 36) rfl rfl Try.func86 (by kernel_rfl) rfl #[.slice Ao28 x4_1.length co28] rfl lm_ ?_;(with_reducible refine (impl_traceMade.calls _ _ x4_1 t20 t21 _ ?side1 ?side2 A27.out).mono ?_);(case side1=>exact cc_ (Kd.R_reads' HO_4.out).2.2);(case side2=>exact (Kd.R_reads' HO_4.out).2.1);rintro e w31 ⟨v22,rfl,ho0,hb⟩;refine ⟨_,rfl,?_⟩;have n0_:=a0_ (Kd.R_elder' (rr_ HO_4.out) (Kd.R_base ho0) hb);have n1_:=rb_ HO18 hb;have n2_:=a0_ (Kd.R_lower (Kd.R_new' ho0 (Kd.R_lt (rr_ HO_4.out))) (below_size hbw_));have n3_:=a0_ (below_step hbw_ hb);clear HO_4 HO18 HB;have HO_4:=n0_;have HO18:=n1_;have HO23:=n2_;have HB:=n3_;clear n0_ n1_ n2_ n3_;(try clear hb);(try clear ho0)))
     go_ret2
     exact ⟨_,by first | rfl | (simp [errW_none,errW_some] <;> rfl) | (simp [*,errW_none,errW_some] <;> rfl),by (with_reducible repeat (first | apply Kd.R_alloc | apply Kd.R_drewN | apply Kd.R_drew));exact Kd.R_mono HO23.out (fun _ hk=>trivial),hbw_⟩
    ·replace c26:=Bool.eq_false_iff.mpr c26
     subst c26
     have H1 : (some (([] : List (S113)),false)) = some (r1,r2):=by rw [if_neg (show ¬ (false = true) by decide)] at H;exact H
     clear H
     have H:=H1
     clear H1
     simp only [Option.some.injEq,Prod.mk.injEq] at H
     obtain ⟨rfl,rfl⟩:=H
     obtain ⟨Ao32,co32,eo32⟩:=Kd.R_slice HO_4.out
     subst eo32
     go_wp2_with (first | ((with_reducible refine gate_callee (f:=85) rfl ?_);refine goesL_ (some 31) rfl rfl Try.func85 (by kernel_rfl) rfl #[.slice Ao32 x4_1.length co32] rfl lm_ ?_;(with_reducible refine (impl_rows.calls k1 _ _ x4_1 t16 _ ?side1 ?side2 A24.out).mono ?_);(case side1=>exact cc_ (Kd.R_reads' HO_4.out).2.2);(case side2=>exact (Kd.R_reads' HO_4.out).2.1);rintro e w33 ⟨v17,rfl,ho0,hb⟩;refine ⟨_,rfl,?_⟩;replace HO_4:=rb_ HO_4 hb;have HO18:=a0_ (Kd.R_lower ho0 (below_size hbw_));replace HB:=a0_ (below_step hbw_ hb);(try clear hb);(try clear ho0);obtain ⟨Ao34,co34,eo34⟩:=Kd.R_slice HO18.out;subst eo34) | ((with_reducible refine gate_callee (f:=84) rfl ?_);refine goesL_ (some 33) rfl rfl Try.func84 (by kernel_rfl) rfl #[.slice Ao34 t16.length co34,.slice A0 l0.length c0] rfl lm_ ?_;(with_reducible refine (slices_Equal_Row.calls k1 _ _ t16 _ _ l0 false _ ?side1 ?side2 ?side3 ?side4 A25.out).mono ?_);(case side1=>exact cc_ (Kd.R_reads' HO18.out).2.2);(case side2=>exact (Kd.R_reads' HO18.out).2.1);(case side3=>exact cc_ (Kd.C_below HR0.out HB.out));(case side4=>exact HC0.out);rintro e w' ⟨rfl,⟨nd,rfl⟩⟩;refine ⟨_,rfl,?_⟩))
     go_ret2
     exact ⟨_,by first | rfl | (simp [errW_none,errW_some] <;> rfl) | (simp [*,errW_none,errW_some] <;> rfl),by first | exact Kd.R_nil _ _ _ _ _ | exact Kd.N_nil _ _ _ _ _ | exact Kd.V_nil _ _ _ _ _ | exact Kd.Q_nil _ _ _ _ _ | exact Kd.S_nil _ _ _ _ _,hbw_⟩
theorem rows_pos (l : List S113) (hl : l.length ≤ 1099511627776) : ∀ x ∈ rowsP l,1 ≤ x.f1:=by
 have key : ∀ (l : List S113) (n : Nat) (acc : List S115),n + l.length ≤ 1099511627776 → (∀ x ∈ acc,1 ≤ x.f1 ∧ x.f1 ≤ (n : Int)) → ∀ x ∈ l.foldl rowStep acc,1 ≤ x.f1:=by
  intro l
  induction l with
  | nil=>intro n acc _ h x hx;exact (h x hx).1
  | cons f l ih =>
   intro n acc hn h
   rw [List.length_cons] at hn
   rw [List.foldl_cons]
   refine ih (n + 1) (rowStep acc f) (by omega) (fun x hx=>?_)
   unfold rowStep at hx
   split at hx
   ·rename_i hc
    rcases List.mem_or_eq_of_mem_set hx with hx | rfl
    ·have:=h x hx
     omega
    ·have hm : lastR acc ∈ acc:=by
      have hlt : acc.length - 1 < acc.length:=by omega
      unfold lastR
      rw [List.getD_eq_getElem?_getD,List.getElem?_eq_getElem hlt]
      exact List.getElem_mem _
     have h2:=h _ hm
     show 1 ≤ wrap64 ((lastR acc).f1 + 1) ∧ wrap64 ((lastR acc).f1 + 1) ≤ _
     rw [wrap_in (by omega) (by omega)]
     omega
   ·rcases List.mem_append.1 hx with hx | hx
    ·have:=h x hx
     omega
    ·rw [List.mem_singleton.1 hx]
     show (1 : Int) ≤ 1 ∧ (1 : Int) ≤ _
     omega
 exact key l 0 [] (by omega) (fun x hx=>by cases hx)
theorem slices_Clip_Frame_ev (l : List S113) : slices_Clip_Frame.f l = some l:=by
 unfold slices_Clip_Frame.f
 rw [if_pos (by omega),if_pos (by omega)]
 simp
theorem impl_traceMade_ev (l : List S113) (hs : smF l = true) (hl : l.length ≤ 1099511627776) : impl_traceMade.f l = some (if vR l = true then (l,true) else ([],false)):=by
 unfold impl_traceMade.f
 rw [impl_ValidTrace_ev l hs,Option.bind_some]
 cases vR l with
 | true =>
  rw [if_pos rfl,if_pos rfl]
  have hc : slices_Clone_Frame.f l = some l:=by rw [slices_Clone_Frame.f,if_pos (by omega)]
  rw [hc,Option.bind_some,slices_Clip_Frame_ev]
  rfl
 | false=>rw [if_neg (by simp),if_neg (by simp)]
theorem rEqL_at {a b : List S115} (h : rEqL a b = true) {i : Nat} (hi : i < a.length) : a.length = b.length ∧ (a.getD i z115).f1 = (b.getD i z115).f1:=by
 unfold rEqL at h
 rw [Bool.and_eq_true,decide_eq_true_eq] at h
 refine ⟨h.1,?_⟩
 have h2:=List.all_eq_true.1 h.2 i (List.mem_range.2 hi)
 unfold rEq at h2
 rw [Bool.and_eq_true,beq_iff_eq] at h2
 exact h2.2
theorem utP_no {l : List S115} (h : ¬ (vR (unfP l) = true ∧ rEqL (rowsP (unfP l)) l = true)) : utP l = ([],false):=by rw [utP,if_neg h]
theorem unf_app (a b : List S115) : unfP (a ++ b) = unfP a ++ unfP b:=by unfold unfP;rw [List.map_append,List.flatten_append]
theorem impl_UnfoldTrace_ev (l : List S115) (hl : l.length ≤ 1048576) (hs : ∀ r ∈ l,r.f0.f0.size ≤ 9223372036854775807) : Ev (fun k=>impl_UnfoldTrace.f k l) (utP l):=by
 have hu:=unf_len l
 have key : ∀ d j,j + d = l.length → (unfP (l.take j)).length ≤ 12 → Ev (fun k=>impl_UnfoldTrace.l0 k l (unfP (l.take j)) l (l.length : Int) (j : Int)) (utP l):=by
  intro d
  induction d with
  | zero =>
   intro j hj h12
   rw [List.take_of_length_le (by omega)] at h12 ⊢
   refine Ev.succ ?_
   simp only [impl_UnfoldTrace.l0]
   refine Ev.neg (by omega) (Ev.bind (impl_rows_ev (unfP l) (by omega)) (Ev.bind (slices_Equal_Row_ev _ l (by have:=rows_len (unfP l);omega)) ?_))
   cases hq : rEqL (rowsP (unfP l)) l with
   | false=>rw [utP_no (fun h=>by rw [hq] at h;cases h.2)];exact Ev.neg (by simp) (Ev.const rfl)
   | true =>
    refine Ev.pos rfl (Ev.bind (Ev.const (impl_traceMade_ev (unfP l) (unf_sm hs) (by omega))) (Ev.const ?_))
    rw [utP]
    cases vR (unfP l) with
    | true=>rw [if_pos rfl,if_pos ⟨rfl,hq⟩]
    | false=>rw [if_neg (by simp),if_neg (fun h=>by cases h.1)]
  | succ d ih =>
   intro j hj h12
   have hlt : j < l.length:=by omega
   have hrd : rd_T115 l (j : Int) = l[j]:=by simp [rd_T115,hlt]
   have hws2 : wrap64 ((j : Int) + 1) = ((j + 1 : Nat) : Int):=by rw [wrap_succ (i:=(j : Int)) (n:=l.length) (by omega) (by omega) (by omega)];rfl
   have hw12 : wrap64 (12 - ((unfP (l.take j)).length : Int)) = 12 - ((unfP (l.take j)).length : Int):=wrap_in (by omega) (by omega)
   have htk : unfP (l.take (j + 1)) = unfP (l.take j) ++ unfR l[j]:=by
    rw [List.take_succ_eq_append_getElem hlt,unf_app]
    congr 1
    unfold unfP
    simp
   have hsp : unfP l = unfP (l.take (j + 1)) ++ unfP (l.drop (j + 1)):=by rw [← unf_app,List.take_append_drop]
   refine Ev.succ ?_
   simp only [impl_UnfoldTrace.l0,hrd]
   rw [hw12,hws2]
   refine Ev.pos (by omega) (Ev.pos (by omega) (Ev.pos (by omega) (Ev.bind (Ev.const (impl_within_ev _ _ _)) ?_)))
   by_cases hw : 1 ≤ l[j].f1 ∧ l[j].f1 ≤ 12 - ((unfP (l.take j)).length : Int)
   ·obtain ⟨hw1,hw2⟩:=hw
    have hR : unfR l[j] = List.replicate l[j].f1.toNat l[j].f0:=by
     unfold unfR
     rw [if_neg (by omega)]
    have hrep : slices_Repeat_Frame.f [(⟨l[j].f0.f0,l[j].f0.f1⟩ : S113)] l[j].f1 = some (unfR l[j]):=by
     rw [slices_Repeat_Frame.f,if_pos ⟨rfl,hw1,by omega⟩,hR]
     rfl
    have hRl : (unfR l[j]).length = l[j].f1.toNat:=by rw [hR,List.length_replicate]
    have hn:=ih (j + 1) (by omega) (by rw [htk,List.length_append,hRl];omega)
    rw [htk] at hn
    exact Ev.pos (by rw [decide_eq_true hw1,decide_eq_true hw2];rfl) (Ev.bind (Ev.const hrep) (Ev.pos (by rw [hRl];omega) hn))
   ·have hno : utP l = ([],false):=by
     refine utP_no (fun h=>?_)
     obtain ⟨hv,hq⟩:=h
     have hlen : (rowsP (unfP l)).length = l.length:=by
      unfold rEqL at hq
      rw [Bool.and_eq_true,decide_eq_true_eq] at hq
      exact hq.1
     have hat:=(rEqL_at hq (i:=j) (by omega)).2
     have hge : 1 ≤ l[j].f1:=by
      have hm : (rowsP (unfP l)).getD j z115 ∈ rowsP (unfP l):=by
       rw [List.getD_eq_getElem?_getD,List.getElem?_eq_getElem (by omega)]
       exact List.getElem_mem _
      have h1:=rows_pos (unfP l) (by omega) _ hm
      rw [hat] at h1
      simpa [List.getD,hlt] using h1
     have hbig : 12 < (unfP l).length:=by
      rw [hsp,htk,List.length_append,List.length_append]
      have : (unfR l[j]).length = (if 13 < l[j].f1 then 13 else l[j].f1).toNat:=by unfold unfR;rw [List.length_replicate]
      rw [this]
      split <;> omega
     unfold vR at hv
     rw [Bool.and_eq_true,decide_eq_true_eq] at hv
     omega
    rw [hno]
    refine Ev.neg (fun h=>hw ?_) (Ev.const rfl)
    rw [Bool.and_eq_true,decide_eq_true_eq,decide_eq_true_eq] at h
    exact h
 exact key l.length 0 (by omega) (by simp [unfP])
end Go.Proofs.Ytacgehaipacehaa.P
namespace Go.Proofs.Ytacgehaipacehaa.P
open Go.RowKit Go.Proofs.YtacgehaipacehaaW.PrintWords Go.Proofs.YtacgehaipacehaaW.PrintLast Go.Proofs.YtacgehaipacehaaW.PrintMore
attribute [local go_sem] max2_int min2_int max_two min_two max_three min_three max_four min_four
set_option linter.unusedVariables false
set_option linter.unusedSimpArgs false
def laws_eqFrame.f (a0_0 : ByteArray) (a0_1 : Int) (a1_0 : ByteArray) (a1_1 : Int) : Option (Bool):=if a0_0.toList = a1_0.toList then (if a0_1 = a1_1 then (some true) else (some false)) else (some false)
set_option maxHeartbeats 8000000 in
set_option maxRecDepth 100000 in
theorem laws_eqFrame.calls (a0_0 : ByteArray) (a0_1 : Int) (a1_0 : ByteArray) (a1_1 : Int) (r : Bool) (w : World) (h : laws_eqFrame.f a0_0 a0_1 a1_0 a1_1 = some r) :
  Calls Try.prog 87 #[.agg #[.string a0_0,.int .i64 a0_1],.agg #[.string a1_0,.int .i64 a1_1]] w fun e w'=>e = .returned (.bool r) ∧ Below w.heap.size w w':=by
 have hu113:=Try.underlying113
 have HB:=a0_ (Below.refl w.heap.size w)
 have H : (if a0_0.toList = a1_0.toList then (if a0_1 = a1_1 then (some true) else (some false)) else (some false)) = some r:=h
 clear h
 by_cases c3 : a0_0.toList = a1_0.toList
 ·rw [if_pos c3] at H
  have c3b0 : (a0_0.toList == a1_0.toList) = true:=beq_iff_eq.mpr c3
  have c3b1 : (a0_0.toList != a1_0.toList) = false:=bne_eq_false_iff_eq.mpr c3
  clear c3
  by_cases c4 : a0_1 = a1_1
  ·rw [if_pos c4] at H
   have c4b0 : (a0_1 == a1_1) = true:=beq_iff_eq.mpr c4
   have c4b1 : (a0_1 != a1_1) = false:=bne_eq_false_iff_eq.mpr c4
   clear c4
   obtain rfl:=Option.some.inj H
   go_enter Try.func87,Try.ntmps87
   go_wp2_with (first | ((with_reducible refine gate_dst (N:=2) rfl ?_);refine box_event ?hg (N:=2) ?hd (cs:=#[.string a0_0,.int .i64 a0_1]) (t:=113) ?hr ?_;(case hd=>rfl);(case hg=>rfl);(case hr=>first | (go_simp;done) | (go_simp;rfl));intro gb1 hg w5 hbox hb;have BK1:=a0_ (hbox);have GW1:=a0_ ((by rw [hg];exact (below_size hbw_) : w.heap.size ≤ gb1));have GE1:=a0_ ((by rw [hg];exact (below_size hbw_) : w.heap.size ≤ gb1));replace HB:=a0_ (below_step hbw_ hb);clear hb hbox hg) | ((with_reducible refine gate_dst (N:=3) rfl ?_);refine box_event ?hg (N:=3) ?hd (cs:=#[.string a1_0,.int .i64 a1_1]) (t:=113) ?hr ?_;(case hd=>rfl);(case hg=>rfl);(case hr=>first | (go_simp;done) | (go_simp;rfl));intro gb2 hg w6 hbox hb;have n0_:=kb_ BK1 hb;have n1_:=a0_ (below_step hbw_ hb);have n2_:=a0_ (hbox);have n3_:=a0_ ((by rw [hg];exact (below_size hbw_) : w.heap.size ≤ gb2));have n4_:=a0_ ((by rw [hg];exact (below_size hbw_) : w.heap.size ≤ gb2));have n5_:=a0_ ((by rw [hg];exact Nat.ne_of_lt (blk_lt (bb_ BK1.out)) : gb1 ≠ gb2));have n6_:=a0_ ((by rw [hg];exact Nat.ne_of_gt (blk_lt (bb_ BK1.out)) : gb2 ≠ gb1));clear BK1 HB;have BK1:=n0_;have HB:=n1_;have BK2:=n2_;have GW2:=n3_;have GE2:=n4_;have NB1_2:=n5_;have NB2_1:=n6_;clear n0_ n1_ n2_ n3_ n4_ n5_ n6_;clear hb hbox hg;have hnb7:=NB1_2.out;have hnc7:=NB2_1.out;have hcz8_0 : w6.cell? ⟨gb1,0,none⟩ = some (.string a0_0):=(blk_cell BK1.out 0).trans rfl;have hcz8_1 : w6.cell? ⟨gb1,1,none⟩ = some (.int .i64 a0_1):=(blk_cell BK1.out 1).trans rfl;have hfz8_0:=blk_frozen BK1.out 0;have hfz8_1:=blk_frozen BK1.out 1;have hcz9_0 : w6.cell? ⟨gb2,0,none⟩ = some (.string a1_0):=(blk_cell BK2.out 0).trans rfl;have hcz9_1 : w6.cell? ⟨gb2,1,none⟩ = some (.int .i64 a1_1):=(blk_cell BK2.out 1).trans rfl;have hfz9_0:=blk_frozen BK2.out 0;have hfz9_1:=blk_frozen BK2.out 1))
   go_ret
   exact ⟨by first | rfl | (simp [errW_none,errW_some] <;> rfl) | (simp [*,errW_none,errW_some] <;> rfl),hbw_⟩
  ·rw [if_neg c4] at H
   have c4b0 : (a0_1 == a1_1) = false:=beq_eq_false_iff_ne.mpr c4
   have c4b1 : (a0_1 != a1_1) = true:=bne_iff_ne.mpr c4
   obtain rfl:=Option.some.inj H
   go_enter Try.func87,Try.ntmps87
   go_wp2_with (first | ((with_reducible refine gate_dst (N:=2) rfl ?_);refine box_event ?hg (N:=2) ?hd (cs:=#[.string a0_0,.int .i64 a0_1]) (t:=113) ?hr ?_;(case hd=>rfl);(case hg=>rfl);(case hr=>first | (go_simp;done) | (go_simp;rfl));intro gb1 hg w10 hbox hb;have BK1:=a0_ (hbox);have GW1:=a0_ ((by rw [hg];exact (below_size hbw_) : w.heap.size ≤ gb1));have GE1:=a0_ ((by rw [hg];exact (below_size hbw_) : w.heap.size ≤ gb1));replace HB:=a0_ (below_step hbw_ hb);clear hb hbox hg) | ((with_reducible refine gate_dst (N:=3) rfl ?_);refine box_event ?hg (N:=3) ?hd (cs:=#[.string a1_0,.int .i64 a1_1]) (t:=113) ?hr ?_;(case hd=>rfl);(case hg=>rfl);(case hr=>first | (go_simp;done) | (go_simp;rfl));intro gb2 hg w11 hbox hb;have n0_:=kb_ BK1 hb;have n1_:=a0_ (below_step hbw_ hb);have n2_:=a0_ (hbox);have n3_:=a0_ ((by rw [hg];exact (below_size hbw_) : w.heap.size ≤ gb2));have n4_:=a0_ ((by rw [hg];exact (below_size hbw_) : w.heap.size ≤ gb2));have n5_:=a0_ ((by rw [hg];exact Nat.ne_of_lt (blk_lt (bb_ BK1.out)) : gb1 ≠ gb2));have n6_:=a0_ ((by rw [hg];exact Nat.ne_of_gt (blk_lt (bb_ BK1.out)) : gb2 ≠ gb1));clear BK1 HB;have BK1:=n0_;have HB:=n1_;have BK2:=n2_;have GW2:=n3_;have GE2:=n4_;have NB1_2:=n5_;have NB2_1:=n6_;clear n0_ n1_ n2_ n3_ n4_ n5_ n6_;clear hb hbox hg;have hnb12:=NB1_2.out;have hnc12:=NB2_1.out;have hcz13_0 : w11.cell? ⟨gb1,0,none⟩ = some (.string a0_0):=(blk_cell BK1.out 0).trans rfl;have hcz13_1 : w11.cell? ⟨gb1,1,none⟩ = some (.int .i64 a0_1):=(blk_cell BK1.out 1).trans rfl;have hfz13_0:=blk_frozen BK1.out 0;have hfz13_1:=blk_frozen BK1.out 1;have hcz14_0 : w11.cell? ⟨gb2,0,none⟩ = some (.string a1_0):=(blk_cell BK2.out 0).trans rfl;have hcz14_1 : w11.cell? ⟨gb2,1,none⟩ = some (.int .i64 a1_1):=(blk_cell BK2.out 1).trans rfl;have hfz14_0:=blk_frozen BK2.out 0;have hfz14_1:=blk_frozen BK2.out 1))
   go_ret
   exact ⟨by first | rfl | (simp [errW_none,errW_some] <;> rfl) | (simp [*,errW_none,errW_some] <;> rfl),hbw_⟩
 ·rw [if_neg c3] at H
  have c3b0 : (a0_0.toList == a1_0.toList) = false:=beq_eq_false_iff_ne.mpr c3
  have c3b1 : (a0_0.toList != a1_0.toList) = true:=bne_iff_ne.mpr c3
  obtain rfl:=Option.some.inj H
  go_enter Try.func87,Try.ntmps87
  go_wp2_with (first | ((with_reducible refine gate_dst (N:=2) rfl ?_);refine box_event ?hg (N:=2) ?hd (cs:=#[.string a0_0,.int .i64 a0_1]) (t:=113) ?hr ?_;(case hd=>rfl);(case hg=>rfl);(case hr=>first | (go_simp;done) | (go_simp;rfl));intro gb1 hg w15 hbox hb;have BK1:=a0_ (hbox);have GW1:=a0_ ((by rw [hg];exact (below_size hbw_) : w.heap.size ≤ gb1));have GE1:=a0_ ((by rw [hg];exact (below_size hbw_) : w.heap.size ≤ gb1));replace HB:=a0_ (below_step hbw_ hb);clear hb hbox hg) | ((with_reducible refine gate_dst (N:=3) rfl ?_);refine box_event ?hg (N:=3) ?hd (cs:=#[.string a1_0,.int .i64 a1_1]) (t:=113) ?hr ?_;(case hd=>rfl);(case hg=>rfl);(case hr=>first | (go_simp;done) | (go_simp;rfl));intro gb2 hg w16 hbox hb;have n0_:=kb_ BK1 hb;have n1_:=a0_ (below_step hbw_ hb);have n2_:=a0_ (hbox);have n3_:=a0_ ((by rw [hg];exact (below_size hbw_) : w.heap.size ≤ gb2));have n4_:=a0_ ((by rw [hg];exact (below_size hbw_) : w.heap.size ≤ gb2));have n5_:=a0_ ((by rw [hg];exact Nat.ne_of_lt (blk_lt (bb_ BK1.out)) : gb1 ≠ gb2));have n6_:=a0_ ((by rw [hg];exact Nat.ne_of_gt (blk_lt (bb_ BK1.out)) : gb2 ≠ gb1));clear BK1 HB;have BK1:=n0_;have HB:=n1_;have BK2:=n2_;have GW2:=n3_;have GE2:=n4_;have NB1_2:=n5_;have NB2_1:=n6_;clear n0_ n1_ n2_ n3_ n4_ n5_ n6_;clear hb hbox hg;have hnb17:=NB1_2.out;have hnc17:=NB2_1.out;have hcz18_0 : w16.cell? ⟨gb1,0,none⟩ = some (.string a0_0):=(blk_cell BK1.out 0).trans rfl;have hcz18_1 : w16.cell? ⟨gb1,1,none⟩ = some (.int .i64 a0_1):=(blk_cell BK1.out 1).trans rfl;have hfz18_0:=blk_frozen BK1.out 0;have hfz18_1:=blk_frozen BK1.out 1;have hcz19_0 : w16.cell? ⟨gb2,0,none⟩ = some (.string a1_0):=(blk_cell BK2.out 0).trans rfl;have hcz19_1 : w16.cell? ⟨gb2,1,none⟩ = some (.int .i64 a1_1):=(blk_cell BK2.out 1).trans rfl;have hfz19_0:=blk_frozen BK2.out 0;have hfz19_1:=blk_frozen BK2.out 1))
  go_ret
  exact ⟨by first | rfl | (simp [errW_none,errW_some] <;> rfl) | (simp [*,errW_none,errW_some] <;> rfl),hbw_⟩
end Go.Proofs.Ytacgehaipacehaa.P
namespace Go.Proofs.Ytacgehaipacehaa.P
open Go.RowKit Go.Proofs.YtacgehaipacehaaW.PrintWords Go.Proofs.YtacgehaipacehaaW.PrintLast Go.Proofs.YtacgehaipacehaaW.PrintMore
attribute [local go_sem] max2_int min2_int max_two min_two max_three min_three max_four min_four
set_option linter.unusedVariables false
set_option linter.unusedSimpArgs false
def laws_eqFrameS.l0 : Nat → List (S113) → List (S113) → Int → Option (Bool)
 | 0,_,_,_=>none
 | k + 1,x0,x1,x5=>if x5 < (x0.length : Int) then (if 0 ≤ x5 then (if x5 < (x1.length : Int) then ((laws_eqFrame.f ((rd_T113 x0 x5).f0) ((rd_T113 x0 x5).f1) ((rd_T113 x1 x5).f0) ((rd_T113 x1 x5).f1)).bind fun t3=>(if t3 = true then (laws_eqFrameS.l0 k x0 x1 (wrap64 (x5 + 1))) else (some false))) else (none)) else (none)) else (some true)
def laws_eqFrameS.f (k : Nat) (l0 : List (S113)) (l1 : List (S113)) : Option (Bool):=if (l0.length : Int) = (l1.length : Int) then (laws_eqFrameS.l0 k l0 l1 0) else (some false)
theorem laws_eqFrameS.mono_l : ∀ k,(∀ y0 y1 y2,LeO (laws_eqFrameS.l0 k y0 y1 y2) (laws_eqFrameS.l0 (k + 1) y0 y1 y2))
 | 0=>fun _ _ _ r h=>by simp [laws_eqFrameS.l0] at h
 | k + 1=>by
  have ih0:=laws_eqFrameS.mono_l k
  ·intro y0 y1 y2
   unfold laws_eqFrameS.l0
   repeat' first
   | (with_reducible exact ih0 _ _ _)
   | (with_reducible exact LeO.refl _)
   | (with_reducible exact LeO.none _)
   | (with_reducible refine LeO.ite ?_ ?_)
   | (with_reducible refine LeO.bind ?_ (fun _=>?_))
   | exact ih0 _ _ _
   | exact LeO.none _
   | refine LeO.ite ?_ ?_
   | refine LeO.bind ?_ (fun _=>?_)
theorem laws_eqFrameS.mono : ∀ a0 a1 k,LeO (laws_eqFrameS.f k a0 a1) (laws_eqFrameS.f (k + 1) a0 a1):=by
 intro a0 a1 k
 have ih0:=laws_eqFrameS.mono_l k
 unfold laws_eqFrameS.f
 repeat' first
   | (with_reducible exact ih0 _ _ _)
   | (with_reducible exact LeO.refl _)
   | (with_reducible exact LeO.none _)
   | (with_reducible refine LeO.ite ?_ ?_)
   | (with_reducible refine LeO.bind ?_ (fun _=>?_))
   | exact ih0 _ _ _
   | exact LeO.none _
   | refine LeO.ite ?_ ?_
   | refine LeO.bind ?_ (fun _=>?_)
def laws_eqFrameS.T6 : Bool × List (List Nat × List Nat):=(true,[([],[]),([],[]),([0,1],[0,1]),([2],[2]),([],[]),([],[]),([4,5],[4,5]),([6],[6]),([3,7],[3,7]),([8],[8])])
def laws_eqFrameS.B6 : List Nat:=[0,0,3,7,0,0,48,112,255,511]
theorem laws_eqFrameS.tab6 : rtab .any (opsOf Try.f33 6) = laws_eqFrameS.T6:=by kernel_rfl
theorem laws_eqFrameS.bits6 : waitsOk laws_eqFrameS.T6.2 laws_eqFrameS.B6 = true:=by kernel_rfl
set_option maxHeartbeats 8000000 in
set_option maxRecDepth 100000 in
theorem laws_eqFrameS.calls (k : Nat) (A0 : Option Addr) (c0 : Nat) (l0 : List (S113)) (A1 : Option Addr) (c1 : Nat) (l1 : List (S113)) (r : Bool) (w : World) (hr0 : Kd.C k113 w A0 l0.length l0) (hc0 : l0.length ≤ c0) (hr1 : Kd.C k113 w A1 l1.length l1) (hc1 : l1.length ≤ c1) (h : laws_eqFrameS.f k l0 l1 = some r) :
  Calls Try.prog 33 #[.slice A0 l0.length c0,.slice A1 l1.length c1] w fun e w'=>e = .returned (.bool r) ∧ Below w.heap.size w w':=by
 have hu113:=Try.underlying113
 have HR0:=a0_ hr0
 have HC0:=a0_ hc0
 clear hr0 hc0
 have HR1:=a0_ hr1
 have HC1:=a0_ hc1
 clear hr1 hc1
 have HB:=a0_ (Below.refl w.heap.size w)
 have H : (if (l0.length : Int) = (l1.length : Int) then (laws_eqFrameS.l0 k l0 l1 0) else (some false)) = some r:=h
 clear h
 by_cases c3 : (l0.length : Int) = (l1.length : Int)
 ·rw [if_pos c3] at H
  have c3b0 : ((l0.length : Int) == (l1.length : Int)) = true:=beq_iff_eq.mpr c3
  have c3b1 : ((l0.length : Int) != (l1.length : Int)) = false:=bne_eq_false_iff_eq.mpr c3
  have c3b2 : (l0.length == l1.length) = true:=by first | simpa using c3 | (simp at c3 ⊢;omega)
  clear c3
  have H':=a0_ H
  clear H
  go_enter Try.func33,Try.ntmps33
  go_wp2
  go_loopg [5] k (fun kq v5 w'=>∃ (x5_1 : Int),v5 = .int .i64 x5_1 ∧ Aside0 (laws_eqFrameS.l0 kq l0 l1 x5_1 = some r) ∧ Aside0 (kq ≤ k) ∧ Aside0 (Below w.heap.size w w'))
  case atStart=>exact ⟨(0),(by first | rfl | (simp;done) | (simp [*];done)),H',⟨Nat.le_refl _⟩,⟨hbw_⟩⟩
  case round =>
   clear H'
   try clear c1
   try clear p2
   try clear c3
   try clear c3b0
   try clear c3b1
   try clear c3b2
   obtain ⟨x5_1,rfl,HA,HK1,HB⟩:=hrel
   cases gk with
   | zero=>exact absurd HA.out (by simp [laws_eqFrameS.l0])
   | succ k1 =>
    have H:=HA.out
    clear HA
    simp only [laws_eqFrameS.l0] at H
    by_cases c4 : x5_1 < (l0.length : Int)
    ·rw [if_pos c4] at H
     have c4b0 : decide (x5_1 < (l0.length : Int)) = true:=decide_eq_true c4
     clear c4
     by_cases c5 : 0 ≤ x5_1
     ·rw [if_pos c5] at H
      have c5b0 : decide (0 ≤ x5_1) = true:=decide_eq_true c5
      clear c5
      by_cases c6 : x5_1 < (l1.length : Int)
      ·rw [if_pos c6] at H
       have c6b0 : decide (x5_1 < (l1.length : Int)) = true:=decide_eq_true c6
       clear c6
       replace H:=Option.bind_eq_some_iff.mp H
       obtain ⟨t3,A70,H⟩:=H
       try dsimp only at H
       have A7:=a0_ A70
       clear A70
       by_cases c8 : t3 = true
       ·subst c8
        have H1 : (laws_eqFrameS.l0 k1 l0 l1 (wrap64 (x5_1 + 1))) = some r:=by rw [if_pos rfl] at H;exact H
        clear H
        have H:=H1
        clear H1
        have H':=a0_ H
        clear H
        try go_wp2
        have n0_:=a0_ (below_drew1 HB.out)
        clear HB
        have HB:=n0_
        clear n0_
        have p1 : 0 ≤ (x5_1 : Int):=of_decide_eq_true (by first | (with_reducible assumption) | assumption)
        have q1 : x5_1 < (l0.length : Int):=of_decide_eq_true (by first | (with_reducible assumption) | assumption)
        obtain ⟨ad1,e1,hx1_0,hx1_1⟩:=at_T113 HR0.out x5_1 p1 q1
        have hw1_1:=hx1_1
        have hw1_0:=hx1_0
        cases e1
        replace hx1_0:=(HB.out.cell (World.block_lt_of_cell? w _ hx1_0)).trans hx1_0
        replace hx1_1:=(HB.out.cell (World.block_lt_of_cell? w _ hx1_1)).trans hx1_1
        replace p1:=eq_true p1
        replace q1:=eq_true q1
        have p2 : 0 ≤ (x5_1 : Int):=of_decide_eq_true (by first | (with_reducible assumption) | assumption)
        have q2 : x5_1 < (l1.length : Int):=of_decide_eq_true (by first | (with_reducible assumption) | assumption)
        obtain ⟨ad2,e2,hx2_0,hx2_1⟩:=at_T113 HR1.out x5_1 p2 q2
        have hw2_1:=hx2_1
        have hw2_0:=hx2_0
        cases e2
        replace hx2_0:=(HB.out.cell (World.block_lt_of_cell? w _ hx2_0)).trans hx2_0
        replace hx2_1:=(HB.out.cell (World.block_lt_of_cell? w _ hx2_1)).trans hx2_1
        replace p2:=eq_true p2
        replace q2:=eq_true q2
        refine start_ (n:=10) (S:=fun w'=>w'.cell? (ad1.add ((x5_1).toNat * 2)) = some (.string ((rd_T113 l0 x5_1).f0)) ∧ w'.cell? ⟨(ad1.add ((x5_1).toNat * 2)).block,(ad1.add ((x5_1).toNat * 2)).off + 1,none⟩ = some (.int .i64 ((rd_T113 l0 x5_1).f1)) ∧ w'.cell? (ad2.add ((x5_1).toNat * 2)) = some (.string ((rd_T113 l1 x5_1).f0)) ∧ w'.cell? ⟨(ad2.add ((x5_1).toNat * 2)).block,(ad2.add ((x5_1).toNat * 2)).off + 1,none⟩ = some (.int .i64 ((rd_T113 l1 x5_1).f1))) (ds:=[]) #[false,false,false,false,false,false,false,false,false,false] (by kernel_rfl) rfl rfl ⟨((HB.out.cell (World.block_lt_of_cell? w _ hw1_0)).trans hw1_0),((HB.out.cell (World.block_lt_of_cell? w _ hw1_1)).trans hw1_1),((HB.out.cell (World.block_lt_of_cell? w _ hw2_0)).trans hw2_0),((HB.out.cell (World.block_lt_of_cell? w _ hw2_1)).trans hw2_1)⟩ (fun hHeld=>?_);refine with_tabW laws_eqFrameS.tab6 laws_eqFrameS.bits6 (fun HT_ HW_=>?_)
        generalize wr.drew = w9 at HB hx1_0 hx1_1 hx2_0 hx2_1 hHeld ⊢
        refine pure_ (i:=0) (N:=some 17) (v:=?_) (a':=?_) #[true,false,false,false,false,false,false,false,false,false] rfl rfl (any_of HT_.out (by kernel_rfl)) (fun _ _ _ h=>h) (Or.inl ⟨by rfl,?_⟩) ?_ ?_
        rotate_left
        ·intro w'
         go_simp
         with_reducible rfl
        rotate_left
        ·simp only [Act.put,s1_,s2_,s3_,i64_w,i32_w]
         rfl
        refine pure_ (i:=1) (N:=some 18) (v:=?_) (a':=?_) #[true,true,false,false,false,false,false,false,false,false] rfl rfl (any_of HT_.out (by kernel_rfl)) (fun _ _ _ h=>h) (Or.inl ⟨by rfl,?_⟩) ?_ ?_
        rotate_left
        ·intro w'
         go_simp
         with_reducible rfl
        rotate_left
        ·simp only [Act.put,s1_,s2_,s3_,i64_w,i32_w]
         rfl
        refine pure_ (i:=2) (N:=some 19) (v:=?_) (a':=?_) #[true,true,true,false,false,false,false,false,false,false] rfl rfl (any_of HT_.out (by kernel_rfl)) (fun _ _ _ h=>h) (Or.inl ⟨by rfl,?_⟩) ?_ ?_
        rotate_left
        ·intro w'
         go_simp
         with_reducible rfl
        rotate_left
        ·simp only [Act.put,s1_,s2_,s3_,i64_w,i32_w]
         rfl
        refine pure_ (i:=4) (N:=some 21) (v:=?_) (a':=?_) #[true,true,true,false,true,false,false,false,false,false] rfl rfl (any_of HT_.out (by kernel_rfl)) (fun _ _ _ h=>h) (Or.inl ⟨by rfl,?_⟩) ?_ ?_
        rotate_left
        ·intro w'
         go_simp
         with_reducible rfl
        rotate_left
        ·simp only [Act.put,s1_,s2_,s3_,i64_w,i32_w]
         rfl
        refine pure_ (i:=5) (N:=some 22) (v:=?_) (a':=?_) #[true,true,true,false,true,true,false,false,false,false] rfl rfl (any_of HT_.out (by kernel_rfl)) (fun _ _ _ h=>h) (Or.inl ⟨by rfl,?_⟩) ?_ ?_
        rotate_left
        ·intro w'
         go_simp
         with_reducible rfl
        rotate_left
        ·simp only [Act.put,s1_,s2_,s3_,i64_w,i32_w]
         rfl
        refine pure_ (i:=6) (N:=some 23) (v:=?_) (a':=?_) #[true,true,true,false,true,true,true,false,false,false] rfl rfl (any_of HT_.out (by kernel_rfl)) (fun _ _ _ h=>h) (Or.inl ⟨by rfl,?_⟩) ?_ ?_
        rotate_left
        ·intro w'
         go_simp
         with_reducible rfl
        rotate_left
        ·simp only [Act.put,s1_,s2_,s3_,i64_w,i32_w]
         rfl
        refine take_ (i:=3) (N:=some 20) (v:=?_) (a':=?_) #[true,true,true,true,true,true,true,false,false,false] rfl rfl (take_ofW HT_.out HW_.out (by kernel_rfl)) (fun _ _ _ h=>h) (Or.inl ⟨by rfl,?_⟩) hHeld ?_ ?_
        rotate_left
        ·rintro w' ⟨s0,s1,s2,s3⟩
         go_simp
         with_reducible rfl
        rotate_left
        ·simp only [Act.put,s1_,s2_,s3_,i64_w,i32_w]
         rfl
        refine take_ (i:=7) (N:=some 24) (v:=?_) (a':=?_) #[true,true,true,true,true,true,true,true,false,false] rfl rfl (take_ofW HT_.out HW_.out (by kernel_rfl)) (fun _ _ _ h=>h) (Or.inl ⟨by rfl,?_⟩) hHeld ?_ ?_
        rotate_left
        ·rintro w' ⟨s0,s1,s2,s3⟩
         go_simp
         with_reducible rfl
        rotate_left
        ·simp only [Act.put,s1_,s2_,s3_,i64_w,i32_w]
         rfl
        refine one_ (i:=8) (N:=some 25) #[true,true,true,true,true,true,true,true,true,false] rfl rfl (one_of HT_.out (by kernel_rfl)) (by decide) (fun K hK=>?_)
        refine goes_ Try.func87 (by kernel_rfl) rfl #[.agg #[.string ((rd_T113 l0 x5_1).f0),.int .i64 ((rd_T113 l0 x5_1).f1)],.agg #[.string ((rd_T113 l1 x5_1).f0),.int .i64 ((rd_T113 l1 x5_1).f1)]] (by rfl) rfl rfl lm_ ?_
        with_reducible refine (laws_eqFrame.calls ((rd_T113 l0 x5_1).f0) ((rd_T113 l0 x5_1).f1) ((rd_T113 l1 x5_1).f0) ((rd_T113 l1 x5_1).f1) true _ A7.out).mono ?_
        rintro e w10 ⟨rfl,hb⟩
        refine ⟨_,rfl,?_⟩
        have n0_:=a0_ (below_step hbw_ hb)
        clear HB
        have HB:=n0_
        clear n0_
        (try clear hb)
        (try clear hb2)
        (try clear hk)
        (try clear hi)
        refine hK.out _ _ ⟨((HB.out.cell (World.block_lt_of_cell? w _ hw1_0)).trans hw1_0),((HB.out.cell (World.block_lt_of_cell? w _ hw1_1)).trans hw1_1),((HB.out.cell (World.block_lt_of_cell? w _ hw2_0)).trans hw2_0),((HB.out.cell (World.block_lt_of_cell? w _ hw2_1)).trans hw2_1)⟩ (fun hHeld=>?_)
        clear hK K
        refine norm_ (a':=?_) ?_ ?_
        rotate_left
        ·show Act.put _ (some 25) _ = _
         simp only [Act.put,s1_,s2_,s3_,i64_w,i32_w]
         rfl
        refine pure_ (i:=9) (N:=some 26) (v:=?_) (a':=?_) #[true,true,true,true,true,true,true,true,true,true] rfl rfl (any_of HT_.out (by kernel_rfl)) (fun _ _ _ h=>h) (Or.inl ⟨by rfl,?_⟩) ?_ ?_
        rotate_left
        ·intro w'
         go_simp
         with_reducible rfl
        rotate_left
        ·simp only [Act.put,s1_,s2_,s3_,i64_w,i32_w]
         rfl
        refine done_ (done_of HT_.out (by kernel_rfl)) ?_
        try go_wp2
        go_roundg k1
        case measure=>have:=HK1.out;omega
        case rel=>exact ⟨(wrap64 (x5_1 + 1)),(by first | rfl | (simp;done) | (simp [*];done)),H',⟨by have:=HK1.out;omega⟩,⟨hbw_⟩⟩
       ·replace c8:=Bool.eq_false_iff.mpr c8
        subst c8
        have H1 : (some false) = some r:=by rw [if_neg (show ¬ (false = true) by decide)] at H;exact H
        clear H
        have H:=H1
        clear H1
        obtain rfl:=Option.some.inj H
        try go_wp2
        have n0_:=a0_ (below_drew1 HB.out)
        clear HB
        have HB:=n0_
        clear n0_
        have p1 : 0 ≤ (x5_1 : Int):=of_decide_eq_true (by first | (with_reducible assumption) | assumption)
        have q1 : x5_1 < (l0.length : Int):=of_decide_eq_true (by first | (with_reducible assumption) | assumption)
        obtain ⟨ad1,e1,hx1_0,hx1_1⟩:=at_T113 HR0.out x5_1 p1 q1
        have hw1_1:=hx1_1
        have hw1_0:=hx1_0
        cases e1
        replace hx1_0:=(HB.out.cell (World.block_lt_of_cell? w _ hx1_0)).trans hx1_0
        replace hx1_1:=(HB.out.cell (World.block_lt_of_cell? w _ hx1_1)).trans hx1_1
        replace p1:=eq_true p1
        replace q1:=eq_true q1
        have p2 : 0 ≤ (x5_1 : Int):=of_decide_eq_true (by first | (with_reducible assumption) | assumption)
        have q2 : x5_1 < (l1.length : Int):=of_decide_eq_true (by first | (with_reducible assumption) | assumption)
        obtain ⟨ad2,e2,hx2_0,hx2_1⟩:=at_T113 HR1.out x5_1 p2 q2
        have hw2_1:=hx2_1
        have hw2_0:=hx2_0
        cases e2
        replace hx2_0:=(HB.out.cell (World.block_lt_of_cell? w _ hx2_0)).trans hx2_0
        replace hx2_1:=(HB.out.cell (World.block_lt_of_cell? w _ hx2_1)).trans hx2_1
        replace p2:=eq_true p2
        replace q2:=eq_true q2
        refine start_ (n:=10) (S:=fun w'=>w'.cell? (ad1.add ((x5_1).toNat * 2)) = some (.string ((rd_T113 l0 x5_1).f0)) ∧ w'.cell? ⟨(ad1.add ((x5_1).toNat * 2)).block,(ad1.add ((x5_1).toNat * 2)).off + 1,none⟩ = some (.int .i64 ((rd_T113 l0 x5_1).f1)) ∧ w'.cell? (ad2.add ((x5_1).toNat * 2)) = some (.string ((rd_T113 l1 x5_1).f0)) ∧ w'.cell? ⟨(ad2.add ((x5_1).toNat * 2)).block,(ad2.add ((x5_1).toNat * 2)).off + 1,none⟩ = some (.int .i64 ((rd_T113 l1 x5_1).f1))) (ds:=[]) #[false,false,false,false,false,false,false,false,false,false] (by kernel_rfl) rfl rfl ⟨((HB.out.cell (World.block_lt_of_cell? w _ hw1_0)).trans hw1_0),((HB.out.cell (World.block_lt_of_cell? w _ hw1_1)).trans hw1_1),((HB.out.cell (World.block_lt_of_cell? w _ hw2_0)).trans hw2_0),((HB.out.cell (World.block_lt_of_cell? w _ hw2_1)).trans hw2_1)⟩ (fun hHeld=>?_);refine with_tabW laws_eqFrameS.tab6 laws_eqFrameS.bits6 (fun HT_ HW_=>?_)
        generalize wr.drew = w11 at HB hx1_0 hx1_1 hx2_0 hx2_1 hHeld ⊢
        refine pure_ (i:=0) (N:=some 17) (v:=?_) (a':=?_) #[true,false,false,false,false,false,false,false,false,false] rfl rfl (any_of HT_.out (by kernel_rfl)) (fun _ _ _ h=>h) (Or.inl ⟨by rfl,?_⟩) ?_ ?_
        rotate_left
        ·intro w'
         go_simp
         with_reducible rfl
        rotate_left
        ·simp only [Act.put,s1_,s2_,s3_,i64_w,i32_w]
         rfl
        refine pure_ (i:=1) (N:=some 18) (v:=?_) (a':=?_) #[true,true,false,false,false,false,false,false,false,false] rfl rfl (any_of HT_.out (by kernel_rfl)) (fun _ _ _ h=>h) (Or.inl ⟨by rfl,?_⟩) ?_ ?_
        rotate_left
        ·intro w'
         go_simp
         with_reducible rfl
        rotate_left
        ·simp only [Act.put,s1_,s2_,s3_,i64_w,i32_w]
         rfl
        refine pure_ (i:=2) (N:=some 19) (v:=?_) (a':=?_) #[true,true,true,false,false,false,false,false,false,false] rfl rfl (any_of HT_.out (by kernel_rfl)) (fun _ _ _ h=>h) (Or.inl ⟨by rfl,?_⟩) ?_ ?_
        rotate_left
        ·intro w'
         go_simp
         with_reducible rfl
        rotate_left
        ·simp only [Act.put,s1_,s2_,s3_,i64_w,i32_w]
         rfl
        refine pure_ (i:=4) (N:=some 21) (v:=?_) (a':=?_) #[true,true,true,false,true,false,false,false,false,false] rfl rfl (any_of HT_.out (by kernel_rfl)) (fun _ _ _ h=>h) (Or.inl ⟨by rfl,?_⟩) ?_ ?_
        rotate_left
        ·intro w'
         go_simp
         with_reducible rfl
        rotate_left
        ·simp only [Act.put,s1_,s2_,s3_,i64_w,i32_w]
         rfl
        refine pure_ (i:=5) (N:=some 22) (v:=?_) (a':=?_) #[true,true,true,false,true,true,false,false,false,false] rfl rfl (any_of HT_.out (by kernel_rfl)) (fun _ _ _ h=>h) (Or.inl ⟨by rfl,?_⟩) ?_ ?_
        rotate_left
        ·intro w'
         go_simp
         with_reducible rfl
        rotate_left
        ·simp only [Act.put,s1_,s2_,s3_,i64_w,i32_w]
         rfl
        refine pure_ (i:=6) (N:=some 23) (v:=?_) (a':=?_) #[true,true,true,false,true,true,true,false,false,false] rfl rfl (any_of HT_.out (by kernel_rfl)) (fun _ _ _ h=>h) (Or.inl ⟨by rfl,?_⟩) ?_ ?_
        rotate_left
        ·intro w'
         go_simp
         with_reducible rfl
        rotate_left
        ·simp only [Act.put,s1_,s2_,s3_,i64_w,i32_w]
         rfl
        refine take_ (i:=3) (N:=some 20) (v:=?_) (a':=?_) #[true,true,true,true,true,true,true,false,false,false] rfl rfl (take_ofW HT_.out HW_.out (by kernel_rfl)) (fun _ _ _ h=>h) (Or.inl ⟨by rfl,?_⟩) hHeld ?_ ?_
        rotate_left
        ·rintro w' ⟨s0,s1,s2,s3⟩
         go_simp
         with_reducible rfl
        rotate_left
        ·simp only [Act.put,s1_,s2_,s3_,i64_w,i32_w]
         rfl
        refine take_ (i:=7) (N:=some 24) (v:=?_) (a':=?_) #[true,true,true,true,true,true,true,true,false,false] rfl rfl (take_ofW HT_.out HW_.out (by kernel_rfl)) (fun _ _ _ h=>h) (Or.inl ⟨by rfl,?_⟩) hHeld ?_ ?_
        rotate_left
        ·rintro w' ⟨s0,s1,s2,s3⟩
         go_simp
         with_reducible rfl
        rotate_left
        ·simp only [Act.put,s1_,s2_,s3_,i64_w,i32_w]
         rfl
        refine one_ (i:=8) (N:=some 25) #[true,true,true,true,true,true,true,true,true,false] rfl rfl (one_of HT_.out (by kernel_rfl)) (by decide) (fun K hK=>?_)
        refine goes_ Try.func87 (by kernel_rfl) rfl #[.agg #[.string ((rd_T113 l0 x5_1).f0),.int .i64 ((rd_T113 l0 x5_1).f1)],.agg #[.string ((rd_T113 l1 x5_1).f0),.int .i64 ((rd_T113 l1 x5_1).f1)]] (by rfl) rfl rfl lm_ ?_
        with_reducible refine (laws_eqFrame.calls ((rd_T113 l0 x5_1).f0) ((rd_T113 l0 x5_1).f1) ((rd_T113 l1 x5_1).f0) ((rd_T113 l1 x5_1).f1) false _ A7.out).mono ?_
        rintro e w12 ⟨rfl,hb⟩
        refine ⟨_,rfl,?_⟩
        have n0_:=a0_ (below_step hbw_ hb)
        clear HB
        have HB:=n0_
        clear n0_
        (try clear hb)
        (try clear hb2)
        (try clear hk)
        (try clear hi)
        refine hK.out _ _ ⟨((HB.out.cell (World.block_lt_of_cell? w _ hw1_0)).trans hw1_0),((HB.out.cell (World.block_lt_of_cell? w _ hw1_1)).trans hw1_1),((HB.out.cell (World.block_lt_of_cell? w _ hw2_0)).trans hw2_0),((HB.out.cell (World.block_lt_of_cell? w _ hw2_1)).trans hw2_1)⟩ (fun hHeld=>?_)
        clear hK K
        refine norm_ (a':=?_) ?_ ?_
        rotate_left
        ·show Act.put _ (some 25) _ = _
         simp only [Act.put,s1_,s2_,s3_,i64_w,i32_w]
         rfl
        refine pure_ (i:=9) (N:=some 26) (v:=?_) (a':=?_) #[true,true,true,true,true,true,true,true,true,true] rfl rfl (any_of HT_.out (by kernel_rfl)) (fun _ _ _ h=>h) (Or.inl ⟨by rfl,?_⟩) ?_ ?_
        rotate_left
        ·intro w'
         go_simp
         with_reducible rfl
        rotate_left
        ·simp only [Act.put,s1_,s2_,s3_,i64_w,i32_w]
         rfl
        refine done_ (done_of HT_.out (by kernel_rfl)) ?_
        try go_wp2
        go_ret
        exact ⟨by first | rfl | (simp [errW_none,errW_some] <;> rfl) | (simp [*,errW_none,errW_some] <;> rfl),hbw_⟩
      ·rw [if_neg c6] at H
       exact absurd H (by simp)
     ·rw [if_neg c5] at H
      exact absurd H (by simp)
    ·rw [if_neg c4] at H
     have c4b0 : decide (x5_1 < (l0.length : Int)) = false:=decide_eq_false c4
     clear c4
     obtain rfl:=Option.some.inj H
     go_wp2
     go_ret
     exact ⟨by first | rfl | (simp [errW_none,errW_some] <;> rfl) | (simp [*,errW_none,errW_some] <;> rfl),hbw_⟩
 ·rw [if_neg c3] at H
  have c3b0 : ((l0.length : Int) == (l1.length : Int)) = false:=beq_eq_false_iff_ne.mpr c3
  have c3b1 : ((l0.length : Int) != (l1.length : Int)) = true:=bne_iff_ne.mpr c3
  have c3b2 : (l0.length == l1.length) = false:=by first | simpa using c3 | (simp at c3 ⊢;omega)
  obtain rfl:=Option.some.inj H
  go_enter Try.func33,Try.ntmps33
  go_wp2
  go_ret
  exact ⟨by first | rfl | (simp [errW_none,errW_some] <;> rfl) | (simp [*,errW_none,errW_some] <;> rfl),hbw_⟩
theorem laws_eqFrameS_ev (l : List S113) (hl : l.length ≤ 9223372036854775807) : Ev (fun k=>laws_eqFrameS.f k l l) true:=by
 have h:=st_loop (fun k (_ : Unit) i=>laws_eqFrameS.l0 k l l i) l.length (fun _=>()) true (by
  intro k i hi
  simp only [laws_eqFrameS.l0,laws_eqFrame.f,if_pos,Option.bind_some]
  rw [if_pos (by omega),if_pos (by omega),if_pos (by omega),wrap_succ (i:=(i : Int)) (n:=l.length) (by omega) (by omega) (by omega)]
  rfl) (by
  intro k
  simp only [laws_eqFrameS.l0]
  rw [if_neg (by omega)])
 refine Ev.of_mono (laws_eqFrameS.mono l l) (K:=l.length + 1) ?_
 unfold laws_eqFrameS.f
 rw [if_pos rfl]
 exact h
end Go.Proofs.Ytacgehaipacehaa.P
namespace Go.Proofs.Ytacgehaipacehaa.P
open Go.RowKit Go.Proofs.YtacgehaipacehaaW.PrintWords Go.Proofs.YtacgehaipacehaaW.PrintLast Go.Proofs.YtacgehaipacehaaW.PrintMore
attribute [local go_sem] max2_int min2_int max_two min_two max_three min_three max_four min_four
set_option linter.unusedVariables false
set_option linter.unusedSimpArgs false
def laws_eqRow.f (a0_0 : ByteArray) (a0_1 : Int) (a0_2 : Int) (a1_0 : ByteArray) (a1_1 : Int) (a1_2 : Int) : Option (Bool):=(laws_eqFrame.f a0_0 a0_1 a1_0 a1_1).bind fun t3=>(if t3 = true then (if a0_2 = a1_2 then (some true) else (some false)) else (some false))
set_option maxHeartbeats 8000000 in
set_option maxRecDepth 100000 in
theorem laws_eqRow.calls (a0_0 : ByteArray) (a0_1 : Int) (a0_2 : Int) (a1_0 : ByteArray) (a1_1 : Int) (a1_2 : Int) (r : Bool) (w : World) (h : laws_eqRow.f a0_0 a0_1 a0_2 a1_0 a1_1 a1_2 = some r) :
  Calls Try.prog 88 #[.agg #[.string a0_0,.int .i64 a0_1,.int .i64 a0_2],.agg #[.string a1_0,.int .i64 a1_1,.int .i64 a1_2]] w fun e w'=>e = .returned (.bool r) ∧ Below w.heap.size w w':=by
 have hu115:=Try.underlying115
 have hu113:=Try.underlying113
 have HB:=a0_ (Below.refl w.heap.size w)
 have H : ((laws_eqFrame.f a0_0 a0_1 a1_0 a1_1).bind fun t3=>(if t3 = true then (if a0_2 = a1_2 then (some true) else (some false)) else (some false))) = some r:=h
 clear h
 replace H:=Option.bind_eq_some_iff.mp H
 obtain ⟨t3,A30,H⟩:=H
 try dsimp only at H
 have A3:=a0_ A30
 clear A30
 by_cases c4 : t3 = true
 ·subst c4
  have H1 : (if a0_2 = a1_2 then (some true) else (some false)) = some r:=by rw [if_pos rfl] at H;exact H
  clear H
  have H:=H1
  clear H1
  by_cases c5 : a0_2 = a1_2
  ·rw [if_pos c5] at H
   have c5b0 : (a0_2 == a1_2) = true:=beq_iff_eq.mpr c5
   have c5b1 : (a0_2 != a1_2) = false:=bne_eq_false_iff_eq.mpr c5
   clear c5
   obtain rfl:=Option.some.inj H
   go_enter Try.func88,Try.ntmps88
   go_wp2_with (first | ((with_reducible refine gate_dst (N:=2) rfl ?_);refine box_event ?hg (N:=2) ?hd (cs:=#[.string a0_0,.int .i64 a0_1,.int .i64 a0_2]) (t:=115) ?hr ?_;(case hd=>rfl);(case hg=>rfl);(case hr=>first | (go_simp;done) | (go_simp;rfl));intro gb1 hg w6 hbox hb;have BK1:=a0_ (hbox);have GW1:=a0_ ((by rw [hg];exact (below_size hbw_) : w.heap.size ≤ gb1));have GE1:=a0_ ((by rw [hg];exact (below_size hbw_) : w.heap.size ≤ gb1));replace HB:=a0_ (below_step hbw_ hb);clear hb hbox hg) | ((with_reducible refine gate_dst (N:=3) rfl ?_);refine box_event ?hg (N:=3) ?hd (cs:=#[.string a1_0,.int .i64 a1_1,.int .i64 a1_2]) (t:=115) ?hr ?_;(case hd=>rfl);(case hg=>rfl);(case hr=>first | (go_simp;done) | (go_simp;rfl));intro gb2 hg w7 hbox hb;have n0_:=kb_ BK1 hb;have n1_:=a0_ (below_step hbw_ hb);have n2_:=a0_ (hbox);have n3_:=a0_ ((by rw [hg];exact (below_size hbw_) : w.heap.size ≤ gb2));have n4_:=a0_ ((by rw [hg];exact (below_size hbw_) : w.heap.size ≤ gb2));have n5_:=a0_ ((by rw [hg];exact Nat.ne_of_lt (blk_lt (bb_ BK1.out)) : gb1 ≠ gb2));have n6_:=a0_ ((by rw [hg];exact Nat.ne_of_gt (blk_lt (bb_ BK1.out)) : gb2 ≠ gb1));clear BK1 HB;have BK1:=n0_;have HB:=n1_;have BK2:=n2_;have GW2:=n3_;have GE2:=n4_;have NB1_2:=n5_;have NB2_1:=n6_;clear n0_ n1_ n2_ n3_ n4_ n5_ n6_;clear hb hbox hg;have hnb8:=NB1_2.out;have hnc8:=NB2_1.out;have hcz9_0 : w7.cell? ⟨gb1,0,none⟩ = some (.string a0_0):=(blk_cell BK1.out 0).trans rfl;have hcz9_1 : w7.cell? ⟨gb1,1,none⟩ = some (.int .i64 a0_1):=(blk_cell BK1.out 1).trans rfl;have hcz9_2 : w7.cell? ⟨gb1,2,none⟩ = some (.int .i64 a0_2):=(blk_cell BK1.out 2).trans rfl;have hfz9_0:=blk_frozen BK1.out 0;have hfz9_1:=blk_frozen BK1.out 1;have hfz9_2:=blk_frozen BK1.out 2;have hcz10_0 : w7.cell? ⟨gb2,0,none⟩ = some (.string a1_0):=(blk_cell BK2.out 0).trans rfl;have hcz10_1 : w7.cell? ⟨gb2,1,none⟩ = some (.int .i64 a1_1):=(blk_cell BK2.out 1).trans rfl;have hcz10_2 : w7.cell? ⟨gb2,2,none⟩ = some (.int .i64 a1_2):=(blk_cell BK2.out 2).trans rfl;have hfz10_0:=blk_frozen BK2.out 0;have hfz10_1:=blk_frozen BK2.out 1;have hfz10_2:=blk_frozen BK2.out 2) | ((with_reducible refine gate_callee (f:=87) rfl ?_);refine goesL_ (some 9) rfl rfl Try.func87 (by kernel_rfl) rfl #[.agg #[.string a0_0,.int .i64 a0_1],.agg #[.string a1_0,.int .i64 a1_1]] rfl lm_ ?_;(with_reducible refine (laws_eqFrame.calls a0_0 a0_1 a1_0 a1_1 true _ A3.out).mono ?_);rintro e w11 ⟨rfl,hb⟩;refine ⟨_,rfl,?_⟩;replace BK1:=kb_ BK1 hb;replace BK2:=kb_ BK2 hb;replace HB:=a0_ (below_step hbw_ hb);(try clear hb);have hcz12_0 : w11.cell? ⟨gb1,0,none⟩ = some (.string a0_0):=(blk_cell BK1.out 0).trans rfl;have hcz12_1 : w11.cell? ⟨gb1,1,none⟩ = some (.int .i64 a0_1):=(blk_cell BK1.out 1).trans rfl;have hcz12_2 : w11.cell? ⟨gb1,2,none⟩ = some (.int .i64 a0_2):=(blk_cell BK1.out 2).trans rfl;have hfz12_0:=blk_frozen BK1.out 0;have hfz12_1:=blk_frozen BK1.out 1;have hfz12_2:=blk_frozen BK1.out 2;have hcz13_0 : w11.cell? ⟨gb2,0,none⟩ = some (.string a1_0):=(blk_cell BK2.out 0).trans rfl;have hcz13_1 : w11.cell? ⟨gb2,1,none⟩ = some (.int .i64 a1_1):=(blk_cell BK2.out 1).trans rfl;have hcz13_2 : w11.cell? ⟨gb2,2,none⟩ = some (.int .i64 a1_2):=(blk_cell BK2.out 2).trans rfl;have hfz13_0:=blk_frozen BK2.out 0;have hfz13_1:=blk_frozen BK2.out 1;have hfz13_2:=blk_frozen BK2.out 2))
   go_ret
   exact ⟨by first | rfl | (simp [errW_none,errW_some] <;> rfl) | (simp [*,errW_none,errW_some] <;> rfl),hbw_⟩
  ·rw [if_neg c5] at H
   have c5b0 : (a0_2 == a1_2) = false:=beq_eq_false_iff_ne.mpr c5
   have c5b1 : (a0_2 != a1_2) = true:=bne_iff_ne.mpr c5
   obtain rfl:=Option.some.inj H
   go_enter Try.func88,Try.ntmps88
   go_wp2_with (first | ((with_reducible refine gate_dst (N:=2) rfl ?_);refine box_event ?hg (N:=2) ?hd (cs:=#[.string a0_0,.int .i64 a0_1,.int .i64 a0_2]) (t:=115) ?hr ?_;(case hd=>rfl);(case hg=>rfl);(case hr=>first | (go_simp;done) | (go_simp;rfl));intro gb1 hg w14 hbox hb;have BK1:=a0_ (hbox);have GW1:=a0_ ((by rw [hg];exact (below_size hbw_) : w.heap.size ≤ gb1));have GE1:=a0_ ((by rw [hg];exact (below_size hbw_) : w.heap.size ≤ gb1));replace HB:=a0_ (below_step hbw_ hb);clear hb hbox hg) | ((with_reducible refine gate_dst (N:=3) rfl ?_);refine box_event ?hg (N:=3) ?hd (cs:=#[.string a1_0,.int .i64 a1_1,.int .i64 a1_2]) (t:=115) ?hr ?_;(case hd=>rfl);(case hg=>rfl);(case hr=>first | (go_simp;done) | (go_simp;rfl));intro gb2 hg w15 hbox hb;have n0_:=kb_ BK1 hb;have n1_:=a0_ (below_step hbw_ hb);have n2_:=a0_ (hbox);have n3_:=a0_ ((by rw [hg];exact (below_size hbw_) : w.heap.size ≤ gb2));have n4_:=a0_ ((by rw [hg];exact (below_size hbw_) : w.heap.size ≤ gb2));have n5_:=a0_ ((by rw [hg];exact Nat.ne_of_lt (blk_lt (bb_ BK1.out)) : gb1 ≠ gb2));have n6_:=a0_ ((by rw [hg];exact Nat.ne_of_gt (blk_lt (bb_ BK1.out)) : gb2 ≠ gb1));clear BK1 HB;have BK1:=n0_;have HB:=n1_;have BK2:=n2_;have GW2:=n3_;have GE2:=n4_;have NB1_2:=n5_;have NB2_1:=n6_;clear n0_ n1_ n2_ n3_ n4_ n5_ n6_;clear hb hbox hg;have hnb16:=NB1_2.out;have hnc16:=NB2_1.out;have hcz17_0 : w15.cell? ⟨gb1,0,none⟩ = some (.string a0_0):=(blk_cell BK1.out 0).trans rfl;have hcz17_1 : w15.cell? ⟨gb1,1,none⟩ = some (.int .i64 a0_1):=(blk_cell BK1.out 1).trans rfl;have hcz17_2 : w15.cell? ⟨gb1,2,none⟩ = some (.int .i64 a0_2):=(blk_cell BK1.out 2).trans rfl;have hfz17_0:=blk_frozen BK1.out 0;have hfz17_1:=blk_frozen BK1.out 1;have hfz17_2:=blk_frozen BK1.out 2;have hcz18_0 : w15.cell? ⟨gb2,0,none⟩ = some (.string a1_0):=(blk_cell BK2.out 0).trans rfl;have hcz18_1 : w15.cell? ⟨gb2,1,none⟩ = some (.int .i64 a1_1):=(blk_cell BK2.out 1).trans rfl;have hcz18_2 : w15.cell? ⟨gb2,2,none⟩ = some (.int .i64 a1_2):=(blk_cell BK2.out 2).trans rfl;have hfz18_0:=blk_frozen BK2.out 0;have hfz18_1:=blk_frozen BK2.out 1;have hfz18_2:=blk_frozen BK2.out 2) | ((with_reducible refine gate_callee (f:=87) rfl ?_);refine goesL_ (some 9) rfl rfl Try.func87 (by kernel_rfl) rfl #[.agg #[.string a0_0,.int .i64 a0_1],.agg #[.string a1_0,.int .i64 a1_1]] rfl lm_ ?_;(with_reducible refine (laws_eqFrame.calls a0_0 a0_1 a1_0 a1_1 true _ A3.out).mono ?_);rintro e w19 ⟨rfl,hb⟩;refine ⟨_,rfl,?_⟩;replace BK1:=kb_ BK1 hb;replace BK2:=kb_ BK2 hb;replace HB:=a0_ (below_step hbw_ hb);(try clear hb);have hcz20_0 : w19.cell? ⟨gb1,0,none⟩ = some (.string a0_0):=(blk_cell BK1.out 0).trans rfl;have hcz20_1 : w19.cell? ⟨gb1,1,none⟩ = some (.int .i64 a0_1):=(blk_cell BK1.out 1).trans rfl;have hcz20_2 : w19.cell? ⟨gb1,2,none⟩ = some (.int .i64 a0_2):=(blk_cell BK1.out 2).trans rfl;have hfz20_0:=blk_frozen BK1.out 0;have hfz20_1:=blk_frozen BK1.out 1;have hfz20_2:=blk_frozen BK1.out 2;have hcz21_0 : w19.cell? ⟨gb2,0,none⟩ = some (.string a1_0):=(blk_cell BK2.out 0).trans rfl;have hcz21_1 : w19.cell? ⟨gb2,1,none⟩ = some (.int .i64 a1_1):=(blk_cell BK2.out 1).trans rfl;have hcz21_2 : w19.cell? ⟨gb2,2,none⟩ = some (.int .i64 a1_2):=(blk_cell BK2.out 2).trans rfl;have hfz21_0:=blk_frozen BK2.out 0;have hfz21_1:=blk_frozen BK2.out 1;have hfz21_2:=blk_frozen BK2.out 2))
   go_ret
   exact ⟨by first | rfl | (simp [errW_none,errW_some] <;> rfl) | (simp [*,errW_none,errW_some] <;> rfl),hbw_⟩
 ·replace c4:=Bool.eq_false_iff.mpr c4
  subst c4
  have H1 : (some false) = some r:=by rw [if_neg (show ¬ (false = true) by decide)] at H;exact H
  clear H
  have H:=H1
  clear H1
  obtain rfl:=Option.some.inj H
  go_enter Try.func88,Try.ntmps88
  go_wp2_with (first | ((with_reducible refine gate_dst (N:=2) rfl ?_);refine box_event ?hg (N:=2) ?hd (cs:=#[.string a0_0,.int .i64 a0_1,.int .i64 a0_2]) (t:=115) ?hr ?_;(case hd=>rfl);(case hg=>rfl);(case hr=>first | (go_simp;done) | (go_simp;rfl));intro gb1 hg w22 hbox hb;have BK1:=a0_ (hbox);have GW1:=a0_ ((by rw [hg];exact (below_size hbw_) : w.heap.size ≤ gb1));have GE1:=a0_ ((by rw [hg];exact (below_size hbw_) : w.heap.size ≤ gb1));replace HB:=a0_ (below_step hbw_ hb);clear hb hbox hg) | ((with_reducible refine gate_dst (N:=3) rfl ?_);refine box_event ?hg (N:=3) ?hd (cs:=#[.string a1_0,.int .i64 a1_1,.int .i64 a1_2]) (t:=115) ?hr ?_;(case hd=>rfl);(case hg=>rfl);(case hr=>first | (go_simp;done) | (go_simp;rfl));intro gb2 hg w23 hbox hb;have n0_:=kb_ BK1 hb;have n1_:=a0_ (below_step hbw_ hb);have n2_:=a0_ (hbox);have n3_:=a0_ ((by rw [hg];exact (below_size hbw_) : w.heap.size ≤ gb2));have n4_:=a0_ ((by rw [hg];exact (below_size hbw_) : w.heap.size ≤ gb2));have n5_:=a0_ ((by rw [hg];exact Nat.ne_of_lt (blk_lt (bb_ BK1.out)) : gb1 ≠ gb2));have n6_:=a0_ ((by rw [hg];exact Nat.ne_of_gt (blk_lt (bb_ BK1.out)) : gb2 ≠ gb1));clear BK1 HB;have BK1:=n0_;have HB:=n1_;have BK2:=n2_;have GW2:=n3_;have GE2:=n4_;have NB1_2:=n5_;have NB2_1:=n6_;clear n0_ n1_ n2_ n3_ n4_ n5_ n6_;clear hb hbox hg;have hnb24:=NB1_2.out;have hnc24:=NB2_1.out;have hcz25_0 : w23.cell? ⟨gb1,0,none⟩ = some (.string a0_0):=(blk_cell BK1.out 0).trans rfl;have hcz25_1 : w23.cell? ⟨gb1,1,none⟩ = some (.int .i64 a0_1):=(blk_cell BK1.out 1).trans rfl;have hcz25_2 : w23.cell? ⟨gb1,2,none⟩ = some (.int .i64 a0_2):=(blk_cell BK1.out 2).trans rfl;have hfz25_0:=blk_frozen BK1.out 0;have hfz25_1:=blk_frozen BK1.out 1;have hfz25_2:=blk_frozen BK1.out 2;have hcz26_0 : w23.cell? ⟨gb2,0,none⟩ = some (.string a1_0):=(blk_cell BK2.out 0).trans rfl;have hcz26_1 : w23.cell? ⟨gb2,1,none⟩ = some (.int .i64 a1_1):=(blk_cell BK2.out 1).trans rfl;have hcz26_2 : w23.cell? ⟨gb2,2,none⟩ = some (.int .i64 a1_2):=(blk_cell BK2.out 2).trans rfl;have hfz26_0:=blk_frozen BK2.out 0;have hfz26_1:=blk_frozen BK2.out 1;have hfz26_2:=blk_frozen BK2.out 2) | ((with_reducible refine gate_callee (f:=87) rfl ?_);refine goesL_ (some 9) rfl rfl Try.func87 (by kernel_rfl) rfl #[.agg #[.string a0_0,.int .i64 a0_1],.agg #[.string a1_0,.int .i64 a1_1]] rfl lm_ ?_;(with_reducible refine (laws_eqFrame.calls a0_0 a0_1 a1_0 a1_1 false _ A3.out).mono ?_);rintro e w27 ⟨rfl,hb⟩;refine ⟨_,rfl,?_⟩;replace BK1:=kb_ BK1 hb;replace BK2:=kb_ BK2 hb;replace HB:=a0_ (below_step hbw_ hb);(try clear hb);(try clear hb2);(try clear hk);(try clear hi)))
  go_ret
  exact ⟨by first | rfl | (simp [errW_none,errW_some] <;> rfl) | (simp [*,errW_none,errW_some] <;> rfl),hbw_⟩
end Go.Proofs.Ytacgehaipacehaa.P
namespace Go.Proofs.Ytacgehaipacehaa.P
open Go.RowKit Go.Proofs.YtacgehaipacehaaW.PrintWords Go.Proofs.YtacgehaipacehaaW.PrintLast Go.Proofs.YtacgehaipacehaaW.PrintMore
attribute [local go_sem] max2_int min2_int max_two min_two max_three min_three max_four min_four
set_option linter.unusedVariables false
set_option linter.unusedSimpArgs false
def laws_eqRowS.l0 : Nat → List (S115) → List (S115) → Int → Option (Bool)
 | 0,_,_,_=>none
 | k + 1,x0,x1,x5=>if x5 < (x0.length : Int) then (if 0 ≤ x5 then (if x5 < (x1.length : Int) then ((laws_eqRow.f ((rd_T115 x0 x5).f0.f0) ((rd_T115 x0 x5).f0.f1) ((rd_T115 x0 x5).f1) ((rd_T115 x1 x5).f0.f0) ((rd_T115 x1 x5).f0.f1) ((rd_T115 x1 x5).f1)).bind fun t3=>(if t3 = true then (laws_eqRowS.l0 k x0 x1 (wrap64 (x5 + 1))) else (some false))) else (none)) else (none)) else (some true)
def laws_eqRowS.f (k : Nat) (l0 : List (S115)) (l1 : List (S115)) : Option (Bool):=if (l0.length : Int) = (l1.length : Int) then (laws_eqRowS.l0 k l0 l1 0) else (some false)
theorem laws_eqRowS.mono_l : ∀ k,(∀ y0 y1 y2,LeO (laws_eqRowS.l0 k y0 y1 y2) (laws_eqRowS.l0 (k + 1) y0 y1 y2))
 | 0=>fun _ _ _ r h=>by simp [laws_eqRowS.l0] at h
 | k + 1=>by
  have ih0:=laws_eqRowS.mono_l k
  ·intro y0 y1 y2
   unfold laws_eqRowS.l0
   repeat' first
   | (with_reducible exact ih0 _ _ _)
   | (with_reducible exact LeO.refl _)
   | (with_reducible exact LeO.none _)
   | (with_reducible refine LeO.ite ?_ ?_)
   | (with_reducible refine LeO.bind ?_ (fun _=>?_))
   | exact ih0 _ _ _
   | exact LeO.none _
   | refine LeO.ite ?_ ?_
   | refine LeO.bind ?_ (fun _=>?_)
theorem laws_eqRowS.mono : ∀ a0 a1 k,LeO (laws_eqRowS.f k a0 a1) (laws_eqRowS.f (k + 1) a0 a1):=by
 intro a0 a1 k
 have ih0:=laws_eqRowS.mono_l k
 unfold laws_eqRowS.f
 repeat' first
   | (with_reducible exact ih0 _ _ _)
   | (with_reducible exact LeO.refl _)
   | (with_reducible exact LeO.none _)
   | (with_reducible refine LeO.ite ?_ ?_)
   | (with_reducible refine LeO.bind ?_ (fun _=>?_))
   | exact ih0 _ _ _
   | exact LeO.none _
   | refine LeO.ite ?_ ?_
   | refine LeO.bind ?_ (fun _=>?_)
def laws_eqRowS.T6 : Bool × List (List Nat × List Nat):=(true,[([],[]),([],[]),([0,1],[0,1]),([2],[2]),([],[]),([],[]),([4,5],[4,5]),([6],[6]),([3,7],[3,7]),([8],[8])])
def laws_eqRowS.B6 : List Nat:=[0,0,3,7,0,0,48,112,255,511]
theorem laws_eqRowS.tab6 : rtab .any (opsOf Try.f34 6) = laws_eqRowS.T6:=by kernel_rfl
theorem laws_eqRowS.bits6 : waitsOk laws_eqRowS.T6.2 laws_eqRowS.B6 = true:=by kernel_rfl
set_option maxHeartbeats 8000000 in
set_option maxRecDepth 100000 in
theorem laws_eqRowS.calls (k : Nat) (A0 : Option Addr) (c0 : Nat) (l0 : List (S115)) (A1 : Option Addr) (c1 : Nat) (l1 : List (S115)) (r : Bool) (w : World) (hr0 : Kd.C k115 w A0 l0.length l0) (hc0 : l0.length ≤ c0) (hr1 : Kd.C k115 w A1 l1.length l1) (hc1 : l1.length ≤ c1) (h : laws_eqRowS.f k l0 l1 = some r) :
  Calls Try.prog 34 #[.slice A0 l0.length c0,.slice A1 l1.length c1] w fun e w'=>e = .returned (.bool r) ∧ Below w.heap.size w w':=by
 have hu115:=Try.underlying115
 have HR0:=a0_ hr0
 have HC0:=a0_ hc0
 clear hr0 hc0
 have HR1:=a0_ hr1
 have HC1:=a0_ hc1
 clear hr1 hc1
 have HB:=a0_ (Below.refl w.heap.size w)
 have H : (if (l0.length : Int) = (l1.length : Int) then (laws_eqRowS.l0 k l0 l1 0) else (some false)) = some r:=h
 clear h
 by_cases c3 : (l0.length : Int) = (l1.length : Int)
 ·rw [if_pos c3] at H
  have c3b0 : ((l0.length : Int) == (l1.length : Int)) = true:=beq_iff_eq.mpr c3
  have c3b1 : ((l0.length : Int) != (l1.length : Int)) = false:=bne_eq_false_iff_eq.mpr c3
  have c3b2 : (l0.length == l1.length) = true:=by first | simpa using c3 | (simp at c3 ⊢;omega)
  clear c3
  have H':=a0_ H
  clear H
  go_enter Try.func34,Try.ntmps34
  go_wp2
  go_loopg [5] k (fun kq v5 w'=>∃ (x5_1 : Int),v5 = .int .i64 x5_1 ∧ Aside0 (laws_eqRowS.l0 kq l0 l1 x5_1 = some r) ∧ Aside0 (kq ≤ k) ∧ Aside0 (Below w.heap.size w w'))
  case atStart=>exact ⟨(0),(by first | rfl | (simp;done) | (simp [*];done)),H',⟨Nat.le_refl _⟩,⟨hbw_⟩⟩
  case round =>
   clear H'
   try clear c1
   try clear p2
   try clear c3
   try clear c3b0
   try clear c3b1
   try clear c3b2
   obtain ⟨x5_1,rfl,HA,HK1,HB⟩:=hrel
   cases gk with
   | zero=>exact absurd HA.out (by simp [laws_eqRowS.l0])
   | succ k1 =>
    have H:=HA.out
    clear HA
    simp only [laws_eqRowS.l0] at H
    by_cases c4 : x5_1 < (l0.length : Int)
    ·rw [if_pos c4] at H
     have c4b0 : decide (x5_1 < (l0.length : Int)) = true:=decide_eq_true c4
     clear c4
     by_cases c5 : 0 ≤ x5_1
     ·rw [if_pos c5] at H
      have c5b0 : decide (0 ≤ x5_1) = true:=decide_eq_true c5
      clear c5
      by_cases c6 : x5_1 < (l1.length : Int)
      ·rw [if_pos c6] at H
       have c6b0 : decide (x5_1 < (l1.length : Int)) = true:=decide_eq_true c6
       clear c6
       replace H:=Option.bind_eq_some_iff.mp H
       obtain ⟨t3,A70,H⟩:=H
       try dsimp only at H
       have A7:=a0_ A70
       clear A70
       by_cases c8 : t3 = true
       ·subst c8
        have H1 : (laws_eqRowS.l0 k1 l0 l1 (wrap64 (x5_1 + 1))) = some r:=by rw [if_pos rfl] at H;exact H
        clear H
        have H:=H1
        clear H1
        have H':=a0_ H
        clear H
        try go_wp2
        have n0_:=a0_ (below_drew1 HB.out)
        clear HB
        have HB:=n0_
        clear n0_
        have p1 : 0 ≤ (x5_1 : Int):=of_decide_eq_true (by first | (with_reducible assumption) | assumption)
        have q1 : x5_1 < (l0.length : Int):=of_decide_eq_true (by first | (with_reducible assumption) | assumption)
        obtain ⟨ad1,e1,hx1_0,hx1_1,hx1_2⟩:=at_T115 HR0.out x5_1 p1 q1
        have hw1_2:=hx1_2
        have hw1_1:=hx1_1
        have hw1_0:=hx1_0
        cases e1
        replace hx1_0:=(HB.out.cell (World.block_lt_of_cell? w _ hx1_0)).trans hx1_0
        replace hx1_1:=(HB.out.cell (World.block_lt_of_cell? w _ hx1_1)).trans hx1_1
        replace hx1_2:=(HB.out.cell (World.block_lt_of_cell? w _ hx1_2)).trans hx1_2
        replace p1:=eq_true p1
        replace q1:=eq_true q1
        have p2 : 0 ≤ (x5_1 : Int):=of_decide_eq_true (by first | (with_reducible assumption) | assumption)
        have q2 : x5_1 < (l1.length : Int):=of_decide_eq_true (by first | (with_reducible assumption) | assumption)
        obtain ⟨ad2,e2,hx2_0,hx2_1,hx2_2⟩:=at_T115 HR1.out x5_1 p2 q2
        have hw2_2:=hx2_2
        have hw2_1:=hx2_1
        have hw2_0:=hx2_0
        cases e2
        replace hx2_0:=(HB.out.cell (World.block_lt_of_cell? w _ hx2_0)).trans hx2_0
        replace hx2_1:=(HB.out.cell (World.block_lt_of_cell? w _ hx2_1)).trans hx2_1
        replace hx2_2:=(HB.out.cell (World.block_lt_of_cell? w _ hx2_2)).trans hx2_2
        replace p2:=eq_true p2
        replace q2:=eq_true q2
        refine start_ (n:=10) (S:=fun w'=>w'.cell? (ad1.add ((x5_1).toNat * 3)) = some (.string ((rd_T115 l0 x5_1).f0.f0)) ∧ w'.cell? ⟨(ad1.add ((x5_1).toNat * 3)).block,(ad1.add ((x5_1).toNat * 3)).off + 1,none⟩ = some (.int .i64 ((rd_T115 l0 x5_1).f0.f1)) ∧ w'.cell? ⟨(ad1.add ((x5_1).toNat * 3)).block,(ad1.add ((x5_1).toNat * 3)).off + 2,none⟩ = some (.int .i64 ((rd_T115 l0 x5_1).f1)) ∧ w'.cell? (ad2.add ((x5_1).toNat * 3)) = some (.string ((rd_T115 l1 x5_1).f0.f0)) ∧ w'.cell? ⟨(ad2.add ((x5_1).toNat * 3)).block,(ad2.add ((x5_1).toNat * 3)).off + 1,none⟩ = some (.int .i64 ((rd_T115 l1 x5_1).f0.f1)) ∧ w'.cell? ⟨(ad2.add ((x5_1).toNat * 3)).block,(ad2.add ((x5_1).toNat * 3)).off + 2,none⟩ = some (.int .i64 ((rd_T115 l1 x5_1).f1))) (ds:=[]) #[false,false,false,false,false,false,false,false,false,false] (by kernel_rfl) rfl rfl ⟨((HB.out.cell (World.block_lt_of_cell? w _ hw1_0)).trans hw1_0),((HB.out.cell (World.block_lt_of_cell? w _ hw1_1)).trans hw1_1),((HB.out.cell (World.block_lt_of_cell? w _ hw1_2)).trans hw1_2),((HB.out.cell (World.block_lt_of_cell? w _ hw2_0)).trans hw2_0),((HB.out.cell (World.block_lt_of_cell? w _ hw2_1)).trans hw2_1),((HB.out.cell (World.block_lt_of_cell? w _ hw2_2)).trans hw2_2)⟩ (fun hHeld=>?_);refine with_tabW laws_eqRowS.tab6 laws_eqRowS.bits6 (fun HT_ HW_=>?_)
        generalize wr.drew = w9 at HB hx1_0 hx1_1 hx1_2 hx2_0 hx2_1 hx2_2 hHeld ⊢
        refine pure_ (i:=0) (N:=some 17) (v:=?_) (a':=?_) #[true,false,false,false,false,false,false,false,false,false] rfl rfl (any_of HT_.out (by kernel_rfl)) (fun _ _ _ h=>h) (Or.inl ⟨by rfl,?_⟩) ?_ ?_
        rotate_left
        ·intro w'
         go_simp
         with_reducible rfl
        rotate_left
        ·simp only [Act.put,s1_,s2_,s3_,i64_w,i32_w]
         rfl
        refine pure_ (i:=1) (N:=some 18) (v:=?_) (a':=?_) #[true,true,false,false,false,false,false,false,false,false] rfl rfl (any_of HT_.out (by kernel_rfl)) (fun _ _ _ h=>h) (Or.inl ⟨by rfl,?_⟩) ?_ ?_
        rotate_left
        ·intro w'
         go_simp
         with_reducible rfl
        rotate_left
        ·simp only [Act.put,s1_,s2_,s3_,i64_w,i32_w]
         rfl
        refine pure_ (i:=2) (N:=some 19) (v:=?_) (a':=?_) #[true,true,true,false,false,false,false,false,false,false] rfl rfl (any_of HT_.out (by kernel_rfl)) (fun _ _ _ h=>h) (Or.inl ⟨by rfl,?_⟩) ?_ ?_
        rotate_left
        ·intro w'
         go_simp
         with_reducible rfl
        rotate_left
        ·simp only [Act.put,s1_,s2_,s3_,i64_w,i32_w]
         rfl
        refine pure_ (i:=4) (N:=some 21) (v:=?_) (a':=?_) #[true,true,true,false,true,false,false,false,false,false] rfl rfl (any_of HT_.out (by kernel_rfl)) (fun _ _ _ h=>h) (Or.inl ⟨by rfl,?_⟩) ?_ ?_
        rotate_left
        ·intro w'
         go_simp
         with_reducible rfl
        rotate_left
        ·simp only [Act.put,s1_,s2_,s3_,i64_w,i32_w]
         rfl
        refine pure_ (i:=5) (N:=some 22) (v:=?_) (a':=?_) #[true,true,true,false,true,true,false,false,false,false] rfl rfl (any_of HT_.out (by kernel_rfl)) (fun _ _ _ h=>h) (Or.inl ⟨by rfl,?_⟩) ?_ ?_
        rotate_left
        ·intro w'
         go_simp
         with_reducible rfl
        rotate_left
        ·simp only [Act.put,s1_,s2_,s3_,i64_w,i32_w]
         rfl
        refine pure_ (i:=6) (N:=some 23) (v:=?_) (a':=?_) #[true,true,true,false,true,true,true,false,false,false] rfl rfl (any_of HT_.out (by kernel_rfl)) (fun _ _ _ h=>h) (Or.inl ⟨by rfl,?_⟩) ?_ ?_
        rotate_left
        ·intro w'
         go_simp
         with_reducible rfl
        rotate_left
        ·simp only [Act.put,s1_,s2_,s3_,i64_w,i32_w]
         rfl
        refine take_ (i:=3) (N:=some 20) (v:=?_) (a':=?_) #[true,true,true,true,true,true,true,false,false,false] rfl rfl (take_ofW HT_.out HW_.out (by kernel_rfl)) (fun _ _ _ h=>h) (Or.inl ⟨by rfl,?_⟩) hHeld ?_ ?_
        rotate_left
        ·rintro w' ⟨s0,s1,s2,s3,s4,s5⟩
         go_simp
         with_reducible rfl
        rotate_left
        ·simp only [Act.put,s1_,s2_,s3_,i64_w,i32_w]
         rfl
        refine take_ (i:=7) (N:=some 24) (v:=?_) (a':=?_) #[true,true,true,true,true,true,true,true,false,false] rfl rfl (take_ofW HT_.out HW_.out (by kernel_rfl)) (fun _ _ _ h=>h) (Or.inl ⟨by rfl,?_⟩) hHeld ?_ ?_
        rotate_left
        ·rintro w' ⟨s0,s1,s2,s3,s4,s5⟩
         go_simp
         with_reducible rfl
        rotate_left
        ·simp only [Act.put,s1_,s2_,s3_,i64_w,i32_w]
         rfl
        refine one_ (i:=8) (N:=some 25) #[true,true,true,true,true,true,true,true,true,false] rfl rfl (one_of HT_.out (by kernel_rfl)) (by decide) (fun K hK=>?_)
        refine goes_ Try.func88 (by kernel_rfl) rfl #[.agg #[.string ((rd_T115 l0 x5_1).f0.f0),.int .i64 ((rd_T115 l0 x5_1).f0.f1),.int .i64 ((rd_T115 l0 x5_1).f1)],.agg #[.string ((rd_T115 l1 x5_1).f0.f0),.int .i64 ((rd_T115 l1 x5_1).f0.f1),.int .i64 ((rd_T115 l1 x5_1).f1)]] (by rfl) rfl rfl lm_ ?_
        with_reducible refine (laws_eqRow.calls ((rd_T115 l0 x5_1).f0.f0) ((rd_T115 l0 x5_1).f0.f1) ((rd_T115 l0 x5_1).f1) ((rd_T115 l1 x5_1).f0.f0) ((rd_T115 l1 x5_1).f0.f1) ((rd_T115 l1 x5_1).f1) true _ A7.out).mono ?_
        rintro e w10 ⟨rfl,hb⟩
        refine ⟨_,rfl,?_⟩
        have n0_:=a0_ (below_step hbw_ hb)
        clear HB
        have HB:=n0_
        clear n0_
        (try clear hb)
        (try clear hb2)
        (try clear hk)
        (try clear hi)
        refine hK.out _ _ ⟨((HB.out.cell (World.block_lt_of_cell? w _ hw1_0)).trans hw1_0),((HB.out.cell (World.block_lt_of_cell? w _ hw1_1)).trans hw1_1),((HB.out.cell (World.block_lt_of_cell? w _ hw1_2)).trans hw1_2),((HB.out.cell (World.block_lt_of_cell? w _ hw2_0)).trans hw2_0),((HB.out.cell (World.block_lt_of_cell? w _ hw2_1)).trans hw2_1),((HB.out.cell (World.block_lt_of_cell? w _ hw2_2)).trans hw2_2)⟩ (fun hHeld=>?_)
        clear hK K
        refine norm_ (a':=?_) ?_ ?_
        rotate_left
        ·show Act.put _ (some 25) _ = _
         simp only [Act.put,s1_,s2_,s3_,i64_w,i32_w]
         rfl
        refine pure_ (i:=9) (N:=some 26) (v:=?_) (a':=?_) #[true,true,true,true,true,true,true,true,true,true] rfl rfl (any_of HT_.out (by kernel_rfl)) (fun _ _ _ h=>h) (Or.inl ⟨by rfl,?_⟩) ?_ ?_
        rotate_left
        ·intro w'
         go_simp
         with_reducible rfl
        rotate_left
        ·simp only [Act.put,s1_,s2_,s3_,i64_w,i32_w]
         rfl
        refine done_ (done_of HT_.out (by kernel_rfl)) ?_
        try go_wp2
        go_roundg k1
        case measure=>have:=HK1.out;omega
        case rel=>exact ⟨(wrap64 (x5_1 + 1)),(by first | rfl | (simp;done) | (simp [*];done)),H',⟨by have:=HK1.out;omega⟩,⟨hbw_⟩⟩
       ·replace c8:=Bool.eq_false_iff.mpr c8
        subst c8
        have H1 : (some false) = some r:=by rw [if_neg (show ¬ (false = true) by decide)] at H;exact H
        clear H
        have H:=H1
        clear H1
        obtain rfl:=Option.some.inj H
        try go_wp2
        have n0_:=a0_ (below_drew1 HB.out)
        clear HB
        have HB:=n0_
        clear n0_
        have p1 : 0 ≤ (x5_1 : Int):=of_decide_eq_true (by first | (with_reducible assumption) | assumption)
        have q1 : x5_1 < (l0.length : Int):=of_decide_eq_true (by first | (with_reducible assumption) | assumption)
        obtain ⟨ad1,e1,hx1_0,hx1_1,hx1_2⟩:=at_T115 HR0.out x5_1 p1 q1
        have hw1_2:=hx1_2
        have hw1_1:=hx1_1
        have hw1_0:=hx1_0
        cases e1
        replace hx1_0:=(HB.out.cell (World.block_lt_of_cell? w _ hx1_0)).trans hx1_0
        replace hx1_1:=(HB.out.cell (World.block_lt_of_cell? w _ hx1_1)).trans hx1_1
        replace hx1_2:=(HB.out.cell (World.block_lt_of_cell? w _ hx1_2)).trans hx1_2
        replace p1:=eq_true p1
        replace q1:=eq_true q1
        have p2 : 0 ≤ (x5_1 : Int):=of_decide_eq_true (by first | (with_reducible assumption) | assumption)
        have q2 : x5_1 < (l1.length : Int):=of_decide_eq_true (by first | (with_reducible assumption) | assumption)
        obtain ⟨ad2,e2,hx2_0,hx2_1,hx2_2⟩:=at_T115 HR1.out x5_1 p2 q2
        have hw2_2:=hx2_2
        have hw2_1:=hx2_1
        have hw2_0:=hx2_0
        cases e2
        replace hx2_0:=(HB.out.cell (World.block_lt_of_cell? w _ hx2_0)).trans hx2_0
        replace hx2_1:=(HB.out.cell (World.block_lt_of_cell? w _ hx2_1)).trans hx2_1
        replace hx2_2:=(HB.out.cell (World.block_lt_of_cell? w _ hx2_2)).trans hx2_2
        replace p2:=eq_true p2
        replace q2:=eq_true q2
        refine start_ (n:=10) (S:=fun w'=>w'.cell? (ad1.add ((x5_1).toNat * 3)) = some (.string ((rd_T115 l0 x5_1).f0.f0)) ∧ w'.cell? ⟨(ad1.add ((x5_1).toNat * 3)).block,(ad1.add ((x5_1).toNat * 3)).off + 1,none⟩ = some (.int .i64 ((rd_T115 l0 x5_1).f0.f1)) ∧ w'.cell? ⟨(ad1.add ((x5_1).toNat * 3)).block,(ad1.add ((x5_1).toNat * 3)).off + 2,none⟩ = some (.int .i64 ((rd_T115 l0 x5_1).f1)) ∧ w'.cell? (ad2.add ((x5_1).toNat * 3)) = some (.string ((rd_T115 l1 x5_1).f0.f0)) ∧ w'.cell? ⟨(ad2.add ((x5_1).toNat * 3)).block,(ad2.add ((x5_1).toNat * 3)).off + 1,none⟩ = some (.int .i64 ((rd_T115 l1 x5_1).f0.f1)) ∧ w'.cell? ⟨(ad2.add ((x5_1).toNat * 3)).block,(ad2.add ((x5_1).toNat * 3)).off + 2,none⟩ = some (.int .i64 ((rd_T115 l1 x5_1).f1))) (ds:=[]) #[false,false,false,false,false,false,false,false,false,false] (by kernel_rfl) rfl rfl ⟨((HB.out.cell (World.block_lt_of_cell? w _ hw1_0)).trans hw1_0),((HB.out.cell (World.block_lt_of_cell? w _ hw1_1)).trans hw1_1),((HB.out.cell (World.block_lt_of_cell? w _ hw1_2)).trans hw1_2),((HB.out.cell (World.block_lt_of_cell? w _ hw2_0)).trans hw2_0),((HB.out.cell (World.block_lt_of_cell? w _ hw2_1)).trans hw2_1),((HB.out.cell (World.block_lt_of_cell? w _ hw2_2)).trans hw2_2)⟩ (fun hHeld=>?_);refine with_tabW laws_eqRowS.tab6 laws_eqRowS.bits6 (fun HT_ HW_=>?_)
        generalize wr.drew = w11 at HB hx1_0 hx1_1 hx1_2 hx2_0 hx2_1 hx2_2 hHeld ⊢
        refine pure_ (i:=0) (N:=some 17) (v:=?_) (a':=?_) #[true,false,false,false,false,false,false,false,false,false] rfl rfl (any_of HT_.out (by kernel_rfl)) (fun _ _ _ h=>h) (Or.inl ⟨by rfl,?_⟩) ?_ ?_
        rotate_left
        ·intro w'
         go_simp
         with_reducible rfl
        rotate_left
        ·simp only [Act.put,s1_,s2_,s3_,i64_w,i32_w]
         rfl
        refine pure_ (i:=1) (N:=some 18) (v:=?_) (a':=?_) #[true,true,false,false,false,false,false,false,false,false] rfl rfl (any_of HT_.out (by kernel_rfl)) (fun _ _ _ h=>h) (Or.inl ⟨by rfl,?_⟩) ?_ ?_
        rotate_left
        ·intro w'
         go_simp
         with_reducible rfl
        rotate_left
        ·simp only [Act.put,s1_,s2_,s3_,i64_w,i32_w]
         rfl
        refine pure_ (i:=2) (N:=some 19) (v:=?_) (a':=?_) #[true,true,true,false,false,false,false,false,false,false] rfl rfl (any_of HT_.out (by kernel_rfl)) (fun _ _ _ h=>h) (Or.inl ⟨by rfl,?_⟩) ?_ ?_
        rotate_left
        ·intro w'
         go_simp
         with_reducible rfl
        rotate_left
        ·simp only [Act.put,s1_,s2_,s3_,i64_w,i32_w]
         rfl
        refine pure_ (i:=4) (N:=some 21) (v:=?_) (a':=?_) #[true,true,true,false,true,false,false,false,false,false] rfl rfl (any_of HT_.out (by kernel_rfl)) (fun _ _ _ h=>h) (Or.inl ⟨by rfl,?_⟩) ?_ ?_
        rotate_left
        ·intro w'
         go_simp
         with_reducible rfl
        rotate_left
        ·simp only [Act.put,s1_,s2_,s3_,i64_w,i32_w]
         rfl
        refine pure_ (i:=5) (N:=some 22) (v:=?_) (a':=?_) #[true,true,true,false,true,true,false,false,false,false] rfl rfl (any_of HT_.out (by kernel_rfl)) (fun _ _ _ h=>h) (Or.inl ⟨by rfl,?_⟩) ?_ ?_
        rotate_left
        ·intro w'
         go_simp
         with_reducible rfl
        rotate_left
        ·simp only [Act.put,s1_,s2_,s3_,i64_w,i32_w]
         rfl
        refine pure_ (i:=6) (N:=some 23) (v:=?_) (a':=?_) #[true,true,true,false,true,true,true,false,false,false] rfl rfl (any_of HT_.out (by kernel_rfl)) (fun _ _ _ h=>h) (Or.inl ⟨by rfl,?_⟩) ?_ ?_
        rotate_left
        ·intro w'
         go_simp
         with_reducible rfl
        rotate_left
        ·simp only [Act.put,s1_,s2_,s3_,i64_w,i32_w]
         rfl
        refine take_ (i:=3) (N:=some 20) (v:=?_) (a':=?_) #[true,true,true,true,true,true,true,false,false,false] rfl rfl (take_ofW HT_.out HW_.out (by kernel_rfl)) (fun _ _ _ h=>h) (Or.inl ⟨by rfl,?_⟩) hHeld ?_ ?_
        rotate_left
        ·rintro w' ⟨s0,s1,s2,s3,s4,s5⟩
         go_simp
         with_reducible rfl
        rotate_left
        ·simp only [Act.put,s1_,s2_,s3_,i64_w,i32_w]
         rfl
        refine take_ (i:=7) (N:=some 24) (v:=?_) (a':=?_) #[true,true,true,true,true,true,true,true,false,false] rfl rfl (take_ofW HT_.out HW_.out (by kernel_rfl)) (fun _ _ _ h=>h) (Or.inl ⟨by rfl,?_⟩) hHeld ?_ ?_
        rotate_left
        ·rintro w' ⟨s0,s1,s2,s3,s4,s5⟩
         go_simp
         with_reducible rfl
        rotate_left
        ·simp only [Act.put,s1_,s2_,s3_,i64_w,i32_w]
         rfl
        refine one_ (i:=8) (N:=some 25) #[true,true,true,true,true,true,true,true,true,false] rfl rfl (one_of HT_.out (by kernel_rfl)) (by decide) (fun K hK=>?_)
        refine goes_ Try.func88 (by kernel_rfl) rfl #[.agg #[.string ((rd_T115 l0 x5_1).f0.f0),.int .i64 ((rd_T115 l0 x5_1).f0.f1),.int .i64 ((rd_T115 l0 x5_1).f1)],.agg #[.string ((rd_T115 l1 x5_1).f0.f0),.int .i64 ((rd_T115 l1 x5_1).f0.f1),.int .i64 ((rd_T115 l1 x5_1).f1)]] (by rfl) rfl rfl lm_ ?_
        with_reducible refine (laws_eqRow.calls ((rd_T115 l0 x5_1).f0.f0) ((rd_T115 l0 x5_1).f0.f1) ((rd_T115 l0 x5_1).f1) ((rd_T115 l1 x5_1).f0.f0) ((rd_T115 l1 x5_1).f0.f1) ((rd_T115 l1 x5_1).f1) false _ A7.out).mono ?_
        rintro e w12 ⟨rfl,hb⟩
        refine ⟨_,rfl,?_⟩
        have n0_:=a0_ (below_step hbw_ hb)
        clear HB
        have HB:=n0_
        clear n0_
        (try clear hb)
        (try clear hb2)
        (try clear hk)
        (try clear hi)
        refine hK.out _ _ ⟨((HB.out.cell (World.block_lt_of_cell? w _ hw1_0)).trans hw1_0),((HB.out.cell (World.block_lt_of_cell? w _ hw1_1)).trans hw1_1),((HB.out.cell (World.block_lt_of_cell? w _ hw1_2)).trans hw1_2),((HB.out.cell (World.block_lt_of_cell? w _ hw2_0)).trans hw2_0),((HB.out.cell (World.block_lt_of_cell? w _ hw2_1)).trans hw2_1),((HB.out.cell (World.block_lt_of_cell? w _ hw2_2)).trans hw2_2)⟩ (fun hHeld=>?_)
        clear hK K
        refine norm_ (a':=?_) ?_ ?_
        rotate_left
        ·show Act.put _ (some 25) _ = _
         simp only [Act.put,s1_,s2_,s3_,i64_w,i32_w]
         rfl
        refine pure_ (i:=9) (N:=some 26) (v:=?_) (a':=?_) #[true,true,true,true,true,true,true,true,true,true] rfl rfl (any_of HT_.out (by kernel_rfl)) (fun _ _ _ h=>h) (Or.inl ⟨by rfl,?_⟩) ?_ ?_
        rotate_left
        ·intro w'
         go_simp
         with_reducible rfl
        rotate_left
        ·simp only [Act.put,s1_,s2_,s3_,i64_w,i32_w]
         rfl
        refine done_ (done_of HT_.out (by kernel_rfl)) ?_
        try go_wp2
        go_ret
        exact ⟨by first | rfl | (simp [errW_none,errW_some] <;> rfl) | (simp [*,errW_none,errW_some] <;> rfl),hbw_⟩
      ·rw [if_neg c6] at H
       exact absurd H (by simp)
     ·rw [if_neg c5] at H
      exact absurd H (by simp)
    ·rw [if_neg c4] at H
     have c4b0 : decide (x5_1 < (l0.length : Int)) = false:=decide_eq_false c4
     clear c4
     obtain rfl:=Option.some.inj H
     go_wp2
     go_ret
     exact ⟨by first | rfl | (simp [errW_none,errW_some] <;> rfl) | (simp [*,errW_none,errW_some] <;> rfl),hbw_⟩
 ·rw [if_neg c3] at H
  have c3b0 : ((l0.length : Int) == (l1.length : Int)) = false:=beq_eq_false_iff_ne.mpr c3
  have c3b1 : ((l0.length : Int) != (l1.length : Int)) = true:=bne_iff_ne.mpr c3
  have c3b2 : (l0.length == l1.length) = false:=by first | simpa using c3 | (simp at c3 ⊢;omega)
  obtain rfl:=Option.some.inj H
  go_enter Try.func34,Try.ntmps34
  go_wp2
  go_ret
  exact ⟨by first | rfl | (simp [errW_none,errW_some] <;> rfl) | (simp [*,errW_none,errW_some] <;> rfl),hbw_⟩
theorem laws_eqRowS_ev (l : List S115) (hl : l.length ≤ 9223372036854775807) : Ev (fun k=>laws_eqRowS.f k l l) true:=by
 have h:=st_loop (fun k (_ : Unit) i=>laws_eqRowS.l0 k l l i) l.length (fun _=>()) true (by
  intro k i hi
  simp only [laws_eqRowS.l0,laws_eqRow.f,laws_eqFrame.f,if_pos,Option.bind_some]
  rw [if_pos (by omega),if_pos (by omega),if_pos (by omega),wrap_succ (i:=(i : Int)) (n:=l.length) (by omega) (by omega) (by omega)]
  rfl) (by
  intro k
  simp only [laws_eqRowS.l0]
  rw [if_neg (by omega)])
 refine Ev.of_mono (laws_eqRowS.mono l l) (K:=l.length + 1) ?_
 unfold laws_eqRowS.f
 rw [if_pos rfl]
 exact h
end Go.Proofs.Ytacgehaipacehaa.P
namespace Go.Proofs.Ytacgehaipacehaa.P
open Go.RowKit Go.Proofs.YtacgehaipacehaaW.PrintWords Go.Proofs.YtacgehaipacehaaW.PrintLast Go.Proofs.YtacgehaipacehaaW.PrintMore
attribute [local go_sem] max2_int min2_int max_two min_two max_three min_three max_four min_four
set_option linter.unusedVariables false
set_option linter.unusedSimpArgs false
def laws_markText.l0 : Nat → Int → ByteArray → Option (ByteArray)
 | 0,_,_=>none
 | k + 1,x0,x3=>if x0 > 0 then ((some (([(wrap64 (48 + (Int.tmod x0 10))) % 256] : List Int) : List Int)).bind fun y1=>(if (strOfNums y1).size + x3.size ≤ 9223372036854775807 then (laws_markText.l0 k (wrap64 (Int.tdiv x0 10)) ((strOfNums y1) ++ x3)) else (none))) else (if 1 + x3.size ≤ 9223372036854775807 then (some ((⟨#[109]⟩ : ByteArray) ++ x3)) else (none))
def laws_markText.f (k : Nat) (a0 : Int) : Option (ByteArray):=if a0 ≤ 0 then (some (⟨#[109,48]⟩ : ByteArray)) else (laws_markText.l0 k a0 (⟨#[]⟩ : ByteArray))
theorem laws_markText.mono_l : ∀ k,(∀ y0 y1,LeO (laws_markText.l0 k y0 y1) (laws_markText.l0 (k + 1) y0 y1))
 | 0=>fun _ _ r h=>by simp [laws_markText.l0] at h
 | k + 1=>by
  have ih0:=laws_markText.mono_l k
  ·intro y0 y1
   unfold laws_markText.l0
   repeat' first
   | (with_reducible exact ih0 _ _)
   | (with_reducible exact LeO.refl _)
   | (with_reducible exact LeO.none _)
   | (with_reducible refine LeO.ite ?_ ?_)
   | (with_reducible refine LeO.bind ?_ (fun _=>?_))
   | exact ih0 _ _
   | exact LeO.none _
   | refine LeO.ite ?_ ?_
   | refine LeO.bind ?_ (fun _=>?_)
theorem laws_markText.mono : ∀ a0 k,LeO (laws_markText.f k a0) (laws_markText.f (k + 1) a0):=by
 intro a0 k
 have ih0:=laws_markText.mono_l k
 unfold laws_markText.f
 repeat' first
   | (with_reducible exact ih0 _ _)
   | (with_reducible exact LeO.refl _)
   | (with_reducible exact LeO.none _)
   | (with_reducible refine LeO.ite ?_ ?_)
   | (with_reducible refine LeO.bind ?_ (fun _=>?_))
   | exact ih0 _ _
   | exact LeO.none _
   | refine LeO.ite ?_ ?_
   | refine LeO.bind ?_ (fun _=>?_)
set_option maxHeartbeats 8000000 in
set_option maxRecDepth 100000 in
theorem laws_markText.calls (k : Nat) (a0 : Int) (r : ByteArray) (w : World) (h : laws_markText.f k a0 = some r) :
  Calls Try.prog 89 #[.int .i64 a0] w fun e w'=>e = .returned (.string r) ∧ Below w.heap.size w w':=by
 have HB:=a0_ (Below.refl w.heap.size w)
 have H : (if a0 ≤ 0 then (some (⟨#[109,48]⟩ : ByteArray)) else (laws_markText.l0 k a0 (⟨#[]⟩ : ByteArray))) = some r:=h
 clear h
 by_cases c2 : a0 ≤ 0
 ·rw [if_pos c2] at H
  have c2b0 : decide (a0 ≤ 0) = true:=decide_eq_true c2
  clear c2
  obtain rfl:=Option.some.inj H
  go_enter Try.func89,Try.ntmps89
  go_wp2
  go_ret
  exact ⟨by first | rfl | (simp [errW_none,errW_some] <;> rfl) | (simp [*,errW_none,errW_some] <;> rfl),hbw_⟩
 ·rw [if_neg c2] at H
  have c2b0 : decide (a0 ≤ 0) = false:=decide_eq_false c2
  clear c2
  have H':=a0_ H
  clear H
  go_enter Try.func89,Try.ntmps89
  go_wp2
  go_loopg [0,3] k (fun kq v0 v3 w'=>∃ (x0_1 : Int) (x3_1 : ByteArray),v0 = .int .i64 x0_1 ∧ v3 = .string x3_1 ∧ Aside0 (laws_markText.l0 kq x0_1 x3_1 = some r) ∧ Aside0 (kq ≤ k) ∧ Aside0 (Below w.heap.size w w'))
  case atStart=>exact ⟨(a0),((⟨#[]⟩ : ByteArray)),(by first | rfl | (simp;done) | (simp [*];done)),(by first | rfl | (simp;done) | (simp [*];done)),H',⟨Nat.le_refl _⟩,⟨hbw_⟩⟩
  case round =>
   clear H'
   try clear c2
   try clear c2b0
   try clear p2
   obtain ⟨x0_1,x3_1,rfl,rfl,HA,HK1,HB⟩:=hrel
   cases gk with
   | zero=>exact absurd HA.out (by simp [laws_markText.l0])
   | succ k1 =>
    have H:=HA.out
    clear HA
    simp only [laws_markText.l0] at H
    by_cases c3 : x0_1 > 0
    ·rw [if_pos c3] at H
     have c3b0 : decide (0 < x0_1) = true:=decide_eq_true c3
     clear c3
     obtain ⟨y1,hy1⟩ : ∃ y_ : List Int,y_ = (([(wrap64 (48 + (Int.tmod x0_1 10))) % 256] : List Int)):=⟨_,rfl⟩
     replace H : (if (strOfNums y1).size + x3_1.size ≤ 9223372036854775807 then (laws_markText.l0 k1 (wrap64 (Int.tdiv x0_1 10)) ((strOfNums y1) ++ x3_1)) else (none)) = some r:=by first | (rw [hy1];with_reducible exact H) | (have H2_:=(Option.bind_some _ _).symm.trans H;rw [hy1];with_reducible exact H2_) | (have H2_:=(Option.bind_some _ _).symm.trans H;with_reducible exact H2_) | with_reducible exact H | (rw [hy1];exact H) | exact H
     have Ny1:=a0_ hy1
     clear hy1
     by_cases c4 : (strOfNums y1).size + x3_1.size ≤ 9223372036854775807
     ·rw [if_pos c4] at H
      have c4b0:=eq_true c4
      have c4b1 : decide ((strOfNums y1).size + x3_1.size ≤ 9223372036854775807) = true:=decide_eq_true c4
      try have c4b2 : (9223372036854775807 < (strOfNums y1).size + x3_1.size) = False:=eq_false (Nat.not_lt.2 c4)
      have H':=a0_ H
      clear H
      go_wp2_with (first | ((with_reducible refine gate_dst (N:=12) rfl ?_);refine Kd.R_lit (Kd.int .u8) _ 5 ?hg (N:=12) ?hd (xs:=([(wrap64 (48 + (Int.tmod x0_1 10))) % 256] : List Int)) (inner:=[.int .u8 ((wrap64 (48 + (Int.tmod x0_1 10))) % 256)]) (ok:=fun _=>True) (okp:=fun _=>True) ?hr ?hp (fun _ hk=>hk) trivial (Below.refl _ _) (Nat.le_refl _) (by simp) ?_;(case hd=>rfl);(case hg=>rfl);(case hr=>first | (go_simp;done) | (go_simp;rfl));(case hp=>exact (Reps.one (show Kd.M (Kd.int .u8) _ _ _ ((wrap64 (48 + (Int.tmod x0_1 10))) % 256) [.int .u8 ((wrap64 (48 + (Int.tmod x0_1 10))) % 256)] from rfl) (Reps.none _ _)));intro v2 w5 ho6 hb hg_ hnew_;clear hg_ hnew_;(first | rw [← Ny1.out] at ho6 | (simp only [Int.reduceToNat] at ho6;rw [← Ny1.out] at ho6));have HO3:=a0_ (Kd.R_lower ho6 (below_size hbw_));replace HB:=a0_ (below_step hbw_ hb);clear hb ho6;have hcv7:=own_string (P:=Try.prog) Try.underlying22 Try.underlying5 Try.underlying9 (Kd.own_of_R HO3.out)))
      go_roundg k1
      case measure=>have:=HK1.out;omega
      case rel=>exact ⟨(wrap64 (Int.tdiv x0_1 10)),((strOfNums y1) ++ x3_1),(by first | rfl | (simp;done) | (simp [*];done)),(by first | rfl | (simp;done) | (simp [*];done)),H',⟨by have:=HK1.out;omega⟩,⟨hbw_⟩⟩
     ·rw [if_neg c4] at H
      exact absurd H (by simp)
    ·rw [if_neg c3] at H
     have c3b0 : decide (0 < x0_1) = false:=decide_eq_false c3
     clear c3
     by_cases c8 : 1 + x3_1.size ≤ 9223372036854775807
     ·rw [if_pos c8] at H
      have c8b0:=eq_true c8
      have c8b1 : decide (1 + x3_1.size ≤ 9223372036854775807) = true:=decide_eq_true c8
      try have c8b2 : (9223372036854775807 < 1 + x3_1.size) = False:=eq_false (Nat.not_lt.2 c8)
      obtain rfl:=Option.some.inj H
      go_wp2
      go_ret
      exact ⟨by first | rfl | (simp [errW_none,errW_some] <;> rfl) | (simp [*,errW_none,errW_some] <;> rfl),hbw_⟩
     ·rw [if_neg c8] at H
      exact absurd H (by simp)
theorem laws_markText_l0 : ∀ (n : Nat) (a : Int) (out : ByteArray),0 ≤ a → a < (n : Int) → out.size + n ≤ 9223372036854775807 → ∃ s,laws_markText.l0 n a out = some s:=by
 intro n
 induction n with
 | zero=>intro a out h0 h;omega
 | succ n ih =>
  intro a out h0 h hs
  simp only [laws_markText.l0]
  by_cases hp : a > 0
  ·rw [if_pos hp]
   simp only [Option.bind_some]
   rw [if_pos (by rw [strOfNums_size];simp;omega)]
   have hd : Int.tdiv a 10 = a / 10:=Int.tdiv_eq_ediv_of_nonneg h0
   rw [hd,wrap_in (by omega) (by omega)]
   exact ih _ _ (by omega) (by omega) (by rw [ByteArray.size_append,strOfNums_size];simp;omega)
  ·rw [if_neg hp,if_pos (by omega)]
   exact ⟨_,rfl⟩
theorem laws_markText_ev (a : Int) (ha : a ≤ 4611686018427387904) : ∃ s,Ev (fun k=>laws_markText.f k a) s:=by
 by_cases h : a ≤ 0
 ·exact ⟨_,Ev.pos h (Ev.const rfl)⟩
 ·obtain ⟨s,hs⟩:=laws_markText_l0 (a.toNat + 1) a ⟨#[]⟩ (by omega) (by omega) (by show 0 + _ ≤ _;omega)
  refine ⟨s,Ev.of_mono (laws_markText.mono a) (K:=a.toNat + 1) ?_⟩
  unfold laws_markText.f
  rw [if_neg h]
  exact hs
end Go.Proofs.Ytacgehaipacehaa.P
namespace Go.Proofs.Ytacgehaipacehaa.P
open Go.RowKit Go.Proofs.YtacgehaipacehaaW.PrintWords Go.Proofs.YtacgehaipacehaaW.PrintLast Go.Proofs.YtacgehaipacehaaW.PrintMore
attribute [local go_sem] max2_int min2_int max_two min_two max_three min_three max_four min_four
set_option linter.unusedVariables false
set_option linter.unusedSimpArgs false
def laws_markRowS.l0 : Nat → List (S115) → Int → Int → Option (Int × (List (S115)))
 | 0,_,_,_=>none
 | k + 1,x0,x1,x5=>if x5 < (x0.length : Int) then ((laws_markText.f k x1).bind fun t1=>(if 0 ≤ x5 then ((some (x0.set (x5 : Int).toNat (⟨⟨t1,(rd_T115 x0 x5).f0.f1⟩,(rd_T115 x0 x5).f1⟩ : S115) : List (S115))).bind fun y2=>((some (y2.set (x5 : Int).toNat (⟨⟨(rd_T115 y2 x5).f0.f0,wrap64 (x1 + 1)⟩,(rd_T115 y2 x5).f1⟩ : S115) : List (S115))).bind fun y3=>(laws_markRowS.l0 k (y3.set (x5 : Int).toNat (⟨(rd_T115 y3 x5).f0,wrap64 ((wrap64 (x1 + 1)) + 1)⟩ : S115)) (wrap64 ((wrap64 ((wrap64 (x1 + 1)) + 1)) + 1)) (wrap64 (x5 + 1))))) else (none))) else (some (x1,x0))
def laws_markRowS.f (k : Nat) (l0 : List (S115)) (a1 : Int) : Option (Int × (List (S115))):=laws_markRowS.l0 k l0 a1 0
theorem laws_markRowS.mono_l : ∀ k,(∀ y0 y1 y2,LeO (laws_markRowS.l0 k y0 y1 y2) (laws_markRowS.l0 (k + 1) y0 y1 y2))
 | 0=>fun _ _ _ r h=>by simp [laws_markRowS.l0] at h
 | k + 1=>by
  have ih0:=laws_markRowS.mono_l k
  ·intro y0 y1 y2
   unfold laws_markRowS.l0
   repeat' first
   | (with_reducible exact ih0 _ _ _)
   | (with_reducible exact laws_markText.mono _ _)
   | (with_reducible exact LeO.refl _)
   | (with_reducible exact LeO.none _)
   | (with_reducible refine LeO.ite ?_ ?_)
   | (with_reducible refine LeO.bind ?_ (fun _=>?_))
   | exact ih0 _ _ _
   | exact laws_markText.mono _ _
   | exact LeO.none _
   | refine LeO.ite ?_ ?_
   | refine LeO.bind ?_ (fun _=>?_)
theorem laws_markRowS.mono : ∀ a0 a1 k,LeO (laws_markRowS.f k a0 a1) (laws_markRowS.f (k + 1) a0 a1):=by
 intro a0 a1 k
 exact laws_markRowS.mono_l k _ _ _
set_option maxHeartbeats 8000000 in
set_option maxRecDepth 100000 in
theorem laws_markRowS.calls (k : Nat) (P0_ : Nat → Prop) (u9000_ : Value) (l0 : List (S115)) (a1 : Int) (r1 : Int) (r2 : List (S115)) (w0 w : World) (hB : Below w0.heap.size w0 w) (ho0 : Kd.R k115 115 w w0.heap.size P0_ u9000_ l0) (h : laws_markRowS.f k l0 a1 = some (r1,r2)) :
  Calls Try.prog 35 #[u9000_,.int .i64 a1] w fun e w'=>e = .returned (.int .i64 r1) ∧ Kd.R k115 115 w' w0.heap.size (fun k_=>(P0_ k_ ∨ w.heap.size ≤ k_)) u9000_ r2 ∧ Below w0.heap.size w0 w' ∧ Kept w w' (fun k_=>P0_ k_):=by
 have HO0:=a0_ (show Kd.R k115 115 w w0.heap.size (fun k_=>(P0_ k_ ∨ w.heap.size ≤ k_)) u9000_ l0 from Kd.R_mono ho0 (fun k_ hk=>(.inl hk)))
 have HK:=a0_ (Kept.refl w (fun k_=>P0_ k_))
 have HB:=a0_ hB
 clear hB
 have H':=a0_ (show laws_markRowS.l0 k l0 a1 0 = some (r1,r2) from h)
 clear h
 go_enter Try.func35,Try.ntmps35
 go_wp2
 go_loopg [1,5] k (fun kq v1 v5 w'=>∃ (x0_1 : List (S115)) (x1_1 : Int) (x5_1 : Int),v1 = .int .i64 x1_1 ∧ v5 = .int .i64 x5_1 ∧ Aside0 (laws_markRowS.l0 kq x0_1 x1_1 x5_1 = some (r1,r2)) ∧ Aside0 (kq ≤ k) ∧ Aside0 (Kd.R k115 115 w' w0.heap.size (fun k_=>(P0_ k_ ∨ w.heap.size ≤ k_)) u9000_ x0_1) ∧ Aside0 (Kept w w' (fun k_=>P0_ k_)) ∧ Aside0 (Below w0.heap.size w0 w'))
 case atStart=>exact ⟨l0,a1,0,rfl,rfl,H',⟨Nat.le_refl _⟩,HO0,HK,HB⟩
 case round =>
  clear H' HO0 HK HB
  obtain ⟨x0_1,x1_1,x5_1,rfl,rfl,HA,HK1,HO_0,HK,HB⟩:=hrel
  cases gk with
  | zero=>exact absurd HA.out (by simp [laws_markRowS.l0])
  | succ k1 =>
   have H:=HA.out
   clear HA
   simp only [laws_markRowS.l0] at H
   by_cases c3 : x5_1 < (x0_1.length : Int)
   ·rw [if_pos c3] at H
    have c3b0 : decide (x5_1 < (x0_1.length : Int)) = true:=decide_eq_true c3
    clear c3
    obtain ⟨t1,A40,H⟩:=Option.bind_eq_some_iff.mp H
    have A4:=a0_ A40
    clear A40
    by_cases c5 : 0 ≤ x5_1
    ·rw [if_pos c5] at H
     have c5b0 : decide (0 ≤ x5_1) = true:=decide_eq_true c5
     clear c5
     obtain ⟨y2,hy2,H⟩:=Option.bind_eq_some_iff.mp H
     have Ny2:=a0_ (Option.some.inj hy2).symm
     clear hy2
     obtain ⟨y3,hy3,H⟩:=Option.bind_eq_some_iff.mp H
     have Ny3:=a0_ (Option.some.inj hy3).symm
     clear hy3
     obtain ⟨y4,hy4⟩ : ∃ y_ : List (S115),y_ = (y3.set (x5_1 : Int).toNat (⟨(rd_T115 y3 x5_1).f0,wrap64 ((wrap64 (x1_1 + 1)) + 1)⟩ : S115)):=⟨_,rfl⟩
     rw [← hy4] at H
     have Ny4:=a0_ hy4
     clear hy4
     have H':=a0_ H
     clear H
     obtain ⟨Ao8,co8,eo8⟩:=Kd.R_slice HO_0.out
     subst eo8
     go_wp2_with (first | ((with_reducible refine gate_callee (f:=89) rfl ?_);refine goesL_ (some 15) rfl rfl Try.func89 (by kernel_rfl) rfl #[.int .i64 x1_1] rfl (by (try simp only [List.map_toArray,List.map_cons,List.map_nil]);first | done | rfl) ?_;(with_reducible refine (laws_markText.calls k1 x1_1 t1 _ A4.out).mono ?_);rintro e w9 ⟨rfl,hb⟩;refine ⟨_,rfl,?_⟩;replace HO_0:=rb_ HO_0 hb;replace HK:=a0_ (Kept.below (S:=(fun k_=>P0_ k_)) (by repeat (first | (with_reducible first | exact HK.out | apply Kept.alloc | apply Kept.drewN | apply Kept.drew) | exact HK.out)) hb);replace HB:=a0_ (below_step hbw_ hb);(try clear hb);have p7 : 0 ≤ (x5_1 : Int):=of_decide_eq_true (by first | (with_reducible assumption) | assumption);have q7 : (x5_1 : Int) < ((x0_1.length : Int) : Int):=of_decide_eq_true (by first | (with_reducible assumption) | assumption);obtain ⟨go6,co6,eo6,gb6,gl6,cl6,HG6⟩:=Kd.R_form HO_0.out (by omega);(first | cases eo6 | (injection eo6 with ea_ en_ ec_;(first | subst ea_ | (injection ea_ with ea_;subst ea_));subst ec_;clear en_));have GB6:=a0_ gb6;clear gb6 gl6 HG6;obtain ⟨ce7,hcl7,hM7,hcc7,hfr7⟩:=Kd.R_elem HO_0.out z115 (x5_1 : Int) p7 q7;obtain rfl:=k115_openM hM7;have HP10:=Kd.R_seg HO_0.out (x5_1 : Int) p7 q7 (seg:=[.string t1]) (j:=0) hcl7 hcc7 (show 1 ≤ 3 from by decide) (x':=(⟨⟨t1,(rd_T115 x0_1 x5_1).f0.f1⟩,(rd_T115 x0_1 x5_1).f1⟩ : S115)) (k115_mkM _ _ _ (⟨⟨t1,(rd_T115 x0_1 x5_1).f0.f1⟩,(rd_T115 x0_1 x5_1).f1⟩ : S115)) (fun _ hk=>hk);have hx7_0 : w9.cell? ⟨go6,(x5_1 : Int).toNat * 3,none⟩ = some (.string ((rd_T115 x0_1 x5_1).f0.f0)):=hcc7 0 _ rfl;have hf7_0 : w9.frozen? ⟨go6,(x5_1 : Int).toNat * 3,none⟩ = false:=hfr7 0;have hx7_1 : w9.cell? ⟨go6,(x5_1 : Int).toNat * 3 + 1,none⟩ = some (.int .i64 ((rd_T115 x0_1 x5_1).f0.f1)):=hcc7 1 _ rfl;have hf7_1 : w9.frozen? ⟨go6,(x5_1 : Int).toNat * 3 + 1,none⟩ = false:=hfr7 1;have hx7_2 : w9.cell? ⟨go6,(x5_1 : Int).toNat * 3 + 2,none⟩ = some (.int .i64 ((rd_T115 x0_1 x5_1).f1)):=hcc7 2 _ rfl;have hf7_2 : w9.frozen? ⟨go6,(x5_1 : Int).toNat * 3 + 2,none⟩ = false:=hfr7 2;clear hcl7 hcc7 hfr7 hM7;replace p7:=eq_true p7;replace q7:=eq_true q7) | ((with_reducible refine gate_store (t:=9) (p:=18) rfl ?_);refine store_event (t:=9) (p:=18) (v:=?vo_w11) (w1:=(w9.setCell ⟨go6,(x5_1 : Int).toNat * 3,none⟩ (.string t1))) ?hg ?ho ?hn ?hr ?_;(case ho=>rfl);(case hg=>rfl);(case hn=>rfl);(case hr=>first | (go_simp;done) | (go_simp;rfl));intro w11 hw;have hg : w9.grownBy w11 (some go6):=(by rw [hw];exact HP10.2);have hp_ : Kd.R k115 115 w11 w0.heap.size (fun k_=>(P0_ k_ ∨ w.heap.size ≤ k_)) (.slice (some ⟨go6,0,none⟩) x0_1.length co8) y2:=(by rw [hw,Ny2.out];exact HP10.1);clear HP10;have n0_:=a0_ (hp_);have n1_:=a0_ ((by rw [hw];exact below_set (HB.out) GB6.out : Below w0.heap.size w0 w11));have n2_:=a0_ (Kept.of_grown (S:=(fun k_=>P0_ k_)) hg (by repeat (first | (with_reducible first | exact HK.out | apply Kept.alloc | apply Kept.drewN | apply Kept.drew) | exact HK.out)) (fun k_ e_=>(HO_0.out.1 k_ e_)));clear HO_0 HB HK;have HO_0:=n0_;have HB:=n1_;have HK:=n2_;clear n0_ n1_ n2_;clear hg hw hp_ hx7_0 hx7_1 hx7_2 hf7_0 hf7_1 hf7_2 p7 q7;have p7 : 0 ≤ (x5_1 : Int):=of_decide_eq_true (by first | (with_reducible assumption) | assumption);have q7 : (x5_1 : Int) < ((x0_1.length : Int) : Int):=of_decide_eq_true (by first | (with_reducible assumption) | assumption);obtain ⟨ce7,hcl7,hM7,hcc7,hfr7⟩:=Kd.R_elem HO_0.out z115 (x5_1 : Int) p7 q7;obtain rfl:=k115_openM hM7;have HP10:=Kd.R_seg HO_0.out (x5_1 : Int) p7 q7 (seg:=[.int .i64 (wrap64 (x1_1 + 1))]) (j:=1) hcl7 hcc7 (show 2 ≤ 3 from by decide) (x':=(⟨⟨(rd_T115 y2 x5_1).f0.f0,wrap64 (x1_1 + 1)⟩,(rd_T115 y2 x5_1).f1⟩ : S115)) (k115_mkM _ _ _ (⟨⟨(rd_T115 y2 x5_1).f0.f0,wrap64 (x1_1 + 1)⟩,(rd_T115 y2 x5_1).f1⟩ : S115)) (fun _ hk=>hk);have hx7_0 : w11.cell? ⟨go6,(x5_1 : Int).toNat * 3,none⟩ = some (.string ((rd_T115 y2 x5_1).f0.f0)):=hcc7 0 _ rfl;have hf7_0 : w11.frozen? ⟨go6,(x5_1 : Int).toNat * 3,none⟩ = false:=hfr7 0;have hx7_1 : w11.cell? ⟨go6,(x5_1 : Int).toNat * 3 + 1,none⟩ = some (.int .i64 ((rd_T115 y2 x5_1).f0.f1)):=hcc7 1 _ rfl;have hf7_1 : w11.frozen? ⟨go6,(x5_1 : Int).toNat * 3 + 1,none⟩ = false:=hfr7 1;have hx7_2 : w11.cell? ⟨go6,(x5_1 : Int).toNat * 3 + 2,none⟩ = some (.int .i64 ((rd_T115 y2 x5_1).f1)):=hcc7 2 _ rfl;have hf7_2 : w11.frozen? ⟨go6,(x5_1 : Int).toNat * 3 + 2,none⟩ = false:=hfr7 2;clear hcl7 hcc7 hfr7 hM7;replace p7:=eq_true p7;replace q7:=eq_true q7) | ((with_reducible refine gate_store (t:=3) (p:=26) rfl ?_);refine store_event (t:=3) (p:=26) (v:=?vo_w13) (w1:=(w11.setCell ⟨go6,(x5_1 : Int).toNat * 3 + 1,none⟩ (.int .i64 (wrap64 (x1_1 + 1))))) ?hg ?ho ?hn ?hr ?_;(case ho=>rfl);(case hg=>rfl);(case hn=>rfl);(case hr=>first | (go_simp;done) | (go_simp;rfl));intro w13 hw;have hg : w11.grownBy w13 (some go6):=(by rw [hw];exact HP10.2);have hp_ : Kd.R k115 115 w13 w0.heap.size (fun k_=>(P0_ k_ ∨ w.heap.size ≤ k_)) (.slice (some ⟨go6,0,none⟩) x0_1.length co8) y3:=(by rw [hw,Ny3.out];exact HP10.1);clear HP10;have n0_:=a0_ (hp_);have n1_:=a0_ ((by rw [hw];exact below_set (HB.out) GB6.out : Below w0.heap.size w0 w13));have n2_:=a0_ (Kept.of_grown (S:=(fun k_=>P0_ k_)) hg (by repeat (first | (with_reducible first | exact HK.out | apply Kept.alloc | apply Kept.drewN | apply Kept.drew) | exact HK.out)) (fun k_ e_=>(HO_0.out.1 k_ e_)));clear HO_0 HB HK;have HO_0:=n0_;have HB:=n1_;have HK:=n2_;clear n0_ n1_ n2_;clear hg hw hp_ hx7_0 hx7_1 hx7_2 hf7_0 hf7_1 hf7_2 p7 q7;have p7 : 0 ≤ (x5_1 : Int):=of_decide_eq_true (by first | (with_reducible assumption) | assumption);have q7 : (x5_1 : Int) < ((x0_1.length : Int) : Int):=of_decide_eq_true (by first | (with_reducible assumption) | assumption);obtain ⟨ce7,hcl7,hM7,hcc7,hfr7⟩:=Kd.R_elem HO_0.out z115 (x5_1 : Int) p7 q7;obtain rfl:=k115_openM hM7;have HP10:=Kd.R_seg HO_0.out (x5_1 : Int) p7 q7 (seg:=[.int .i64 (wrap64 ((wrap64 (x1_1 + 1)) + 1))]) (j:=2) hcl7 hcc7 (show 3 ≤ 3 from by decide) (x':=(⟨(rd_T115 y3 x5_1).f0,wrap64 ((wrap64 (x1_1 + 1)) + 1)⟩ : S115)) (k115_mkM _ _ _ (⟨(rd_T115 y3 x5_1).f0,wrap64 ((wrap64 (x1_1 + 1)) + 1)⟩ : S115)) (fun _ hk=>hk);have hx7_0 : w13.cell? ⟨go6,(x5_1 : Int).toNat * 3,none⟩ = some (.string ((rd_T115 y3 x5_1).f0.f0)):=hcc7 0 _ rfl;have hf7_0 : w13.frozen? ⟨go6,(x5_1 : Int).toNat * 3,none⟩ = false:=hfr7 0;have hx7_1 : w13.cell? ⟨go6,(x5_1 : Int).toNat * 3 + 1,none⟩ = some (.int .i64 ((rd_T115 y3 x5_1).f0.f1)):=hcc7 1 _ rfl;have hf7_1 : w13.frozen? ⟨go6,(x5_1 : Int).toNat * 3 + 1,none⟩ = false:=hfr7 1;have hx7_2 : w13.cell? ⟨go6,(x5_1 : Int).toNat * 3 + 2,none⟩ = some (.int .i64 ((rd_T115 y3 x5_1).f1)):=hcc7 2 _ rfl;have hf7_2 : w13.frozen? ⟨go6,(x5_1 : Int).toNat * 3 + 2,none⟩ = false:=hfr7 2;clear hcl7 hcc7 hfr7 hM7;replace p7:=eq_true p7;replace q7:=eq_true q7) | ((with_reducible refine gate_store (t:=3) (p:=33) rfl ?_);refine store_event (t:=3) (p:=33) (v:=?vo_w15) (w1:=(w13.setCell ⟨go6,(x5_1 : Int).toNat * 3 + 2,none⟩ (.int .i64 (wrap64 ((wrap64 (x1_1 + 1)) + 1))))) ?hg ?ho ?hn ?hr ?_;(case ho=>rfl);(case hg=>rfl);(case hn=>rfl);(case hr=>first | (go_simp;done) | (go_simp;rfl));intro w15 hw;have hg : w13.grownBy w15 (some go6):=(by rw [hw];exact HP10.2);have hp_ : Kd.R k115 115 w15 w0.heap.size (fun k_=>(P0_ k_ ∨ w.heap.size ≤ k_)) (.slice (some ⟨go6,0,none⟩) x0_1.length co8) y4:=(by rw [hw,Ny4.out];exact HP10.1);clear HP10;have n0_:=a0_ (hp_);have n1_:=a0_ ((by rw [hw];exact below_set (HB.out) GB6.out : Below w0.heap.size w0 w15));have n2_:=a0_ (Kept.of_grown (S:=(fun k_=>P0_ k_)) hg (by repeat (first | (with_reducible first | exact HK.out | apply Kept.alloc | apply Kept.drewN | apply Kept.drew) | exact HK.out)) (fun k_ e_=>(HO_0.out.1 k_ e_)));clear HO_0 HB HK;have HO_0:=n0_;have HB:=n1_;have HK:=n2_;clear n0_ n1_ n2_;clear hg hw hp_ hx7_0 hx7_1 hx7_2 hf7_0 hf7_1 hf7_2 p7 q7))
     go_roundg k1
     case measure=>have:=HK1.out;omega
     case rel=>exact ⟨y4,(wrap64 ((wrap64 ((wrap64 (x1_1 + 1)) + 1)) + 1)),(wrap64 (x5_1 + 1)),(by first | rfl | (simp;done) | (simp [*];done)),(by first | rfl | (simp;done) | (simp [*];done)),H',⟨by have:=HK1.out;omega⟩,HO_0,HK,HB⟩
    ·rw [if_neg c5] at H
     exact absurd H (by simp)
   ·rw [if_neg c3] at H
    have c3b0 : decide (x5_1 < (x0_1.length : Int)) = false:=decide_eq_false c3
    clear c3
    simp only [Option.some.injEq,Prod.mk.injEq] at H
    obtain ⟨rfl,rfl⟩:=H
    obtain ⟨Ao14,co14,eo14⟩:=Kd.R_slice HO_0.out
    subst eo14
    go_wp2
    go_ret
    exact ⟨rfl,HO_0.out,HB.out,HK.out⟩
theorem laws_markRowS_ev (l : List S115) (a : Int) (h0 : 0 ≤ a) (hl : a + 3 * l.length ≤ 4611686018427387904) : ∃ l',Ev (fun k=>laws_markRowS.f k l a) (a + 3 * l.length,l'):=by
 have key : ∀ d i (a : Int) (l : List S115),0 ≤ a → i + d = l.length → l.length ≤ 4611686018427387904 → a + 3 * d ≤ 4611686018427387904 → ∃ l',Ev (fun k=>laws_markRowS.l0 k l a (i : Int)) (a + 3 * d,l'):=by
  intro d
  induction d with
  | zero =>
   intro i a l h0 hi hll ha
   refine ⟨l,Ev.succ ?_⟩
   simp only [laws_markRowS.l0]
   exact Ev.neg (by omega) (Ev.const (by simp))
  | succ d ih =>
   intro i a l h0 hi hll ha
   obtain ⟨s,hs⟩:=laws_markText_ev a (by omega)
   have hgo : ∀ l2 : List S115,l2.length = l.length → ∃ l',Ev (fun k=>laws_markRowS.l0 k l2 (a + 1 + 1 + 1) ((i + 1 : Nat) : Int)) (a + 3 * ((d + 1 : Nat) : Int),l'):=by
    intro l2 h2
    obtain ⟨l',h'⟩:=ih (i + 1) (a + 1 + 1 + 1) l2 (by omega) (by omega) (by omega) (by omega)
    rw [show a + 1 + 1 + 1 + 3 * (d : Int) = a + 3 * ((d + 1 : Nat) : Int) by omega] at h'
    exact ⟨l',h'⟩
   have hw1 : wrap64 (a + 1) = a + 1:=wrap_in (by omega) (by omega)
   have hw2 : wrap64 (a + 1 + 1) = a + 1 + 1:=wrap_in (by omega) (by omega)
   have hw3 : wrap64 (a + 1 + 1 + 1) = a + 1 + 1 + 1:=wrap_in (by omega) (by omega)
   have hsx : ∀ l2 : List S115,l2.length = l.length → ∃ l',Ev (fun k=>(some l2).bind fun l3=>laws_markRowS.l0 k l3 (a + 1 + 1 + 1) ((i + 1 : Nat) : Int)) (a + 3 * ((d + 1 : Nat) : Int),l'):=fun l2 h2=>by
    obtain ⟨l',h'⟩:=hgo l2 h2
    exact ⟨l',Ev.bind (Ev.const rfl) h'⟩
   obtain ⟨l',h'⟩:=hgo (((l.set ((i : Int)).toNat (⟨⟨s,(rd_T115 l i).f0.f1⟩,(rd_T115 l i).f1⟩ : S115)).set ((i : Int)).toNat (⟨⟨(rd_T115 (l.set ((i : Int)).toNat (⟨⟨s,(rd_T115 l i).f0.f1⟩,(rd_T115 l i).f1⟩ : S115)) i).f0.f0,a + 1⟩,(rd_T115 (l.set ((i : Int)).toNat (⟨⟨s,(rd_T115 l i).f0.f1⟩,(rd_T115 l i).f1⟩ : S115)) i).f1⟩ : S115)).set ((i : Int)).toNat _) (by simp)
   refine ⟨l',Ev.succ ?_⟩
   simp only [laws_markRowS.l0]
   rw [hw1,hw2,hw3,wrap_succ (i:=(i : Int)) (n:=l.length) (by omega) (by omega) (by omega)]
   exact Ev.pos (by omega) (Ev.bind hs (Ev.pos (by omega) (Ev.bind (Ev.const rfl) (Ev.bind (Ev.const rfl) h'))))
 obtain ⟨l',h⟩:=key l.length 0 a l h0 (by omega) (by omega) hl
 exact ⟨l',h⟩
end Go.Proofs.Ytacgehaipacehaa.P
namespace Go.Proofs.Ytacgehaipacehaa.P
open Go.RowKit Go.Proofs.YtacgehaipacehaaW.PrintWords Go.Proofs.YtacgehaipacehaaW.PrintLast Go.Proofs.YtacgehaipacehaaW.PrintMore
attribute [local go_sem] max2_int min2_int max_two min_two max_three min_three max_four min_four
set_option linter.unusedVariables false
set_option linter.unusedSimpArgs false
def laws_markFrameS.l0 : Nat → List (S113) → Int → Int → Option (Int × (List (S113)))
 | 0,_,_,_=>none
 | k + 1,x0,x1,x5=>if x5 < (x0.length : Int) then ((laws_markText.f k x1).bind fun t1=>(if 0 ≤ x5 then ((some (x0.set (x5 : Int).toNat (⟨t1,(rd_T113 x0 x5).f1⟩ : S113) : List (S113))).bind fun y2=>(laws_markFrameS.l0 k (y2.set (x5 : Int).toNat (⟨(rd_T113 y2 x5).f0,wrap64 (x1 + 1)⟩ : S113)) (wrap64 ((wrap64 (x1 + 1)) + 1)) (wrap64 (x5 + 1)))) else (none))) else (some (x1,x0))
def laws_markFrameS.f (k : Nat) (l0 : List (S113)) (a1 : Int) : Option (Int × (List (S113))):=laws_markFrameS.l0 k l0 a1 0
theorem laws_markFrameS.mono_l : ∀ k,(∀ y0 y1 y2,LeO (laws_markFrameS.l0 k y0 y1 y2) (laws_markFrameS.l0 (k + 1) y0 y1 y2))
 | 0=>fun _ _ _ r h=>by simp [laws_markFrameS.l0] at h
 | k + 1=>by
  have ih0:=laws_markFrameS.mono_l k
  ·intro y0 y1 y2
   unfold laws_markFrameS.l0
   repeat' first
   | (with_reducible exact ih0 _ _ _)
   | (with_reducible exact laws_markText.mono _ _)
   | (with_reducible exact LeO.refl _)
   | (with_reducible exact LeO.none _)
   | (with_reducible refine LeO.ite ?_ ?_)
   | (with_reducible refine LeO.bind ?_ (fun _=>?_))
   | exact ih0 _ _ _
   | exact laws_markText.mono _ _
   | exact LeO.none _
   | refine LeO.ite ?_ ?_
   | refine LeO.bind ?_ (fun _=>?_)
theorem laws_markFrameS.mono : ∀ a0 a1 k,LeO (laws_markFrameS.f k a0 a1) (laws_markFrameS.f (k + 1) a0 a1):=by
 intro a0 a1 k
 have ih0:=laws_markFrameS.mono_l k
 unfold laws_markFrameS.f
 repeat' first
   | (with_reducible exact ih0 _ _ _)
   | (with_reducible exact laws_markText.mono _ _)
   | (with_reducible exact LeO.refl _)
   | (with_reducible exact LeO.none _)
   | (with_reducible refine LeO.ite ?_ ?_)
   | (with_reducible refine LeO.bind ?_ (fun _=>?_))
   | exact ih0 _ _ _
   | exact laws_markText.mono _ _
   | exact LeO.none _
   | refine LeO.ite ?_ ?_
   | refine LeO.bind ?_ (fun _=>?_)
set_option maxHeartbeats 8000000 in
set_option maxRecDepth 100000 in
theorem laws_markFrameS.calls (k : Nat) (P0_ : Nat → Prop) (u9000_ : Value) (l0 : List (S113)) (a1 : Int) (r1 : Int) (r2 : List (S113)) (w0 w : World) (hB : Below w0.heap.size w0 w) (ho0 : Kd.R k113 113 w w0.heap.size P0_ u9000_ l0) (h : laws_markFrameS.f k l0 a1 = some (r1,r2)) :
  Calls Try.prog 36 #[u9000_,.int .i64 a1] w fun e w'=>e = .returned (.int .i64 r1) ∧ Kd.R k113 113 w' w0.heap.size (fun k_=>(P0_ k_ ∨ w.heap.size ≤ k_)) u9000_ r2 ∧ Below w0.heap.size w0 w' ∧ Kept w w' (fun k_=>P0_ k_):=by
 have HO0:=a0_ (show Kd.R k113 113 w w0.heap.size (fun k_=>(P0_ k_ ∨ w.heap.size ≤ k_)) u9000_ l0 from Kd.R_mono ho0 (fun k_ hk=>(.inl hk)))
 have HK:=a0_ (Kept.refl w (fun k_=>P0_ k_))
 have HW0:=a0_ hB.size
 have HB:=a0_ hB
 clear hB
 have H : (laws_markFrameS.l0 k l0 a1 0) = some (r1,r2):=h
 clear h
 have H':=a0_ H
 clear H
 go_enter Try.func36,Try.ntmps36
 go_wp2
 go_loopg [1,5] k (fun kq v1 v5 w'=>∃ (x0_1 : List (S113)) (x1_1 : Int) (x5_1 : Int),v1 = .int .i64 x1_1 ∧ v5 = .int .i64 x5_1 ∧ Aside0 (laws_markFrameS.l0 kq x0_1 x1_1 x5_1 = some (r1,r2)) ∧ Aside0 (kq ≤ k) ∧ Aside0 (Kd.R k113 113 w' w0.heap.size (fun k_=>(P0_ k_ ∨ w.heap.size ≤ k_)) u9000_ x0_1) ∧ Aside0 (Kept w w' (fun k_=>P0_ k_)) ∧ Aside0 (Below w0.heap.size w0 w'))
 case atStart=>exact ⟨(l0),(a1),(0),(by first | rfl | (simp;done) | (simp [*];done)),(by first | rfl | (simp;done) | (simp [*];done)),H',⟨Nat.le_refl _⟩,⟨by (with_reducible repeat (first | apply Kd.R_alloc | apply Kd.R_drewN | apply Kd.R_drew));exact HO0.out⟩,⟨by repeat (first | (with_reducible first | exact HK.out | apply Kept.alloc | apply Kept.drewN | apply Kept.drew) | exact HK.out)⟩,⟨hbw_⟩⟩
 case round =>
  clear H'
  try clear p2
  obtain ⟨x0_1,x1_1,x5_1,rfl,rfl,HA,HK1,HO_0,HK,HB⟩:=hrel
  cases gk with
  | zero=>exact absurd HA.out (by simp [laws_markFrameS.l0])
  | succ k1 =>
   have H:=HA.out
   clear HA
   simp only [laws_markFrameS.l0] at H
   by_cases c3 : x5_1 < (x0_1.length : Int)
   ·rw [if_pos c3] at H
    have c3b0 : decide (x5_1 < (x0_1.length : Int)) = true:=decide_eq_true c3
    clear c3
    replace H:=Option.bind_eq_some_iff.mp H
    obtain ⟨t1,A40,H⟩:=H
    try dsimp only at H
    have A4:=a0_ A40
    clear A40
    by_cases c5 : 0 ≤ x5_1
    ·rw [if_pos c5] at H
     have c5b0 : decide (0 ≤ x5_1) = true:=decide_eq_true c5
     clear c5
     obtain ⟨y2,hy2⟩ : ∃ y_ : List (S113),y_ = (x0_1.set (x5_1 : Int).toNat (⟨t1,(rd_T113 x0_1 x5_1).f1⟩ : S113)):=⟨_,rfl⟩
     replace H : (laws_markFrameS.l0 k1 (y2.set (x5_1 : Int).toNat (⟨(rd_T113 y2 x5_1).f0,wrap64 (x1_1 + 1)⟩ : S113)) (wrap64 ((wrap64 (x1_1 + 1)) + 1)) (wrap64 (x5_1 + 1))) = some (r1,r2):=by first | (rw [hy2];with_reducible exact H) | (have H2_:=(Option.bind_some _ _).symm.trans H;rw [hy2];with_reducible exact H2_) | (have H2_:=(Option.bind_some _ _).symm.trans H;with_reducible exact H2_) | with_reducible exact H | (rw [hy2];exact H) | exact H
     have Ny2:=a0_ hy2
     clear hy2
     obtain ⟨y3,hy3⟩ : ∃ y_ : List (S113),y_ = (y2.set (x5_1 : Int).toNat (⟨(rd_T113 y2 x5_1).f0,wrap64 (x1_1 + 1)⟩ : S113)):=⟨_,rfl⟩
     replace H : (laws_markFrameS.l0 k1 y3 (wrap64 ((wrap64 (x1_1 + 1)) + 1)) (wrap64 (x5_1 + 1))) = some (r1,r2):=by first | (rw [hy3];with_reducible exact H) | (have H2_:=(Option.bind_some _ _).symm.trans H;rw [hy3];with_reducible exact H2_) | (have H2_:=(Option.bind_some _ _).symm.trans H;with_reducible exact H2_) | with_reducible exact H | (rw [hy3];exact H) | exact H
     have Ny3:=a0_ hy3
     clear hy3
     have H':=a0_ H
     clear H
     obtain ⟨Ao8,co8,eo8⟩:=Kd.R_slice HO_0.out
     subst eo8
     go_wp2_with (first | ((with_reducible refine gate_callee (f:=89) rfl ?_);refine goesL_ (some 15) rfl rfl Try.func89 (by kernel_rfl) rfl #[.int .i64 x1_1] rfl lm_ ?_;(with_reducible refine (laws_markText.calls k1 x1_1 t1 _ A4.out).mono ?_);rintro e w9 ⟨rfl,hb⟩;refine ⟨_,rfl,?_⟩;replace HO_0:=rb_ HO_0 hb;replace HK:=a0_ (Kept.below (S:=(fun k_=>P0_ k_)) (by repeat (first | (with_reducible first | exact HK.out | apply Kept.alloc | apply Kept.drewN | apply Kept.drew) | exact HK.out)) hb);replace HB:=a0_ (below_step hbw_ hb);(try clear hb);have p6 : 0 ≤ (x5_1 : Int):=of_decide_eq_true (by first | (with_reducible assumption) | assumption);have q6 : (x5_1 : Int) < ((x0_1.length : Int) : Int):=of_decide_eq_true (by first | (with_reducible assumption) | assumption);obtain ⟨go6,co6,eo6,gb6,gl6,cl6,HG6⟩:=Kd.R_form HO_0.out (by omega);(first | cases eo6 | (injection eo6 with ea_ en_ ec_;(first | subst ea_ | (injection ea_ with ea_;subst ea_));subst ec_;clear en_));have GB6:=a0_ gb6;have GG6:=a0_ HG6;clear gb6 gl6 HG6;have HMgo6:=a0_ (show (P0_ go6 ∨ w.heap.size ≤ go6) from (HO_0.out.1 _ rfl));obtain ⟨ce6,hcl6,hM6,hcc6,hfr6⟩:=Kd.R_elem HO_0.out z113 (x5_1 : Int) p6 q6;obtain rfl:=k113_openM hM6;have hx6_0 : w9.cell? ⟨go6,(x5_1 : Int).toNat * 2,none⟩ = some (.string ((rd_T113 x0_1 x5_1).f0)):=hcc6 0 _ rfl;have hx6_1 : w9.cell? ⟨go6,(x5_1 : Int).toNat * 2 + 1,none⟩ = some (.int .i64 ((rd_T113 x0_1 x5_1).f1)):=hcc6 1 _ rfl;have hf6_0 : w9.frozen? ⟨go6,(x5_1 : Int).toNat * 2,none⟩ = false:=hfr6 0;have hf6_1 : w9.frozen? ⟨go6,(x5_1 : Int).toNat * 2 + 1,none⟩ = false:=hfr6 1;clear hcl6 hcc6 hfr6 hM6;replace p6:=eq_true p6;replace q6:=eq_true q6;have HX10:=a0_ (show Kd.R k113 113 w9 w0.heap.size (fun k_=>(P0_ k_ ∨ w.heap.size ≤ k_)) (.slice (some ⟨go6,0,none⟩) x0_1.length co8) x0_1 from (rr_ HO_0.out));obtain ⟨ce10,hcl10,hM10,hcc10,hfr10⟩:=Kd.R_elem HX10.out z113 (x5_1 : Int) (of_decide_eq_true (by first | (with_reducible assumption) | assumption)) (by have h_ : (x5_1 : Int) < ((x0_1.length : Int) : Int):=of_decide_eq_true (by first | (with_reducible assumption) | assumption);first | exact h_ | (have e_:=(Kd.R_reads' HO_0.out).1;omega) | simpa using h_);obtain rfl:=k113_openM hM10;have HP10:=Kd.R_seg HX10.out (x5_1 : Int) (of_decide_eq_true (by first | (with_reducible assumption) | assumption)) (by have h_ : (x5_1 : Int) < ((x0_1.length : Int) : Int):=of_decide_eq_true (by first | (with_reducible assumption) | assumption);first | exact h_ | (have e_:=(Kd.R_reads' HO_0.out).1;omega) | simpa using h_) (seg:=[.string t1]) (j:=0) hcl10 hcc10 (show 1 ≤ 2 from by decide) (x':=(⟨t1,(rd_T113 x0_1 x5_1).f1⟩ : S113)) (k113_mkM _ _ _ (⟨t1,(rd_T113 x0_1 x5_1).f1⟩ : S113) ) (fun _ hk=>hk);have hx10_0:=hcc10 0 _ rfl;(try simp only [show (k113).sz = 2 from rfl,Nat.mul_one,Nat.add_zero] at hx10_0);have hf10_0:=hfr10 0;(try simp only [show (k113).sz = 2 from rfl,Nat.mul_one,Nat.add_zero] at hf10_0);clear hcl10 hcc10 hfr10 hM10) | ((with_reducible refine gate_store (t:=9) (p:=17) rfl ?_);refine store_event (t:=9) (p:=17) (v:=?vo_w11) (w1:=(w9.setCell ⟨go6,(x5_1 : Int).toNat * 2,none⟩ (.string t1))) ?hg ?ho ?hn ?hr ?_;(case ho=>rfl);(case hg=>rfl);(case hn=>rfl);(case hr=>first | (go_simp;done) | (go_simp;rfl));intro w11 hw;have hg : w9.grownBy w11 (some go6):=(by rw [hw];exact HP10.2);have hp_ : Kd.R k113 113 w11 w0.heap.size (fun k_=>(P0_ k_ ∨ w.heap.size ≤ k_)) (.slice (some ⟨go6,0,none⟩) x0_1.length co8) y2:=(by rw [hw,Ny2.out];exact HP10.1);clear HP10;have n0_:=a0_ (hp_);have n1_:=a0_ ((by rw [hw];exact below_set (HB.out) GB6.out : Below w0.heap.size w0 w11));have n2_:=a0_ (Kept.of_grown (S:=(fun k_=>P0_ k_)) hg (by repeat (first | (with_reducible first | exact HK.out | apply Kept.alloc | apply Kept.drewN | apply Kept.drew) | exact HK.out)) (fun k_ e_=>(HO_0.out.1 k_ e_)));clear HO_0 HB HK;have HO_0:=n0_;have HB:=n1_;have HK:=n2_;clear n0_ n1_ n2_;clear hg hw hp_;have p7 : 0 ≤ (x5_1 : Int):=of_decide_eq_true (by first | (with_reducible assumption) | assumption);have q7 : (x5_1 : Int) < ((x0_1.length : Int) : Int):=of_decide_eq_true (by first | (with_reducible assumption) | assumption);obtain ⟨ce7,hcl7,hM7,hcc7,hfr7⟩:=Kd.R_elem HO_0.out z113 (x5_1 : Int) p7 q7;obtain rfl:=k113_openM hM7;have hx7_0 : w11.cell? ⟨go6,(x5_1 : Int).toNat * 2,none⟩ = some (.string ((rd_T113 y2 x5_1).f0)):=hcc7 0 _ rfl;have hx7_1 : w11.cell? ⟨go6,(x5_1 : Int).toNat * 2 + 1,none⟩ = some (.int .i64 ((rd_T113 y2 x5_1).f1)):=hcc7 1 _ rfl;have hf7_0 : w11.frozen? ⟨go6,(x5_1 : Int).toNat * 2,none⟩ = false:=hfr7 0;have hf7_1 : w11.frozen? ⟨go6,(x5_1 : Int).toNat * 2 + 1,none⟩ = false:=hfr7 1;clear hcl7 hcc7 hfr7 hM7;replace p7:=eq_true p7;replace q7:=eq_true q7;have HX12:=a0_ (show Kd.R k113 113 w11 w0.heap.size (fun k_=>(P0_ k_ ∨ w.heap.size ≤ k_)) (.slice (some ⟨go6,0,none⟩) x0_1.length co8) y2 from (rr_ HO_0.out));obtain ⟨ce12,hcl12,hM12,hcc12,hfr12⟩:=Kd.R_elem HX12.out z113 (x5_1 : Int) (of_decide_eq_true (by first | (with_reducible assumption) | assumption)) (by have h_ : (x5_1 : Int) < ((x0_1.length : Int) : Int):=of_decide_eq_true (by first | (with_reducible assumption) | assumption);first | exact h_ | (have e_:=(Kd.R_reads' HO_0.out).1;omega) | simpa using h_);obtain rfl:=k113_openM hM12;have HP12:=Kd.R_seg HX12.out (x5_1 : Int) (of_decide_eq_true (by first | (with_reducible assumption) | assumption)) (by have h_ : (x5_1 : Int) < ((x0_1.length : Int) : Int):=of_decide_eq_true (by first | (with_reducible assumption) | assumption);first | exact h_ | (have e_:=(Kd.R_reads' HO_0.out).1;omega) | simpa using h_) (seg:=[.int .i64 (wrap64 (x1_1 + 1))]) (j:=1) hcl12 hcc12 (show 2 ≤ 2 from by decide) (x':=(⟨(rd_T113 y2 x5_1).f0,wrap64 (x1_1 + 1)⟩ : S113)) (k113_mkM _ _ _ (⟨(rd_T113 y2 x5_1).f0,wrap64 (x1_1 + 1)⟩ : S113) ) (fun _ hk=>hk);have hx12_1:=hcc12 1 _ rfl;(try simp only [show (k113).sz = 2 from rfl,Nat.mul_one,Nat.add_zero] at hx12_1);have hf12_1:=hfr12 1;(try simp only [show (k113).sz = 2 from rfl,Nat.mul_one,Nat.add_zero] at hf12_1);clear hcl12 hcc12 hfr12 hM12) | ((with_reducible refine gate_store (t:=3) (p:=24) rfl ?_);refine store_event (t:=3) (p:=24) (v:=?vo_w13) (w1:=(w11.setCell ⟨go6,(x5_1 : Int).toNat * 2 + 1,none⟩ (.int .i64 (wrap64 (x1_1 + 1))))) ?hg ?ho ?hn ?hr ?_;(case ho=>rfl);(case hg=>rfl);(case hn=>rfl);(case hr=>first | (go_simp;done) | (go_simp;rfl));intro w13 hw;have hg : w11.grownBy w13 (some go6):=(by rw [hw];exact HP12.2);have hp_ : Kd.R k113 113 w13 w0.heap.size (fun k_=>(P0_ k_ ∨ w.heap.size ≤ k_)) (.slice (some ⟨go6,0,none⟩) x0_1.length co8) y3:=(by rw [hw,Ny3.out];exact HP12.1);clear HP12;have n0_:=a0_ (hp_);have n1_:=a0_ ((by rw [hw];exact below_set (HB.out) GB6.out : Below w0.heap.size w0 w13));have n2_:=a0_ (Kept.of_grown (S:=(fun k_=>P0_ k_)) hg (by repeat (first | (with_reducible first | exact HK.out | apply Kept.alloc | apply Kept.drewN | apply Kept.drew) | exact HK.out)) (fun k_ e_=>(HO_0.out.1 k_ e_)));clear HO_0 HB HK;have HO_0:=n0_;have HB:=n1_;have HK:=n2_;clear n0_ n1_ n2_;clear hg hw hp_))
     go_roundg k1
     case measure=>have:=HK1.out;omega
     case rel=>exact ⟨(y3),(wrap64 ((wrap64 (x1_1 + 1)) + 1)),(wrap64 (x5_1 + 1)),(by first | rfl | (simp;done) | (simp [*];done)),(by first | rfl | (simp;done) | (simp [*];done)),H',⟨by have:=HK1.out;omega⟩,⟨by (with_reducible repeat (first | apply Kd.R_alloc | apply Kd.R_drewN | apply Kd.R_drew));exact HO_0.out⟩,⟨by repeat (first | (with_reducible first | exact HK.out | apply Kept.alloc | apply Kept.drewN | apply Kept.drew) | exact HK.out)⟩,⟨hbw_⟩⟩
    ·rw [if_neg c5] at H
     exact absurd H (by simp)
   ·rw [if_neg c3] at H
    have c3b0 : decide (x5_1 < (x0_1.length : Int)) = false:=decide_eq_false c3
    clear c3
    simp only [Option.some.injEq,Prod.mk.injEq] at H
    obtain ⟨rfl,rfl⟩:=H
    obtain ⟨Ao14,co14,eo14⟩:=Kd.R_slice HO_0.out
    subst eo14
    go_wp2
    go_ret
    exact ⟨by first | rfl | (simp [errW_none,errW_some] <;> rfl) | (simp [*,errW_none,errW_some] <;> rfl),by (with_reducible repeat (first | apply Kd.R_alloc | apply Kd.R_drewN | apply Kd.R_drew));exact HO_0.out,hbw_,by repeat (first | (with_reducible first | exact HK.out | apply Kept.alloc | apply Kept.drewN | apply Kept.drew) | exact HK.out)⟩
end Go.Proofs.Ytacgehaipacehaa.P
