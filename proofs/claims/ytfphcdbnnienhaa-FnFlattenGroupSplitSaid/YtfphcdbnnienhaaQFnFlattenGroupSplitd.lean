/- Texts under the proof of FnFlattenGroupSplit: helper words, the functions' contracts and the plain laws. No condition. -/
import Derived.Test.YtfphcdbnnienhaaQFnFlattenGroupSplita
import Derived.Test.YtfphcdbnnienhaaQFnFlattenGroupSplitc
namespace Go.Proofs.Ytfphcdbnnienhaa.P
open Go.RowKit Go.Proofs.YtfphcdbnnienhaaW.PrintWords Go.Proofs.YtfphcdbnnienhaaW.PrintLast Go.Proofs.YtfphcdbnnienhaaW.PrintMore
attribute [local go_sem] max2_int min2_int max_two min_two max_three min_three max_four min_four
set_option linter.unusedVariables false
set_option linter.unusedSimpArgs false
def spec_split.l0 : Nat → List (S47) → Int → List (S47) → List (S47) → Int → List (S85) → Option ((List (S47)) × (List (S47)))
 | 0,_,_,_,_,_,_=>none
 | k + 1,x1,x2,x8,x9,x10,x2000=>if x10 < (x1.length : Int) then ((spec_keeps.f k x2000 x1 x10 x2 true).bind fun t8=>(if t8 = true then (if 0 ≤ x10 then (if x8.length < 4398046511104 then ((some (x8 ++ [(⟨(rd_T47 x1 x10).f0,(rd_T47 x1 x10).f1,(rd_T47 x1 x10).f2,(rd_T47 x1 x10).f3⟩ : S47)] : List (S47))).bind fun y10=>((spec_keeps.f k x2000 x1 x10 x2 false).bind fun t13=>(if t13 = true then (if x9.length < 4398046511104 then (spec_split.l0 k x1 x2 y10 (x9 ++ [(⟨(rd_T47 x1 x10).f0,(rd_T47 x1 x10).f1,(rd_T47 x1 x10).f2,(rd_T47 x1 x10).f3⟩ : S47)]) (wrap64 (x10 + 1)) x2000) else (none)) else (spec_split.l0 k x1 x2 y10 x9 (wrap64 (x10 + 1)) x2000)))) else (none)) else (none)) else ((spec_keeps.f k x2000 x1 x10 x2 false).bind fun t18=>(if t18 = true then (if 0 ≤ x10 then (if x9.length < 4398046511104 then (spec_split.l0 k x1 x2 x8 (x9 ++ [(⟨(rd_T47 x1 x10).f0,(rd_T47 x1 x10).f1,(rd_T47 x1 x10).f2,(rd_T47 x1 x10).f3⟩ : S47)]) (wrap64 (x10 + 1)) x2000) else (none)) else (none)) else (spec_split.l0 k x1 x2 x8 x9 (wrap64 (x10 + 1)) x2000))))) else (some (x8,x9))
def spec_split.f (k : Nat) (l0_0 : List (S85)) (l1 : List (S47)) (a2 : Int) : Option ((List (S47)) × (List (S47))):=spec_split.l0 k l1 a2 (([] : List (S47))) (([] : List (S47))) 0 l0_0
theorem spec_split.mono_l : ∀ k,(∀ y0 y1 y2 y3 y4 y5,LeO (spec_split.l0 k y0 y1 y2 y3 y4 y5) (spec_split.l0 (k + 1) y0 y1 y2 y3 y4 y5))
 | 0=>fun _ _ _ _ _ _ r h=>by simp [spec_split.l0] at h
 | k + 1=>by
  have ih0:=spec_split.mono_l k
  ·intro y0 y1 y2 y3 y4 y5
   unfold spec_split.l0
   repeat' first
   | (with_reducible exact ih0 _ _ _ _ _ _)
   | (with_reducible exact spec_keeps.mono _ _ _ _ _ _)
   | (with_reducible exact LeO.refl _)
   | (with_reducible exact LeO.none _)
   | (with_reducible refine LeO.ite ?_ ?_)
   | (with_reducible refine LeO.bind ?_ (fun _=>?_))
   | exact ih0 _ _ _ _ _ _
   | exact spec_keeps.mono _ _ _ _ _ _
   | exact LeO.none _
   | refine LeO.ite ?_ ?_
   | refine LeO.bind ?_ (fun _=>?_)
theorem spec_split.mono : ∀ a0 a1 a2 k,LeO (spec_split.f k a0 a1 a2) (spec_split.f (k + 1) a0 a1 a2):=by
 intro a0 a1 a2 k
 have ih0:=spec_split.mono_l k
 unfold spec_split.f
 repeat' first
   | (with_reducible exact ih0 _ _ _ _ _ _)
   | (with_reducible exact spec_keeps.mono _ _ _ _ _ _)
   | (with_reducible exact LeO.refl _)
   | (with_reducible exact LeO.none _)
   | (with_reducible refine LeO.ite ?_ ?_)
   | (with_reducible refine LeO.bind ?_ (fun _=>?_))
   | exact ih0 _ _ _ _ _ _
   | exact spec_keeps.mono _ _ _ _ _ _
   | exact LeO.none _
   | refine LeO.ite ?_ ?_
   | refine LeO.bind ?_ (fun _=>?_)
set_option maxHeartbeats 8000000 in
set_option maxRecDepth 100000 in
theorem spec_split.calls (k : Nat) (A0_0 : Option Addr) (c0_0 : Nat) (l0_0 : List (S85)) (A1 : Option Addr) (c1 : Nat) (l1 : List (S47)) (a2 : Int) (r1 : List (S47)) (r2 : List (S47)) (w : World) (hr0_0 : Kd.C k85 w A0_0 l0_0.length l0_0) (hc0_0 : l0_0.length ≤ c0_0) (hr1 : Kd.C k47 w A1 l1.length l1) (hc1 : l1.length ≤ c1) (h : spec_split.f k l0_0 l1 a2 = some (r1,r2)) :
  Calls Try.prog 49 #[.agg #[.slice A0_0 l0_0.length c0_0],.slice A1 l1.length c1,.int .i64 a2] w fun e w'=>∃ v0_ v1_ : Value,e = .returned (.tuple #[v0_,v1_]) ∧ Kd.R k47 47 w' w.heap.size (fun k_=>some k_ ≠ (v1_ : Value).ownBlock) v0_ r1 ∧ Kd.R k47 47 w' w.heap.size (fun k_=>some k_ ≠ (v0_ : Value).ownBlock) v1_ r2 ∧ Below w.heap.size w w':=by
 have hu25:=Try.underlying25
 have hu47:=Try.underlying47
 have HR0_0:=a0_ hr0_0
 have HC0_0:=a0_ hc0_0
 clear hr0_0 hc0_0
 have HR1:=a0_ hr1
 have HC1:=a0_ hc1
 clear hr1 hc1
 have HB:=a0_ (Below.refl w.heap.size w)
 have H : (spec_split.l0 k l1 a2 (([] : List (S47))) (([] : List (S47))) 0 l0_0) = some (r1,r2):=h
 clear h
 obtain ⟨y2,hy2⟩ : ∃ y_ : List (S47),y_ = (([] : List (S47))):=⟨_,rfl⟩
 replace H : (spec_split.l0 k l1 a2 y2 (([] : List (S47))) 0 l0_0) = some (r1,r2):=by first | (rw [hy2];with_reducible exact H) | (have H2_:=(Option.bind_some _ _).symm.trans H;rw [hy2];with_reducible exact H2_) | (have H2_:=(Option.bind_some _ _).symm.trans H;with_reducible exact H2_) | with_reducible exact H | (rw [hy2];exact H) | exact H
 have Ny2:=a0_ hy2
 clear hy2
 obtain ⟨y5,hy5⟩ : ∃ y_ : List (S47),y_ = (([] : List (S47))):=⟨_,rfl⟩
 replace H : (spec_split.l0 k l1 a2 y2 y5 0 l0_0) = some (r1,r2):=by first | (rw [hy5];with_reducible exact H) | (have H2_:=(Option.bind_some _ _).symm.trans H;rw [hy5];with_reducible exact H2_) | (have H2_:=(Option.bind_some _ _).symm.trans H;with_reducible exact H2_) | with_reducible exact H | (rw [hy5];exact H) | exact H
 have Ny5:=a0_ hy5
 clear hy5
 have H':=a0_ H
 clear H
 go_enter Try.func49,Try.ntmps49
 go_wp2_with (first | ((with_reducible refine gate_dst (N:=3) rfl ?_);refine box_event ?hg (N:=3) ?hd (cs:=#[.slice A0_0 l0_0.length c0_0]) (t:=25) ?hr ?_;(case hd=>rfl);(case hg=>rfl);(case hr=>first | (go_simp;done) | (go_simp;rfl));intro gb1 hg w4 hbox hb;have BK1:=a0_ (hbox);have GW1:=a0_ ((by rw [hg];exact (below_size hb_) : w.heap.size ≤ gb1));have GE1:=a0_ ((by rw [hg];exact (below_size hb_) : w.heap.size ≤ gb1));replace HB:=a0_ (below_step hb_ hb);clear hb hbox hg) | ((with_reducible refine gate_dst (N:=11) rfl ?_);refine Kd.R_lit k47 _ 47 ?hg (N:=11) ?hd (xs:=([] : List (S47))) (inner:=[]) (ok:=fun _=>True) (okp:=fun _=>True) ?hr ?hp (fun _ hk=>hk) trivial (Below.refl _ _) (Nat.le_refl _) (by simp) ?_;(case hd=>rfl);(case hg=>rfl);(case hr=>first | (go_simp;done) | (go_simp;rfl));(case hp=>exact (Reps.none _ _));intro v3 w5 ho6 hb hg_ hnew_;clear hg_ hnew_;(first | rw [← Ny2.out] at ho6 | (simp only [Int.reduceToNat] at ho6;rw [← Ny2.out] at ho6));have HO4:=a0_ (Kd.R_lower ho6 (below_size hb_));replace BK1:=kb_ BK1 hb;replace HB:=a0_ (below_step hb_ hb);clear hb ho6) | ((with_reducible refine gate_dst (N:=12) rfl ?_);refine Kd.R_lit k47 _ 47 ?hg (N:=12) ?hd (xs:=([] : List (S47))) (inner:=[]) (ok:=fun _=>True) (okp:=fun _=>True) ?hr ?hp (fun _ hk=>hk) trivial (Below.refl _ _) (Nat.le_refl _) (by simp) ?_;(case hd=>rfl);(case hg=>rfl);(case hr=>first | (go_simp;done) | (go_simp;rfl));(case hp=>exact (Reps.none _ _));intro v6 w7 ho8 hb hg_ hnew_;clear hg_ hnew_;(first | rw [← Ny5.out] at ho8 | (simp only [Int.reduceToNat] at ho8;rw [← Ny5.out] at ho8));have n0_:=a0_ (Kd.R_elder' (rr_ HO4.out) (Kd.R_base ho8) hb);have n1_:=a0_ (Kd.R_lower (Kd.R_new' ho8 (Kd.R_lt (rr_ HO4.out))) (below_size hb_));have n2_:=kb_ BK1 hb;have n3_:=a0_ (below_step hb_ hb);clear HO4 BK1 HB;have HO4:=n0_;have HO7:=n1_;have BK1:=n2_;have HB:=n3_;clear n0_ n1_ n2_ n3_;clear hb ho8))
 go_loopg [8,9,10] k (fun kq v8 v9 v10 w'=>∃ (x8_1 : List (S47)) (x9_1 : List (S47)) (x10_1 : Int),v10 = .int .i64 x10_1 ∧ Aside0 (spec_split.l0 kq l1 a2 x8_1 x9_1 x10_1 l0_0 = some (r1,r2)) ∧ Aside0 (kq ≤ k) ∧ Aside0 (Kd.R k47 47 w' w.heap.size (fun k_=>some k_ ≠ (v9 : Value).ownBlock) v8 x8_1) ∧ Aside0 (Kd.R k47 47 w' w.heap.size (fun k_=>some k_ ≠ (v8 : Value).ownBlock) v9 x9_1) ∧ Aside0 (w'.heap[gb1]? = some (.cells #[(.slice A0_0 l0_0.length c0_0)] 25 (0,0))) ∧ Aside0 (Below w.heap.size w w'))
 case atStart=>exact ⟨(y2),(y5),(0),(by first | rfl | (simp;done) | (simp [*];done)),H',⟨Nat.le_refl _⟩,⟨by (with_reducible repeat (first | apply Kd.R_alloc | apply Kd.R_drewN | apply Kd.R_drew));exact Kd.R_mono HO4.out (fun _ hk=>hk.2)⟩,⟨by (with_reducible repeat (first | apply Kd.R_alloc | apply Kd.R_drewN | apply Kd.R_drew));exact Kd.R_mono HO7.out (fun _ hk=>hk.2)⟩,⟨by (with_reducible repeat (first | refine blk_drewN ?_ _ | refine blk_drew ?_ | refine blk_alloc ?_ _));exact BK1.out⟩,⟨hb_⟩⟩
 case round =>
  clear H'
  try clear c1
  try clear p2
  try clear c4
  obtain ⟨x8_1,x9_1,x10_1,rfl,HA,HK1,HO_8,HO_9,BK1,HB⟩:=hrel
  cases gk with
  | zero=>exact absurd HA.out (by simp [spec_split.l0])
  | succ k1 =>
   have H:=HA.out
   clear HA
   simp only [spec_split.l0] at H
   by_cases c9 : x10_1 < (l1.length : Int)
   ·rw [if_pos c9] at H
    have c9b0 : decide (x10_1 < (l1.length : Int)) = true:=decide_eq_true c9
    clear c9
    replace H:=Option.bind_eq_some_iff.mp H
    obtain ⟨t8,A100,H⟩:=H
    try dsimp only at H
    have A10:=a0_ A100
    clear A100
    by_cases c11 : t8 = true
    ·subst c11
     have H1 : (if 0 ≤ x10_1 then (if x8_1.length < 4398046511104 then ((some (x8_1 ++ [(⟨(rd_T47 l1 x10_1).f0,(rd_T47 l1 x10_1).f1,(rd_T47 l1 x10_1).f2,(rd_T47 l1 x10_1).f3⟩ : S47)] : List (S47))).bind fun y10=>((spec_keeps.f k1 l0_0 l1 x10_1 a2 false).bind fun t13=>(if t13 = true then (if x9_1.length < 4398046511104 then (spec_split.l0 k1 l1 a2 y10 (x9_1 ++ [(⟨(rd_T47 l1 x10_1).f0,(rd_T47 l1 x10_1).f1,(rd_T47 l1 x10_1).f2,(rd_T47 l1 x10_1).f3⟩ : S47)]) (wrap64 (x10_1 + 1)) l0_0) else (none)) else (spec_split.l0 k1 l1 a2 y10 x9_1 (wrap64 (x10_1 + 1)) l0_0)))) else (none)) else (none)) = some (r1,r2):=by rw [if_pos rfl] at H;exact H
     clear H
     have H:=H1
     clear H1
     by_cases c12 : 0 ≤ x10_1
     ·rw [if_pos c12] at H
      have c12b0 : decide (0 ≤ x10_1) = true:=decide_eq_true c12
      clear c12
      by_cases c13 : x8_1.length < 4398046511104
      ·rw [if_pos c13] at H
       have LMc13:=a0_ c13
       clear c13
       obtain ⟨y10,hy10⟩ : ∃ y_ : List (S47),y_ = (x8_1 ++ [(⟨(rd_T47 l1 x10_1).f0,(rd_T47 l1 x10_1).f1,(rd_T47 l1 x10_1).f2,(rd_T47 l1 x10_1).f3⟩ : S47)]):=⟨_,rfl⟩
       replace H : ((spec_keeps.f k1 l0_0 l1 x10_1 a2 false).bind fun t13=>(if t13 = true then (if x9_1.length < 4398046511104 then (spec_split.l0 k1 l1 a2 y10 (x9_1 ++ [(⟨(rd_T47 l1 x10_1).f0,(rd_T47 l1 x10_1).f1,(rd_T47 l1 x10_1).f2,(rd_T47 l1 x10_1).f3⟩ : S47)]) (wrap64 (x10_1 + 1)) l0_0) else (none)) else (spec_split.l0 k1 l1 a2 y10 x9_1 (wrap64 (x10_1 + 1)) l0_0))) = some (r1,r2):=by first | (rw [hy10];with_reducible exact H) | (have H2_:=(Option.bind_some _ _).symm.trans H;rw [hy10];with_reducible exact H2_) | (have H2_:=(Option.bind_some _ _).symm.trans H;with_reducible exact H2_) | with_reducible exact H | (rw [hy10];exact H) | exact H
       have Ny10:=a0_ hy10
       clear hy10
       replace H:=Option.bind_eq_some_iff.mp H
       obtain ⟨t13,A140,H⟩:=H
       try dsimp only at H
       have A14:=a0_ A140
       clear A140
       by_cases c15 : t13 = true
       ·subst c15
        have H1 : (if x9_1.length < 4398046511104 then (spec_split.l0 k1 l1 a2 y10 (x9_1 ++ [(⟨(rd_T47 l1 x10_1).f0,(rd_T47 l1 x10_1).f1,(rd_T47 l1 x10_1).f2,(rd_T47 l1 x10_1).f3⟩ : S47)]) (wrap64 (x10_1 + 1)) l0_0) else (none)) = some (r1,r2):=by rw [if_pos rfl] at H;exact H
        clear H
        have H:=H1
        clear H1
        by_cases c16 : x9_1.length < 4398046511104
        ·rw [if_pos c16] at H
         have LMc16:=a0_ c16
         clear c16
         obtain ⟨y15,hy15⟩ : ∃ y_ : List (S47),y_ = (x9_1 ++ [(⟨(rd_T47 l1 x10_1).f0,(rd_T47 l1 x10_1).f1,(rd_T47 l1 x10_1).f2,(rd_T47 l1 x10_1).f3⟩ : S47)]):=⟨_,rfl⟩
         replace H : (spec_split.l0 k1 l1 a2 y10 y15 (wrap64 (x10_1 + 1)) l0_0) = some (r1,r2):=by first | (rw [hy15];with_reducible exact H) | (have H2_:=(Option.bind_some _ _).symm.trans H;rw [hy15];with_reducible exact H2_) | (have H2_:=(Option.bind_some _ _).symm.trans H;with_reducible exact H2_) | with_reducible exact H | (rw [hy15];exact H) | exact H
         have Ny15:=a0_ hy15
         clear hy15
         have H':=a0_ H
         clear H
         have hcz17_0 : wr.cell? ⟨gb1,0,none⟩ = some (.slice A0_0 l0_0.length c0_0):=(blk_cell BK1.out 0).trans rfl
         have hfz17_0:=blk_frozen BK1.out 0
         go_wp2_with (first | ((with_reducible refine gate_callee (f:=75) rfl ?_);refine goesL_ (some 23) rfl rfl Try.func75 (by kernel_rfl) rfl #[.agg #[.slice A0_0 l0_0.length c0_0],.slice A1 l1.length c1,.int .i64 x10_1,.int .i64 a2,.bool true] rfl lm_ ?_;(with_reducible refine (spec_keeps.calls k1 _ _ l0_0 _ _ l1 x10_1 a2 true true _ ?side1 ?side2 ?side3 ?side4 A10.out).mono ?_);(case side1=>exact cc_ (Kd.C_below HR0_0.out HB.out));(case side2=>exact HC0_0.out);(case side3=>exact cc_ (Kd.C_below HR1.out HB.out));(case side4=>exact HC1.out);rintro e w18 ⟨rfl,hb⟩;refine ⟨_,rfl,?_⟩;replace HO_8:=rb_ HO_8 hb;replace HO_9:=rb_ HO_9 hb;replace BK1:=kb_ BK1 hb;replace HB:=a0_ (below_step hb_ hb);(try clear hb);have p9 : 0 ≤ (x10_1 : Int):=of_decide_eq_true (by first | (with_reducible assumption) | assumption);have q9 : x10_1 < (l1.length : Int):=of_decide_eq_true (by first | (with_reducible assumption) | assumption);obtain ⟨ad9,e9,hx9_0,hx9_1,hx9_2,hx9_3⟩:=at_T47 HR1.out x10_1 p9 q9;cases e9;replace hx9_0:=(HB.out.cell (World.block_lt_of_cell? w _ hx9_0)).trans hx9_0;replace hx9_1:=(HB.out.cell (World.block_lt_of_cell? w _ hx9_1)).trans hx9_1;replace hx9_2:=(HB.out.cell (World.block_lt_of_cell? w _ hx9_2)).trans hx9_2;replace hx9_3:=(HB.out.cell (World.block_lt_of_cell? w _ hx9_3)).trans hx9_3;replace p9:=eq_true p9;replace q9:=eq_true q9) | ((with_reducible refine gate_builtin (b:=.append) (xs:=#[.tmp 24,.tmp 29]) rfl ?_);at_builtin;refine Kd.R_append k47 (w0:=w) w.heap.size rfl (.tmp 24) (.tmp 29) 26 47 (.agg #[(.int .i64 0),(.bool false),(.int .i64 0),(.int .i64 0)]) 32 rfl Try.underlying26 info47 rfl (by decide) (by omega) u8 x8_1 (⟨(rd_T47 l1 x10_1).f0,(rd_T47 l1 x10_1).f1,(rd_T47 l1 x10_1).f2,(rd_T47 l1 x10_1).f3⟩ : S47) [.int .i64 ((rd_T47 l1 x10_1).f0),.bool ((rd_T47 l1 x10_1).f1),.int .i64 ((rd_T47 l1 x10_1).f2),.int .i64 ((rd_T47 l1 x10_1).f3)] (fun k_=>some k_ ≠ (u9 : Value).ownBlock) (fun _=>False) rfl rfl ?aP (fun _ hk=>hk.elim) ?aF ?aO ?aB ?aS ?aL ?_;(case aP=>exact k47_mkM _ _ _ (⟨(rd_T47 l1 x10_1).f0,(rd_T47 l1 x10_1).f1,(rd_T47 l1 x10_1).f2,(rd_T47 l1 x10_1).f3⟩ : S47));(case aB=>exact hb_);(case aF=>exact (fun k_ hk=>Kd.fresh' (Kd.R_lt (rr_ HO_9.out)) k_ hk));(case aO=>exact (rr_ HO_8.out));(case aS=>exact (below_size hb_));(case aL=>have:=LMc13.out;omega);intro v11 w19 ho hb hg hat;rw [← Ny10.out] at ho;replace HO_9:=a0_ (Kd.R_after (ok:=(fun _=>True)) (rm_ HO_9.out (fun _ hk=>⟨trivial,hk⟩)) hg hat);replace BK1:=a0_ (blk_grown (bb_ BK1.out) hg (Kd.R_ne HO_8.out BK1.out (by decide)));have HO12:=a0_ (ho);replace HB:=a0_ (hb);clear HO_8;clear ho hb hg hat;have hcz20_0 : w19.cell? ⟨gb1,0,none⟩ = some (.slice A0_0 l0_0.length c0_0):=(blk_cell BK1.out 0).trans rfl;have hfz20_0:=blk_frozen BK1.out 0) | ((with_reducible refine gate_callee (f:=75) rfl ?_);refine goesL_ (some 35) rfl rfl Try.func75 (by kernel_rfl) rfl #[.agg #[.slice A0_0 l0_0.length c0_0],.slice (some ad9) l1.length c1,.int .i64 x10_1,.int .i64 a2,.bool false] rfl lm_ ?_;(with_reducible refine (spec_keeps.calls k1 _ _ l0_0 _ _ l1 x10_1 a2 false true _ ?side1 ?side2 ?side3 ?side4 A14.out).mono ?_);(case side1=>exact cc_ (Kd.C_below HR0_0.out HB.out));(case side2=>exact HC0_0.out);(case side3=>exact cc_ (Kd.C_below HR1.out HB.out));(case side4=>exact HC1.out);rintro e w21 ⟨rfl,hb⟩;refine ⟨_,rfl,?_⟩;replace HO_9:=rb_ HO_9 hb;replace HO12:=rb_ HO12 hb;replace BK1:=kb_ BK1 hb;replace HB:=a0_ (below_step hb_ hb);(try clear hb);have p14 : 0 ≤ (x10_1 : Int):=of_decide_eq_true (by first | (with_reducible assumption) | assumption);have q14 : x10_1 < (l1.length : Int):=of_decide_eq_true (by first | (with_reducible assumption) | assumption);obtain ⟨ad14,e14,hx14_0,hx14_1,hx14_2,hx14_3⟩:=at_T47 HR1.out x10_1 p14 q14;obtain rfl : ad9 = ad14:=(by injection e14);replace hx14_0:=(HB.out.cell (World.block_lt_of_cell? w _ hx14_0)).trans hx14_0;replace hx14_1:=(HB.out.cell (World.block_lt_of_cell? w _ hx14_1)).trans hx14_1;replace hx14_2:=(HB.out.cell (World.block_lt_of_cell? w _ hx14_2)).trans hx14_2;replace hx14_3:=(HB.out.cell (World.block_lt_of_cell? w _ hx14_3)).trans hx14_3;replace p14:=eq_true p14;replace q14:=eq_true q14) | ((with_reducible refine gate_builtin (b:=.append) (xs:=#[.tmp 36,.tmp 41]) rfl ?_);at_builtin;refine Kd.R_append k47 (w0:=w) w.heap.size rfl (.tmp 36) (.tmp 41) 26 47 (.agg #[(.int .i64 0),(.bool false),(.int .i64 0),(.int .i64 0)]) 32 rfl Try.underlying26 info47 rfl (by decide) (by omega) u9 x9_1 (⟨(rd_T47 l1 x10_1).f0,(rd_T47 l1 x10_1).f1,(rd_T47 l1 x10_1).f2,(rd_T47 l1 x10_1).f3⟩ : S47) [.int .i64 ((rd_T47 l1 x10_1).f0),.bool ((rd_T47 l1 x10_1).f1),.int .i64 ((rd_T47 l1 x10_1).f2),.int .i64 ((rd_T47 l1 x10_1).f3)] (fun k_=>some k_ ≠ (v11 : Value).ownBlock) (fun _=>False) rfl rfl ?aP (fun _ hk=>hk.elim) ?aF ?aO ?aB ?aS ?aL ?_;(case aP=>exact k47_mkM _ _ _ (⟨(rd_T47 l1 x10_1).f0,(rd_T47 l1 x10_1).f1,(rd_T47 l1 x10_1).f2,(rd_T47 l1 x10_1).f3⟩ : S47));(case aB=>exact hb_);(case aF=>exact (fun k_ hk=>Kd.fresh' (Kd.R_lt (rr_ HO12.out)) k_ hk));(case aO=>exact (rm_ HO_9.out (fun _ hk=>hk.2)));(case aS=>exact (below_size hb_));(case aL=>have:=LMc16.out;omega);intro v16 w22 ho hb hg hat;rw [← Ny15.out] at ho;replace BK1:=a0_ (blk_grown (bb_ BK1.out) hg (Kd.R_ne HO_9.out BK1.out (by decide)));replace HO12:=a0_ (Kd.R_after (ok:=(fun _=>True)) (rm_ HO12.out (fun _ hk=>⟨trivial,hk⟩)) hg hat);have HO17:=a0_ (ho);replace HB:=a0_ (hb);clear HO_9;clear ho hb hg hat))
         go_roundg k1
         case measure=>have:=HK1.out;omega
         case rel=>exact ⟨(y10),(y15),(wrap64 (x10_1 + 1)),(by first | rfl | (simp;done) | (simp [*];done)),H',⟨by have:=HK1.out;omega⟩,⟨by (with_reducible repeat (first | apply Kd.R_alloc | apply Kd.R_drewN | apply Kd.R_drew));exact Kd.R_mono HO12.out (fun _ hk=>hk.2)⟩,⟨by (with_reducible repeat (first | apply Kd.R_alloc | apply Kd.R_drewN | apply Kd.R_drew));exact HO17.out⟩,⟨by (with_reducible repeat (first | refine blk_drewN ?_ _ | refine blk_drew ?_ | refine blk_alloc ?_ _));exact BK1.out⟩,⟨hb_⟩⟩
        ·rw [if_neg c16] at H
         exact absurd H (by simp)
       ·replace c15:=Bool.eq_false_iff.mpr c15
        subst c15
        have H1 : (spec_split.l0 k1 l1 a2 y10 x9_1 (wrap64 (x10_1 + 1)) l0_0) = some (r1,r2):=by rw [if_neg (show ¬ (false = true) by decide)] at H;exact H
        clear H
        have H:=H1
        clear H1
        have H':=a0_ H
        clear H
        have hcz23_0 : wr.cell? ⟨gb1,0,none⟩ = some (.slice A0_0 l0_0.length c0_0):=(blk_cell BK1.out 0).trans rfl
        have hfz23_0:=blk_frozen BK1.out 0
        go_wp2_with (first | ((with_reducible refine gate_callee (f:=75) rfl ?_);refine goesL_ (some 23) rfl rfl Try.func75 (by kernel_rfl) rfl #[.agg #[.slice A0_0 l0_0.length c0_0],.slice A1 l1.length c1,.int .i64 x10_1,.int .i64 a2,.bool true] rfl lm_ ?_;(with_reducible refine (spec_keeps.calls k1 _ _ l0_0 _ _ l1 x10_1 a2 true true _ ?side1 ?side2 ?side3 ?side4 A10.out).mono ?_);(case side1=>exact cc_ (Kd.C_below HR0_0.out HB.out));(case side2=>exact HC0_0.out);(case side3=>exact cc_ (Kd.C_below HR1.out HB.out));(case side4=>exact HC1.out);rintro e w24 ⟨rfl,hb⟩;refine ⟨_,rfl,?_⟩;replace HO_8:=rb_ HO_8 hb;replace HO_9:=rb_ HO_9 hb;replace BK1:=kb_ BK1 hb;replace HB:=a0_ (below_step hb_ hb);(try clear hb);have p9 : 0 ≤ (x10_1 : Int):=of_decide_eq_true (by first | (with_reducible assumption) | assumption);have q9 : x10_1 < (l1.length : Int):=of_decide_eq_true (by first | (with_reducible assumption) | assumption);obtain ⟨ad9,e9,hx9_0,hx9_1,hx9_2,hx9_3⟩:=at_T47 HR1.out x10_1 p9 q9;cases e9;replace hx9_0:=(HB.out.cell (World.block_lt_of_cell? w _ hx9_0)).trans hx9_0;replace hx9_1:=(HB.out.cell (World.block_lt_of_cell? w _ hx9_1)).trans hx9_1;replace hx9_2:=(HB.out.cell (World.block_lt_of_cell? w _ hx9_2)).trans hx9_2;replace hx9_3:=(HB.out.cell (World.block_lt_of_cell? w _ hx9_3)).trans hx9_3;replace p9:=eq_true p9;replace q9:=eq_true q9) | ((with_reducible refine gate_builtin (b:=.append) (xs:=#[.tmp 24,.tmp 29]) rfl ?_);at_builtin;refine Kd.R_append k47 (w0:=w) w.heap.size rfl (.tmp 24) (.tmp 29) 26 47 (.agg #[(.int .i64 0),(.bool false),(.int .i64 0),(.int .i64 0)]) 32 rfl Try.underlying26 info47 rfl (by decide) (by omega) u8 x8_1 (⟨(rd_T47 l1 x10_1).f0,(rd_T47 l1 x10_1).f1,(rd_T47 l1 x10_1).f2,(rd_T47 l1 x10_1).f3⟩ : S47) [.int .i64 ((rd_T47 l1 x10_1).f0),.bool ((rd_T47 l1 x10_1).f1),.int .i64 ((rd_T47 l1 x10_1).f2),.int .i64 ((rd_T47 l1 x10_1).f3)] (fun k_=>some k_ ≠ (u9 : Value).ownBlock) (fun _=>False) rfl rfl ?aP (fun _ hk=>hk.elim) ?aF ?aO ?aB ?aS ?aL ?_;(case aP=>exact k47_mkM _ _ _ (⟨(rd_T47 l1 x10_1).f0,(rd_T47 l1 x10_1).f1,(rd_T47 l1 x10_1).f2,(rd_T47 l1 x10_1).f3⟩ : S47));(case aB=>exact hb_);(case aF=>exact (fun k_ hk=>Kd.fresh' (Kd.R_lt (rr_ HO_9.out)) k_ hk));(case aO=>exact (rr_ HO_8.out));(case aS=>exact (below_size hb_));(case aL=>have:=LMc13.out;omega);intro v11 w25 ho hb hg hat;rw [← Ny10.out] at ho;replace HO_9:=a0_ (Kd.R_after (ok:=(fun _=>True)) (rm_ HO_9.out (fun _ hk=>⟨trivial,hk⟩)) hg hat);replace BK1:=a0_ (blk_grown (bb_ BK1.out) hg (Kd.R_ne HO_8.out BK1.out (by decide)));have HO12:=a0_ (ho);replace HB:=a0_ (hb);clear HO_8;clear ho hb hg hat;have hcz26_0 : w25.cell? ⟨gb1,0,none⟩ = some (.slice A0_0 l0_0.length c0_0):=(blk_cell BK1.out 0).trans rfl;have hfz26_0:=blk_frozen BK1.out 0) | ((with_reducible refine gate_callee (f:=75) rfl ?_);refine goesL_ (some 35) rfl rfl Try.func75 (by kernel_rfl) rfl #[.agg #[.slice A0_0 l0_0.length c0_0],.slice (some ad9) l1.length c1,.int .i64 x10_1,.int .i64 a2,.bool false] rfl lm_ ?_;(with_reducible refine (spec_keeps.calls k1 _ _ l0_0 _ _ l1 x10_1 a2 false false _ ?side1 ?side2 ?side3 ?side4 A14.out).mono ?_);(case side1=>exact cc_ (Kd.C_below HR0_0.out HB.out));(case side2=>exact HC0_0.out);(case side3=>exact cc_ (Kd.C_below HR1.out HB.out));(case side4=>exact HC1.out);rintro e w27 ⟨rfl,hb⟩;refine ⟨_,rfl,?_⟩;replace HO_9:=rb_ HO_9 hb;replace HO12:=rb_ HO12 hb;replace BK1:=kb_ BK1 hb;replace HB:=a0_ (below_step hb_ hb);(try clear hb);(try clear hb2);(try clear hk);(try clear hi)))
        go_roundg k1
        case measure=>have:=HK1.out;omega
        case rel=>exact ⟨(y10),(x9_1),(wrap64 (x10_1 + 1)),(by first | rfl | (simp;done) | (simp [*];done)),H',⟨by have:=HK1.out;omega⟩,⟨by (with_reducible repeat (first | apply Kd.R_alloc | apply Kd.R_drewN | apply Kd.R_drew));exact HO12.out⟩,⟨by (with_reducible repeat (first | apply Kd.R_alloc | apply Kd.R_drewN | apply Kd.R_drew));exact Kd.R_mono HO_9.out (fun _ hk=>hk.2)⟩,⟨by (with_reducible repeat (first | refine blk_drewN ?_ _ | refine blk_drew ?_ | refine blk_alloc ?_ _));exact BK1.out⟩,⟨hb_⟩⟩
      ·rw [if_neg c13] at H
       exact absurd H (by simp)
     ·rw [if_neg c12] at H
      exact absurd H (by simp)
    ·replace c11:=Bool.eq_false_iff.mpr c11
     subst c11
     have H1 : ((spec_keeps.f k1 l0_0 l1 x10_1 a2 false).bind fun t18=>(if t18 = true then (if 0 ≤ x10_1 then (if x9_1.length < 4398046511104 then (spec_split.l0 k1 l1 a2 x8_1 (x9_1 ++ [(⟨(rd_T47 l1 x10_1).f0,(rd_T47 l1 x10_1).f1,(rd_T47 l1 x10_1).f2,(rd_T47 l1 x10_1).f3⟩ : S47)]) (wrap64 (x10_1 + 1)) l0_0) else (none)) else (none)) else (spec_split.l0 k1 l1 a2 x8_1 x9_1 (wrap64 (x10_1 + 1)) l0_0))) = some (r1,r2):=by rw [if_neg (show ¬ (false = true) by decide)] at H;exact H
     clear H
     have H:=H1
     clear H1
     replace H:=Option.bind_eq_some_iff.mp H
     obtain ⟨t18,A280,H⟩:=H
     try dsimp only at H
     have A28:=a0_ A280
     clear A280
     by_cases c29 : t18 = true
     ·subst c29
      have H1 : (if 0 ≤ x10_1 then (if x9_1.length < 4398046511104 then (spec_split.l0 k1 l1 a2 x8_1 (x9_1 ++ [(⟨(rd_T47 l1 x10_1).f0,(rd_T47 l1 x10_1).f1,(rd_T47 l1 x10_1).f2,(rd_T47 l1 x10_1).f3⟩ : S47)]) (wrap64 (x10_1 + 1)) l0_0) else (none)) else (none)) = some (r1,r2):=by rw [if_pos rfl] at H;exact H
      clear H
      have H:=H1
      clear H1
      by_cases c30 : 0 ≤ x10_1
      ·rw [if_pos c30] at H
       have c30b0 : decide (0 ≤ x10_1) = true:=decide_eq_true c30
       clear c30
       by_cases c31 : x9_1.length < 4398046511104
       ·rw [if_pos c31] at H
        have LMc31:=a0_ c31
        clear c31
        obtain ⟨y20,hy20⟩ : ∃ y_ : List (S47),y_ = (x9_1 ++ [(⟨(rd_T47 l1 x10_1).f0,(rd_T47 l1 x10_1).f1,(rd_T47 l1 x10_1).f2,(rd_T47 l1 x10_1).f3⟩ : S47)]):=⟨_,rfl⟩
        replace H : (spec_split.l0 k1 l1 a2 x8_1 y20 (wrap64 (x10_1 + 1)) l0_0) = some (r1,r2):=by first | (rw [hy20];with_reducible exact H) | (have H2_:=(Option.bind_some _ _).symm.trans H;rw [hy20];with_reducible exact H2_) | (have H2_:=(Option.bind_some _ _).symm.trans H;with_reducible exact H2_) | with_reducible exact H | (rw [hy20];exact H) | exact H
        have Ny20:=a0_ hy20
        clear hy20
        have H':=a0_ H
        clear H
        have hcz32_0 : wr.cell? ⟨gb1,0,none⟩ = some (.slice A0_0 l0_0.length c0_0):=(blk_cell BK1.out 0).trans rfl
        have hfz32_0:=blk_frozen BK1.out 0
        go_wp2_with (first | ((with_reducible refine gate_callee (f:=75) rfl ?_);refine goesL_ (some 23) rfl rfl Try.func75 (by kernel_rfl) rfl #[.agg #[.slice A0_0 l0_0.length c0_0],.slice A1 l1.length c1,.int .i64 x10_1,.int .i64 a2,.bool true] rfl lm_ ?_;(with_reducible refine (spec_keeps.calls k1 _ _ l0_0 _ _ l1 x10_1 a2 true false _ ?side1 ?side2 ?side3 ?side4 A10.out).mono ?_);(case side1=>exact cc_ (Kd.C_below HR0_0.out HB.out));(case side2=>exact HC0_0.out);(case side3=>exact cc_ (Kd.C_below HR1.out HB.out));(case side4=>exact HC1.out);rintro e w33 ⟨rfl,hb⟩;refine ⟨_,rfl,?_⟩;replace HO_8:=rb_ HO_8 hb;replace HO_9:=rb_ HO_9 hb;replace BK1:=kb_ BK1 hb;replace HB:=a0_ (below_step hb_ hb);(try clear hb);have hcz34_0 : w33.cell? ⟨gb1,0,none⟩ = some (.slice A0_0 l0_0.length c0_0):=(blk_cell BK1.out 0).trans rfl;have hfz34_0:=blk_frozen BK1.out 0) | ((with_reducible refine gate_callee (f:=75) rfl ?_);refine goesL_ (some 35) rfl rfl Try.func75 (by kernel_rfl) rfl #[.agg #[.slice A0_0 l0_0.length c0_0],.slice A1 l1.length c1,.int .i64 x10_1,.int .i64 a2,.bool false] rfl lm_ ?_;(with_reducible refine (spec_keeps.calls k1 _ _ l0_0 _ _ l1 x10_1 a2 false true _ ?side1 ?side2 ?side3 ?side4 A28.out).mono ?_);(case side1=>exact cc_ (Kd.C_below HR0_0.out HB.out));(case side2=>exact HC0_0.out);(case side3=>exact cc_ (Kd.C_below HR1.out HB.out));(case side4=>exact HC1.out);rintro e w35 ⟨rfl,hb⟩;refine ⟨_,rfl,?_⟩;replace HO_8:=rb_ HO_8 hb;replace HO_9:=rb_ HO_9 hb;replace BK1:=kb_ BK1 hb;replace HB:=a0_ (below_step hb_ hb);(try clear hb);have p19 : 0 ≤ (x10_1 : Int):=of_decide_eq_true (by first | (with_reducible assumption) | assumption);have q19 : x10_1 < (l1.length : Int):=of_decide_eq_true (by first | (with_reducible assumption) | assumption);obtain ⟨ad19,e19,hx19_0,hx19_1,hx19_2,hx19_3⟩:=at_T47 HR1.out x10_1 p19 q19;cases e19;replace hx19_0:=(HB.out.cell (World.block_lt_of_cell? w _ hx19_0)).trans hx19_0;replace hx19_1:=(HB.out.cell (World.block_lt_of_cell? w _ hx19_1)).trans hx19_1;replace hx19_2:=(HB.out.cell (World.block_lt_of_cell? w _ hx19_2)).trans hx19_2;replace hx19_3:=(HB.out.cell (World.block_lt_of_cell? w _ hx19_3)).trans hx19_3;replace p19:=eq_true p19;replace q19:=eq_true q19) | ((with_reducible refine gate_builtin (b:=.append) (xs:=#[.tmp 36,.tmp 41]) rfl ?_);at_builtin;refine Kd.R_append k47 (w0:=w) w.heap.size rfl (.tmp 36) (.tmp 41) 26 47 (.agg #[(.int .i64 0),(.bool false),(.int .i64 0),(.int .i64 0)]) 32 rfl Try.underlying26 info47 rfl (by decide) (by omega) u9 x9_1 (⟨(rd_T47 l1 x10_1).f0,(rd_T47 l1 x10_1).f1,(rd_T47 l1 x10_1).f2,(rd_T47 l1 x10_1).f3⟩ : S47) [.int .i64 ((rd_T47 l1 x10_1).f0),.bool ((rd_T47 l1 x10_1).f1),.int .i64 ((rd_T47 l1 x10_1).f2),.int .i64 ((rd_T47 l1 x10_1).f3)] (fun k_=>some k_ ≠ (u8 : Value).ownBlock) (fun _=>False) rfl rfl ?aP (fun _ hk=>hk.elim) ?aF ?aO ?aB ?aS ?aL ?_;(case aP=>exact k47_mkM _ _ _ (⟨(rd_T47 l1 x10_1).f0,(rd_T47 l1 x10_1).f1,(rd_T47 l1 x10_1).f2,(rd_T47 l1 x10_1).f3⟩ : S47));(case aB=>exact hb_);(case aF=>exact (fun k_ hk=>Kd.fresh' (Kd.R_lt (rr_ HO_8.out)) k_ hk));(case aO=>exact (rr_ HO_9.out));(case aS=>exact (below_size hb_));(case aL=>have:=LMc31.out;omega);intro v21 w36 ho hb hg hat;rw [← Ny20.out] at ho;replace HO_8:=a0_ (Kd.R_after (ok:=(fun _=>True)) (rm_ HO_8.out (fun _ hk=>⟨trivial,hk⟩)) hg hat);replace BK1:=a0_ (blk_grown (bb_ BK1.out) hg (Kd.R_ne HO_9.out BK1.out (by decide)));have HO22:=a0_ (ho);replace HB:=a0_ (hb);clear HO_9;clear ho hb hg hat))
        go_roundg k1
        case measure=>have:=HK1.out;omega
        case rel=>exact ⟨(x8_1),(y20),(wrap64 (x10_1 + 1)),(by first | rfl | (simp;done) | (simp [*];done)),H',⟨by have:=HK1.out;omega⟩,⟨by (with_reducible repeat (first | apply Kd.R_alloc | apply Kd.R_drewN | apply Kd.R_drew));exact Kd.R_mono HO_8.out (fun _ hk=>hk.2)⟩,⟨by (with_reducible repeat (first | apply Kd.R_alloc | apply Kd.R_drewN | apply Kd.R_drew));exact HO22.out⟩,⟨by (with_reducible repeat (first | refine blk_drewN ?_ _ | refine blk_drew ?_ | refine blk_alloc ?_ _));exact BK1.out⟩,⟨hb_⟩⟩
       ·rw [if_neg c31] at H
        exact absurd H (by simp)
      ·rw [if_neg c30] at H
       exact absurd H (by simp)
     ·replace c29:=Bool.eq_false_iff.mpr c29
      subst c29
      have H1 : (spec_split.l0 k1 l1 a2 x8_1 x9_1 (wrap64 (x10_1 + 1)) l0_0) = some (r1,r2):=by rw [if_neg (show ¬ (false = true) by decide)] at H;exact H
      clear H
      have H:=H1
      clear H1
      have H':=a0_ H
      clear H
      have hcz37_0 : wr.cell? ⟨gb1,0,none⟩ = some (.slice A0_0 l0_0.length c0_0):=(blk_cell BK1.out 0).trans rfl
      have hfz37_0:=blk_frozen BK1.out 0
      go_wp2_with (first | ((with_reducible refine gate_callee (f:=75) rfl ?_);refine goesL_ (some 23) rfl rfl Try.func75 (by kernel_rfl) rfl #[.agg #[.slice A0_0 l0_0.length c0_0],.slice A1 l1.length c1,.int .i64 x10_1,.int .i64 a2,.bool true] rfl lm_ ?_;(with_reducible refine (spec_keeps.calls k1 _ _ l0_0 _ _ l1 x10_1 a2 true false _ ?side1 ?side2 ?side3 ?side4 A10.out).mono ?_);(case side1=>exact cc_ (Kd.C_below HR0_0.out HB.out));(case side2=>exact HC0_0.out);(case side3=>exact cc_ (Kd.C_below HR1.out HB.out));(case side4=>exact HC1.out);rintro e w38 ⟨rfl,hb⟩;refine ⟨_,rfl,?_⟩;replace HO_8:=rb_ HO_8 hb;replace HO_9:=rb_ HO_9 hb;replace BK1:=kb_ BK1 hb;replace HB:=a0_ (below_step hb_ hb);(try clear hb);have hcz39_0 : w38.cell? ⟨gb1,0,none⟩ = some (.slice A0_0 l0_0.length c0_0):=(blk_cell BK1.out 0).trans rfl;have hfz39_0:=blk_frozen BK1.out 0) | ((with_reducible refine gate_callee (f:=75) rfl ?_);refine goesL_ (some 35) rfl rfl Try.func75 (by kernel_rfl) rfl #[.agg #[.slice A0_0 l0_0.length c0_0],.slice A1 l1.length c1,.int .i64 x10_1,.int .i64 a2,.bool false] rfl lm_ ?_;(with_reducible refine (spec_keeps.calls k1 _ _ l0_0 _ _ l1 x10_1 a2 false false _ ?side1 ?side2 ?side3 ?side4 A28.out).mono ?_);(case side1=>exact cc_ (Kd.C_below HR0_0.out HB.out));(case side2=>exact HC0_0.out);(case side3=>exact cc_ (Kd.C_below HR1.out HB.out));(case side4=>exact HC1.out);rintro e w40 ⟨rfl,hb⟩;refine ⟨_,rfl,?_⟩;replace HO_8:=rb_ HO_8 hb;replace HO_9:=rb_ HO_9 hb;replace BK1:=kb_ BK1 hb;replace HB:=a0_ (below_step hb_ hb);(try clear hb);(try clear hb2);(try clear hk);(try clear hi)))
      go_roundg k1
      case measure=>have:=HK1.out;omega
      case rel=>exact ⟨(x8_1),(x9_1),(wrap64 (x10_1 + 1)),(by first | rfl | (simp;done) | (simp [*];done)),H',⟨by have:=HK1.out;omega⟩,⟨by (with_reducible repeat (first | apply Kd.R_alloc | apply Kd.R_drewN | apply Kd.R_drew));exact HO_8.out⟩,⟨by (with_reducible repeat (first | apply Kd.R_alloc | apply Kd.R_drewN | apply Kd.R_drew));exact HO_9.out⟩,⟨by (with_reducible repeat (first | refine blk_drewN ?_ _ | refine blk_drew ?_ | refine blk_alloc ?_ _));exact BK1.out⟩,⟨hb_⟩⟩
   ·rw [if_neg c9] at H
    have c9b0 : decide (x10_1 < (l1.length : Int)) = false:=decide_eq_false c9
    clear c9
    simp only [Option.some.injEq,Prod.mk.injEq] at H
    obtain ⟨rfl,rfl⟩:=H
    go_wp2
    go_ret2
    exact ⟨_,_,by first | rfl | (simp [errW_none,errW_some] <;> rfl) | (simp [*,errW_none,errW_some] <;> rfl),by (with_reducible repeat (first | apply Kd.R_alloc | apply Kd.R_drewN | apply Kd.R_drew));exact HO_8.out,by (with_reducible repeat (first | apply Kd.R_alloc | apply Kd.R_drewN | apply Kd.R_drew));exact HO_9.out,hb_⟩
theorem spec_split_ev {t : List Cls} (h : vT t = true) (g : List Prt) (hg : lfOk t g) (hl : g.length ≤ 1048576) (a : Int) : Ev (fun k=>spec_split.f k t g a) (selN t g a true g.length,selN t g a false g.length):=by
 have key : ∀ d i,i + d = g.length → Ev (fun k=>spec_split.l0 k g a (selN t g a true i) (selN t g a false i) (i : Int) t) (selN t g a true g.length,selN t g a false g.length):=by
  intro d
  induction d with
  | zero =>
   intro i hi
   obtain rfl : i = g.length:=by omega
   refine Ev.succ ?_
   simp only [spec_split.l0]
   exact Ev.neg (by omega) (Ev.const rfl)
  | succ d ih =>
   intro i hi
   have hlt : i < g.length:=by omega
   have hrd : rd_T47 g (i : Int) = g.getD i z47:=by simp [rd_T47]
   have hn:=ih (i + 1) (by omega)
   rw [selN_succ t g a true i,selN_succ t g a false i] at hn
   have l1:=selN_len t g a true i
   have l2:=selN_len t g a false i
   refine Ev.succ ?_
   simp only [spec_split.l0,hrd]
   rw [wrap_succ (i:=(i : Int)) (n:=g.length) (by omega) (by omega) (by omega)]
   have k1:=spec_keeps_ev h g hg (by omega) i hlt a true
   have k2:=spec_keeps_ev h g hg (by omega) i hlt a false
   refine Ev.pos (by omega) (Ev.bind k1 ?_)
   cases h1 : keepsB t g i a true with
   | true =>
    rw [h1,if_pos rfl] at hn
    refine Ev.pos rfl (Ev.pos (by omega) (Ev.pos (by omega) (Ev.bind (Ev.const rfl) (Ev.bind k2 ?_))))
    cases h2 : keepsB t g i a false with
    | true =>
     rw [h2,if_pos rfl] at hn
     exact Ev.pos rfl (Ev.pos (by omega) hn)
    | false =>
     rw [h2,if_neg (by simp),List.append_nil] at hn
     exact Ev.neg (by simp) hn
   | false =>
    rw [h1,if_neg (by simp),List.append_nil] at hn
    refine Ev.neg (by simp) (Ev.bind k2 ?_)
    cases h2 : keepsB t g i a false with
    | true =>
     rw [h2,if_pos rfl] at hn
     exact Ev.pos rfl (Ev.pos (by omega) (Ev.pos (by omega) hn))
    | false =>
     rw [h2,if_neg (by simp),List.append_nil] at hn
     exact Ev.neg (by simp) hn
 exact key g.length 0 (by omega)
end Go.Proofs.Ytfphcdbnnienhaa.P
namespace Go.Proofs.Ytfphcdbnnienhaa.P
open Go.RowKit Go.Proofs.YtfphcdbnnienhaaW.PrintWords Go.Proofs.YtfphcdbnnienhaaW.PrintLast Go.Proofs.YtfphcdbnnienhaaW.PrintMore
attribute [local go_sem] max2_int min2_int max_two min_two max_three min_three max_four min_four
set_option linter.unusedVariables false
set_option linter.unusedSimpArgs false
def spec_SplitGroup.f (k : Nat) (l0_0 : List (S85)) (l1 : List (S47)) (a2 : Int) : Option ((List (S47)) × (List (S47))):=(spec_validGroup.f l0_0 l1).bind fun t2=>(if t2 = true then ((spec_hasClass.f l0_0 a2).bind fun t3=>(if t3 = true then ((spec_split.f k l0_0 l1 a2).bind fun bt4=>(some (bt4.1,bt4.2))) else (some (([] : List (S47)),([] : List (S47)))))) else (some (([] : List (S47)),([] : List (S47)))))
theorem spec_SplitGroup.mono : ∀ a0 a1 a2 k,LeO (spec_SplitGroup.f k a0 a1 a2) (spec_SplitGroup.f (k + 1) a0 a1 a2):=by
 intro a0 a1 a2 k
 unfold spec_SplitGroup.f
 repeat' first
   | (with_reducible exact spec_split.mono _ _ _ _)
   | (with_reducible exact LeO.refl _)
   | (with_reducible exact LeO.none _)
   | (with_reducible refine LeO.ite ?_ ?_)
   | (with_reducible refine LeO.bind ?_ (fun _=>?_))
   | exact spec_split.mono _ _ _ _
   | exact LeO.none _
   | refine LeO.ite ?_ ?_
   | refine LeO.bind ?_ (fun _=>?_)
set_option maxHeartbeats 8000000 in
set_option maxRecDepth 100000 in
theorem spec_SplitGroup.calls (k : Nat) (A0_0 : Option Addr) (c0_0 : Nat) (l0_0 : List (S85)) (A1 : Option Addr) (c1 : Nat) (l1 : List (S47)) (a2 : Int) (r1 : List (S47)) (r2 : List (S47)) (w : World) (hr0_0 : Kd.C k85 w A0_0 l0_0.length l0_0) (hc0_0 : l0_0.length ≤ c0_0) (hr1 : Kd.C k47 w A1 l1.length l1) (hc1 : l1.length ≤ c1) (h : spec_SplitGroup.f k l0_0 l1 a2 = some (r1,r2)) :
  Calls Try.prog 26 #[.agg #[.slice A0_0 l0_0.length c0_0],.slice A1 l1.length c1,.int .i64 a2] w fun e w'=>∃ v0_ v1_ : Value,e = .returned (.tuple #[v0_,v1_]) ∧ Kd.R k47 47 w' w.heap.size (fun k_=>some k_ ≠ (v1_ : Value).ownBlock) v0_ r1 ∧ Kd.R k47 47 w' w.heap.size (fun k_=>some k_ ≠ (v0_ : Value).ownBlock) v1_ r2 ∧ Below w.heap.size w w':=by
 have hu25:=Try.underlying25
 have HR0_0:=a0_ hr0_0
 have HC0_0:=a0_ hc0_0
 clear hr0_0 hc0_0
 have HR1:=a0_ hr1
 have HC1:=a0_ hc1
 clear hr1 hc1
 have HB:=a0_ (Below.refl w.heap.size w)
 have H : ((spec_validGroup.f l0_0 l1).bind fun t2=>(if t2 = true then ((spec_hasClass.f l0_0 a2).bind fun t3=>(if t3 = true then ((spec_split.f k l0_0 l1 a2).bind fun bt4=>(some (bt4.1,bt4.2))) else (some (([] : List (S47)),([] : List (S47)))))) else (some (([] : List (S47)),([] : List (S47)))))) = some (r1,r2):=h
 clear h
 replace H:=Option.bind_eq_some_iff.mp H
 obtain ⟨t2,A40,H⟩:=H
 try dsimp only at H
 have A4:=a0_ A40
 clear A40
 by_cases c5 : t2 = true
 ·subst c5
  have H1 : ((spec_hasClass.f l0_0 a2).bind fun t3=>(if t3 = true then ((spec_split.f k l0_0 l1 a2).bind fun bt4=>(some (bt4.1,bt4.2))) else (some (([] : List (S47)),([] : List (S47)))))) = some (r1,r2):=by rw [if_pos rfl] at H;exact H
  clear H
  have H:=H1
  clear H1
  replace H:=Option.bind_eq_some_iff.mp H
  obtain ⟨t3,A60,H⟩:=H
  try dsimp only at H
  have A6:=a0_ A60
  clear A60
  by_cases c7 : t3 = true
  ·subst c7
   have H1 : ((spec_split.f k l0_0 l1 a2).bind fun bt4=>(some (bt4.1,bt4.2))) = some (r1,r2):=by rw [if_pos rfl] at H;exact H
   clear H
   have H:=H1
   clear H1
   replace H:=Option.bind_eq_some_iff.mp H
   obtain ⟨⟨t4,t7⟩,A80,H⟩:=H
   replace H : (some (t4,t7)) = some (r1,r2):=H
   have A8:=a0_ A80
   clear A80
   simp only [Option.some.injEq,Prod.mk.injEq] at H
   obtain ⟨rfl,rfl⟩:=H
   go_enter Try.func26,Try.ntmps26
   go_wp2_with (first | ((with_reducible refine gate_dst (N:=3) rfl ?_);refine box_event ?hg (N:=3) ?hd (cs:=#[.slice A0_0 l0_0.length c0_0]) (t:=25) ?hr ?_;(case hd=>rfl);(case hg=>rfl);(case hr=>first | (go_simp;done) | (go_simp;rfl));intro gb1 hg w9 hbox hb;have BK1:=a0_ (hbox);have GW1:=a0_ ((by rw [hg];exact (below_size hb_) : w.heap.size ≤ gb1));have GE1:=a0_ ((by rw [hg];exact (below_size hb_) : w.heap.size ≤ gb1));replace HB:=a0_ (below_step hb_ hb);clear hb hbox hg;have hcz10_0 : w9.cell? ⟨gb1,0,none⟩ = some (.slice A0_0 l0_0.length c0_0):=(blk_cell BK1.out 0).trans rfl;have hfz10_0:=blk_frozen BK1.out 0) | ((with_reducible refine gate_callee (f:=40) rfl ?_);refine goesL_ (some 10) rfl rfl Try.func40 (by kernel_rfl) rfl #[.agg #[.slice A0_0 l0_0.length c0_0],.slice A1 l1.length c1] rfl lm_ ?_;(with_reducible refine (spec_validGroup.calls _ _ l0_0 _ _ l1 true _ ?side1 ?side2 ?side3 ?side4 A4.out).mono ?_);(case side1=>exact cc_ (Kd.C_below HR0_0.out HB.out));(case side2=>exact HC0_0.out);(case side3=>exact cc_ (Kd.C_below HR1.out HB.out));(case side4=>exact HC1.out);rintro e w11 ⟨rfl,hb⟩;refine ⟨_,rfl,?_⟩;replace BK1:=kb_ BK1 hb;replace HB:=a0_ (below_step hb_ hb);(try clear hb);have hcz12_0 : w11.cell? ⟨gb1,0,none⟩ = some (.slice A0_0 l0_0.length c0_0):=(blk_cell BK1.out 0).trans rfl;have hfz12_0:=blk_frozen BK1.out 0) | (go_at_call 48;(with_reducible refine (spec_hasClass.calls _ _ l0_0 a2 true _ ?side1 ?side2 A6.out).mono ?_);(case side1=>exact cc_ (Kd.C_below HR0_0.out HB.out));(case side2=>exact HC0_0.out);rintro e w13 ⟨rfl,hb⟩;replace BK1:=kb_ BK1 hb;replace HB:=a0_ (below_step hb_ hb);(try clear hb);have hcz14_0 : w13.cell? ⟨gb1,0,none⟩ = some (.slice A0_0 l0_0.length c0_0):=(blk_cell BK1.out 0).trans rfl;have hfz14_0:=blk_frozen BK1.out 0) | ((with_reducible refine gate_callee (f:=49) rfl ?_);refine goesL_ (some 21) rfl rfl Try.func49 (by kernel_rfl) rfl #[.agg #[.slice A0_0 l0_0.length c0_0],.slice A1 l1.length c1,.int .i64 a2] rfl lm_ ?_;(with_reducible refine (spec_split.calls k _ _ l0_0 _ _ l1 a2 t4 t7 _ ?side1 ?side2 ?side3 ?side4 A8.out).mono ?_);(case side1=>exact cc_ (Kd.C_below HR0_0.out HB.out));(case side2=>exact HC0_0.out);(case side3=>exact cc_ (Kd.C_below HR1.out HB.out));(case side4=>exact HC1.out);rintro e w15 ⟨v5,v8,rfl,ho0,ho1,hb⟩;refine ⟨_,rfl,?_⟩;have HO6:=a0_ (Kd.R_lower ho0 (below_size hb_));have HO9:=a0_ (Kd.R_lower ho1 (below_size hb_));replace BK1:=kb_ BK1 hb;replace HB:=a0_ (below_step hb_ hb);(try clear hb);(try clear ho0);(try clear ho1)))
   go_ret2
   exact ⟨_,_,by first | rfl | (simp [errW_none,errW_some] <;> rfl) | (simp [*,errW_none,errW_some] <;> rfl),by (with_reducible repeat (first | apply Kd.R_alloc | apply Kd.R_drewN | apply Kd.R_drew));exact HO6.out,by (with_reducible repeat (first | apply Kd.R_alloc | apply Kd.R_drewN | apply Kd.R_drew));exact HO9.out,hb_⟩
  ·replace c7:=Bool.eq_false_iff.mpr c7
   subst c7
   have H1 : (some (([] : List (S47)),([] : List (S47)))) = some (r1,r2):=by rw [if_neg (show ¬ (false = true) by decide)] at H;exact H
   clear H
   have H:=H1
   clear H1
   simp only [Option.some.injEq,Prod.mk.injEq] at H
   obtain ⟨rfl,rfl⟩:=H
   go_enter Try.func26,Try.ntmps26
   go_wp2_with (first | ((with_reducible refine gate_dst (N:=3) rfl ?_);refine box_event ?hg (N:=3) ?hd (cs:=#[.slice A0_0 l0_0.length c0_0]) (t:=25) ?hr ?_;(case hd=>rfl);(case hg=>rfl);(case hr=>first | (go_simp;done) | (go_simp;rfl));intro gb1 hg w16 hbox hb;have BK1:=a0_ (hbox);have GW1:=a0_ ((by rw [hg];exact (below_size hb_) : w.heap.size ≤ gb1));have GE1:=a0_ ((by rw [hg];exact (below_size hb_) : w.heap.size ≤ gb1));replace HB:=a0_ (below_step hb_ hb);clear hb hbox hg;have hcz17_0 : w16.cell? ⟨gb1,0,none⟩ = some (.slice A0_0 l0_0.length c0_0):=(blk_cell BK1.out 0).trans rfl;have hfz17_0:=blk_frozen BK1.out 0) | ((with_reducible refine gate_callee (f:=40) rfl ?_);refine goesL_ (some 10) rfl rfl Try.func40 (by kernel_rfl) rfl #[.agg #[.slice A0_0 l0_0.length c0_0],.slice A1 l1.length c1] rfl lm_ ?_;(with_reducible refine (spec_validGroup.calls _ _ l0_0 _ _ l1 true _ ?side1 ?side2 ?side3 ?side4 A4.out).mono ?_);(case side1=>exact cc_ (Kd.C_below HR0_0.out HB.out));(case side2=>exact HC0_0.out);(case side3=>exact cc_ (Kd.C_below HR1.out HB.out));(case side4=>exact HC1.out);rintro e w18 ⟨rfl,hb⟩;refine ⟨_,rfl,?_⟩;replace BK1:=kb_ BK1 hb;replace HB:=a0_ (below_step hb_ hb);(try clear hb);have hcz19_0 : w18.cell? ⟨gb1,0,none⟩ = some (.slice A0_0 l0_0.length c0_0):=(blk_cell BK1.out 0).trans rfl;have hfz19_0:=blk_frozen BK1.out 0) | (go_at_call 48;(with_reducible refine (spec_hasClass.calls _ _ l0_0 a2 false _ ?side1 ?side2 A6.out).mono ?_);(case side1=>exact cc_ (Kd.C_below HR0_0.out HB.out));(case side2=>exact HC0_0.out);rintro e w20 ⟨rfl,hb⟩;replace BK1:=kb_ BK1 hb;replace HB:=a0_ (below_step hb_ hb);(try clear hb);(try clear hb2);(try clear hk);(try clear hi)))
   go_ret2
   exact ⟨_,_,by first | rfl | (simp [errW_none,errW_some] <;> rfl) | (simp [*,errW_none,errW_some] <;> rfl),by first | exact Kd.R_nil _ _ _ _ _ | exact Kd.N_nil _ _ _ _ _ | exact Kd.V_nil _ _ _ _ _ | exact Kd.Q_nil _ _ _ _ _ | exact Kd.S_nil _ _ _ _ _,by first | exact Kd.R_nil _ _ _ _ _ | exact Kd.N_nil _ _ _ _ _ | exact Kd.V_nil _ _ _ _ _ | exact Kd.Q_nil _ _ _ _ _ | exact Kd.S_nil _ _ _ _ _,hb_⟩
 ·replace c5:=Bool.eq_false_iff.mpr c5
  subst c5
  have H1 : (some (([] : List (S47)),([] : List (S47)))) = some (r1,r2):=by rw [if_neg (show ¬ (false = true) by decide)] at H;exact H
  clear H
  have H:=H1
  clear H1
  simp only [Option.some.injEq,Prod.mk.injEq] at H
  obtain ⟨rfl,rfl⟩:=H
  go_enter Try.func26,Try.ntmps26
  go_wp2_with (first | ((with_reducible refine gate_dst (N:=3) rfl ?_);refine box_event ?hg (N:=3) ?hd (cs:=#[.slice A0_0 l0_0.length c0_0]) (t:=25) ?hr ?_;(case hd=>rfl);(case hg=>rfl);(case hr=>first | (go_simp;done) | (go_simp;rfl));intro gb1 hg w21 hbox hb;have BK1:=a0_ (hbox);have GW1:=a0_ ((by rw [hg];exact (below_size hb_) : w.heap.size ≤ gb1));have GE1:=a0_ ((by rw [hg];exact (below_size hb_) : w.heap.size ≤ gb1));replace HB:=a0_ (below_step hb_ hb);clear hb hbox hg;have hcz22_0 : w21.cell? ⟨gb1,0,none⟩ = some (.slice A0_0 l0_0.length c0_0):=(blk_cell BK1.out 0).trans rfl;have hfz22_0:=blk_frozen BK1.out 0) | ((with_reducible refine gate_callee (f:=40) rfl ?_);refine goesL_ (some 10) rfl rfl Try.func40 (by kernel_rfl) rfl #[.agg #[.slice A0_0 l0_0.length c0_0],.slice A1 l1.length c1] rfl lm_ ?_;(with_reducible refine (spec_validGroup.calls _ _ l0_0 _ _ l1 false _ ?side1 ?side2 ?side3 ?side4 A4.out).mono ?_);(case side1=>exact cc_ (Kd.C_below HR0_0.out HB.out));(case side2=>exact HC0_0.out);(case side3=>exact cc_ (Kd.C_below HR1.out HB.out));(case side4=>exact HC1.out);rintro e w23 ⟨rfl,hb⟩;refine ⟨_,rfl,?_⟩;replace BK1:=kb_ BK1 hb;replace HB:=a0_ (below_step hb_ hb);(try clear hb);(try clear hb2);(try clear hk);(try clear hi)))
  go_ret2
  exact ⟨_,_,by first | rfl | (simp [errW_none,errW_some] <;> rfl) | (simp [*,errW_none,errW_some] <;> rfl),by first | exact Kd.R_nil _ _ _ _ _ | exact Kd.N_nil _ _ _ _ _ | exact Kd.V_nil _ _ _ _ _ | exact Kd.Q_nil _ _ _ _ _ | exact Kd.S_nil _ _ _ _ _,by first | exact Kd.R_nil _ _ _ _ _ | exact Kd.N_nil _ _ _ _ _ | exact Kd.V_nil _ _ _ _ _ | exact Kd.Q_nil _ _ _ _ _ | exact Kd.S_nil _ _ _ _ _,hb_⟩
theorem spec_SplitGroup_ev (t : List Cls) (g : List Prt) (a : Int) (hs : smT t = true) (ht : t.length ≤ 9223372036854775807) (hl : g.length ≤ 1048576) : Ev (fun k=>spec_SplitGroup.f k t g a) (if (vG t g && hasC t a) = true then (selN t g a true g.length,selN t g a false g.length) else ([],[])):=by
 refine Ev.bind (Ev.const (show spec_validGroup.f t g = some (vG t g) by rw [spec_validGroup.f,if_pos hs])) ?_
 cases hv : vG t g with
 | false=>exact Ev.neg (by simp) (Ev.const (by simp))
 | true =>
  refine Ev.pos rfl (Ev.bind (Ev.const (spec_hasClass_ev t a ht)) ?_)
  cases hasC t a with
  | false=>exact Ev.neg (by simp) (Ev.const (by simp))
  | true =>
   obtain ⟨h1,h2,h3⟩:=vG_tree hv
   exact Ev.pos rfl (Ev.bind (spec_split_ev h1 g (fun p hp h=>(vG_leaf hv p hp h).2) (by omega) a) (Ev.const (by simp)))
end Go.Proofs.Ytfphcdbnnienhaa.P
namespace Go.Proofs.Ytfphcdbnnienhaa.P
open Go.RowKit Go.Proofs.YtfphcdbnnienhaaW.PrintWords Go.Proofs.YtfphcdbnnienhaaW.PrintLast Go.Proofs.YtfphcdbnnienhaaW.PrintMore
attribute [local go_sem] max2_int min2_int max_two min_two max_three min_three max_four min_four
set_option linter.unusedVariables false
set_option linter.unusedSimpArgs false
def laws_FnFlattenGroupSplit.j0 : Nat → List (S47) → Int → List (S47) → List (S47) → List (S47) → List (S47) → Bool → List (S85) → Option (Bool)
 | 0,_,_,_,_,_,_,_,_=>none
 | k + 1,x4,x5,x6,x7,x8,x9,x56,x9000=>if x56 = true then ((laws_equalGroup.f k x6 x8).bind fun t25=>(if t25 = true then ((laws_equalGroup.f k x7 x9).bind fun t26=>(some t26)) else (some false))) else ((impl_FlattenGroup.f k x9000 x4).bind fun t27=>((impl_SplitGroup.f x9000 t27 x5).bind fun bt30=>(if (x6.length : Int) = 0 then (if (bt30.1.length : Int) = 0 then (if (x7.length : Int) = 0 then (if (bt30.2.length : Int) = 0 then (some true) else ((impl_FlattenGroup.f k x9000 x7).bind fun t36=>((laws_equalGroup.f k bt30.2 t36).bind fun t39=>(some t39)))) else ((impl_FlattenGroup.f k x9000 x7).bind fun t40=>((laws_equalGroup.f k bt30.2 t40).bind fun t43=>(some t43)))) else ((impl_FlattenGroup.f k x9000 x6).bind fun t44=>((laws_equalGroup.f k bt30.1 t44).bind fun t47=>(if t47 = true then (if (x7.length : Int) = 0 then (if (bt30.2.length : Int) = 0 then (some true) else ((impl_FlattenGroup.f k x9000 x7).bind fun t48=>((laws_equalGroup.f k bt30.2 t48).bind fun t51=>(some t51)))) else ((impl_FlattenGroup.f k x9000 x7).bind fun t52=>((laws_equalGroup.f k bt30.2 t52).bind fun t55=>(some t55)))) else (some false))))) else ((impl_FlattenGroup.f k x9000 x6).bind fun t56=>((laws_equalGroup.f k bt30.1 t56).bind fun t59=>(if t59 = true then (if (x7.length : Int) = 0 then (if (bt30.2.length : Int) = 0 then (some true) else ((impl_FlattenGroup.f k x9000 x7).bind fun t60=>((laws_equalGroup.f k bt30.2 t60).bind fun t63=>(some t63)))) else ((impl_FlattenGroup.f k x9000 x7).bind fun t64=>((laws_equalGroup.f k bt30.2 t64).bind fun t67=>(some t67)))) else (some false)))))))
def laws_FnFlattenGroupSplit.f (k : Nat) (l0 : List Int) : Option (Bool):=if (l0.length : Int) > 1048576 then (some true) else ((spec_DrawSplitGroup.f k l0).bind fun bt1=>((impl_SplitGroup.f bt1.1 bt1.2.1 bt1.2.2).bind fun bt9=>((spec_SplitGroup.f k bt1.1 bt1.2.1 bt1.2.2).bind fun bt15=>((laws_equalGroup.f k bt9.1 bt15.1).bind fun t21=>(if t21 = true then ((laws_equalGroup.f k bt9.2 bt15.2).bind fun t22=>(if t22 = true then ((impl_ValidGroup.f k bt1.1 bt1.2.1).bind fun t23=>(if t23 = true then ((laws_has.f bt1.1 bt1.2.2).bind fun t24=>(laws_FnFlattenGroupSplit.j0 k bt1.2.1 bt1.2.2 bt9.1 bt9.2 bt15.1 bt15.2 (!t24) bt1.1)) else (laws_FnFlattenGroupSplit.j0 k bt1.2.1 bt1.2.2 bt9.1 bt9.2 bt15.1 bt15.2 true bt1.1))) else (laws_FnFlattenGroupSplit.j0 k bt1.2.1 bt1.2.2 bt9.1 bt9.2 bt15.1 bt15.2 true bt1.1))) else (laws_FnFlattenGroupSplit.j0 k bt1.2.1 bt1.2.2 bt9.1 bt9.2 bt15.1 bt15.2 true bt1.1))))))
theorem laws_FnFlattenGroupSplit.mono_l : ∀ k,(∀ y0 y1 y2 y3 y4 y5 y6 y7,LeO (laws_FnFlattenGroupSplit.j0 k y0 y1 y2 y3 y4 y5 y6 y7) (laws_FnFlattenGroupSplit.j0 (k + 1) y0 y1 y2 y3 y4 y5 y6 y7))
 | 0=>fun _ _ _ _ _ _ _ _ r h=>by simp [laws_FnFlattenGroupSplit.j0] at h
 | k + 1=>by
  have ih0:=laws_FnFlattenGroupSplit.mono_l k
  ·intro y0 y1 y2 y3 y4 y5 y6 y7
   unfold laws_FnFlattenGroupSplit.j0
   repeat' first
   | (with_reducible exact ih0 _ _ _ _ _ _ _ _)
   | (with_reducible exact impl_FlattenGroup.mono _ _ _)
   | (with_reducible exact impl_ValidGroup.mono _ _ _)
   | (with_reducible exact laws_equalGroup.mono _ _ _)
   | (with_reducible exact spec_DrawSplitGroup.mono _ _)
   | (with_reducible exact spec_SplitGroup.mono _ _ _ _)
   | (with_reducible exact LeO.refl _)
   | (with_reducible exact LeO.none _)
   | (with_reducible refine LeO.ite ?_ ?_)
   | (with_reducible refine LeO.bind ?_ (fun _=>?_))
   | exact ih0 _ _ _ _ _ _ _ _
   | exact impl_FlattenGroup.mono _ _ _
   | exact impl_ValidGroup.mono _ _ _
   | exact laws_equalGroup.mono _ _ _
   | exact spec_DrawSplitGroup.mono _ _
   | exact spec_SplitGroup.mono _ _ _ _
   | exact LeO.none _
   | refine LeO.ite ?_ ?_
   | refine LeO.bind ?_ (fun _=>?_)
theorem laws_FnFlattenGroupSplit.mono : ∀ a0 k,LeO (laws_FnFlattenGroupSplit.f k a0) (laws_FnFlattenGroupSplit.f (k + 1) a0):=by
 intro a0 k
 have ih0:=laws_FnFlattenGroupSplit.mono_l k
 unfold laws_FnFlattenGroupSplit.f
 repeat' first
   | (with_reducible exact ih0 _ _ _ _ _ _ _ _)
   | (with_reducible exact impl_FlattenGroup.mono _ _ _)
   | (with_reducible exact impl_ValidGroup.mono _ _ _)
   | (with_reducible exact laws_equalGroup.mono _ _ _)
   | (with_reducible exact spec_DrawSplitGroup.mono _ _)
   | (with_reducible exact spec_SplitGroup.mono _ _ _ _)
   | (with_reducible exact LeO.refl _)
   | (with_reducible exact LeO.none _)
   | (with_reducible refine LeO.ite ?_ ?_)
   | (with_reducible refine LeO.bind ?_ (fun _=>?_))
   | exact ih0 _ _ _ _ _ _ _ _
   | exact impl_FlattenGroup.mono _ _ _
   | exact impl_ValidGroup.mono _ _ _
   | exact laws_equalGroup.mono _ _ _
   | exact spec_DrawSplitGroup.mono _ _
   | exact spec_SplitGroup.mono _ _ _ _
   | exact LeO.none _
   | refine LeO.ite ?_ ?_
   | refine LeO.bind ?_ (fun _=>?_)
def laws_FnFlattenGroupSplit.T8 : Bool × List (List Nat × List Nat):=(true,[([],[]),([],[]),([],[]),([1,2],[1,2]),([],[]),([0,3,4,3],[0,3,4]),([5],[5]),([6],[6]),([6],[6]),([7,5,0,1,2,3,4,5,6,7],[7]),([8,9,0,1,2,3,4,5,6,7,8,9],[8])])
def laws_FnFlattenGroupSplit.B8 : List Nat:=[0,0,0,6,0,31,63,127,127,255,1023]
theorem laws_FnFlattenGroupSplit.tab8 : rtab .any (opsOf Try.f6 8) = laws_FnFlattenGroupSplit.T8:=by kernel_rfl
theorem laws_FnFlattenGroupSplit.bits8 : waitsOk laws_FnFlattenGroupSplit.T8.2 laws_FnFlattenGroupSplit.B8 = true:=by kernel_rfl
set_option maxHeartbeats 8000000 in
set_option maxRecDepth 100000 in
theorem laws_FnFlattenGroupSplit.calls (k : Nat) (A0 : Option Addr) (c0 : Nat) (l0 : List Int) (r : Bool) (w : World) (hr0 : Kd.C (Kd.int .u8) w A0 l0.length l0) (hc0 : l0.length ≤ c0) (h : laws_FnFlattenGroupSplit.f k l0 = some r) :
  Calls Try.prog 6 #[.slice A0 l0.length c0] w fun e w'=>e = .returned (.bool r) ∧ Below w.heap.size w w':=by
 have hu25:=Try.underlying25
 have HR0:=a0_ hr0
 have HC0:=a0_ hc0
 clear hr0 hc0
 have HB:=a0_ (Below.refl w.heap.size w)
 have H : (if (l0.length : Int) > 1048576 then (some true) else ((spec_DrawSplitGroup.f k l0).bind fun bt1=>((impl_SplitGroup.f bt1.1 bt1.2.1 bt1.2.2).bind fun bt9=>((spec_SplitGroup.f k bt1.1 bt1.2.1 bt1.2.2).bind fun bt15=>((laws_equalGroup.f k bt9.1 bt15.1).bind fun t21=>(if t21 = true then ((laws_equalGroup.f k bt9.2 bt15.2).bind fun t22=>(if t22 = true then ((impl_ValidGroup.f k bt1.1 bt1.2.1).bind fun t23=>(if t23 = true then ((laws_has.f bt1.1 bt1.2.2).bind fun t24=>(laws_FnFlattenGroupSplit.j0 k bt1.2.1 bt1.2.2 bt9.1 bt9.2 bt15.1 bt15.2 (!t24) bt1.1)) else (laws_FnFlattenGroupSplit.j0 k bt1.2.1 bt1.2.2 bt9.1 bt9.2 bt15.1 bt15.2 true bt1.1))) else (laws_FnFlattenGroupSplit.j0 k bt1.2.1 bt1.2.2 bt9.1 bt9.2 bt15.1 bt15.2 true bt1.1))) else (laws_FnFlattenGroupSplit.j0 k bt1.2.1 bt1.2.2 bt9.1 bt9.2 bt15.1 bt15.2 true bt1.1))))))) = some r:=h
 clear h
 by_cases c2 : (l0.length : Int) > 1048576
 ·rw [if_pos c2] at H
  have c2b0 : decide (1048576 < (l0.length : Int)) = true:=decide_eq_true c2
  have c2b1 : decide (1048576 < l0.length) = true:=decide_eq_true (by omega)
  clear c2
  obtain rfl:=Option.some.inj H
  go_enter Try.func6,Try.ntmps6
  go_wp2
  go_ret
  exact ⟨by first | rfl | (simp [errW_none,errW_some] <;> rfl) | (simp [*,errW_none,errW_some] <;> rfl),hb_⟩
 ·rw [if_neg c2] at H
  have c2b0 : decide (1048576 < (l0.length : Int)) = false:=decide_eq_false c2
  have c2b1 : decide (1048576 < l0.length) = false:=decide_eq_false (by omega)
  clear c2
  replace H:=Option.bind_eq_some_iff.mp H
  obtain ⟨⟨t1,t4,t7⟩,A30,H⟩:=H
  try dsimp only at H
  have A3:=a0_ A30
  clear A30
  replace H:=Option.bind_eq_some_iff.mp H
  obtain ⟨⟨t9,t12⟩,A40,H⟩:=H
  try dsimp only at H
  have A4:=a0_ A40
  clear A40
  replace H:=Option.bind_eq_some_iff.mp H
  obtain ⟨⟨t15,t18⟩,A50,H⟩:=H
  try dsimp only at H
  have A5:=a0_ A50
  clear A50
  have HC6:=a0_ H
  clear H
  go_enter Try.func6,Try.ntmps6
  go_upto_region 6 with (first | ((with_reducible refine gate_callee (f:=24) rfl ?_);refine goesL_ (some 17) rfl rfl Try.func24 (by kernel_rfl) rfl #[.slice A0 l0.length c0] rfl lm_ ?_;(with_reducible refine (spec_DrawSplitGroup.calls k _ _ l0 t1 t4 t7 _ ?side1 ?side2 A3.out).mono ?_);(case side1=>repeat (first | exact HR0.out | (with_reducible refine Kd.C_alloc ?_ _) | (with_reducible refine Kd.C_drewN ?_ _) | (with_reducible refine Kd.C_drew ?_)));(case side2=>exact HC0.out);rintro e w7 ⟨v2,v5,rfl,ho0,ho1,hb⟩;refine ⟨_,rfl,?_⟩;have HO3:=a0_ (Kd.R_lower ho0 (below_size hb_));have HO6:=a0_ (Kd.R_lower ho1 (below_size hb_));replace HB:=a0_ (below_step hb_ hb);(try clear hb);(try clear ho0);(try clear ho1)) | ((with_reducible refine gate_dst (N:=3) rfl ?_);(try (refine gate_guard (by rfl) ?_;dsimp only));refine box_event ?hg (N:=3) ?hd (cs:=#[.slice none 0 0]) (t:=25) ?hr ?_;(case hd=>rfl);(case hg=>rfl);(case hr=>first | (go_simp;done) | (go_simp;rfl));intro gb8 hg w8 hbox hb;replace HO3:=rb_ HO3 hb;replace HO6:=rb_ HO6 hb;have BK8:=a0_ (hbox);have GW8:=a0_ ((by rw [hg];exact (below_size hb_) : w.heap.size ≤ gb8));have GE8:=a0_ ((by rw [hg];exact (below_size hb_) : w.heap.size ≤ gb8));replace HB:=a0_ (below_step hb_ hb);clear hb hbox hg;obtain ⟨Ao9,co9,eo9⟩:=Kd.R_slice HO3.out;subst eo9;have hcz10_0 : w8.cell? ⟨gb8,0,none⟩ = some (.slice none 0 0):=(blk_cell BK8.out 0).trans rfl;have hfz10_0:=blk_frozen BK8.out 0;obtain ⟨Ao11,co11,eo11⟩:=Kd.R_slice HO6.out;subst eo11) | ((with_reducible refine gate_callee (f:=25) rfl ?_);refine goesL_ (some 25) rfl rfl Try.func25 (by kernel_rfl) rfl #[.agg #[.slice Ao9 t1.length co9],.slice Ao11 t4.length co11,.int .i64 t7] rfl lm_ ?_;(with_reducible refine (impl_SplitGroup.calls _ _ t1 _ _ t4 t7 t9 t12 _ ?side1 ?side2 ?side3 ?side4 A4.out).mono ?_);(case side1=>refine (Kd.R_reads' (e:=85) (base:=w.heap.size) (ok:=fun k_=>True) (n:=t1.length) (c:=co9) ?_).2.2;exact (by (with_reducible repeat (first | apply Kd.R_alloc | apply Kd.R_drewN | apply Kd.R_drew));exact (Kd.R_mono (Kd.R_far (p:=⟨gb8,0,none⟩) (Kd.R_types HO3.out BK8.out (by decide)) (fun _ hk=>hk.2) (.slice Ao9 t1.length co9)) (fun _ h_=>h_.1))));(case side2=>exact (Kd.R_reads' HO3.out).2.1);(case side3=>refine (Kd.R_reads' (e:=47) (base:=w.heap.size) (ok:=fun k_=>True) (n:=t4.length) (c:=co11) ?_).2.2;exact (by (with_reducible repeat (first | apply Kd.R_alloc | apply Kd.R_drewN | apply Kd.R_drew));exact (Kd.R_mono (Kd.R_far (p:=⟨gb8,0,none⟩) (Kd.R_types HO6.out BK8.out (by decide)) (fun _ hk=>hk.2) (.slice Ao9 t1.length co9)) (fun _ h_=>h_.1))));(case side4=>exact (Kd.R_reads' HO6.out).2.1);rintro e w12 ⟨v10,v13,rfl,ho0,ho1,hb⟩;refine ⟨_,rfl,?_⟩;have n0_:=a0_ (Kd.R_below (by (with_reducible repeat (first | apply Kd.R_alloc | apply Kd.R_drewN | apply Kd.R_drew));exact (Kd.R_mono (Kd.R_far (p:=⟨gb8,0,none⟩) (Kd.R_types HO3.out BK8.out (by decide)) (fun _ hk=>hk.2) (.slice Ao9 t1.length co9)) (fun _ h_=>h_.1))) hb);have n1_:=a0_ (Kd.R_mono (Kd.R_told (Kd.R_told (Kd.R_old (by (with_reducible repeat (first | apply Kd.R_alloc | apply Kd.R_drewN | apply Kd.R_drew));exact (Kd.R_mono (Kd.R_far (p:=⟨gb8,0,none⟩) (Kd.R_types HO6.out BK8.out (by decide)) (fun _ hk=>hk.2) (.slice Ao9 t1.length co9)) (fun _ h_=>h_.1))) hb) (Kd.R_base ho0)) (Kd.R_base ho1)) (fun _ h_=>h_.1));have n2_:=a0_ (Kd.R_lower (Kd.R_new' ho0 (Kd.R_lt (by (with_reducible repeat (first | apply Kd.R_alloc | apply Kd.R_drewN | apply Kd.R_drew));exact (Kd.R_mono (Kd.R_far (p:=⟨gb8,0,none⟩) (Kd.R_types HO6.out BK8.out (by decide)) (fun _ hk=>hk.2) (.slice Ao9 t1.length co9)) (fun _ h_=>h_.1))))) (below_size hb_));have n3_:=a0_ (Kd.R_lower (Kd.R_new' ho1 (Kd.R_lt (by (with_reducible repeat (first | apply Kd.R_alloc | apply Kd.R_drewN | apply Kd.R_drew));exact (Kd.R_mono (Kd.R_far (p:=⟨gb8,0,none⟩) (Kd.R_types HO6.out BK8.out (by decide)) (fun _ hk=>hk.2) (.slice Ao9 t1.length co9)) (fun _ h_=>h_.1))))) (below_size hb_));have n4_:=a0_ (blk_below (g:=gb8) (o:=.cells #[.slice Ao9 t1.length co9] 25 (0,0)) (by (with_reducible repeat (first | refine blk_drewN ?_ _ | refine blk_drew ?_ | refine blk_alloc ?_ _));refine blk_put (cs:=#[.slice none 0 0]) ?_ 0 _ rfl;(with_reducible repeat (first | refine blk_drewN ?_ _ | refine blk_drew ?_ | refine blk_alloc ?_ _));exact BK8.out) hb);have n5_:=a0_ (below_step hb_ hb);clear HO3 HO6;clear BK8 HB;have HO3:=n0_;have HO6:=n1_;have HO11:=n2_;have HO14:=n3_;have BK8:=n4_;have HB:=n5_;clear n0_ n1_ n2_ n3_ n4_ n5_;(try clear hb);(try clear ho0);(try clear ho1);have hcz13_0 : w12.cell? ⟨gb8,0,none⟩ = some (.slice Ao9 t1.length co9):=(blk_cell BK8.out 0).trans rfl;have hfz13_0:=blk_frozen BK8.out 0) | ((with_reducible refine gate_callee (f:=26) rfl ?_);refine goesL_ (some 32) rfl rfl Try.func26 (by kernel_rfl) rfl #[.agg #[.slice Ao9 t1.length co9],.slice Ao11 t4.length co11,.int .i64 t7] rfl lm_ ?_;(with_reducible refine (spec_SplitGroup.calls k _ _ t1 _ _ t4 t7 t15 t18 _ ?side1 ?side2 ?side3 ?side4 A5.out).mono ?_);(case side1=>exact cc_ (Kd.R_reads' HO3.out).2.2);(case side2=>exact (Kd.R_reads' HO3.out).2.1);(case side3=>exact cc_ (Kd.R_reads' HO6.out).2.2);(case side4=>exact (Kd.R_reads' HO6.out).2.1);rintro e w14 ⟨v16,v19,rfl,ho0,ho1,hb⟩;refine ⟨_,rfl,?_⟩;have n0_:=rb_ HO3 hb;have n1_:=a0_ (Kd.R_mono (Kd.R_told (Kd.R_told (Kd.R_old (rr_ HO6.out) hb) (Kd.R_base ho0)) (Kd.R_base ho1)) (fun _ h_=>h_.1));have n2_:=a0_ (Kd.R_mono (Kd.R_told (Kd.R_told (Kd.R_old (rr_ HO11.out) hb) (Kd.R_base ho0)) (Kd.R_base ho1)) (fun _ h_=>h_.1));have n3_:=a0_ (Kd.R_mono (Kd.R_told (Kd.R_told (Kd.R_old (rr_ HO14.out) hb) (Kd.R_base ho0)) (Kd.R_base ho1)) (fun _ h_=>h_.1));have n4_:=a0_ (Kd.R_lower (Kd.R_new' (Kd.R_new' (Kd.R_new' ho0 (Kd.R_lt (rr_ HO6.out))) (Kd.R_lt (rr_ HO11.out))) (Kd.R_lt (rr_ HO14.out))) (below_size hb_));have n5_:=a0_ (Kd.R_lower (Kd.R_new' (Kd.R_new' (Kd.R_new' ho1 (Kd.R_lt (rr_ HO6.out))) (Kd.R_lt (rr_ HO11.out))) (Kd.R_lt (rr_ HO14.out))) (below_size hb_));have n6_:=kb_ BK8 hb;have n7_:=a0_ (below_step hb_ hb);clear HO3 HO6;clear HO11 HO14;clear BK8 HB;have HO3:=n0_;have HO6:=n1_;have HO11:=n2_;have HO14:=n3_;have HO17:=n4_;have HO20:=n5_;have BK8:=n6_;have HB:=n7_;clear n0_ n1_ n2_ n3_ n4_ n5_ n6_ n7_;(try clear hb);(try clear ho0);(try clear ho1)))
  (try simp only [Act.put,s1_,s2_,s3_])
  go_cut [56] (fun v56 wc=>∃ (kq : Nat) (x56_5 : Bool),v56 = .bool x56_5 ∧ Aside0 (laws_FnFlattenGroupSplit.j0 kq t4 t7 t9 t12 t15 t18 x56_5 t1 = some r) ∧ Aside0 (kq ≤ k) ∧ Aside0 (Kd.R k47 47 wc w.heap.size (fun k_=>some k_ ≠ (v10 : Value).ownBlock ∧ some k_ ≠ (v13 : Value).ownBlock ∧ some k_ ≠ (v16 : Value).ownBlock ∧ some k_ ≠ (v19 : Value).ownBlock) (.slice Ao11 t4.length co11) t4) ∧ Aside0 (Kd.R k47 47 wc w.heap.size (fun k_=>some k_ ≠ ((.slice Ao11 t4.length co11) : Value).ownBlock ∧ some k_ ≠ (v13 : Value).ownBlock ∧ some k_ ≠ (v16 : Value).ownBlock ∧ some k_ ≠ (v19 : Value).ownBlock) v10 t9) ∧ Aside0 (Kd.R k47 47 wc w.heap.size (fun k_=>some k_ ≠ ((.slice Ao11 t4.length co11) : Value).ownBlock ∧ some k_ ≠ (v10 : Value).ownBlock ∧ some k_ ≠ (v16 : Value).ownBlock ∧ some k_ ≠ (v19 : Value).ownBlock) v13 t12) ∧ Aside0 (Kd.R k47 47 wc w.heap.size (fun k_=>some k_ ≠ ((.slice Ao11 t4.length co11) : Value).ownBlock ∧ some k_ ≠ (v10 : Value).ownBlock ∧ some k_ ≠ (v13 : Value).ownBlock ∧ some k_ ≠ (v19 : Value).ownBlock) v16 t15) ∧ Aside0 (Kd.R k47 47 wc w.heap.size (fun k_=>some k_ ≠ ((.slice Ao11 t4.length co11) : Value).ownBlock ∧ some k_ ≠ (v10 : Value).ownBlock ∧ some k_ ≠ (v13 : Value).ownBlock ∧ some k_ ≠ (v16 : Value).ownBlock) v19 t18) ∧ Aside0 (Kd.R k85 85 wc w.heap.size (fun _=>True) (.slice Ao9 t1.length co9) t1) ∧ Aside0 (wc.heap[gb8]? = some (.cells #[(.slice Ao9 t1.length co9)] 25 (0,0))) ∧ Aside0 (Below w.heap.size w wc))
  case first =>
   have H:=HC6.out
   clear HC6
   replace H:=Option.bind_eq_some_iff.mp H
   obtain ⟨t21,A150,H⟩:=H
   try dsimp only at H
   have A15:=a0_ A150
   clear A150
   by_cases c16 : t21 = true
   ·subst c16
    have H1 : ((laws_equalGroup.f k t12 t18).bind fun t22=>(if t22 = true then ((impl_ValidGroup.f k t1 t4).bind fun t23=>(if t23 = true then ((laws_has.f t1 t7).bind fun t24=>(laws_FnFlattenGroupSplit.j0 k t4 t7 t9 t12 t15 t18 (!t24) t1)) else (laws_FnFlattenGroupSplit.j0 k t4 t7 t9 t12 t15 t18 true t1))) else (laws_FnFlattenGroupSplit.j0 k t4 t7 t9 t12 t15 t18 true t1))) = some r:=by rw [if_pos rfl] at H;exact H
    clear H
    have H:=H1
    clear H1
    replace H:=Option.bind_eq_some_iff.mp H
    obtain ⟨t22,A170,H⟩:=H
    try dsimp only at H
    have A17:=a0_ A170
    clear A170
    by_cases c18 : t22 = true
    ·subst c18
     have H1 : ((impl_ValidGroup.f k t1 t4).bind fun t23=>(if t23 = true then ((laws_has.f t1 t7).bind fun t24=>(laws_FnFlattenGroupSplit.j0 k t4 t7 t9 t12 t15 t18 (!t24) t1)) else (laws_FnFlattenGroupSplit.j0 k t4 t7 t9 t12 t15 t18 true t1))) = some r:=by rw [if_pos rfl] at H;exact H
     clear H
     have H:=H1
     clear H1
     replace H:=Option.bind_eq_some_iff.mp H
     obtain ⟨t23,A190,H⟩:=H
     try dsimp only at H
     have A19:=a0_ A190
     clear A190
     by_cases c20 : t23 = true
     ·subst c20
      have H1 : ((laws_has.f t1 t7).bind fun t24=>(laws_FnFlattenGroupSplit.j0 k t4 t7 t9 t12 t15 t18 (!t24) t1)) = some r:=by rw [if_pos rfl] at H;exact H
      clear H
      have H:=H1
      clear H1
      replace H:=Option.bind_eq_some_iff.mp H
      obtain ⟨t24,A210,H⟩:=H
      try dsimp only at H
      have A21:=a0_ A210
      clear A210
      have H':=a0_ H
      clear H
      obtain ⟨Ao22,co22,eo22⟩:=Kd.R_slice HO11.out
      subst eo22
      obtain ⟨Ao23,co23,eo23⟩:=Kd.R_slice HO17.out
      subst eo23
      go_wp2_with (first | ((with_reducible refine gate_callee (f:=13) rfl ?_);refine goesL_ (some 37) rfl rfl Try.func13 (by kernel_rfl) rfl #[.slice Ao22 t9.length co22,.slice Ao23 t15.length co23] rfl lm_ ?_;(with_reducible refine (laws_equalGroup.calls k _ _ t9 _ _ t15 true _ ?side1 ?side2 ?side3 ?side4 A15.out).mono ?_);(case side1=>exact cc_ (Kd.R_reads' HO11.out).2.2);(case side2=>exact (Kd.R_reads' HO11.out).2.1);(case side3=>exact cc_ (Kd.R_reads' HO17.out).2.2);(case side4=>exact (Kd.R_reads' HO17.out).2.1);rintro e w' ⟨rfl,⟨nd,rfl⟩⟩;refine ⟨_,rfl,?_⟩;obtain ⟨Ao24,co24,eo24⟩:=Kd.R_slice HO14.out;subst eo24;obtain ⟨Ao25,co25,eo25⟩:=Kd.R_slice HO20.out;subst eo25) | (go_at_call 13;(with_reducible refine (laws_equalGroup.calls k _ _ t12 _ _ t18 true _ ?side1 ?side2 ?side3 ?side4 A17.out).mono ?_);(case side1=>exact cc_ (Kd.R_reads' HO14.out).2.2);(case side2=>exact (Kd.R_reads' HO14.out).2.1);(case side3=>exact cc_ (Kd.R_reads' HO20.out).2.2);(case side4=>exact (Kd.R_reads' HO20.out).2.1);rintro e w' ⟨rfl,⟨nd,rfl⟩⟩;have hcz26_0 : w14.cell? ⟨gb8,0,none⟩ = some (.slice Ao9 t1.length co9):=(blk_cell BK8.out 0).trans rfl;have hfz26_0:=blk_frozen BK8.out 0) | (go_at_call 15;(with_reducible refine (impl_ValidGroup.calls k _ _ t1 _ _ t4 true _ ?side1 ?side2 ?side3 ?side4 A19.out).mono ?_);(case side1=>exact cc_ (Kd.R_reads' HO3.out).2.2);(case side2=>exact (Kd.R_reads' HO3.out).2.1);(case side3=>exact cc_ (Kd.R_reads' HO6.out).2.2);(case side4=>exact (Kd.R_reads' HO6.out).2.1);rintro e w27 ⟨rfl,hb⟩;replace HO3:=rb_ HO3 hb;replace HO6:=rb_ HO6 hb;replace HO11:=rb_ HO11 hb;replace HO14:=rb_ HO14 hb;replace HO17:=rb_ HO17 hb;replace HO20:=rb_ HO20 hb;replace BK8:=kb_ BK8 hb;replace HB:=a0_ (below_step hb_ hb);(try clear hb);have hcz28_0 : w27.cell? ⟨gb8,0,none⟩ = some (.slice Ao9 t1.length co9):=(blk_cell BK8.out 0).trans rfl;have hfz28_0:=blk_frozen BK8.out 0) | (go_at_call 22;(with_reducible refine (laws_has.calls _ _ t1 t7 t24 _ ?side1 ?side2 A21.out).mono ?_);(case side1=>exact cc_ (Kd.R_reads' HO3.out).2.2);(case side2=>exact (Kd.R_reads' HO3.out).2.1);rintro e w29 ⟨rfl,hb⟩;replace HO3:=rb_ HO3 hb;replace HO6:=rb_ HO6 hb;replace HO11:=rb_ HO11 hb;replace HO14:=rb_ HO14 hb;replace HO17:=rb_ HO17 hb;replace HO20:=rb_ HO20 hb;replace BK8:=kb_ BK8 hb;replace HB:=a0_ (below_step hb_ hb);(try clear hb);(try clear hb2);(try clear hk);(try clear hi)))
      go_meet
      case rel=>exact ⟨_,(!t24),(by first | rfl | (simp;done) | (simp [*];done)),H',⟨by first | omega | exact Nat.le_refl _⟩,⟨by (with_reducible repeat (first | apply Kd.R_alloc | apply Kd.R_drewN | apply Kd.R_drew));exact Kd.R_mono HO6.out (fun _ hk=>⟨hk.1.1.1.2,⟨hk.1.1.2,⟨hk.1.2,hk.2⟩⟩⟩)⟩,⟨by (with_reducible repeat (first | apply Kd.R_alloc | apply Kd.R_drewN | apply Kd.R_drew));exact Kd.R_mono HO11.out (fun _ hk=>⟨hk.1.1.2,⟨hk.1.1.1,⟨hk.1.2,hk.2⟩⟩⟩)⟩,⟨by (with_reducible repeat (first | apply Kd.R_alloc | apply Kd.R_drewN | apply Kd.R_drew));exact Kd.R_mono HO14.out (fun _ hk=>⟨hk.1.1.2,⟨hk.1.1.1,⟨hk.1.2,hk.2⟩⟩⟩)⟩,⟨by (with_reducible repeat (first | apply Kd.R_alloc | apply Kd.R_drewN | apply Kd.R_drew));exact Kd.R_mono HO17.out (fun _ hk=>⟨hk.1.1.2,⟨hk.1.2,⟨hk.2,hk.1.1.1⟩⟩⟩)⟩,⟨by (with_reducible repeat (first | apply Kd.R_alloc | apply Kd.R_drewN | apply Kd.R_drew));exact Kd.R_mono HO20.out (fun _ hk=>⟨hk.1.1.2,⟨hk.1.2,⟨hk.2,hk.1.1.1⟩⟩⟩)⟩,⟨by (with_reducible repeat (first | apply Kd.R_alloc | apply Kd.R_drewN | apply Kd.R_drew));exact HO3.out⟩,⟨by (with_reducible repeat (first | refine blk_drewN ?_ _ | refine blk_drew ?_ | refine blk_alloc ?_ _));exact BK8.out⟩,⟨hb_⟩⟩
     ·replace c20:=Bool.eq_false_iff.mpr c20
      subst c20
      have H1 : (laws_FnFlattenGroupSplit.j0 k t4 t7 t9 t12 t15 t18 true t1) = some r:=by rw [if_neg (show ¬ (false = true) by decide)] at H;exact H
      clear H
      have H:=H1
      clear H1
      have H':=a0_ H
      clear H
      obtain ⟨Ao30,co30,eo30⟩:=Kd.R_slice HO11.out
      subst eo30
      obtain ⟨Ao31,co31,eo31⟩:=Kd.R_slice HO17.out
      subst eo31
      go_wp2_with (first | ((with_reducible refine gate_callee (f:=13) rfl ?_);refine goesL_ (some 37) rfl rfl Try.func13 (by kernel_rfl) rfl #[.slice Ao30 t9.length co30,.slice Ao31 t15.length co31] rfl lm_ ?_;(with_reducible refine (laws_equalGroup.calls k _ _ t9 _ _ t15 true _ ?side1 ?side2 ?side3 ?side4 A15.out).mono ?_);(case side1=>exact cc_ (Kd.R_reads' HO11.out).2.2);(case side2=>exact (Kd.R_reads' HO11.out).2.1);(case side3=>exact cc_ (Kd.R_reads' HO17.out).2.2);(case side4=>exact (Kd.R_reads' HO17.out).2.1);rintro e w' ⟨rfl,⟨nd,rfl⟩⟩;refine ⟨_,rfl,?_⟩;obtain ⟨Ao32,co32,eo32⟩:=Kd.R_slice HO14.out;subst eo32;obtain ⟨Ao33,co33,eo33⟩:=Kd.R_slice HO20.out;subst eo33) | (go_at_call 13;(with_reducible refine (laws_equalGroup.calls k _ _ t12 _ _ t18 true _ ?side1 ?side2 ?side3 ?side4 A17.out).mono ?_);(case side1=>exact cc_ (Kd.R_reads' HO14.out).2.2);(case side2=>exact (Kd.R_reads' HO14.out).2.1);(case side3=>exact cc_ (Kd.R_reads' HO20.out).2.2);(case side4=>exact (Kd.R_reads' HO20.out).2.1);rintro e w' ⟨rfl,⟨nd,rfl⟩⟩;have hcz34_0 : w14.cell? ⟨gb8,0,none⟩ = some (.slice Ao9 t1.length co9):=(blk_cell BK8.out 0).trans rfl;have hfz34_0:=blk_frozen BK8.out 0) | (go_at_call 15;(with_reducible refine (impl_ValidGroup.calls k _ _ t1 _ _ t4 false _ ?side1 ?side2 ?side3 ?side4 A19.out).mono ?_);(case side1=>exact cc_ (Kd.R_reads' HO3.out).2.2);(case side2=>exact (Kd.R_reads' HO3.out).2.1);(case side3=>exact cc_ (Kd.R_reads' HO6.out).2.2);(case side4=>exact (Kd.R_reads' HO6.out).2.1);rintro e w35 ⟨rfl,hb⟩;replace HO3:=rb_ HO3 hb;replace HO6:=rb_ HO6 hb;replace HO11:=rb_ HO11 hb;replace HO14:=rb_ HO14 hb;replace HO17:=rb_ HO17 hb;replace HO20:=rb_ HO20 hb;replace BK8:=kb_ BK8 hb;replace HB:=a0_ (below_step hb_ hb);(try clear hb);(try clear hb2);(try clear hk);(try clear hi)))
      go_meet
      case rel=>exact ⟨_,(true),(by first | rfl | (simp;done) | (simp [*];done)),H',⟨by first | omega | exact Nat.le_refl _⟩,⟨by (with_reducible repeat (first | apply Kd.R_alloc | apply Kd.R_drewN | apply Kd.R_drew));exact Kd.R_mono HO6.out (fun _ hk=>⟨hk.1.1.1.2,⟨hk.1.1.2,⟨hk.1.2,hk.2⟩⟩⟩)⟩,⟨by (with_reducible repeat (first | apply Kd.R_alloc | apply Kd.R_drewN | apply Kd.R_drew));exact Kd.R_mono HO11.out (fun _ hk=>⟨hk.1.1.2,⟨hk.1.1.1,⟨hk.1.2,hk.2⟩⟩⟩)⟩,⟨by (with_reducible repeat (first | apply Kd.R_alloc | apply Kd.R_drewN | apply Kd.R_drew));exact Kd.R_mono HO14.out (fun _ hk=>⟨hk.1.1.2,⟨hk.1.1.1,⟨hk.1.2,hk.2⟩⟩⟩)⟩,⟨by (with_reducible repeat (first | apply Kd.R_alloc | apply Kd.R_drewN | apply Kd.R_drew));exact Kd.R_mono HO17.out (fun _ hk=>⟨hk.1.1.2,⟨hk.1.2,⟨hk.2,hk.1.1.1⟩⟩⟩)⟩,⟨by (with_reducible repeat (first | apply Kd.R_alloc | apply Kd.R_drewN | apply Kd.R_drew));exact Kd.R_mono HO20.out (fun _ hk=>⟨hk.1.1.2,⟨hk.1.2,⟨hk.2,hk.1.1.1⟩⟩⟩)⟩,⟨by (with_reducible repeat (first | apply Kd.R_alloc | apply Kd.R_drewN | apply Kd.R_drew));exact HO3.out⟩,⟨by (with_reducible repeat (first | refine blk_drewN ?_ _ | refine blk_drew ?_ | refine blk_alloc ?_ _));exact BK8.out⟩,⟨hb_⟩⟩
    ·replace c18:=Bool.eq_false_iff.mpr c18
     subst c18
     have H1 : (laws_FnFlattenGroupSplit.j0 k t4 t7 t9 t12 t15 t18 true t1) = some r:=by rw [if_neg (show ¬ (false = true) by decide)] at H;exact H
     clear H
     have H:=H1
     clear H1
     have H':=a0_ H
     clear H
     obtain ⟨Ao36,co36,eo36⟩:=Kd.R_slice HO11.out
     subst eo36
     obtain ⟨Ao37,co37,eo37⟩:=Kd.R_slice HO17.out
     subst eo37
     go_wp2_with (first | ((with_reducible refine gate_callee (f:=13) rfl ?_);refine goesL_ (some 37) rfl rfl Try.func13 (by kernel_rfl) rfl #[.slice Ao36 t9.length co36,.slice Ao37 t15.length co37] rfl lm_ ?_;(with_reducible refine (laws_equalGroup.calls k _ _ t9 _ _ t15 true _ ?side1 ?side2 ?side3 ?side4 A15.out).mono ?_);(case side1=>exact cc_ (Kd.R_reads' HO11.out).2.2);(case side2=>exact (Kd.R_reads' HO11.out).2.1);(case side3=>exact cc_ (Kd.R_reads' HO17.out).2.2);(case side4=>exact (Kd.R_reads' HO17.out).2.1);rintro e w' ⟨rfl,⟨nd,rfl⟩⟩;refine ⟨_,rfl,?_⟩;obtain ⟨Ao38,co38,eo38⟩:=Kd.R_slice HO14.out;subst eo38;obtain ⟨Ao39,co39,eo39⟩:=Kd.R_slice HO20.out;subst eo39) | (go_at_call 13;(with_reducible refine (laws_equalGroup.calls k _ _ t12 _ _ t18 false _ ?side1 ?side2 ?side3 ?side4 A17.out).mono ?_);(case side1=>exact cc_ (Kd.R_reads' HO14.out).2.2);(case side2=>exact (Kd.R_reads' HO14.out).2.1);(case side3=>exact cc_ (Kd.R_reads' HO20.out).2.2);(case side4=>exact (Kd.R_reads' HO20.out).2.1);rintro e w' ⟨rfl,⟨nd,rfl⟩⟩))
     go_meet
     case rel=>exact ⟨_,(true),(by first | rfl | (simp;done) | (simp [*];done)),H',⟨by first | omega | exact Nat.le_refl _⟩,⟨by (with_reducible repeat (first | apply Kd.R_alloc | apply Kd.R_drewN | apply Kd.R_drew));exact Kd.R_mono HO6.out (fun _ hk=>⟨hk.1.1.1.2,⟨hk.1.1.2,⟨hk.1.2,hk.2⟩⟩⟩)⟩,⟨by (with_reducible repeat (first | apply Kd.R_alloc | apply Kd.R_drewN | apply Kd.R_drew));exact Kd.R_mono HO11.out (fun _ hk=>⟨hk.1.1.2,⟨hk.1.1.1,⟨hk.1.2,hk.2⟩⟩⟩)⟩,⟨by (with_reducible repeat (first | apply Kd.R_alloc | apply Kd.R_drewN | apply Kd.R_drew));exact Kd.R_mono HO14.out (fun _ hk=>⟨hk.1.1.2,⟨hk.1.1.1,⟨hk.1.2,hk.2⟩⟩⟩)⟩,⟨by (with_reducible repeat (first | apply Kd.R_alloc | apply Kd.R_drewN | apply Kd.R_drew));exact Kd.R_mono HO17.out (fun _ hk=>⟨hk.1.1.2,⟨hk.1.2,⟨hk.2,hk.1.1.1⟩⟩⟩)⟩,⟨by (with_reducible repeat (first | apply Kd.R_alloc | apply Kd.R_drewN | apply Kd.R_drew));exact Kd.R_mono HO20.out (fun _ hk=>⟨hk.1.1.2,⟨hk.1.2,⟨hk.2,hk.1.1.1⟩⟩⟩)⟩,⟨by (with_reducible repeat (first | apply Kd.R_alloc | apply Kd.R_drewN | apply Kd.R_drew));exact HO3.out⟩,⟨by (with_reducible repeat (first | refine blk_drewN ?_ _ | refine blk_drew ?_ | refine blk_alloc ?_ _));exact BK8.out⟩,⟨hb_⟩⟩
   ·replace c16:=Bool.eq_false_iff.mpr c16
    subst c16
    have H1 : (laws_FnFlattenGroupSplit.j0 k t4 t7 t9 t12 t15 t18 true t1) = some r:=by rw [if_neg (show ¬ (false = true) by decide)] at H;exact H
    clear H
    have H:=H1
    clear H1
    have H':=a0_ H
    clear H
    obtain ⟨Ao40,co40,eo40⟩:=Kd.R_slice HO11.out
    subst eo40
    obtain ⟨Ao41,co41,eo41⟩:=Kd.R_slice HO17.out
    subst eo41
    go_wp2_with (first | ((with_reducible refine gate_callee (f:=13) rfl ?_);refine goesL_ (some 37) rfl rfl Try.func13 (by kernel_rfl) rfl #[.slice Ao40 t9.length co40,.slice Ao41 t15.length co41] rfl lm_ ?_;(with_reducible refine (laws_equalGroup.calls k _ _ t9 _ _ t15 false _ ?side1 ?side2 ?side3 ?side4 A15.out).mono ?_);(case side1=>exact cc_ (Kd.R_reads' HO11.out).2.2);(case side2=>exact (Kd.R_reads' HO11.out).2.1);(case side3=>exact cc_ (Kd.R_reads' HO17.out).2.2);(case side4=>exact (Kd.R_reads' HO17.out).2.1);rintro e w' ⟨rfl,⟨nd,rfl⟩⟩;refine ⟨_,rfl,?_⟩))
    go_meet
    case rel=>exact ⟨_,(true),(by first | rfl | (simp;done) | (simp [*];done)),H',⟨by first | omega | exact Nat.le_refl _⟩,⟨by (with_reducible repeat (first | apply Kd.R_alloc | apply Kd.R_drewN | apply Kd.R_drew));exact Kd.R_mono HO6.out (fun _ hk=>⟨hk.1.1.1.2,⟨hk.1.1.2,⟨hk.1.2,hk.2⟩⟩⟩)⟩,⟨by (with_reducible repeat (first | apply Kd.R_alloc | apply Kd.R_drewN | apply Kd.R_drew));exact Kd.R_mono HO11.out (fun _ hk=>⟨hk.1.1.2,⟨hk.1.1.1,⟨hk.1.2,hk.2⟩⟩⟩)⟩,⟨by (with_reducible repeat (first | apply Kd.R_alloc | apply Kd.R_drewN | apply Kd.R_drew));exact Kd.R_mono HO14.out (fun _ hk=>⟨hk.1.1.2,⟨hk.1.1.1,⟨hk.1.2,hk.2⟩⟩⟩)⟩,⟨by (with_reducible repeat (first | apply Kd.R_alloc | apply Kd.R_drewN | apply Kd.R_drew));exact Kd.R_mono HO17.out (fun _ hk=>⟨hk.1.1.2,⟨hk.1.2,⟨hk.2,hk.1.1.1⟩⟩⟩)⟩,⟨by (with_reducible repeat (first | apply Kd.R_alloc | apply Kd.R_drewN | apply Kd.R_drew));exact Kd.R_mono HO20.out (fun _ hk=>⟨hk.1.1.2,⟨hk.1.2,⟨hk.2,hk.1.1.1⟩⟩⟩)⟩,⟨by (with_reducible repeat (first | apply Kd.R_alloc | apply Kd.R_drewN | apply Kd.R_drew));exact HO3.out⟩,⟨by (with_reducible repeat (first | refine blk_drewN ?_ _ | refine blk_drew ?_ | refine blk_alloc ?_ _));exact BK8.out⟩,⟨hb_⟩⟩
  case rest =>
   clear HC6
   try clear c1
   try clear c2
   try clear c2b0
   try clear c2b1
   try clear p2
   try clear c6
   try clear c13
   try clear c16
   try clear c18
   try clear c20
   try clear c24
   try clear c25
   try clear c26
   try clear hcz10_0
   try clear hcz13_0
   try clear hcz26_0
   try clear hcz28_0
   try clear hcz34_0
   try clear hfz10_0
   try clear hfz13_0
   try clear hfz26_0
   try clear hfz28_0
   try clear hfz34_0
   obtain ⟨kq,x56_5,rfl,HA,HJ5,HO_4,HO_6,HO_7,HO_8,HO_9,Z9,BK8,HB⟩:=hcut
   cases kq with
   | zero=>exact absurd HA.out (by simp [laws_FnFlattenGroupSplit.j0])
   | succ kj5 =>
    have H:=HA.out
    clear HA
    simp only [laws_FnFlattenGroupSplit.j0] at H
    by_cases c42 : x56_5 = true
    ·subst c42
     have H1 : ((laws_equalGroup.f kj5 t9 t15).bind fun t25=>(if t25 = true then ((laws_equalGroup.f kj5 t12 t18).bind fun t26=>(some t26)) else (some false))) = some r:=by rw [if_pos rfl] at H;exact H
     clear H
     have H:=H1
     clear H1
     replace H:=Option.bind_eq_some_iff.mp H
     obtain ⟨t25,A430,H⟩:=H
     try dsimp only at H
     have A43:=a0_ A430
     clear A430
     by_cases c44 : t25 = true
     ·subst c44
      have H1 : ((laws_equalGroup.f kj5 t12 t18).bind fun t26=>(some t26)) = some r:=by rw [if_pos rfl] at H;exact H
      clear H
      have H:=H1
      clear H1
      replace H:=Option.bind_eq_some_iff.mp H
      obtain ⟨t26,A450,H⟩:=H
      replace H : (some t26) = some r:=H
      have A45:=a0_ A450
      clear A450
      obtain rfl:=Option.some.inj H
      obtain ⟨Ao46,co46,eo46⟩:=Kd.R_slice HO_6.out
      subst eo46
      obtain ⟨Ao47,co47,eo47⟩:=Kd.R_slice HO_8.out
      subst eo47
      go_wp2_with (first | ((with_reducible refine gate_callee (f:=13) rfl ?_);refine goesL_ (some 59) rfl rfl Try.func13 (by kernel_rfl) rfl #[.slice Ao46 t9.length co46,.slice Ao47 t15.length co47] rfl lm_ ?_;(with_reducible refine (laws_equalGroup.calls kj5 _ _ t9 _ _ t15 true _ ?side1 ?side2 ?side3 ?side4 A43.out).mono ?_);(case side1=>exact cc_ (Kd.R_reads' HO_6.out).2.2);(case side2=>exact (Kd.R_reads' HO_6.out).2.1);(case side3=>exact cc_ (Kd.R_reads' HO_8.out).2.2);(case side4=>exact (Kd.R_reads' HO_8.out).2.1);rintro e w' ⟨rfl,⟨nd,rfl⟩⟩;refine ⟨_,rfl,?_⟩;obtain ⟨Ao48,co48,eo48⟩:=Kd.R_slice HO_7.out;subst eo48;obtain ⟨Ao49,co49,eo49⟩:=Kd.R_slice HO_9.out;subst eo49) | (go_at_call 13;(with_reducible refine (laws_equalGroup.calls kj5 _ _ t12 _ _ t18 t26 _ ?side1 ?side2 ?side3 ?side4 A45.out).mono ?_);(case side1=>exact cc_ (Kd.R_reads' HO_7.out).2.2);(case side2=>exact (Kd.R_reads' HO_7.out).2.1);(case side3=>exact cc_ (Kd.R_reads' HO_9.out).2.2);(case side4=>exact (Kd.R_reads' HO_9.out).2.1);rintro e w' ⟨rfl,⟨nd,rfl⟩⟩))
      go_ret
      exact ⟨by first | rfl | (simp [errW_none,errW_some] <;> rfl) | (simp [*,errW_none,errW_some] <;> rfl),hb_⟩
     ·replace c44:=Bool.eq_false_iff.mpr c44
      subst c44
      have H1 : (some false) = some r:=by rw [if_neg (show ¬ (false = true) by decide)] at H;exact H
      clear H
      have H:=H1
      clear H1
      obtain rfl:=Option.some.inj H
      obtain ⟨Ao50,co50,eo50⟩:=Kd.R_slice HO_6.out
      subst eo50
      obtain ⟨Ao51,co51,eo51⟩:=Kd.R_slice HO_8.out
      subst eo51
      go_wp2_with (first | ((with_reducible refine gate_callee (f:=13) rfl ?_);refine goesL_ (some 59) rfl rfl Try.func13 (by kernel_rfl) rfl #[.slice Ao50 t9.length co50,.slice Ao51 t15.length co51] rfl lm_ ?_;(with_reducible refine (laws_equalGroup.calls kj5 _ _ t9 _ _ t15 false _ ?side1 ?side2 ?side3 ?side4 A43.out).mono ?_);(case side1=>exact cc_ (Kd.R_reads' HO_6.out).2.2);(case side2=>exact (Kd.R_reads' HO_6.out).2.1);(case side3=>exact cc_ (Kd.R_reads' HO_8.out).2.2);(case side4=>exact (Kd.R_reads' HO_8.out).2.1);rintro e w' ⟨rfl,⟨nd,rfl⟩⟩;refine ⟨_,rfl,?_⟩))
      go_ret
      exact ⟨by first | rfl | (simp [errW_none,errW_some] <;> rfl) | (simp [*,errW_none,errW_some] <;> rfl),hb_⟩
    ·replace c42:=Bool.eq_false_iff.mpr c42
     subst c42
     have H1 : ((impl_FlattenGroup.f kj5 t1 t4).bind fun t27=>((impl_SplitGroup.f t1 t27 t7).bind fun bt30=>(if (t9.length : Int) = 0 then (if (bt30.1.length : Int) = 0 then (if (t12.length : Int) = 0 then (if (bt30.2.length : Int) = 0 then (some true) else ((impl_FlattenGroup.f kj5 t1 t12).bind fun t36=>((laws_equalGroup.f kj5 bt30.2 t36).bind fun t39=>(some t39)))) else ((impl_FlattenGroup.f kj5 t1 t12).bind fun t40=>((laws_equalGroup.f kj5 bt30.2 t40).bind fun t43=>(some t43)))) else ((impl_FlattenGroup.f kj5 t1 t9).bind fun t44=>((laws_equalGroup.f kj5 bt30.1 t44).bind fun t47=>(if t47 = true then (if (t12.length : Int) = 0 then (if (bt30.2.length : Int) = 0 then (some true) else ((impl_FlattenGroup.f kj5 t1 t12).bind fun t48=>((laws_equalGroup.f kj5 bt30.2 t48).bind fun t51=>(some t51)))) else ((impl_FlattenGroup.f kj5 t1 t12).bind fun t52=>((laws_equalGroup.f kj5 bt30.2 t52).bind fun t55=>(some t55)))) else (some false))))) else ((impl_FlattenGroup.f kj5 t1 t9).bind fun t56=>((laws_equalGroup.f kj5 bt30.1 t56).bind fun t59=>(if t59 = true then (if (t12.length : Int) = 0 then (if (bt30.2.length : Int) = 0 then (some true) else ((impl_FlattenGroup.f kj5 t1 t12).bind fun t60=>((laws_equalGroup.f kj5 bt30.2 t60).bind fun t63=>(some t63)))) else ((impl_FlattenGroup.f kj5 t1 t12).bind fun t64=>((laws_equalGroup.f kj5 bt30.2 t64).bind fun t67=>(some t67)))) else (some false))))))) = some r:=by rw [if_neg (show ¬ (false = true) by decide)] at H;exact H
     clear H
     have H:=H1
     clear H1
     replace H:=Option.bind_eq_some_iff.mp H
     obtain ⟨t27,A520,H⟩:=H
     try dsimp only at H
     have A52:=a0_ A520
     clear A520
     replace H:=Option.bind_eq_some_iff.mp H
     obtain ⟨⟨t30,t33⟩,A530,H⟩:=H
     try dsimp only at H
     have A53:=a0_ A530
     clear A530
     by_cases c54 : (t9.length : Int) = 0
     ·rw [if_pos c54] at H
      have c54b0 : ((t9.length : Int) == 0) = true:=beq_iff_eq.mpr c54
      have c54b1 : ((t9.length : Int) != 0) = false:=bne_eq_false_iff_eq.mpr c54
      clear c54
      by_cases c55 : (t30.length : Int) = 0
      ·rw [if_pos c55] at H
       have c55b0 : ((t30.length : Int) == 0) = true:=beq_iff_eq.mpr c55
       have c55b1 : ((t30.length : Int) != 0) = false:=bne_eq_false_iff_eq.mpr c55
       clear c55
       by_cases c56 : (t12.length : Int) = 0
       ·rw [if_pos c56] at H
        have c56b0 : ((t12.length : Int) == 0) = true:=beq_iff_eq.mpr c56
        have c56b1 : ((t12.length : Int) != 0) = false:=bne_eq_false_iff_eq.mpr c56
        clear c56
        by_cases c57 : (t33.length : Int) = 0
        ·rw [if_pos c57] at H
         have c57b0 : ((t33.length : Int) == 0) = true:=beq_iff_eq.mpr c57
         have c57b1 : ((t33.length : Int) != 0) = false:=bne_eq_false_iff_eq.mpr c57
         clear c57
         obtain rfl:=Option.some.inj H
         try go_wp2
         have n0_:=a0_ (Kd.R_drew HO_4.out)
         have n1_:=a0_ (Kd.R_drew HO_6.out)
         have n2_:=a0_ (Kd.R_drew HO_7.out)
         have n3_:=a0_ (Kd.R_drew HO_8.out)
         have n4_:=a0_ (Kd.R_drew HO_9.out)
         have n5_:=a0_ (Kd.R_drew Z9.out)
         have n6_:=a0_ (blk_drew BK8.out)
         have n7_:=a0_ (below_drew1 HB.out)
         clear HO_4
         clear HO_6
         clear HO_7
         clear HO_8
         clear HO_9
         clear Z9
         clear BK8
         clear HB
         have HO_4:=n0_
         have HO_6:=n1_
         have HO_7:=n2_
         have HO_8:=n3_
         have HO_9:=n4_
         have Z9:=n5_
         have BK8:=n6_
         have HB:=n7_
         clear n0_ n1_ n2_ n3_ n4_ n5_ n6_ n7_
         refine start_ (n:=11) (S:=fun w'=>w'.cell? ⟨gb8,0,none⟩ = some (.slice Ao9 t1.length co9)) (ds:=[]) #[false,false,false,false,false,false,false,false,false,false,false] (by kernel_rfl) rfl rfl ((blk_cell BK8.out 0).trans rfl) (fun hHeld=>?_);refine with_tabW laws_FnFlattenGroupSplit.tab8 laws_FnFlattenGroupSplit.bits8 (fun HT_ HW_=>?_)
         generalize wc.drew = w58 at HO_4 HO_6 HO_7 HO_8 HO_9 Z9 BK8 HB hHeld ⊢
         refine pure_ (i:=2) (N:=some 68) (v:=?_) (a':=?_) #[false,false,true,false,false,false,false,false,false,false,false] rfl rfl (any_of HT_.out (by kernel_rfl)) (fun _ _ _ h=>h) (Or.inl ⟨by rfl,?_⟩) ?_ ?_
         rotate_left
         ·intro w'
          go_simp
          with_reducible rfl
         rotate_left
         ·simp only [Act.put,s1_,s2_,s3_,i64_w,i32_w]
          rfl
         refine pure_ (i:=4) (N:=some 70) (v:=?_) (a':=?_) #[false,false,true,false,true,false,false,false,false,false,false] rfl rfl (any_of HT_.out (by kernel_rfl)) (fun _ _ _ h=>h) (Or.inl ⟨by rfl,?_⟩) ?_ ?_
         rotate_left
         ·intro w'
          go_simp
          with_reducible rfl
         rotate_left
         ·simp only [Act.put,s1_,s2_,s3_,i64_w,i32_w]
          rfl
         refine take_ (i:=0) (N:=some 66) (v:=?_) (a':=?_) #[true,false,true,false,true,false,false,false,false,false,false] rfl rfl (take_ofW HT_.out HW_.out (by kernel_rfl)) (fun _ _ _ h=>h) (Or.inl ⟨by rfl,?_⟩) hHeld ?_ ?_
         rotate_left
         ·intro w' s0
          go_simp
          with_reducible rfl
         rotate_left
         ·simp only [Act.put,s1_,s2_,s3_,i64_w,i32_w]
          rfl
         refine take_ (i:=1) (N:=some 67) (v:=?_) (a':=?_) #[true,true,true,false,true,false,false,false,false,false,false] rfl rfl (take_ofW HT_.out HW_.out (by kernel_rfl)) (fun _ _ _ h=>h) (Or.inl ⟨by rfl,?_⟩) hHeld ?_ ?_
         rotate_left
         ·intro w' s0
          go_simp
          with_reducible rfl
         rotate_left
         ·simp only [Act.put,s1_,s2_,s3_,i64_w,i32_w]
          rfl
         refine one_ (i:=3) (N:=some 69) #[true,true,true,true,true,false,false,false,false,false,false] rfl rfl (one_of HT_.out (by kernel_rfl)) (by decide) (fun K hK=>?_)
         refine goes_ Try.func12 (by kernel_rfl) rfl #[.agg #[.slice Ao9 t1.length co9],.slice Ao11 t4.length co11] (by rfl) rfl rfl lm_ ?_
         with_reducible refine (impl_FlattenGroup.calls kj5 _ _ t1 _ _ t4 t27 _ ?side1 ?side2 ?side3 ?side4 A52.out).mono ?_
         (case side1=>exact cc_ (Kd.R_reads' Z9.out).2.2)
         (case side2=>exact (Kd.R_reads' Z9.out).2.1)
         (case side3=>exact cc_ (Kd.R_reads' HO_4.out).2.2)
         (case side4=>exact (Kd.R_reads' HO_4.out).2.1)
         rintro e w59 ⟨v28,rfl,ho0,hb⟩
         refine ⟨_,rfl,?_⟩
         have n0_:=a0_ (Kd.R_elder' (rr_ HO_4.out) (Kd.R_base ho0) hb)
         have n1_:=a0_ (Kd.R_elder' (rr_ HO_6.out) (Kd.R_base ho0) hb)
         have n2_:=a0_ (Kd.R_elder' (rr_ HO_7.out) (Kd.R_base ho0) hb)
         have n3_:=a0_ (Kd.R_elder' (rr_ HO_8.out) (Kd.R_base ho0) hb)
         have n4_:=a0_ (Kd.R_elder' (rr_ HO_9.out) (Kd.R_base ho0) hb)
         have n5_:=rb_ Z9 hb
         have n6_:=a0_ (Kd.R_lower (Kd.R_new' (Kd.R_new' (Kd.R_new' (Kd.R_new' (Kd.R_new' ho0 (Kd.R_lt (rr_ HO_4.out))) (Kd.R_lt (rr_ HO_6.out))) (Kd.R_lt (rr_ HO_7.out))) (Kd.R_lt (rr_ HO_8.out))) (Kd.R_lt (rr_ HO_9.out))) (below_size hb_))
         have n7_:=kb_ BK8 hb
         have n8_:=a0_ (below_step hb_ hb)
         clear HO_4
         clear HO_6
         clear HO_7
         clear HO_8
         clear HO_9
         clear Z9
         clear BK8
         clear HB
         have HO_4:=n0_
         have HO_6:=n1_
         have HO_7:=n2_
         have HO_8:=n3_
         have HO_9:=n4_
         have Z9:=n5_
         have HO29:=n6_
         have BK8:=n7_
         have HB:=n8_
         clear n0_ n1_ n2_ n3_ n4_ n5_ n6_ n7_ n8_
         (try clear hb)
         (try clear hb2)
         (try clear hk)
         (try clear hi)
         (try clear ho0)
         obtain ⟨Ao60,co60,eo60⟩:=Kd.R_slice HO29.out
         (first | subst eo60 | (injection eo60 with f1_ f2_ f3_;have f4_:=f1_.symm;have f5_:=f3_.symm;clear f1_ f2_ f3_;subst f4_;subst f5_))
         refine hK.out _ _ ((blk_cell BK8.out 0).trans rfl) (fun hHeld=>?_)
         clear hK K
         refine norm_ (a':=?_) ?_ ?_
         rotate_left
         ·show Act.put _ (some 69) _ = _
          simp only [Act.put,s1_,s2_,s3_,i64_w,i32_w]
          rfl
         refine one_ (i:=5) (N:=some 71) #[true,true,true,true,true,true,false,false,false,false,false] rfl rfl (one_of HT_.out (by kernel_rfl)) (by decide) (fun K hK=>?_)
         refine goes_ Try.func25 (by kernel_rfl) rfl #[.agg #[.slice Ao9 t1.length co9],.slice Ao60 t27.length co60,.int .i64 t7] (by rfl) rfl rfl lm_ ?_
         with_reducible refine (impl_SplitGroup.calls _ _ t1 _ _ t27 t7 t30 t33 _ ?side1 ?side2 ?side3 ?side4 A53.out).mono ?_
         (case side1=>exact cc_ (Kd.R_reads' Z9.out).2.2)
         (case side2=>exact (Kd.R_reads' Z9.out).2.1)
         (case side3=>exact cc_ (Kd.R_reads' HO29.out).2.2)
         (case side4=>exact (Kd.R_reads' HO29.out).2.1)
         rintro e w61 ⟨v31,v34,rfl,ho0,ho1,hb⟩
         refine ⟨_,rfl,?_⟩
         have n0_:=a0_ (Kd.R_mono (Kd.R_told (Kd.R_told (Kd.R_old (rr_ HO_4.out) hb) (Kd.R_base ho0)) (Kd.R_base ho1)) (fun _ h_=>h_.1))
         have n1_:=a0_ (Kd.R_mono (Kd.R_told (Kd.R_told (Kd.R_old (rr_ HO_6.out) hb) (Kd.R_base ho0)) (Kd.R_base ho1)) (fun _ h_=>h_.1))
         have n2_:=a0_ (Kd.R_mono (Kd.R_told (Kd.R_told (Kd.R_old (rr_ HO_7.out) hb) (Kd.R_base ho0)) (Kd.R_base ho1)) (fun _ h_=>h_.1))
         have n3_:=a0_ (Kd.R_mono (Kd.R_told (Kd.R_told (Kd.R_old (rr_ HO_8.out) hb) (Kd.R_base ho0)) (Kd.R_base ho1)) (fun _ h_=>h_.1))
         have n4_:=a0_ (Kd.R_mono (Kd.R_told (Kd.R_told (Kd.R_old (rr_ HO_9.out) hb) (Kd.R_base ho0)) (Kd.R_base ho1)) (fun _ h_=>h_.1))
         have n5_:=rb_ Z9 hb
         have n6_:=a0_ (Kd.R_mono (Kd.R_told (Kd.R_told (Kd.R_old (rr_ HO29.out) hb) (Kd.R_base ho0)) (Kd.R_base ho1)) (fun _ h_=>h_.1))
         have n7_:=a0_ (Kd.R_lower (Kd.R_new' (Kd.R_new' (Kd.R_new' (Kd.R_new' (Kd.R_new' (Kd.R_new' ho0 (Kd.R_lt (rr_ HO_4.out))) (Kd.R_lt (rr_ HO_6.out))) (Kd.R_lt (rr_ HO_7.out))) (Kd.R_lt (rr_ HO_8.out))) (Kd.R_lt (rr_ HO_9.out))) (Kd.R_lt (rr_ HO29.out))) (below_size hb_))
         have n8_:=a0_ (Kd.R_lower (Kd.R_new' (Kd.R_new' (Kd.R_new' (Kd.R_new' (Kd.R_new' (Kd.R_new' ho1 (Kd.R_lt (rr_ HO_4.out))) (Kd.R_lt (rr_ HO_6.out))) (Kd.R_lt (rr_ HO_7.out))) (Kd.R_lt (rr_ HO_8.out))) (Kd.R_lt (rr_ HO_9.out))) (Kd.R_lt (rr_ HO29.out))) (below_size hb_))
         have n9_:=kb_ BK8 hb
         have n10_:=a0_ (below_step hb_ hb)
         clear HO_4
         clear HO_6
         clear HO_7
         clear HO_8
         clear HO_9
         clear Z9
         clear HO29
         clear BK8
         clear HB
         have HO_4:=n0_
         have HO_6:=n1_
         have HO_7:=n2_
         have HO_8:=n3_
         have HO_9:=n4_
         have Z9:=n5_
         have HO29:=n6_
         have HO32:=n7_
         have HO35:=n8_
         have BK8:=n9_
         have HB:=n10_
         clear n0_ n1_ n2_ n3_ n4_ n5_ n6_ n7_ n8_ n9_ n10_
         (try clear hb)
         (try clear hb2)
         (try clear hk)
         (try clear hi)
         (try clear ho0)
         (try clear ho1)
         refine hK.out _ _ ((blk_cell BK8.out 0).trans rfl) (fun hHeld=>?_)
         clear hK K
         refine norm_ (a':=?_) ?_ ?_
         rotate_left
         ·show Act.put _ (some 71) _ = _
          simp only [Act.put,s1_,s2_,s3_,i64_w,i32_w]
          rfl
         refine pure_ (i:=6) (N:=some 65) (v:=?_) (a':=?_) #[true,true,true,true,true,true,true,false,false,false,false] rfl rfl (any_of HT_.out (by kernel_rfl)) (fun _ _ _ h=>h) (Or.inl ⟨by rfl,?_⟩) ?_ ?_
         rotate_left
         ·intro w'
          go_simp
          with_reducible rfl
         rotate_left
         ·simp only [Act.put,s1_,s2_,s3_,i64_w,i32_w]
          rfl
         refine pure_ (i:=7) (N:=some 72) (v:=?_) (a':=?_) #[true,true,true,true,true,true,true,true,false,false,false] rfl rfl (any_of HT_.out (by kernel_rfl)) (fun _ _ _ h=>h) (Or.inl ⟨by rfl,?_⟩) ?_ ?_
         rotate_left
         ·intro w'
          go_simp
          with_reducible rfl
         rotate_left
         ·simp only [Act.put,s1_,s2_,s3_,i64_w,i32_w]
          rfl
         refine pure_ (i:=8) (N:=some 73) (v:=?_) (a':=?_) #[true,true,true,true,true,true,true,true,true,false,false] rfl rfl (any_of HT_.out (by kernel_rfl)) (fun _ _ _ h=>h) (Or.inl ⟨by rfl,?_⟩) ?_ ?_
         rotate_left
         ·intro w'
          go_simp
          with_reducible rfl
         rotate_left
         ·simp only [Act.put,s1_,s2_,s3_,i64_w,i32_w]
          rfl
         refine pure_ (i:=9) (N:=some 10) (v:=?_) (a':=?_) #[true,true,true,true,true,true,true,true,true,true,false] rfl rfl (any_of HT_.out (by kernel_rfl)) (fun _ _ _ h=>h) (Or.inl ⟨by rfl,?_⟩) ?_ ?_
         rotate_left
         ·intro w'
          go_simp
          with_reducible rfl
         rotate_left
         ·simp only [Act.put,s1_,s2_,s3_,i64_w,i32_w]
          rfl
         refine pure_ (i:=10) (N:=some 11) (v:=?_) (a':=?_) #[true,true,true,true,true,true,true,true,true,true,true] rfl rfl (any_of HT_.out (by kernel_rfl)) (fun _ _ _ h=>h) (Or.inl ⟨by rfl,?_⟩) ?_ ?_
         rotate_left
         ·intro w'
          go_simp
          with_reducible rfl
         rotate_left
         ·simp only [Act.put,s1_,s2_,s3_,i64_w,i32_w]
          rfl
         refine done_ (done_of HT_.out (by kernel_rfl)) ?_
         obtain ⟨Ao62,co62,eo62⟩:=Kd.R_slice HO_6.out
         subst eo62
         obtain ⟨Ao63,co63,eo63⟩:=Kd.R_slice HO32.out
         subst eo63
         obtain ⟨Ao64,co64,eo64⟩:=Kd.R_slice HO_7.out
         subst eo64
         obtain ⟨Ao65,co65,eo65⟩:=Kd.R_slice HO35.out
         subst eo65
         try go_wp2
         go_ret
         exact ⟨by first | rfl | (simp [errW_none,errW_some] <;> rfl) | (simp [*,errW_none,errW_some] <;> rfl),hb_⟩
        ·rw [if_neg c57] at H
         have c57b0 : ((t33.length : Int) == 0) = false:=beq_eq_false_iff_ne.mpr c57
         have c57b1 : ((t33.length : Int) != 0) = true:=bne_iff_ne.mpr c57
         have c57b2 : ¬ (t33 = []):=fun h_=>c57 (by rw [h_];rfl)
         replace H:=Option.bind_eq_some_iff.mp H
         obtain ⟨t36,A660,H⟩:=H
         try dsimp only at H
         have A66:=a0_ A660
         clear A660
         replace H:=Option.bind_eq_some_iff.mp H
         obtain ⟨t39,A670,H⟩:=H
         replace H : (some t39) = some r:=H
         have A67:=a0_ A670
         clear A670
         obtain rfl:=Option.some.inj H
         try go_wp2
         have n0_:=a0_ (Kd.R_drew HO_4.out)
         have n1_:=a0_ (Kd.R_drew HO_6.out)
         have n2_:=a0_ (Kd.R_drew HO_7.out)
         have n3_:=a0_ (Kd.R_drew HO_8.out)
         have n4_:=a0_ (Kd.R_drew HO_9.out)
         have n5_:=a0_ (Kd.R_drew Z9.out)
         have n6_:=a0_ (blk_drew BK8.out)
         have n7_:=a0_ (below_drew1 HB.out)
         clear HO_4
         clear HO_6
         clear HO_7
         clear HO_8
         clear HO_9
         clear Z9
         clear BK8
         clear HB
         have HO_4:=n0_
         have HO_6:=n1_
         have HO_7:=n2_
         have HO_8:=n3_
         have HO_9:=n4_
         have Z9:=n5_
         have BK8:=n6_
         have HB:=n7_
         clear n0_ n1_ n2_ n3_ n4_ n5_ n6_ n7_
         refine start_ (n:=11) (S:=fun w'=>w'.cell? ⟨gb8,0,none⟩ = some (.slice Ao9 t1.length co9)) (ds:=[]) #[false,false,false,false,false,false,false,false,false,false,false] (by kernel_rfl) rfl rfl ((blk_cell BK8.out 0).trans rfl) (fun hHeld=>?_);refine with_tabW laws_FnFlattenGroupSplit.tab8 laws_FnFlattenGroupSplit.bits8 (fun HT_ HW_=>?_)
         generalize wc.drew = w68 at HO_4 HO_6 HO_7 HO_8 HO_9 Z9 BK8 HB hHeld ⊢
         refine pure_ (i:=2) (N:=some 68) (v:=?_) (a':=?_) #[false,false,true,false,false,false,false,false,false,false,false] rfl rfl (any_of HT_.out (by kernel_rfl)) (fun _ _ _ h=>h) (Or.inl ⟨by rfl,?_⟩) ?_ ?_
         rotate_left
         ·intro w'
          go_simp
          with_reducible rfl
         rotate_left
         ·simp only [Act.put,s1_,s2_,s3_,i64_w,i32_w]
          rfl
         refine pure_ (i:=4) (N:=some 70) (v:=?_) (a':=?_) #[false,false,true,false,true,false,false,false,false,false,false] rfl rfl (any_of HT_.out (by kernel_rfl)) (fun _ _ _ h=>h) (Or.inl ⟨by rfl,?_⟩) ?_ ?_
         rotate_left
         ·intro w'
          go_simp
          with_reducible rfl
         rotate_left
         ·simp only [Act.put,s1_,s2_,s3_,i64_w,i32_w]
          rfl
         refine take_ (i:=0) (N:=some 66) (v:=?_) (a':=?_) #[true,false,true,false,true,false,false,false,false,false,false] rfl rfl (take_ofW HT_.out HW_.out (by kernel_rfl)) (fun _ _ _ h=>h) (Or.inl ⟨by rfl,?_⟩) hHeld ?_ ?_
         rotate_left
         ·intro w' s0
          go_simp
          with_reducible rfl
         rotate_left
         ·simp only [Act.put,s1_,s2_,s3_,i64_w,i32_w]
          rfl
         refine take_ (i:=1) (N:=some 67) (v:=?_) (a':=?_) #[true,true,true,false,true,false,false,false,false,false,false] rfl rfl (take_ofW HT_.out HW_.out (by kernel_rfl)) (fun _ _ _ h=>h) (Or.inl ⟨by rfl,?_⟩) hHeld ?_ ?_
         rotate_left
         ·intro w' s0
          go_simp
          with_reducible rfl
         rotate_left
         ·simp only [Act.put,s1_,s2_,s3_,i64_w,i32_w]
          rfl
         refine one_ (i:=3) (N:=some 69) #[true,true,true,true,true,false,false,false,false,false,false] rfl rfl (one_of HT_.out (by kernel_rfl)) (by decide) (fun K hK=>?_)
         refine goes_ Try.func12 (by kernel_rfl) rfl #[.agg #[.slice Ao9 t1.length co9],.slice Ao11 t4.length co11] (by rfl) rfl rfl lm_ ?_
         with_reducible refine (impl_FlattenGroup.calls kj5 _ _ t1 _ _ t4 t27 _ ?side1 ?side2 ?side3 ?side4 A52.out).mono ?_
         (case side1=>exact cc_ (Kd.R_reads' Z9.out).2.2)
         (case side2=>exact (Kd.R_reads' Z9.out).2.1)
         (case side3=>exact cc_ (Kd.R_reads' HO_4.out).2.2)
         (case side4=>exact (Kd.R_reads' HO_4.out).2.1)
         rintro e w69 ⟨v28,rfl,ho0,hb⟩
         refine ⟨_,rfl,?_⟩
         have n0_:=a0_ (Kd.R_elder' (rr_ HO_4.out) (Kd.R_base ho0) hb)
         have n1_:=a0_ (Kd.R_elder' (rr_ HO_6.out) (Kd.R_base ho0) hb)
         have n2_:=a0_ (Kd.R_elder' (rr_ HO_7.out) (Kd.R_base ho0) hb)
         have n3_:=a0_ (Kd.R_elder' (rr_ HO_8.out) (Kd.R_base ho0) hb)
         have n4_:=a0_ (Kd.R_elder' (rr_ HO_9.out) (Kd.R_base ho0) hb)
         have n5_:=rb_ Z9 hb
         have n6_:=a0_ (Kd.R_lower (Kd.R_new' (Kd.R_new' (Kd.R_new' (Kd.R_new' (Kd.R_new' ho0 (Kd.R_lt (rr_ HO_4.out))) (Kd.R_lt (rr_ HO_6.out))) (Kd.R_lt (rr_ HO_7.out))) (Kd.R_lt (rr_ HO_8.out))) (Kd.R_lt (rr_ HO_9.out))) (below_size hb_))
         have n7_:=kb_ BK8 hb
         have n8_:=a0_ (below_step hb_ hb)
         clear HO_4
         clear HO_6
         clear HO_7
         clear HO_8
         clear HO_9
         clear Z9
         clear BK8
         clear HB
         have HO_4:=n0_
         have HO_6:=n1_
         have HO_7:=n2_
         have HO_8:=n3_
         have HO_9:=n4_
         have Z9:=n5_
         have HO29:=n6_
         have BK8:=n7_
         have HB:=n8_
         clear n0_ n1_ n2_ n3_ n4_ n5_ n6_ n7_ n8_
         (try clear hb)
         (try clear hb2)
         (try clear hk)
         (try clear hi)
         (try clear ho0)
         obtain ⟨Ao70,co70,eo70⟩:=Kd.R_slice HO29.out
         (first | subst eo70 | (injection eo70 with f1_ f2_ f3_;have f4_:=f1_.symm;have f5_:=f3_.symm;clear f1_ f2_ f3_;subst f4_;subst f5_))
         refine hK.out _ _ ((blk_cell BK8.out 0).trans rfl) (fun hHeld=>?_)
         clear hK K
         refine norm_ (a':=?_) ?_ ?_
         rotate_left
         ·show Act.put _ (some 69) _ = _
          simp only [Act.put,s1_,s2_,s3_,i64_w,i32_w]
          rfl
         refine one_ (i:=5) (N:=some 71) #[true,true,true,true,true,true,false,false,false,false,false] rfl rfl (one_of HT_.out (by kernel_rfl)) (by decide) (fun K hK=>?_)
         refine goes_ Try.func25 (by kernel_rfl) rfl #[.agg #[.slice Ao9 t1.length co9],.slice Ao70 t27.length co70,.int .i64 t7] (by rfl) rfl rfl lm_ ?_
         with_reducible refine (impl_SplitGroup.calls _ _ t1 _ _ t27 t7 t30 t33 _ ?side1 ?side2 ?side3 ?side4 A53.out).mono ?_
         (case side1=>exact cc_ (Kd.R_reads' Z9.out).2.2)
         (case side2=>exact (Kd.R_reads' Z9.out).2.1)
         (case side3=>exact cc_ (Kd.R_reads' HO29.out).2.2)
         (case side4=>exact (Kd.R_reads' HO29.out).2.1)
         rintro e w71 ⟨v31,v34,rfl,ho0,ho1,hb⟩
         refine ⟨_,rfl,?_⟩
         have n0_:=a0_ (Kd.R_mono (Kd.R_told (Kd.R_told (Kd.R_old (rr_ HO_4.out) hb) (Kd.R_base ho0)) (Kd.R_base ho1)) (fun _ h_=>h_.1))
         have n1_:=a0_ (Kd.R_mono (Kd.R_told (Kd.R_told (Kd.R_old (rr_ HO_6.out) hb) (Kd.R_base ho0)) (Kd.R_base ho1)) (fun _ h_=>h_.1))
         have n2_:=a0_ (Kd.R_mono (Kd.R_told (Kd.R_told (Kd.R_old (rr_ HO_7.out) hb) (Kd.R_base ho0)) (Kd.R_base ho1)) (fun _ h_=>h_.1))
         have n3_:=a0_ (Kd.R_mono (Kd.R_told (Kd.R_told (Kd.R_old (rr_ HO_8.out) hb) (Kd.R_base ho0)) (Kd.R_base ho1)) (fun _ h_=>h_.1))
         have n4_:=a0_ (Kd.R_mono (Kd.R_told (Kd.R_told (Kd.R_old (rr_ HO_9.out) hb) (Kd.R_base ho0)) (Kd.R_base ho1)) (fun _ h_=>h_.1))
         have n5_:=rb_ Z9 hb
         have n6_:=a0_ (Kd.R_mono (Kd.R_told (Kd.R_told (Kd.R_old (rr_ HO29.out) hb) (Kd.R_base ho0)) (Kd.R_base ho1)) (fun _ h_=>h_.1))
         have n7_:=a0_ (Kd.R_lower (Kd.R_new' (Kd.R_new' (Kd.R_new' (Kd.R_new' (Kd.R_new' (Kd.R_new' ho0 (Kd.R_lt (rr_ HO_4.out))) (Kd.R_lt (rr_ HO_6.out))) (Kd.R_lt (rr_ HO_7.out))) (Kd.R_lt (rr_ HO_8.out))) (Kd.R_lt (rr_ HO_9.out))) (Kd.R_lt (rr_ HO29.out))) (below_size hb_))
         have n8_:=a0_ (Kd.R_lower (Kd.R_new' (Kd.R_new' (Kd.R_new' (Kd.R_new' (Kd.R_new' (Kd.R_new' ho1 (Kd.R_lt (rr_ HO_4.out))) (Kd.R_lt (rr_ HO_6.out))) (Kd.R_lt (rr_ HO_7.out))) (Kd.R_lt (rr_ HO_8.out))) (Kd.R_lt (rr_ HO_9.out))) (Kd.R_lt (rr_ HO29.out))) (below_size hb_))
         have n9_:=kb_ BK8 hb
         have n10_:=a0_ (below_step hb_ hb)
         clear HO_4
         clear HO_6
         clear HO_7
         clear HO_8
         clear HO_9
         clear Z9
         clear HO29
         clear BK8
         clear HB
         have HO_4:=n0_
         have HO_6:=n1_
         have HO_7:=n2_
         have HO_8:=n3_
         have HO_9:=n4_
         have Z9:=n5_
         have HO29:=n6_
         have HO32:=n7_
         have HO35:=n8_
         have BK8:=n9_
         have HB:=n10_
         clear n0_ n1_ n2_ n3_ n4_ n5_ n6_ n7_ n8_ n9_ n10_
         (try clear hb)
         (try clear hb2)
         (try clear hk)
         (try clear hi)
         (try clear ho0)
         (try clear ho1)
         refine hK.out _ _ ((blk_cell BK8.out 0).trans rfl) (fun hHeld=>?_)
         clear hK K
         refine norm_ (a':=?_) ?_ ?_
         rotate_left
         ·show Act.put _ (some 71) _ = _
          simp only [Act.put,s1_,s2_,s3_,i64_w,i32_w]
          rfl
         refine pure_ (i:=6) (N:=some 65) (v:=?_) (a':=?_) #[true,true,true,true,true,true,true,false,false,false,false] rfl rfl (any_of HT_.out (by kernel_rfl)) (fun _ _ _ h=>h) (Or.inl ⟨by rfl,?_⟩) ?_ ?_
         rotate_left
         ·intro w'
          go_simp
          with_reducible rfl
         rotate_left
         ·simp only [Act.put,s1_,s2_,s3_,i64_w,i32_w]
          rfl
         refine pure_ (i:=7) (N:=some 72) (v:=?_) (a':=?_) #[true,true,true,true,true,true,true,true,false,false,false] rfl rfl (any_of HT_.out (by kernel_rfl)) (fun _ _ _ h=>h) (Or.inl ⟨by rfl,?_⟩) ?_ ?_
         rotate_left
         ·intro w'
          go_simp
          with_reducible rfl
         rotate_left
         ·simp only [Act.put,s1_,s2_,s3_,i64_w,i32_w]
          rfl
         refine pure_ (i:=8) (N:=some 73) (v:=?_) (a':=?_) #[true,true,true,true,true,true,true,true,true,false,false] rfl rfl (any_of HT_.out (by kernel_rfl)) (fun _ _ _ h=>h) (Or.inl ⟨by rfl,?_⟩) ?_ ?_
         rotate_left
         ·intro w'
          go_simp
          with_reducible rfl
         rotate_left
         ·simp only [Act.put,s1_,s2_,s3_,i64_w,i32_w]
          rfl
         refine pure_ (i:=9) (N:=some 10) (v:=?_) (a':=?_) #[true,true,true,true,true,true,true,true,true,true,false] rfl rfl (any_of HT_.out (by kernel_rfl)) (fun _ _ _ h=>h) (Or.inl ⟨by rfl,?_⟩) ?_ ?_
         rotate_left
         ·intro w'
          go_simp
          with_reducible rfl
         rotate_left
         ·simp only [Act.put,s1_,s2_,s3_,i64_w,i32_w]
          rfl
         refine pure_ (i:=10) (N:=some 11) (v:=?_) (a':=?_) #[true,true,true,true,true,true,true,true,true,true,true] rfl rfl (any_of HT_.out (by kernel_rfl)) (fun _ _ _ h=>h) (Or.inl ⟨by rfl,?_⟩) ?_ ?_
         rotate_left
         ·intro w'
          go_simp
          with_reducible rfl
         rotate_left
         ·simp only [Act.put,s1_,s2_,s3_,i64_w,i32_w]
          rfl
         refine done_ (done_of HT_.out (by kernel_rfl)) ?_
         obtain ⟨Ao72,co72,eo72⟩:=Kd.R_slice HO_6.out
         subst eo72
         obtain ⟨Ao73,co73,eo73⟩:=Kd.R_slice HO32.out
         subst eo73
         obtain ⟨Ao74,co74,eo74⟩:=Kd.R_slice HO_7.out
         subst eo74
         obtain ⟨Ao75,co75,eo75⟩:=Kd.R_slice HO35.out
         subst eo75
         have hcz76_0 : w71.cell? ⟨gb8,0,none⟩ = some (.slice Ao9 t1.length co9):=(blk_cell BK8.out 0).trans rfl
         have hfz76_0:=blk_frozen BK8.out 0
         try go_wp2_with (first | (go_at_call 12;(with_reducible refine (impl_FlattenGroup.calls kj5 _ _ t1 _ _ t12 t36 _ ?side1 ?side2 ?side3 ?side4 A66.out).mono ?_);(case side1=>exact cc_ (Kd.R_reads' Z9.out).2.2);(case side2=>exact (Kd.R_reads' Z9.out).2.1);(case side3=>exact cc_ (Kd.R_reads' HO_7.out).2.2);(case side4=>exact (Kd.R_reads' HO_7.out).2.1);rintro e w77 ⟨v37,rfl,ho0,hb⟩;have n0_:=a0_ (Kd.R_elder' (rr_ HO_4.out) (Kd.R_base ho0) hb);have n1_:=a0_ (Kd.R_elder' (rr_ HO_6.out) (Kd.R_base ho0) hb);have n2_:=a0_ (Kd.R_elder' (rr_ HO_7.out) (Kd.R_base ho0) hb);have n3_:=a0_ (Kd.R_elder' (rr_ HO_8.out) (Kd.R_base ho0) hb);have n4_:=a0_ (Kd.R_elder' (rr_ HO_9.out) (Kd.R_base ho0) hb);have n5_:=rb_ Z9 hb;have n6_:=a0_ (Kd.R_elder' (rr_ HO29.out) (Kd.R_base ho0) hb);have n7_:=a0_ (Kd.R_elder' (rr_ HO32.out) (Kd.R_base ho0) hb);have n8_:=a0_ (Kd.R_elder' (rr_ HO35.out) (Kd.R_base ho0) hb);have n9_:=a0_ (Kd.R_lower (Kd.R_new' (Kd.R_new' (Kd.R_new' (Kd.R_new' (Kd.R_new' (Kd.R_new' (Kd.R_new' (Kd.R_new' ho0 (Kd.R_lt (rr_ HO_4.out))) (Kd.R_lt (rr_ HO_6.out))) (Kd.R_lt (rr_ HO_7.out))) (Kd.R_lt (rr_ HO_8.out))) (Kd.R_lt (rr_ HO_9.out))) (Kd.R_lt (rr_ HO29.out))) (Kd.R_lt (rr_ HO32.out))) (Kd.R_lt (rr_ HO35.out))) (below_size hb_));have n10_:=kb_ BK8 hb;have n11_:=a0_ (below_step hb_ hb);clear HO_4 HO_6;clear HO_7 HO_8;clear HO_9 Z9;clear HO29 HO32;clear HO35 BK8 HB;have HO_4:=n0_;have HO_6:=n1_;have HO_7:=n2_;have HO_8:=n3_;have HO_9:=n4_;have Z9:=n5_;have HO29:=n6_;have HO32:=n7_;have HO35:=n8_;have HO38:=n9_;have BK8:=n10_;have HB:=n11_;clear n0_ n1_ n2_ n3_ n4_ n5_ n6_ n7_ n8_ n9_ n10_ n11_;(try clear hb);(try clear ho0);obtain ⟨Ao78,co78,eo78⟩:=Kd.R_slice HO38.out;subst eo78) | (go_at_call 13;(with_reducible refine (laws_equalGroup.calls kj5 _ _ t33 _ _ t36 t39 _ ?side1 ?side2 ?side3 ?side4 A67.out).mono ?_);(case side1=>exact cc_ (Kd.R_reads' HO35.out).2.2);(case side2=>exact (Kd.R_reads' HO35.out).2.1);(case side3=>exact cc_ (Kd.R_reads' HO38.out).2.2);(case side4=>exact (Kd.R_reads' HO38.out).2.1);rintro e w' ⟨rfl,⟨nd,rfl⟩⟩))
         go_ret
         exact ⟨by first | rfl | (simp [errW_none,errW_some] <;> rfl) | (simp [*,errW_none,errW_some] <;> rfl),hb_⟩
       ·rw [if_neg c56] at H
        have c56b0 : ((t12.length : Int) == 0) = false:=beq_eq_false_iff_ne.mpr c56
        have c56b1 : ((t12.length : Int) != 0) = true:=bne_iff_ne.mpr c56
        have c56b2 : ¬ (t12 = []):=fun h_=>c56 (by rw [h_];rfl)
        replace H:=Option.bind_eq_some_iff.mp H
        obtain ⟨t40,A790,H⟩:=H
        try dsimp only at H
        have A79:=a0_ A790
        clear A790
        replace H:=Option.bind_eq_some_iff.mp H
        obtain ⟨t43,A800,H⟩:=H
        replace H : (some t43) = some r:=H
        have A80:=a0_ A800
        clear A800
        obtain rfl:=Option.some.inj H
        try go_wp2
        have n0_:=a0_ (Kd.R_drew HO_4.out)
        have n1_:=a0_ (Kd.R_drew HO_6.out)
        have n2_:=a0_ (Kd.R_drew HO_7.out)
        have n3_:=a0_ (Kd.R_drew HO_8.out)
        have n4_:=a0_ (Kd.R_drew HO_9.out)
        have n5_:=a0_ (Kd.R_drew Z9.out)
        have n6_:=a0_ (blk_drew BK8.out)
        have n7_:=a0_ (below_drew1 HB.out)
        clear HO_4
        clear HO_6
        clear HO_7
        clear HO_8
        clear HO_9
        clear Z9
        clear BK8
        clear HB
        have HO_4:=n0_
        have HO_6:=n1_
        have HO_7:=n2_
        have HO_8:=n3_
        have HO_9:=n4_
        have Z9:=n5_
        have BK8:=n6_
        have HB:=n7_
        clear n0_ n1_ n2_ n3_ n4_ n5_ n6_ n7_
        refine start_ (n:=11) (S:=fun w'=>w'.cell? ⟨gb8,0,none⟩ = some (.slice Ao9 t1.length co9)) (ds:=[]) #[false,false,false,false,false,false,false,false,false,false,false] (by kernel_rfl) rfl rfl ((blk_cell BK8.out 0).trans rfl) (fun hHeld=>?_);refine with_tabW laws_FnFlattenGroupSplit.tab8 laws_FnFlattenGroupSplit.bits8 (fun HT_ HW_=>?_)
        generalize wc.drew = w81 at HO_4 HO_6 HO_7 HO_8 HO_9 Z9 BK8 HB hHeld ⊢
        refine pure_ (i:=2) (N:=some 68) (v:=?_) (a':=?_) #[false,false,true,false,false,false,false,false,false,false,false] rfl rfl (any_of HT_.out (by kernel_rfl)) (fun _ _ _ h=>h) (Or.inl ⟨by rfl,?_⟩) ?_ ?_
        rotate_left
        ·intro w'
         go_simp
         with_reducible rfl
        rotate_left
        ·simp only [Act.put,s1_,s2_,s3_,i64_w,i32_w]
         rfl
        refine pure_ (i:=4) (N:=some 70) (v:=?_) (a':=?_) #[false,false,true,false,true,false,false,false,false,false,false] rfl rfl (any_of HT_.out (by kernel_rfl)) (fun _ _ _ h=>h) (Or.inl ⟨by rfl,?_⟩) ?_ ?_
        rotate_left
        ·intro w'
         go_simp
         with_reducible rfl
        rotate_left
        ·simp only [Act.put,s1_,s2_,s3_,i64_w,i32_w]
         rfl
        refine take_ (i:=0) (N:=some 66) (v:=?_) (a':=?_) #[true,false,true,false,true,false,false,false,false,false,false] rfl rfl (take_ofW HT_.out HW_.out (by kernel_rfl)) (fun _ _ _ h=>h) (Or.inl ⟨by rfl,?_⟩) hHeld ?_ ?_
        rotate_left
        ·intro w' s0
         go_simp
         with_reducible rfl
        rotate_left
        ·simp only [Act.put,s1_,s2_,s3_,i64_w,i32_w]
         rfl
        refine take_ (i:=1) (N:=some 67) (v:=?_) (a':=?_) #[true,true,true,false,true,false,false,false,false,false,false] rfl rfl (take_ofW HT_.out HW_.out (by kernel_rfl)) (fun _ _ _ h=>h) (Or.inl ⟨by rfl,?_⟩) hHeld ?_ ?_
        rotate_left
        ·intro w' s0
         go_simp
         with_reducible rfl
        rotate_left
        ·simp only [Act.put,s1_,s2_,s3_,i64_w,i32_w]
         rfl
        refine one_ (i:=3) (N:=some 69) #[true,true,true,true,true,false,false,false,false,false,false] rfl rfl (one_of HT_.out (by kernel_rfl)) (by decide) (fun K hK=>?_)
        refine goes_ Try.func12 (by kernel_rfl) rfl #[.agg #[.slice Ao9 t1.length co9],.slice Ao11 t4.length co11] (by rfl) rfl rfl lm_ ?_
        with_reducible refine (impl_FlattenGroup.calls kj5 _ _ t1 _ _ t4 t27 _ ?side1 ?side2 ?side3 ?side4 A52.out).mono ?_
        (case side1=>exact cc_ (Kd.R_reads' Z9.out).2.2)
        (case side2=>exact (Kd.R_reads' Z9.out).2.1)
        (case side3=>exact cc_ (Kd.R_reads' HO_4.out).2.2)
        (case side4=>exact (Kd.R_reads' HO_4.out).2.1)
        rintro e w82 ⟨v28,rfl,ho0,hb⟩
        refine ⟨_,rfl,?_⟩
        have n0_:=a0_ (Kd.R_elder' (rr_ HO_4.out) (Kd.R_base ho0) hb)
        have n1_:=a0_ (Kd.R_elder' (rr_ HO_6.out) (Kd.R_base ho0) hb)
        have n2_:=a0_ (Kd.R_elder' (rr_ HO_7.out) (Kd.R_base ho0) hb)
        have n3_:=a0_ (Kd.R_elder' (rr_ HO_8.out) (Kd.R_base ho0) hb)
        have n4_:=a0_ (Kd.R_elder' (rr_ HO_9.out) (Kd.R_base ho0) hb)
        have n5_:=rb_ Z9 hb
        have n6_:=a0_ (Kd.R_lower (Kd.R_new' (Kd.R_new' (Kd.R_new' (Kd.R_new' (Kd.R_new' ho0 (Kd.R_lt (rr_ HO_4.out))) (Kd.R_lt (rr_ HO_6.out))) (Kd.R_lt (rr_ HO_7.out))) (Kd.R_lt (rr_ HO_8.out))) (Kd.R_lt (rr_ HO_9.out))) (below_size hb_))
        have n7_:=kb_ BK8 hb
        have n8_:=a0_ (below_step hb_ hb)
        clear HO_4
        clear HO_6
        clear HO_7
        clear HO_8
        clear HO_9
        clear Z9
        clear BK8
        clear HB
        have HO_4:=n0_
        have HO_6:=n1_
        have HO_7:=n2_
        have HO_8:=n3_
        have HO_9:=n4_
        have Z9:=n5_
        have HO29:=n6_
        have BK8:=n7_
        have HB:=n8_
        clear n0_ n1_ n2_ n3_ n4_ n5_ n6_ n7_ n8_
        (try clear hb)
        (try clear hb2)
        (try clear hk)
        (try clear hi)
        (try clear ho0)
        obtain ⟨Ao83,co83,eo83⟩:=Kd.R_slice HO29.out
        (first | subst eo83 | (injection eo83 with f1_ f2_ f3_;have f4_:=f1_.symm;have f5_:=f3_.symm;clear f1_ f2_ f3_;subst f4_;subst f5_))
        refine hK.out _ _ ((blk_cell BK8.out 0).trans rfl) (fun hHeld=>?_)
        clear hK K
        refine norm_ (a':=?_) ?_ ?_
        rotate_left
        ·show Act.put _ (some 69) _ = _
         simp only [Act.put,s1_,s2_,s3_,i64_w,i32_w]
         rfl
        refine one_ (i:=5) (N:=some 71) #[true,true,true,true,true,true,false,false,false,false,false] rfl rfl (one_of HT_.out (by kernel_rfl)) (by decide) (fun K hK=>?_)
        refine goes_ Try.func25 (by kernel_rfl) rfl #[.agg #[.slice Ao9 t1.length co9],.slice Ao83 t27.length co83,.int .i64 t7] (by rfl) rfl rfl lm_ ?_
        with_reducible refine (impl_SplitGroup.calls _ _ t1 _ _ t27 t7 t30 t33 _ ?side1 ?side2 ?side3 ?side4 A53.out).mono ?_
        (case side1=>exact cc_ (Kd.R_reads' Z9.out).2.2)
        (case side2=>exact (Kd.R_reads' Z9.out).2.1)
        (case side3=>exact cc_ (Kd.R_reads' HO29.out).2.2)
        (case side4=>exact (Kd.R_reads' HO29.out).2.1)
        rintro e w84 ⟨v31,v34,rfl,ho0,ho1,hb⟩
        refine ⟨_,rfl,?_⟩
        have n0_:=a0_ (Kd.R_mono (Kd.R_told (Kd.R_told (Kd.R_old (rr_ HO_4.out) hb) (Kd.R_base ho0)) (Kd.R_base ho1)) (fun _ h_=>h_.1))
        have n1_:=a0_ (Kd.R_mono (Kd.R_told (Kd.R_told (Kd.R_old (rr_ HO_6.out) hb) (Kd.R_base ho0)) (Kd.R_base ho1)) (fun _ h_=>h_.1))
        have n2_:=a0_ (Kd.R_mono (Kd.R_told (Kd.R_told (Kd.R_old (rr_ HO_7.out) hb) (Kd.R_base ho0)) (Kd.R_base ho1)) (fun _ h_=>h_.1))
        have n3_:=a0_ (Kd.R_mono (Kd.R_told (Kd.R_told (Kd.R_old (rr_ HO_8.out) hb) (Kd.R_base ho0)) (Kd.R_base ho1)) (fun _ h_=>h_.1))
        have n4_:=a0_ (Kd.R_mono (Kd.R_told (Kd.R_told (Kd.R_old (rr_ HO_9.out) hb) (Kd.R_base ho0)) (Kd.R_base ho1)) (fun _ h_=>h_.1))
        have n5_:=rb_ Z9 hb
        have n6_:=a0_ (Kd.R_mono (Kd.R_told (Kd.R_told (Kd.R_old (rr_ HO29.out) hb) (Kd.R_base ho0)) (Kd.R_base ho1)) (fun _ h_=>h_.1))
        have n7_:=a0_ (Kd.R_lower (Kd.R_new' (Kd.R_new' (Kd.R_new' (Kd.R_new' (Kd.R_new' (Kd.R_new' ho0 (Kd.R_lt (rr_ HO_4.out))) (Kd.R_lt (rr_ HO_6.out))) (Kd.R_lt (rr_ HO_7.out))) (Kd.R_lt (rr_ HO_8.out))) (Kd.R_lt (rr_ HO_9.out))) (Kd.R_lt (rr_ HO29.out))) (below_size hb_))
        have n8_:=a0_ (Kd.R_lower (Kd.R_new' (Kd.R_new' (Kd.R_new' (Kd.R_new' (Kd.R_new' (Kd.R_new' ho1 (Kd.R_lt (rr_ HO_4.out))) (Kd.R_lt (rr_ HO_6.out))) (Kd.R_lt (rr_ HO_7.out))) (Kd.R_lt (rr_ HO_8.out))) (Kd.R_lt (rr_ HO_9.out))) (Kd.R_lt (rr_ HO29.out))) (below_size hb_))
        have n9_:=kb_ BK8 hb
        have n10_:=a0_ (below_step hb_ hb)
        clear HO_4
        clear HO_6
        clear HO_7
        clear HO_8
        clear HO_9
        clear Z9
        clear HO29
        clear BK8
        clear HB
        have HO_4:=n0_
        have HO_6:=n1_
        have HO_7:=n2_
        have HO_8:=n3_
        have HO_9:=n4_
        have Z9:=n5_
        have HO29:=n6_
        have HO32:=n7_
        have HO35:=n8_
        have BK8:=n9_
        have HB:=n10_
        clear n0_ n1_ n2_ n3_ n4_ n5_ n6_ n7_ n8_ n9_ n10_
        (try clear hb)
        (try clear hb2)
        (try clear hk)
        (try clear hi)
        (try clear ho0)
        (try clear ho1)
        refine hK.out _ _ ((blk_cell BK8.out 0).trans rfl) (fun hHeld=>?_)
        clear hK K
        refine norm_ (a':=?_) ?_ ?_
        rotate_left
        ·show Act.put _ (some 71) _ = _
         simp only [Act.put,s1_,s2_,s3_,i64_w,i32_w]
         rfl
        refine pure_ (i:=6) (N:=some 65) (v:=?_) (a':=?_) #[true,true,true,true,true,true,true,false,false,false,false] rfl rfl (any_of HT_.out (by kernel_rfl)) (fun _ _ _ h=>h) (Or.inl ⟨by rfl,?_⟩) ?_ ?_
        rotate_left
        ·intro w'
         go_simp
         with_reducible rfl
        rotate_left
        ·simp only [Act.put,s1_,s2_,s3_,i64_w,i32_w]
         rfl
        refine pure_ (i:=7) (N:=some 72) (v:=?_) (a':=?_) #[true,true,true,true,true,true,true,true,false,false,false] rfl rfl (any_of HT_.out (by kernel_rfl)) (fun _ _ _ h=>h) (Or.inl ⟨by rfl,?_⟩) ?_ ?_
        rotate_left
        ·intro w'
         go_simp
         with_reducible rfl
        rotate_left
        ·simp only [Act.put,s1_,s2_,s3_,i64_w,i32_w]
         rfl
        refine pure_ (i:=8) (N:=some 73) (v:=?_) (a':=?_) #[true,true,true,true,true,true,true,true,true,false,false] rfl rfl (any_of HT_.out (by kernel_rfl)) (fun _ _ _ h=>h) (Or.inl ⟨by rfl,?_⟩) ?_ ?_
        rotate_left
        ·intro w'
         go_simp
         with_reducible rfl
        rotate_left
        ·simp only [Act.put,s1_,s2_,s3_,i64_w,i32_w]
         rfl
        refine pure_ (i:=9) (N:=some 10) (v:=?_) (a':=?_) #[true,true,true,true,true,true,true,true,true,true,false] rfl rfl (any_of HT_.out (by kernel_rfl)) (fun _ _ _ h=>h) (Or.inl ⟨by rfl,?_⟩) ?_ ?_
        rotate_left
        ·intro w'
         go_simp
         with_reducible rfl
        rotate_left
        ·simp only [Act.put,s1_,s2_,s3_,i64_w,i32_w]
         rfl
        refine pure_ (i:=10) (N:=some 11) (v:=?_) (a':=?_) #[true,true,true,true,true,true,true,true,true,true,true] rfl rfl (any_of HT_.out (by kernel_rfl)) (fun _ _ _ h=>h) (Or.inl ⟨by rfl,?_⟩) ?_ ?_
        rotate_left
        ·intro w'
         go_simp
         with_reducible rfl
        rotate_left
        ·simp only [Act.put,s1_,s2_,s3_,i64_w,i32_w]
         rfl
        refine done_ (done_of HT_.out (by kernel_rfl)) ?_
        obtain ⟨Ao85,co85,eo85⟩:=Kd.R_slice HO_6.out
        subst eo85
        obtain ⟨Ao86,co86,eo86⟩:=Kd.R_slice HO32.out
        subst eo86
        obtain ⟨Ao87,co87,eo87⟩:=Kd.R_slice HO_7.out
        subst eo87
        have hcz88_0 : w84.cell? ⟨gb8,0,none⟩ = some (.slice Ao9 t1.length co9):=(blk_cell BK8.out 0).trans rfl
        have hfz88_0:=blk_frozen BK8.out 0
        try go_wp2_with (first | (go_at_call 12;(with_reducible refine (impl_FlattenGroup.calls kj5 _ _ t1 _ _ t12 t40 _ ?side1 ?side2 ?side3 ?side4 A79.out).mono ?_);(case side1=>exact cc_ (Kd.R_reads' Z9.out).2.2);(case side2=>exact (Kd.R_reads' Z9.out).2.1);(case side3=>exact cc_ (Kd.R_reads' HO_7.out).2.2);(case side4=>exact (Kd.R_reads' HO_7.out).2.1);rintro e w89 ⟨v41,rfl,ho0,hb⟩;have n0_:=a0_ (Kd.R_elder' (rr_ HO_4.out) (Kd.R_base ho0) hb);have n1_:=a0_ (Kd.R_elder' (rr_ HO_6.out) (Kd.R_base ho0) hb);have n2_:=a0_ (Kd.R_elder' (rr_ HO_7.out) (Kd.R_base ho0) hb);have n3_:=a0_ (Kd.R_elder' (rr_ HO_8.out) (Kd.R_base ho0) hb);have n4_:=a0_ (Kd.R_elder' (rr_ HO_9.out) (Kd.R_base ho0) hb);have n5_:=rb_ Z9 hb;have n6_:=a0_ (Kd.R_elder' (rr_ HO29.out) (Kd.R_base ho0) hb);have n7_:=a0_ (Kd.R_elder' (rr_ HO32.out) (Kd.R_base ho0) hb);have n8_:=a0_ (Kd.R_elder' (rr_ HO35.out) (Kd.R_base ho0) hb);have n9_:=a0_ (Kd.R_lower (Kd.R_new' (Kd.R_new' (Kd.R_new' (Kd.R_new' (Kd.R_new' (Kd.R_new' (Kd.R_new' (Kd.R_new' ho0 (Kd.R_lt (rr_ HO_4.out))) (Kd.R_lt (rr_ HO_6.out))) (Kd.R_lt (rr_ HO_7.out))) (Kd.R_lt (rr_ HO_8.out))) (Kd.R_lt (rr_ HO_9.out))) (Kd.R_lt (rr_ HO29.out))) (Kd.R_lt (rr_ HO32.out))) (Kd.R_lt (rr_ HO35.out))) (below_size hb_));have n10_:=kb_ BK8 hb;have n11_:=a0_ (below_step hb_ hb);clear HO_4 HO_6;clear HO_7 HO_8;clear HO_9 Z9;clear HO29 HO32;clear HO35 BK8 HB;have HO_4:=n0_;have HO_6:=n1_;have HO_7:=n2_;have HO_8:=n3_;have HO_9:=n4_;have Z9:=n5_;have HO29:=n6_;have HO32:=n7_;have HO35:=n8_;have HO42:=n9_;have BK8:=n10_;have HB:=n11_;clear n0_ n1_ n2_ n3_ n4_ n5_ n6_ n7_ n8_ n9_ n10_ n11_;(try clear hb);(try clear ho0);obtain ⟨Ao90,co90,eo90⟩:=Kd.R_slice HO35.out;subst eo90;obtain ⟨Ao91,co91,eo91⟩:=Kd.R_slice HO42.out;subst eo91) | (go_at_call 13;(with_reducible refine (laws_equalGroup.calls kj5 _ _ t33 _ _ t40 t43 _ ?side1 ?side2 ?side3 ?side4 A80.out).mono ?_);(case side1=>exact cc_ (Kd.R_reads' HO35.out).2.2);(case side2=>exact (Kd.R_reads' HO35.out).2.1);(case side3=>exact cc_ (Kd.R_reads' HO42.out).2.2);(case side4=>exact (Kd.R_reads' HO42.out).2.1);rintro e w' ⟨rfl,⟨nd,rfl⟩⟩))
        go_ret
        exact ⟨by first | rfl | (simp [errW_none,errW_some] <;> rfl) | (simp [*,errW_none,errW_some] <;> rfl),hb_⟩
      ·rw [if_neg c55] at H
       have c55b0 : ((t30.length : Int) == 0) = false:=beq_eq_false_iff_ne.mpr c55
       have c55b1 : ((t30.length : Int) != 0) = true:=bne_iff_ne.mpr c55
       have c55b2 : ¬ (t30 = []):=fun h_=>c55 (by rw [h_];rfl)
       replace H:=Option.bind_eq_some_iff.mp H
       obtain ⟨t44,A920,H⟩:=H
       try dsimp only at H
       have A92:=a0_ A920
       clear A920
       replace H:=Option.bind_eq_some_iff.mp H
       obtain ⟨t47,A930,H⟩:=H
       try dsimp only at H
       have A93:=a0_ A930
       clear A930
       by_cases c94 : t47 = true
       ·subst c94
        have H1 : (if (t12.length : Int) = 0 then (if (t33.length : Int) = 0 then (some true) else ((impl_FlattenGroup.f kj5 t1 t12).bind fun t48=>((laws_equalGroup.f kj5 t33 t48).bind fun t51=>(some t51)))) else ((impl_FlattenGroup.f kj5 t1 t12).bind fun t52=>((laws_equalGroup.f kj5 t33 t52).bind fun t55=>(some t55)))) = some r:=by rw [if_pos rfl] at H;exact H
        clear H
        have H:=H1
        clear H1
        by_cases c95 : (t12.length : Int) = 0
        ·rw [if_pos c95] at H
         have c95b0 : ((t12.length : Int) == 0) = true:=beq_iff_eq.mpr c95
         have c95b1 : ((t12.length : Int) != 0) = false:=bne_eq_false_iff_eq.mpr c95
         clear c95
         by_cases c96 : (t33.length : Int) = 0
         ·rw [if_pos c96] at H
          have c96b0 : ((t33.length : Int) == 0) = true:=beq_iff_eq.mpr c96
          have c96b1 : ((t33.length : Int) != 0) = false:=bne_eq_false_iff_eq.mpr c96
          clear c96
          obtain rfl:=Option.some.inj H
          try go_wp2
          have n0_:=a0_ (Kd.R_drew HO_4.out)
          have n1_:=a0_ (Kd.R_drew HO_6.out)
          have n2_:=a0_ (Kd.R_drew HO_7.out)
          have n3_:=a0_ (Kd.R_drew HO_8.out)
          have n4_:=a0_ (Kd.R_drew HO_9.out)
          have n5_:=a0_ (Kd.R_drew Z9.out)
          have n6_:=a0_ (blk_drew BK8.out)
          have n7_:=a0_ (below_drew1 HB.out)
          clear HO_4
          clear HO_6
          clear HO_7
          clear HO_8
          clear HO_9
          clear Z9
          clear BK8
          clear HB
          have HO_4:=n0_
          have HO_6:=n1_
          have HO_7:=n2_
          have HO_8:=n3_
          have HO_9:=n4_
          have Z9:=n5_
          have BK8:=n6_
          have HB:=n7_
          clear n0_ n1_ n2_ n3_ n4_ n5_ n6_ n7_
          refine start_ (n:=11) (S:=fun w'=>w'.cell? ⟨gb8,0,none⟩ = some (.slice Ao9 t1.length co9)) (ds:=[]) #[false,false,false,false,false,false,false,false,false,false,false] (by kernel_rfl) rfl rfl ((blk_cell BK8.out 0).trans rfl) (fun hHeld=>?_);refine with_tabW laws_FnFlattenGroupSplit.tab8 laws_FnFlattenGroupSplit.bits8 (fun HT_ HW_=>?_)
          generalize wc.drew = w97 at HO_4 HO_6 HO_7 HO_8 HO_9 Z9 BK8 HB hHeld ⊢
          refine pure_ (i:=2) (N:=some 68) (v:=?_) (a':=?_) #[false,false,true,false,false,false,false,false,false,false,false] rfl rfl (any_of HT_.out (by kernel_rfl)) (fun _ _ _ h=>h) (Or.inl ⟨by rfl,?_⟩) ?_ ?_
          rotate_left
          ·intro w'
           go_simp
           with_reducible rfl
          rotate_left
          ·simp only [Act.put,s1_,s2_,s3_,i64_w,i32_w]
           rfl
          refine pure_ (i:=4) (N:=some 70) (v:=?_) (a':=?_) #[false,false,true,false,true,false,false,false,false,false,false] rfl rfl (any_of HT_.out (by kernel_rfl)) (fun _ _ _ h=>h) (Or.inl ⟨by rfl,?_⟩) ?_ ?_
          rotate_left
          ·intro w'
           go_simp
           with_reducible rfl
          rotate_left
          ·simp only [Act.put,s1_,s2_,s3_,i64_w,i32_w]
           rfl
          refine take_ (i:=0) (N:=some 66) (v:=?_) (a':=?_) #[true,false,true,false,true,false,false,false,false,false,false] rfl rfl (take_ofW HT_.out HW_.out (by kernel_rfl)) (fun _ _ _ h=>h) (Or.inl ⟨by rfl,?_⟩) hHeld ?_ ?_
          rotate_left
          ·intro w' s0
           go_simp
           with_reducible rfl
          rotate_left
          ·simp only [Act.put,s1_,s2_,s3_,i64_w,i32_w]
           rfl
          refine take_ (i:=1) (N:=some 67) (v:=?_) (a':=?_) #[true,true,true,false,true,false,false,false,false,false,false] rfl rfl (take_ofW HT_.out HW_.out (by kernel_rfl)) (fun _ _ _ h=>h) (Or.inl ⟨by rfl,?_⟩) hHeld ?_ ?_
          rotate_left
          ·intro w' s0
           go_simp
           with_reducible rfl
          rotate_left
          ·simp only [Act.put,s1_,s2_,s3_,i64_w,i32_w]
           rfl
          refine one_ (i:=3) (N:=some 69) #[true,true,true,true,true,false,false,false,false,false,false] rfl rfl (one_of HT_.out (by kernel_rfl)) (by decide) (fun K hK=>?_)
          refine goes_ Try.func12 (by kernel_rfl) rfl #[.agg #[.slice Ao9 t1.length co9],.slice Ao11 t4.length co11] (by rfl) rfl rfl lm_ ?_
          with_reducible refine (impl_FlattenGroup.calls kj5 _ _ t1 _ _ t4 t27 _ ?side1 ?side2 ?side3 ?side4 A52.out).mono ?_
          (case side1=>exact cc_ (Kd.R_reads' Z9.out).2.2)
          (case side2=>exact (Kd.R_reads' Z9.out).2.1)
          (case side3=>exact cc_ (Kd.R_reads' HO_4.out).2.2)
          (case side4=>exact (Kd.R_reads' HO_4.out).2.1)
          rintro e w98 ⟨v28,rfl,ho0,hb⟩
          refine ⟨_,rfl,?_⟩
          have n0_:=a0_ (Kd.R_elder' (rr_ HO_4.out) (Kd.R_base ho0) hb)
          have n1_:=a0_ (Kd.R_elder' (rr_ HO_6.out) (Kd.R_base ho0) hb)
          have n2_:=a0_ (Kd.R_elder' (rr_ HO_7.out) (Kd.R_base ho0) hb)
          have n3_:=a0_ (Kd.R_elder' (rr_ HO_8.out) (Kd.R_base ho0) hb)
          have n4_:=a0_ (Kd.R_elder' (rr_ HO_9.out) (Kd.R_base ho0) hb)
          have n5_:=rb_ Z9 hb
          have n6_:=a0_ (Kd.R_lower (Kd.R_new' (Kd.R_new' (Kd.R_new' (Kd.R_new' (Kd.R_new' ho0 (Kd.R_lt (rr_ HO_4.out))) (Kd.R_lt (rr_ HO_6.out))) (Kd.R_lt (rr_ HO_7.out))) (Kd.R_lt (rr_ HO_8.out))) (Kd.R_lt (rr_ HO_9.out))) (below_size hb_))
          have n7_:=kb_ BK8 hb
          have n8_:=a0_ (below_step hb_ hb)
          clear HO_4
          clear HO_6
          clear HO_7
          clear HO_8
          clear HO_9
          clear Z9
          clear BK8
          clear HB
          have HO_4:=n0_
          have HO_6:=n1_
          have HO_7:=n2_
          have HO_8:=n3_
          have HO_9:=n4_
          have Z9:=n5_
          have HO29:=n6_
          have BK8:=n7_
          have HB:=n8_
          clear n0_ n1_ n2_ n3_ n4_ n5_ n6_ n7_ n8_
          (try clear hb)
          (try clear hb2)
          (try clear hk)
          (try clear hi)
          (try clear ho0)
          obtain ⟨Ao99,co99,eo99⟩:=Kd.R_slice HO29.out
          (first | subst eo99 | (injection eo99 with f1_ f2_ f3_;have f4_:=f1_.symm;have f5_:=f3_.symm;clear f1_ f2_ f3_;subst f4_;subst f5_))
          refine hK.out _ _ ((blk_cell BK8.out 0).trans rfl) (fun hHeld=>?_)
          clear hK K
          refine norm_ (a':=?_) ?_ ?_
          rotate_left
          ·show Act.put _ (some 69) _ = _
           simp only [Act.put,s1_,s2_,s3_,i64_w,i32_w]
           rfl
          refine one_ (i:=5) (N:=some 71) #[true,true,true,true,true,true,false,false,false,false,false] rfl rfl (one_of HT_.out (by kernel_rfl)) (by decide) (fun K hK=>?_)
          refine goes_ Try.func25 (by kernel_rfl) rfl #[.agg #[.slice Ao9 t1.length co9],.slice Ao99 t27.length co99,.int .i64 t7] (by rfl) rfl rfl lm_ ?_
          with_reducible refine (impl_SplitGroup.calls _ _ t1 _ _ t27 t7 t30 t33 _ ?side1 ?side2 ?side3 ?side4 A53.out).mono ?_
          (case side1=>exact cc_ (Kd.R_reads' Z9.out).2.2)
          (case side2=>exact (Kd.R_reads' Z9.out).2.1)
          (case side3=>exact cc_ (Kd.R_reads' HO29.out).2.2)
          (case side4=>exact (Kd.R_reads' HO29.out).2.1)
          rintro e w100 ⟨v31,v34,rfl,ho0,ho1,hb⟩
          refine ⟨_,rfl,?_⟩
          have n0_:=a0_ (Kd.R_mono (Kd.R_told (Kd.R_told (Kd.R_old (rr_ HO_4.out) hb) (Kd.R_base ho0)) (Kd.R_base ho1)) (fun _ h_=>h_.1))
          have n1_:=a0_ (Kd.R_mono (Kd.R_told (Kd.R_told (Kd.R_old (rr_ HO_6.out) hb) (Kd.R_base ho0)) (Kd.R_base ho1)) (fun _ h_=>h_.1))
          have n2_:=a0_ (Kd.R_mono (Kd.R_told (Kd.R_told (Kd.R_old (rr_ HO_7.out) hb) (Kd.R_base ho0)) (Kd.R_base ho1)) (fun _ h_=>h_.1))
          have n3_:=a0_ (Kd.R_mono (Kd.R_told (Kd.R_told (Kd.R_old (rr_ HO_8.out) hb) (Kd.R_base ho0)) (Kd.R_base ho1)) (fun _ h_=>h_.1))
          have n4_:=a0_ (Kd.R_mono (Kd.R_told (Kd.R_told (Kd.R_old (rr_ HO_9.out) hb) (Kd.R_base ho0)) (Kd.R_base ho1)) (fun _ h_=>h_.1))
          have n5_:=rb_ Z9 hb
          have n6_:=a0_ (Kd.R_mono (Kd.R_told (Kd.R_told (Kd.R_old (rr_ HO29.out) hb) (Kd.R_base ho0)) (Kd.R_base ho1)) (fun _ h_=>h_.1))
          have n7_:=a0_ (Kd.R_lower (Kd.R_new' (Kd.R_new' (Kd.R_new' (Kd.R_new' (Kd.R_new' (Kd.R_new' ho0 (Kd.R_lt (rr_ HO_4.out))) (Kd.R_lt (rr_ HO_6.out))) (Kd.R_lt (rr_ HO_7.out))) (Kd.R_lt (rr_ HO_8.out))) (Kd.R_lt (rr_ HO_9.out))) (Kd.R_lt (rr_ HO29.out))) (below_size hb_))
          have n8_:=a0_ (Kd.R_lower (Kd.R_new' (Kd.R_new' (Kd.R_new' (Kd.R_new' (Kd.R_new' (Kd.R_new' ho1 (Kd.R_lt (rr_ HO_4.out))) (Kd.R_lt (rr_ HO_6.out))) (Kd.R_lt (rr_ HO_7.out))) (Kd.R_lt (rr_ HO_8.out))) (Kd.R_lt (rr_ HO_9.out))) (Kd.R_lt (rr_ HO29.out))) (below_size hb_))
          have n9_:=kb_ BK8 hb
          have n10_:=a0_ (below_step hb_ hb)
          clear HO_4
          clear HO_6
          clear HO_7
          clear HO_8
          clear HO_9
          clear Z9
          clear HO29
          clear BK8
          clear HB
          have HO_4:=n0_
          have HO_6:=n1_
          have HO_7:=n2_
          have HO_8:=n3_
          have HO_9:=n4_
          have Z9:=n5_
          have HO29:=n6_
          have HO32:=n7_
          have HO35:=n8_
          have BK8:=n9_
          have HB:=n10_
          clear n0_ n1_ n2_ n3_ n4_ n5_ n6_ n7_ n8_ n9_ n10_
          (try clear hb)
          (try clear hb2)
          (try clear hk)
          (try clear hi)
          (try clear ho0)
          (try clear ho1)
          refine hK.out _ _ ((blk_cell BK8.out 0).trans rfl) (fun hHeld=>?_)
          clear hK K
          refine norm_ (a':=?_) ?_ ?_
          rotate_left
          ·show Act.put _ (some 71) _ = _
           simp only [Act.put,s1_,s2_,s3_,i64_w,i32_w]
           rfl
          refine pure_ (i:=6) (N:=some 65) (v:=?_) (a':=?_) #[true,true,true,true,true,true,true,false,false,false,false] rfl rfl (any_of HT_.out (by kernel_rfl)) (fun _ _ _ h=>h) (Or.inl ⟨by rfl,?_⟩) ?_ ?_
          rotate_left
          ·intro w'
           go_simp
           with_reducible rfl
          rotate_left
          ·simp only [Act.put,s1_,s2_,s3_,i64_w,i32_w]
           rfl
          refine pure_ (i:=7) (N:=some 72) (v:=?_) (a':=?_) #[true,true,true,true,true,true,true,true,false,false,false] rfl rfl (any_of HT_.out (by kernel_rfl)) (fun _ _ _ h=>h) (Or.inl ⟨by rfl,?_⟩) ?_ ?_
          rotate_left
          ·intro w'
           go_simp
           with_reducible rfl
          rotate_left
          ·simp only [Act.put,s1_,s2_,s3_,i64_w,i32_w]
           rfl
          refine pure_ (i:=8) (N:=some 73) (v:=?_) (a':=?_) #[true,true,true,true,true,true,true,true,true,false,false] rfl rfl (any_of HT_.out (by kernel_rfl)) (fun _ _ _ h=>h) (Or.inl ⟨by rfl,?_⟩) ?_ ?_
          rotate_left
          ·intro w'
           go_simp
           with_reducible rfl
          rotate_left
          ·simp only [Act.put,s1_,s2_,s3_,i64_w,i32_w]
           rfl
          refine pure_ (i:=9) (N:=some 10) (v:=?_) (a':=?_) #[true,true,true,true,true,true,true,true,true,true,false] rfl rfl (any_of HT_.out (by kernel_rfl)) (fun _ _ _ h=>h) (Or.inl ⟨by rfl,?_⟩) ?_ ?_
          rotate_left
          ·intro w'
           go_simp
           with_reducible rfl
          rotate_left
          ·simp only [Act.put,s1_,s2_,s3_,i64_w,i32_w]
           rfl
          refine pure_ (i:=10) (N:=some 11) (v:=?_) (a':=?_) #[true,true,true,true,true,true,true,true,true,true,true] rfl rfl (any_of HT_.out (by kernel_rfl)) (fun _ _ _ h=>h) (Or.inl ⟨by rfl,?_⟩) ?_ ?_
          rotate_left
          ·intro w'
           go_simp
           with_reducible rfl
          rotate_left
          ·simp only [Act.put,s1_,s2_,s3_,i64_w,i32_w]
           rfl
          refine done_ (done_of HT_.out (by kernel_rfl)) ?_
          obtain ⟨Ao101,co101,eo101⟩:=Kd.R_slice HO_6.out
          subst eo101
          obtain ⟨Ao102,co102,eo102⟩:=Kd.R_slice HO32.out
          subst eo102
          have hcz103_0 : w100.cell? ⟨gb8,0,none⟩ = some (.slice Ao9 t1.length co9):=(blk_cell BK8.out 0).trans rfl
          have hfz103_0:=blk_frozen BK8.out 0
          try go_wp2_with (first | (go_at_call 12;(with_reducible refine (impl_FlattenGroup.calls kj5 _ _ t1 _ _ t9 t44 _ ?side1 ?side2 ?side3 ?side4 A92.out).mono ?_);(case side1=>exact cc_ (Kd.R_reads' Z9.out).2.2);(case side2=>exact (Kd.R_reads' Z9.out).2.1);(case side3=>exact cc_ (Kd.R_reads' HO_6.out).2.2);(case side4=>exact (Kd.R_reads' HO_6.out).2.1);rintro e w104 ⟨v45,rfl,ho0,hb⟩;have n0_:=a0_ (Kd.R_elder' (rr_ HO_4.out) (Kd.R_base ho0) hb);have n1_:=a0_ (Kd.R_elder' (rr_ HO_6.out) (Kd.R_base ho0) hb);have n2_:=a0_ (Kd.R_elder' (rr_ HO_7.out) (Kd.R_base ho0) hb);have n3_:=a0_ (Kd.R_elder' (rr_ HO_8.out) (Kd.R_base ho0) hb);have n4_:=a0_ (Kd.R_elder' (rr_ HO_9.out) (Kd.R_base ho0) hb);have n5_:=rb_ Z9 hb;have n6_:=a0_ (Kd.R_elder' (rr_ HO29.out) (Kd.R_base ho0) hb);have n7_:=a0_ (Kd.R_elder' (rr_ HO32.out) (Kd.R_base ho0) hb);have n8_:=a0_ (Kd.R_elder' (rr_ HO35.out) (Kd.R_base ho0) hb);have n9_:=a0_ (Kd.R_lower (Kd.R_new' (Kd.R_new' (Kd.R_new' (Kd.R_new' (Kd.R_new' (Kd.R_new' (Kd.R_new' (Kd.R_new' ho0 (Kd.R_lt (rr_ HO_4.out))) (Kd.R_lt (rr_ HO_6.out))) (Kd.R_lt (rr_ HO_7.out))) (Kd.R_lt (rr_ HO_8.out))) (Kd.R_lt (rr_ HO_9.out))) (Kd.R_lt (rr_ HO29.out))) (Kd.R_lt (rr_ HO32.out))) (Kd.R_lt (rr_ HO35.out))) (below_size hb_));have n10_:=kb_ BK8 hb;have n11_:=a0_ (below_step hb_ hb);clear HO_4 HO_6;clear HO_7 HO_8;clear HO_9 Z9;clear HO29 HO32;clear HO35 BK8 HB;have HO_4:=n0_;have HO_6:=n1_;have HO_7:=n2_;have HO_8:=n3_;have HO_9:=n4_;have Z9:=n5_;have HO29:=n6_;have HO32:=n7_;have HO35:=n8_;have HO46:=n9_;have BK8:=n10_;have HB:=n11_;clear n0_ n1_ n2_ n3_ n4_ n5_ n6_ n7_ n8_ n9_ n10_ n11_;(try clear hb);(try clear ho0);obtain ⟨Ao105,co105,eo105⟩:=Kd.R_slice HO46.out;subst eo105) | (go_at_call 13;(with_reducible refine (laws_equalGroup.calls kj5 _ _ t30 _ _ t44 true _ ?side1 ?side2 ?side3 ?side4 A93.out).mono ?_);(case side1=>exact cc_ (Kd.R_reads' HO32.out).2.2);(case side2=>exact (Kd.R_reads' HO32.out).2.1);(case side3=>exact cc_ (Kd.R_reads' HO46.out).2.2);(case side4=>exact (Kd.R_reads' HO46.out).2.1);rintro e w' ⟨rfl,⟨nd,rfl⟩⟩;obtain ⟨Ao106,co106,eo106⟩:=Kd.R_slice HO_7.out;subst eo106;obtain ⟨Ao107,co107,eo107⟩:=Kd.R_slice HO35.out;subst eo107))
          go_ret
          exact ⟨by first | rfl | (simp [errW_none,errW_some] <;> rfl) | (simp [*,errW_none,errW_some] <;> rfl),hb_⟩
         ·rw [if_neg c96] at H
          have c96b0 : ((t33.length : Int) == 0) = false:=beq_eq_false_iff_ne.mpr c96
          have c96b1 : ((t33.length : Int) != 0) = true:=bne_iff_ne.mpr c96
          have c96b2 : ¬ (t33 = []):=fun h_=>c96 (by rw [h_];rfl)
          replace H:=Option.bind_eq_some_iff.mp H
          obtain ⟨t48,A1080,H⟩:=H
          try dsimp only at H
          have A108:=a0_ A1080
          clear A1080
          replace H:=Option.bind_eq_some_iff.mp H
          obtain ⟨t51,A1090,H⟩:=H
          replace H : (some t51) = some r:=H
          have A109:=a0_ A1090
          clear A1090
          obtain rfl:=Option.some.inj H
          try go_wp2
          have n0_:=a0_ (Kd.R_drew HO_4.out)
          have n1_:=a0_ (Kd.R_drew HO_6.out)
          have n2_:=a0_ (Kd.R_drew HO_7.out)
          have n3_:=a0_ (Kd.R_drew HO_8.out)
          have n4_:=a0_ (Kd.R_drew HO_9.out)
          have n5_:=a0_ (Kd.R_drew Z9.out)
          have n6_:=a0_ (blk_drew BK8.out)
          have n7_:=a0_ (below_drew1 HB.out)
          clear HO_4
          clear HO_6
          clear HO_7
          clear HO_8
          clear HO_9
          clear Z9
          clear BK8
          clear HB
          have HO_4:=n0_
          have HO_6:=n1_
          have HO_7:=n2_
          have HO_8:=n3_
          have HO_9:=n4_
          have Z9:=n5_
          have BK8:=n6_
          have HB:=n7_
          clear n0_ n1_ n2_ n3_ n4_ n5_ n6_ n7_
          refine start_ (n:=11) (S:=fun w'=>w'.cell? ⟨gb8,0,none⟩ = some (.slice Ao9 t1.length co9)) (ds:=[]) #[false,false,false,false,false,false,false,false,false,false,false] (by kernel_rfl) rfl rfl ((blk_cell BK8.out 0).trans rfl) (fun hHeld=>?_);refine with_tabW laws_FnFlattenGroupSplit.tab8 laws_FnFlattenGroupSplit.bits8 (fun HT_ HW_=>?_)
          generalize wc.drew = w110 at HO_4 HO_6 HO_7 HO_8 HO_9 Z9 BK8 HB hHeld ⊢
          refine pure_ (i:=2) (N:=some 68) (v:=?_) (a':=?_) #[false,false,true,false,false,false,false,false,false,false,false] rfl rfl (any_of HT_.out (by kernel_rfl)) (fun _ _ _ h=>h) (Or.inl ⟨by rfl,?_⟩) ?_ ?_
          rotate_left
          ·intro w'
           go_simp
           with_reducible rfl
          rotate_left
          ·simp only [Act.put,s1_,s2_,s3_,i64_w,i32_w]
           rfl
          refine pure_ (i:=4) (N:=some 70) (v:=?_) (a':=?_) #[false,false,true,false,true,false,false,false,false,false,false] rfl rfl (any_of HT_.out (by kernel_rfl)) (fun _ _ _ h=>h) (Or.inl ⟨by rfl,?_⟩) ?_ ?_
          rotate_left
          ·intro w'
           go_simp
           with_reducible rfl
          rotate_left
          ·simp only [Act.put,s1_,s2_,s3_,i64_w,i32_w]
           rfl
          refine take_ (i:=0) (N:=some 66) (v:=?_) (a':=?_) #[true,false,true,false,true,false,false,false,false,false,false] rfl rfl (take_ofW HT_.out HW_.out (by kernel_rfl)) (fun _ _ _ h=>h) (Or.inl ⟨by rfl,?_⟩) hHeld ?_ ?_
          rotate_left
          ·intro w' s0
           go_simp
           with_reducible rfl
          rotate_left
          ·simp only [Act.put,s1_,s2_,s3_,i64_w,i32_w]
           rfl
          refine take_ (i:=1) (N:=some 67) (v:=?_) (a':=?_) #[true,true,true,false,true,false,false,false,false,false,false] rfl rfl (take_ofW HT_.out HW_.out (by kernel_rfl)) (fun _ _ _ h=>h) (Or.inl ⟨by rfl,?_⟩) hHeld ?_ ?_
          rotate_left
          ·intro w' s0
           go_simp
           with_reducible rfl
          rotate_left
          ·simp only [Act.put,s1_,s2_,s3_,i64_w,i32_w]
           rfl
          refine one_ (i:=3) (N:=some 69) #[true,true,true,true,true,false,false,false,false,false,false] rfl rfl (one_of HT_.out (by kernel_rfl)) (by decide) (fun K hK=>?_)
          refine goes_ Try.func12 (by kernel_rfl) rfl #[.agg #[.slice Ao9 t1.length co9],.slice Ao11 t4.length co11] (by rfl) rfl rfl lm_ ?_
          with_reducible refine (impl_FlattenGroup.calls kj5 _ _ t1 _ _ t4 t27 _ ?side1 ?side2 ?side3 ?side4 A52.out).mono ?_
          (case side1=>exact cc_ (Kd.R_reads' Z9.out).2.2)
          (case side2=>exact (Kd.R_reads' Z9.out).2.1)
          (case side3=>exact cc_ (Kd.R_reads' HO_4.out).2.2)
          (case side4=>exact (Kd.R_reads' HO_4.out).2.1)
          rintro e w111 ⟨v28,rfl,ho0,hb⟩
          refine ⟨_,rfl,?_⟩
          have n0_:=a0_ (Kd.R_elder' (rr_ HO_4.out) (Kd.R_base ho0) hb)
          have n1_:=a0_ (Kd.R_elder' (rr_ HO_6.out) (Kd.R_base ho0) hb)
          have n2_:=a0_ (Kd.R_elder' (rr_ HO_7.out) (Kd.R_base ho0) hb)
          have n3_:=a0_ (Kd.R_elder' (rr_ HO_8.out) (Kd.R_base ho0) hb)
          have n4_:=a0_ (Kd.R_elder' (rr_ HO_9.out) (Kd.R_base ho0) hb)
          have n5_:=rb_ Z9 hb
          have n6_:=a0_ (Kd.R_lower (Kd.R_new' (Kd.R_new' (Kd.R_new' (Kd.R_new' (Kd.R_new' ho0 (Kd.R_lt (rr_ HO_4.out))) (Kd.R_lt (rr_ HO_6.out))) (Kd.R_lt (rr_ HO_7.out))) (Kd.R_lt (rr_ HO_8.out))) (Kd.R_lt (rr_ HO_9.out))) (below_size hb_))
          have n7_:=kb_ BK8 hb
          have n8_:=a0_ (below_step hb_ hb)
          clear HO_4
          clear HO_6
          clear HO_7
          clear HO_8
          clear HO_9
          clear Z9
          clear BK8
          clear HB
          have HO_4:=n0_
          have HO_6:=n1_
          have HO_7:=n2_
          have HO_8:=n3_
          have HO_9:=n4_
          have Z9:=n5_
          have HO29:=n6_
          have BK8:=n7_
          have HB:=n8_
          clear n0_ n1_ n2_ n3_ n4_ n5_ n6_ n7_ n8_
          (try clear hb)
          (try clear hb2)
          (try clear hk)
          (try clear hi)
          (try clear ho0)
          obtain ⟨Ao112,co112,eo112⟩:=Kd.R_slice HO29.out
          (first | subst eo112 | (injection eo112 with f1_ f2_ f3_;have f4_:=f1_.symm;have f5_:=f3_.symm;clear f1_ f2_ f3_;subst f4_;subst f5_))
          refine hK.out _ _ ((blk_cell BK8.out 0).trans rfl) (fun hHeld=>?_)
          clear hK K
          refine norm_ (a':=?_) ?_ ?_
          rotate_left
          ·show Act.put _ (some 69) _ = _
           simp only [Act.put,s1_,s2_,s3_,i64_w,i32_w]
           rfl
          refine one_ (i:=5) (N:=some 71) #[true,true,true,true,true,true,false,false,false,false,false] rfl rfl (one_of HT_.out (by kernel_rfl)) (by decide) (fun K hK=>?_)
          refine goes_ Try.func25 (by kernel_rfl) rfl #[.agg #[.slice Ao9 t1.length co9],.slice Ao112 t27.length co112,.int .i64 t7] (by rfl) rfl rfl lm_ ?_
          with_reducible refine (impl_SplitGroup.calls _ _ t1 _ _ t27 t7 t30 t33 _ ?side1 ?side2 ?side3 ?side4 A53.out).mono ?_
          (case side1=>exact cc_ (Kd.R_reads' Z9.out).2.2)
          (case side2=>exact (Kd.R_reads' Z9.out).2.1)
          (case side3=>exact cc_ (Kd.R_reads' HO29.out).2.2)
          (case side4=>exact (Kd.R_reads' HO29.out).2.1)
          rintro e w113 ⟨v31,v34,rfl,ho0,ho1,hb⟩
          refine ⟨_,rfl,?_⟩
          have n0_:=a0_ (Kd.R_mono (Kd.R_told (Kd.R_told (Kd.R_old (rr_ HO_4.out) hb) (Kd.R_base ho0)) (Kd.R_base ho1)) (fun _ h_=>h_.1))
          have n1_:=a0_ (Kd.R_mono (Kd.R_told (Kd.R_told (Kd.R_old (rr_ HO_6.out) hb) (Kd.R_base ho0)) (Kd.R_base ho1)) (fun _ h_=>h_.1))
          have n2_:=a0_ (Kd.R_mono (Kd.R_told (Kd.R_told (Kd.R_old (rr_ HO_7.out) hb) (Kd.R_base ho0)) (Kd.R_base ho1)) (fun _ h_=>h_.1))
          have n3_:=a0_ (Kd.R_mono (Kd.R_told (Kd.R_told (Kd.R_old (rr_ HO_8.out) hb) (Kd.R_base ho0)) (Kd.R_base ho1)) (fun _ h_=>h_.1))
          have n4_:=a0_ (Kd.R_mono (Kd.R_told (Kd.R_told (Kd.R_old (rr_ HO_9.out) hb) (Kd.R_base ho0)) (Kd.R_base ho1)) (fun _ h_=>h_.1))
          have n5_:=rb_ Z9 hb
          have n6_:=a0_ (Kd.R_mono (Kd.R_told (Kd.R_told (Kd.R_old (rr_ HO29.out) hb) (Kd.R_base ho0)) (Kd.R_base ho1)) (fun _ h_=>h_.1))
          have n7_:=a0_ (Kd.R_lower (Kd.R_new' (Kd.R_new' (Kd.R_new' (Kd.R_new' (Kd.R_new' (Kd.R_new' ho0 (Kd.R_lt (rr_ HO_4.out))) (Kd.R_lt (rr_ HO_6.out))) (Kd.R_lt (rr_ HO_7.out))) (Kd.R_lt (rr_ HO_8.out))) (Kd.R_lt (rr_ HO_9.out))) (Kd.R_lt (rr_ HO29.out))) (below_size hb_))
          have n8_:=a0_ (Kd.R_lower (Kd.R_new' (Kd.R_new' (Kd.R_new' (Kd.R_new' (Kd.R_new' (Kd.R_new' ho1 (Kd.R_lt (rr_ HO_4.out))) (Kd.R_lt (rr_ HO_6.out))) (Kd.R_lt (rr_ HO_7.out))) (Kd.R_lt (rr_ HO_8.out))) (Kd.R_lt (rr_ HO_9.out))) (Kd.R_lt (rr_ HO29.out))) (below_size hb_))
          have n9_:=kb_ BK8 hb
          have n10_:=a0_ (below_step hb_ hb)
          clear HO_4
          clear HO_6
          clear HO_7
          clear HO_8
          clear HO_9
          clear Z9
          clear HO29
          clear BK8
          clear HB
          have HO_4:=n0_
          have HO_6:=n1_
          have HO_7:=n2_
          have HO_8:=n3_
          have HO_9:=n4_
          have Z9:=n5_
          have HO29:=n6_
          have HO32:=n7_
          have HO35:=n8_
          have BK8:=n9_
          have HB:=n10_
          clear n0_ n1_ n2_ n3_ n4_ n5_ n6_ n7_ n8_ n9_ n10_
          (try clear hb)
          (try clear hb2)
          (try clear hk)
          (try clear hi)
          (try clear ho0)
          (try clear ho1)
          refine hK.out _ _ ((blk_cell BK8.out 0).trans rfl) (fun hHeld=>?_)
          clear hK K
          refine norm_ (a':=?_) ?_ ?_
          rotate_left
          ·show Act.put _ (some 71) _ = _
           simp only [Act.put,s1_,s2_,s3_,i64_w,i32_w]
           rfl
          refine pure_ (i:=6) (N:=some 65) (v:=?_) (a':=?_) #[true,true,true,true,true,true,true,false,false,false,false] rfl rfl (any_of HT_.out (by kernel_rfl)) (fun _ _ _ h=>h) (Or.inl ⟨by rfl,?_⟩) ?_ ?_
          rotate_left
          ·intro w'
           go_simp
           with_reducible rfl
          rotate_left
          ·simp only [Act.put,s1_,s2_,s3_,i64_w,i32_w]
           rfl
          refine pure_ (i:=7) (N:=some 72) (v:=?_) (a':=?_) #[true,true,true,true,true,true,true,true,false,false,false] rfl rfl (any_of HT_.out (by kernel_rfl)) (fun _ _ _ h=>h) (Or.inl ⟨by rfl,?_⟩) ?_ ?_
          rotate_left
          ·intro w'
           go_simp
           with_reducible rfl
          rotate_left
          ·simp only [Act.put,s1_,s2_,s3_,i64_w,i32_w]
           rfl
          refine pure_ (i:=8) (N:=some 73) (v:=?_) (a':=?_) #[true,true,true,true,true,true,true,true,true,false,false] rfl rfl (any_of HT_.out (by kernel_rfl)) (fun _ _ _ h=>h) (Or.inl ⟨by rfl,?_⟩) ?_ ?_
          rotate_left
          ·intro w'
           go_simp
           with_reducible rfl
          rotate_left
          ·simp only [Act.put,s1_,s2_,s3_,i64_w,i32_w]
           rfl
          refine pure_ (i:=9) (N:=some 10) (v:=?_) (a':=?_) #[true,true,true,true,true,true,true,true,true,true,false] rfl rfl (any_of HT_.out (by kernel_rfl)) (fun _ _ _ h=>h) (Or.inl ⟨by rfl,?_⟩) ?_ ?_
          rotate_left
          ·intro w'
           go_simp
           with_reducible rfl
          rotate_left
          ·simp only [Act.put,s1_,s2_,s3_,i64_w,i32_w]
           rfl
          refine pure_ (i:=10) (N:=some 11) (v:=?_) (a':=?_) #[true,true,true,true,true,true,true,true,true,true,true] rfl rfl (any_of HT_.out (by kernel_rfl)) (fun _ _ _ h=>h) (Or.inl ⟨by rfl,?_⟩) ?_ ?_
          rotate_left
          ·intro w'
           go_simp
           with_reducible rfl
          rotate_left
          ·simp only [Act.put,s1_,s2_,s3_,i64_w,i32_w]
           rfl
          refine done_ (done_of HT_.out (by kernel_rfl)) ?_
          obtain ⟨Ao114,co114,eo114⟩:=Kd.R_slice HO_6.out
          subst eo114
          obtain ⟨Ao115,co115,eo115⟩:=Kd.R_slice HO32.out
          subst eo115
          have hcz116_0 : w113.cell? ⟨gb8,0,none⟩ = some (.slice Ao9 t1.length co9):=(blk_cell BK8.out 0).trans rfl
          have hfz116_0:=blk_frozen BK8.out 0
          try go_wp2_with (first | (go_at_call 12;(with_reducible refine (impl_FlattenGroup.calls kj5 _ _ t1 _ _ t9 t44 _ ?side1 ?side2 ?side3 ?side4 A92.out).mono ?_);(case side1=>exact cc_ (Kd.R_reads' Z9.out).2.2);(case side2=>exact (Kd.R_reads' Z9.out).2.1);(case side3=>exact cc_ (Kd.R_reads' HO_6.out).2.2);(case side4=>exact (Kd.R_reads' HO_6.out).2.1);rintro e w117 ⟨v45,rfl,ho0,hb⟩;have n0_:=a0_ (Kd.R_elder' (rr_ HO_4.out) (Kd.R_base ho0) hb);have n1_:=a0_ (Kd.R_elder' (rr_ HO_6.out) (Kd.R_base ho0) hb);have n2_:=a0_ (Kd.R_elder' (rr_ HO_7.out) (Kd.R_base ho0) hb);have n3_:=a0_ (Kd.R_elder' (rr_ HO_8.out) (Kd.R_base ho0) hb);have n4_:=a0_ (Kd.R_elder' (rr_ HO_9.out) (Kd.R_base ho0) hb);have n5_:=rb_ Z9 hb;have n6_:=a0_ (Kd.R_elder' (rr_ HO29.out) (Kd.R_base ho0) hb);have n7_:=a0_ (Kd.R_elder' (rr_ HO32.out) (Kd.R_base ho0) hb);have n8_:=a0_ (Kd.R_elder' (rr_ HO35.out) (Kd.R_base ho0) hb);have n9_:=a0_ (Kd.R_lower (Kd.R_new' (Kd.R_new' (Kd.R_new' (Kd.R_new' (Kd.R_new' (Kd.R_new' (Kd.R_new' (Kd.R_new' ho0 (Kd.R_lt (rr_ HO_4.out))) (Kd.R_lt (rr_ HO_6.out))) (Kd.R_lt (rr_ HO_7.out))) (Kd.R_lt (rr_ HO_8.out))) (Kd.R_lt (rr_ HO_9.out))) (Kd.R_lt (rr_ HO29.out))) (Kd.R_lt (rr_ HO32.out))) (Kd.R_lt (rr_ HO35.out))) (below_size hb_));have n10_:=kb_ BK8 hb;have n11_:=a0_ (below_step hb_ hb);clear HO_4 HO_6;clear HO_7 HO_8;clear HO_9 Z9;clear HO29 HO32;clear HO35 BK8 HB;have HO_4:=n0_;have HO_6:=n1_;have HO_7:=n2_;have HO_8:=n3_;have HO_9:=n4_;have Z9:=n5_;have HO29:=n6_;have HO32:=n7_;have HO35:=n8_;have HO46:=n9_;have BK8:=n10_;have HB:=n11_;clear n0_ n1_ n2_ n3_ n4_ n5_ n6_ n7_ n8_ n9_ n10_ n11_;(try clear hb);(try clear ho0);obtain ⟨Ao118,co118,eo118⟩:=Kd.R_slice HO46.out;subst eo118) | (go_at_call 13;(with_reducible refine (laws_equalGroup.calls kj5 _ _ t30 _ _ t44 true _ ?side1 ?side2 ?side3 ?side4 A93.out).mono ?_);(case side1=>exact cc_ (Kd.R_reads' HO32.out).2.2);(case side2=>exact (Kd.R_reads' HO32.out).2.1);(case side3=>exact cc_ (Kd.R_reads' HO46.out).2.2);(case side4=>exact (Kd.R_reads' HO46.out).2.1);rintro e w' ⟨rfl,⟨nd,rfl⟩⟩;obtain ⟨Ao119,co119,eo119⟩:=Kd.R_slice HO_7.out;subst eo119;obtain ⟨Ao120,co120,eo120⟩:=Kd.R_slice HO35.out;subst eo120;have hcz121_0 : w117.cell? ⟨gb8,0,none⟩ = some (.slice Ao9 t1.length co9):=(blk_cell BK8.out 0).trans rfl;have hfz121_0:=blk_frozen BK8.out 0) | (go_at_call 12;(with_reducible refine (impl_FlattenGroup.calls kj5 _ _ t1 _ _ t12 t48 _ ?side1 ?side2 ?side3 ?side4 A108.out).mono ?_);(case side1=>exact cc_ (Kd.R_reads' Z9.out).2.2);(case side2=>exact (Kd.R_reads' Z9.out).2.1);(case side3=>exact cc_ (Kd.R_reads' HO_7.out).2.2);(case side4=>exact (Kd.R_reads' HO_7.out).2.1);rintro e w122 ⟨v49,rfl,ho0,hb⟩;have n0_:=a0_ (Kd.R_elder' (rr_ HO_4.out) (Kd.R_base ho0) hb);have n1_:=a0_ (Kd.R_elder' (rr_ HO_6.out) (Kd.R_base ho0) hb);have n2_:=a0_ (Kd.R_elder' (rr_ HO_7.out) (Kd.R_base ho0) hb);have n3_:=a0_ (Kd.R_elder' (rr_ HO_8.out) (Kd.R_base ho0) hb);have n4_:=a0_ (Kd.R_elder' (rr_ HO_9.out) (Kd.R_base ho0) hb);have n5_:=rb_ Z9 hb;have n6_:=a0_ (Kd.R_elder' (rr_ HO29.out) (Kd.R_base ho0) hb);have n7_:=a0_ (Kd.R_elder' (rr_ HO32.out) (Kd.R_base ho0) hb);have n8_:=a0_ (Kd.R_elder' (rr_ HO35.out) (Kd.R_base ho0) hb);have n9_:=a0_ (Kd.R_elder' (rr_ HO46.out) (Kd.R_base ho0) hb);have n10_:=a0_ (Kd.R_lower (Kd.R_new' (Kd.R_new' (Kd.R_new' (Kd.R_new' (Kd.R_new' (Kd.R_new' (Kd.R_new' (Kd.R_new' (Kd.R_new' ho0 (Kd.R_lt (rr_ HO_4.out))) (Kd.R_lt (rr_ HO_6.out))) (Kd.R_lt (rr_ HO_7.out))) (Kd.R_lt (rr_ HO_8.out))) (Kd.R_lt (rr_ HO_9.out))) (Kd.R_lt (rr_ HO29.out))) (Kd.R_lt (rr_ HO32.out))) (Kd.R_lt (rr_ HO35.out))) (Kd.R_lt (rr_ HO46.out))) (below_size hb_));have n11_:=kb_ BK8 hb;have n12_:=a0_ (below_step hb_ hb);clear HO_4 HO_6;clear HO_7 HO_8;clear HO_9 Z9;clear HO29 HO32;clear HO35 HO46;clear BK8 HB;have HO_4:=n0_;have HO_6:=n1_;have HO_7:=n2_;have HO_8:=n3_;have HO_9:=n4_;have Z9:=n5_;have HO29:=n6_;have HO32:=n7_;have HO35:=n8_;have HO46:=n9_;have HO50:=n10_;have BK8:=n11_;have HB:=n12_;clear n0_ n1_ n2_ n3_ n4_ n5_ n6_ n7_ n8_ n9_ n10_ n11_ n12_;(try clear hb);(try clear ho0);obtain ⟨Ao123,co123,eo123⟩:=Kd.R_slice HO50.out;subst eo123) | (go_at_call 13;(with_reducible refine (laws_equalGroup.calls kj5 _ _ t33 _ _ t48 t51 _ ?side1 ?side2 ?side3 ?side4 A109.out).mono ?_);(case side1=>exact cc_ (Kd.R_reads' HO35.out).2.2);(case side2=>exact (Kd.R_reads' HO35.out).2.1);(case side3=>exact cc_ (Kd.R_reads' HO50.out).2.2);(case side4=>exact (Kd.R_reads' HO50.out).2.1);rintro e w' ⟨rfl,⟨nd,rfl⟩⟩))
          go_ret
          exact ⟨by first | rfl | (simp [errW_none,errW_some] <;> rfl) | (simp [*,errW_none,errW_some] <;> rfl),hb_⟩
        ·rw [if_neg c95] at H
         have c95b0 : ((t12.length : Int) == 0) = false:=beq_eq_false_iff_ne.mpr c95
         have c95b1 : ((t12.length : Int) != 0) = true:=bne_iff_ne.mpr c95
         have c95b2 : ¬ (t12 = []):=fun h_=>c95 (by rw [h_];rfl)
         replace H:=Option.bind_eq_some_iff.mp H
         obtain ⟨t52,A1240,H⟩:=H
         try dsimp only at H
         have A124:=a0_ A1240
         clear A1240
         replace H:=Option.bind_eq_some_iff.mp H
         obtain ⟨t55,A1250,H⟩:=H
         replace H : (some t55) = some r:=H
         have A125:=a0_ A1250
         clear A1250
         obtain rfl:=Option.some.inj H
         try go_wp2
         have n0_:=a0_ (Kd.R_drew HO_4.out)
         have n1_:=a0_ (Kd.R_drew HO_6.out)
         have n2_:=a0_ (Kd.R_drew HO_7.out)
         have n3_:=a0_ (Kd.R_drew HO_8.out)
         have n4_:=a0_ (Kd.R_drew HO_9.out)
         have n5_:=a0_ (Kd.R_drew Z9.out)
         have n6_:=a0_ (blk_drew BK8.out)
         have n7_:=a0_ (below_drew1 HB.out)
         clear HO_4
         clear HO_6
         clear HO_7
         clear HO_8
         clear HO_9
         clear Z9
         clear BK8
         clear HB
         have HO_4:=n0_
         have HO_6:=n1_
         have HO_7:=n2_
         have HO_8:=n3_
         have HO_9:=n4_
         have Z9:=n5_
         have BK8:=n6_
         have HB:=n7_
         clear n0_ n1_ n2_ n3_ n4_ n5_ n6_ n7_
         refine start_ (n:=11) (S:=fun w'=>w'.cell? ⟨gb8,0,none⟩ = some (.slice Ao9 t1.length co9)) (ds:=[]) #[false,false,false,false,false,false,false,false,false,false,false] (by kernel_rfl) rfl rfl ((blk_cell BK8.out 0).trans rfl) (fun hHeld=>?_);refine with_tabW laws_FnFlattenGroupSplit.tab8 laws_FnFlattenGroupSplit.bits8 (fun HT_ HW_=>?_)
         generalize wc.drew = w126 at HO_4 HO_6 HO_7 HO_8 HO_9 Z9 BK8 HB hHeld ⊢
         refine pure_ (i:=2) (N:=some 68) (v:=?_) (a':=?_) #[false,false,true,false,false,false,false,false,false,false,false] rfl rfl (any_of HT_.out (by kernel_rfl)) (fun _ _ _ h=>h) (Or.inl ⟨by rfl,?_⟩) ?_ ?_
         rotate_left
         ·intro w'
          go_simp
          with_reducible rfl
         rotate_left
         ·simp only [Act.put,s1_,s2_,s3_,i64_w,i32_w]
          rfl
         refine pure_ (i:=4) (N:=some 70) (v:=?_) (a':=?_) #[false,false,true,false,true,false,false,false,false,false,false] rfl rfl (any_of HT_.out (by kernel_rfl)) (fun _ _ _ h=>h) (Or.inl ⟨by rfl,?_⟩) ?_ ?_
         rotate_left
         ·intro w'
          go_simp
          with_reducible rfl
         rotate_left
         ·simp only [Act.put,s1_,s2_,s3_,i64_w,i32_w]
          rfl
         refine take_ (i:=0) (N:=some 66) (v:=?_) (a':=?_) #[true,false,true,false,true,false,false,false,false,false,false] rfl rfl (take_ofW HT_.out HW_.out (by kernel_rfl)) (fun _ _ _ h=>h) (Or.inl ⟨by rfl,?_⟩) hHeld ?_ ?_
         rotate_left
         ·intro w' s0
          go_simp
          with_reducible rfl
         rotate_left
         ·simp only [Act.put,s1_,s2_,s3_,i64_w,i32_w]
          rfl
         refine take_ (i:=1) (N:=some 67) (v:=?_) (a':=?_) #[true,true,true,false,true,false,false,false,false,false,false] rfl rfl (take_ofW HT_.out HW_.out (by kernel_rfl)) (fun _ _ _ h=>h) (Or.inl ⟨by rfl,?_⟩) hHeld ?_ ?_
         rotate_left
         ·intro w' s0
          go_simp
          with_reducible rfl
         rotate_left
         ·simp only [Act.put,s1_,s2_,s3_,i64_w,i32_w]
          rfl
         refine one_ (i:=3) (N:=some 69) #[true,true,true,true,true,false,false,false,false,false,false] rfl rfl (one_of HT_.out (by kernel_rfl)) (by decide) (fun K hK=>?_)
         refine goes_ Try.func12 (by kernel_rfl) rfl #[.agg #[.slice Ao9 t1.length co9],.slice Ao11 t4.length co11] (by rfl) rfl rfl lm_ ?_
         with_reducible refine (impl_FlattenGroup.calls kj5 _ _ t1 _ _ t4 t27 _ ?side1 ?side2 ?side3 ?side4 A52.out).mono ?_
         (case side1=>exact cc_ (Kd.R_reads' Z9.out).2.2)
         (case side2=>exact (Kd.R_reads' Z9.out).2.1)
         (case side3=>exact cc_ (Kd.R_reads' HO_4.out).2.2)
         (case side4=>exact (Kd.R_reads' HO_4.out).2.1)
         rintro e w127 ⟨v28,rfl,ho0,hb⟩
         refine ⟨_,rfl,?_⟩
         have n0_:=a0_ (Kd.R_elder' (rr_ HO_4.out) (Kd.R_base ho0) hb)
         have n1_:=a0_ (Kd.R_elder' (rr_ HO_6.out) (Kd.R_base ho0) hb)
         have n2_:=a0_ (Kd.R_elder' (rr_ HO_7.out) (Kd.R_base ho0) hb)
         have n3_:=a0_ (Kd.R_elder' (rr_ HO_8.out) (Kd.R_base ho0) hb)
         have n4_:=a0_ (Kd.R_elder' (rr_ HO_9.out) (Kd.R_base ho0) hb)
         have n5_:=rb_ Z9 hb
         have n6_:=a0_ (Kd.R_lower (Kd.R_new' (Kd.R_new' (Kd.R_new' (Kd.R_new' (Kd.R_new' ho0 (Kd.R_lt (rr_ HO_4.out))) (Kd.R_lt (rr_ HO_6.out))) (Kd.R_lt (rr_ HO_7.out))) (Kd.R_lt (rr_ HO_8.out))) (Kd.R_lt (rr_ HO_9.out))) (below_size hb_))
         have n7_:=kb_ BK8 hb
         have n8_:=a0_ (below_step hb_ hb)
         clear HO_4
         clear HO_6
         clear HO_7
         clear HO_8
         clear HO_9
         clear Z9
         clear BK8
         clear HB
         have HO_4:=n0_
         have HO_6:=n1_
         have HO_7:=n2_
         have HO_8:=n3_
         have HO_9:=n4_
         have Z9:=n5_
         have HO29:=n6_
         have BK8:=n7_
         have HB:=n8_
         clear n0_ n1_ n2_ n3_ n4_ n5_ n6_ n7_ n8_
         (try clear hb)
         (try clear hb2)
         (try clear hk)
         (try clear hi)
         (try clear ho0)
         obtain ⟨Ao128,co128,eo128⟩:=Kd.R_slice HO29.out
         (first | subst eo128 | (injection eo128 with f1_ f2_ f3_;have f4_:=f1_.symm;have f5_:=f3_.symm;clear f1_ f2_ f3_;subst f4_;subst f5_))
         refine hK.out _ _ ((blk_cell BK8.out 0).trans rfl) (fun hHeld=>?_)
         clear hK K
         refine norm_ (a':=?_) ?_ ?_
         rotate_left
         ·show Act.put _ (some 69) _ = _
          simp only [Act.put,s1_,s2_,s3_,i64_w,i32_w]
          rfl
         refine one_ (i:=5) (N:=some 71) #[true,true,true,true,true,true,false,false,false,false,false] rfl rfl (one_of HT_.out (by kernel_rfl)) (by decide) (fun K hK=>?_)
         refine goes_ Try.func25 (by kernel_rfl) rfl #[.agg #[.slice Ao9 t1.length co9],.slice Ao128 t27.length co128,.int .i64 t7] (by rfl) rfl rfl lm_ ?_
         with_reducible refine (impl_SplitGroup.calls _ _ t1 _ _ t27 t7 t30 t33 _ ?side1 ?side2 ?side3 ?side4 A53.out).mono ?_
         (case side1=>exact cc_ (Kd.R_reads' Z9.out).2.2)
         (case side2=>exact (Kd.R_reads' Z9.out).2.1)
         (case side3=>exact cc_ (Kd.R_reads' HO29.out).2.2)
         (case side4=>exact (Kd.R_reads' HO29.out).2.1)
         rintro e w129 ⟨v31,v34,rfl,ho0,ho1,hb⟩
         refine ⟨_,rfl,?_⟩
         have n0_:=a0_ (Kd.R_mono (Kd.R_told (Kd.R_told (Kd.R_old (rr_ HO_4.out) hb) (Kd.R_base ho0)) (Kd.R_base ho1)) (fun _ h_=>h_.1))
         have n1_:=a0_ (Kd.R_mono (Kd.R_told (Kd.R_told (Kd.R_old (rr_ HO_6.out) hb) (Kd.R_base ho0)) (Kd.R_base ho1)) (fun _ h_=>h_.1))
         have n2_:=a0_ (Kd.R_mono (Kd.R_told (Kd.R_told (Kd.R_old (rr_ HO_7.out) hb) (Kd.R_base ho0)) (Kd.R_base ho1)) (fun _ h_=>h_.1))
         have n3_:=a0_ (Kd.R_mono (Kd.R_told (Kd.R_told (Kd.R_old (rr_ HO_8.out) hb) (Kd.R_base ho0)) (Kd.R_base ho1)) (fun _ h_=>h_.1))
         have n4_:=a0_ (Kd.R_mono (Kd.R_told (Kd.R_told (Kd.R_old (rr_ HO_9.out) hb) (Kd.R_base ho0)) (Kd.R_base ho1)) (fun _ h_=>h_.1))
         have n5_:=rb_ Z9 hb
         have n6_:=a0_ (Kd.R_mono (Kd.R_told (Kd.R_told (Kd.R_old (rr_ HO29.out) hb) (Kd.R_base ho0)) (Kd.R_base ho1)) (fun _ h_=>h_.1))
         have n7_:=a0_ (Kd.R_lower (Kd.R_new' (Kd.R_new' (Kd.R_new' (Kd.R_new' (Kd.R_new' (Kd.R_new' ho0 (Kd.R_lt (rr_ HO_4.out))) (Kd.R_lt (rr_ HO_6.out))) (Kd.R_lt (rr_ HO_7.out))) (Kd.R_lt (rr_ HO_8.out))) (Kd.R_lt (rr_ HO_9.out))) (Kd.R_lt (rr_ HO29.out))) (below_size hb_))
         have n8_:=a0_ (Kd.R_lower (Kd.R_new' (Kd.R_new' (Kd.R_new' (Kd.R_new' (Kd.R_new' (Kd.R_new' ho1 (Kd.R_lt (rr_ HO_4.out))) (Kd.R_lt (rr_ HO_6.out))) (Kd.R_lt (rr_ HO_7.out))) (Kd.R_lt (rr_ HO_8.out))) (Kd.R_lt (rr_ HO_9.out))) (Kd.R_lt (rr_ HO29.out))) (below_size hb_))
         have n9_:=kb_ BK8 hb
         have n10_:=a0_ (below_step hb_ hb)
         clear HO_4
         clear HO_6
         clear HO_7
         clear HO_8
         clear HO_9
         clear Z9
         clear HO29
         clear BK8
         clear HB
         have HO_4:=n0_
         have HO_6:=n1_
         have HO_7:=n2_
         have HO_8:=n3_
         have HO_9:=n4_
         have Z9:=n5_
         have HO29:=n6_
         have HO32:=n7_
         have HO35:=n8_
         have BK8:=n9_
         have HB:=n10_
         clear n0_ n1_ n2_ n3_ n4_ n5_ n6_ n7_ n8_ n9_ n10_
         (try clear hb)
         (try clear hb2)
         (try clear hk)
         (try clear hi)
         (try clear ho0)
         (try clear ho1)
         refine hK.out _ _ ((blk_cell BK8.out 0).trans rfl) (fun hHeld=>?_)
         clear hK K
         refine norm_ (a':=?_) ?_ ?_
         rotate_left
         ·show Act.put _ (some 71) _ = _
          simp only [Act.put,s1_,s2_,s3_,i64_w,i32_w]
          rfl
         refine pure_ (i:=6) (N:=some 65) (v:=?_) (a':=?_) #[true,true,true,true,true,true,true,false,false,false,false] rfl rfl (any_of HT_.out (by kernel_rfl)) (fun _ _ _ h=>h) (Or.inl ⟨by rfl,?_⟩) ?_ ?_
         rotate_left
         ·intro w'
          go_simp
          with_reducible rfl
         rotate_left
         ·simp only [Act.put,s1_,s2_,s3_,i64_w,i32_w]
          rfl
         refine pure_ (i:=7) (N:=some 72) (v:=?_) (a':=?_) #[true,true,true,true,true,true,true,true,false,false,false] rfl rfl (any_of HT_.out (by kernel_rfl)) (fun _ _ _ h=>h) (Or.inl ⟨by rfl,?_⟩) ?_ ?_
         rotate_left
         ·intro w'
          go_simp
          with_reducible rfl
         rotate_left
         ·simp only [Act.put,s1_,s2_,s3_,i64_w,i32_w]
          rfl
         refine pure_ (i:=8) (N:=some 73) (v:=?_) (a':=?_) #[true,true,true,true,true,true,true,true,true,false,false] rfl rfl (any_of HT_.out (by kernel_rfl)) (fun _ _ _ h=>h) (Or.inl ⟨by rfl,?_⟩) ?_ ?_
         rotate_left
         ·intro w'
          go_simp
          with_reducible rfl
         rotate_left
         ·simp only [Act.put,s1_,s2_,s3_,i64_w,i32_w]
          rfl
         refine pure_ (i:=9) (N:=some 10) (v:=?_) (a':=?_) #[true,true,true,true,true,true,true,true,true,true,false] rfl rfl (any_of HT_.out (by kernel_rfl)) (fun _ _ _ h=>h) (Or.inl ⟨by rfl,?_⟩) ?_ ?_
         rotate_left
         ·intro w'
          go_simp
          with_reducible rfl
         rotate_left
         ·simp only [Act.put,s1_,s2_,s3_,i64_w,i32_w]
          rfl
         refine pure_ (i:=10) (N:=some 11) (v:=?_) (a':=?_) #[true,true,true,true,true,true,true,true,true,true,true] rfl rfl (any_of HT_.out (by kernel_rfl)) (fun _ _ _ h=>h) (Or.inl ⟨by rfl,?_⟩) ?_ ?_
         rotate_left
         ·intro w'
          go_simp
          with_reducible rfl
         rotate_left
         ·simp only [Act.put,s1_,s2_,s3_,i64_w,i32_w]
          rfl
         refine done_ (done_of HT_.out (by kernel_rfl)) ?_
         obtain ⟨Ao130,co130,eo130⟩:=Kd.R_slice HO_6.out
         subst eo130
         obtain ⟨Ao131,co131,eo131⟩:=Kd.R_slice HO32.out
         subst eo131
         have hcz132_0 : w129.cell? ⟨gb8,0,none⟩ = some (.slice Ao9 t1.length co9):=(blk_cell BK8.out 0).trans rfl
         have hfz132_0:=blk_frozen BK8.out 0
         try go_wp2_with (first | (go_at_call 12;(with_reducible refine (impl_FlattenGroup.calls kj5 _ _ t1 _ _ t9 t44 _ ?side1 ?side2 ?side3 ?side4 A92.out).mono ?_);(case side1=>exact cc_ (Kd.R_reads' Z9.out).2.2);(case side2=>exact (Kd.R_reads' Z9.out).2.1);(case side3=>exact cc_ (Kd.R_reads' HO_6.out).2.2);(case side4=>exact (Kd.R_reads' HO_6.out).2.1);rintro e w133 ⟨v45,rfl,ho0,hb⟩;have n0_:=a0_ (Kd.R_elder' (rr_ HO_4.out) (Kd.R_base ho0) hb);have n1_:=a0_ (Kd.R_elder' (rr_ HO_6.out) (Kd.R_base ho0) hb);have n2_:=a0_ (Kd.R_elder' (rr_ HO_7.out) (Kd.R_base ho0) hb);have n3_:=a0_ (Kd.R_elder' (rr_ HO_8.out) (Kd.R_base ho0) hb);have n4_:=a0_ (Kd.R_elder' (rr_ HO_9.out) (Kd.R_base ho0) hb);have n5_:=rb_ Z9 hb;have n6_:=a0_ (Kd.R_elder' (rr_ HO29.out) (Kd.R_base ho0) hb);have n7_:=a0_ (Kd.R_elder' (rr_ HO32.out) (Kd.R_base ho0) hb);have n8_:=a0_ (Kd.R_elder' (rr_ HO35.out) (Kd.R_base ho0) hb);have n9_:=a0_ (Kd.R_lower (Kd.R_new' (Kd.R_new' (Kd.R_new' (Kd.R_new' (Kd.R_new' (Kd.R_new' (Kd.R_new' (Kd.R_new' ho0 (Kd.R_lt (rr_ HO_4.out))) (Kd.R_lt (rr_ HO_6.out))) (Kd.R_lt (rr_ HO_7.out))) (Kd.R_lt (rr_ HO_8.out))) (Kd.R_lt (rr_ HO_9.out))) (Kd.R_lt (rr_ HO29.out))) (Kd.R_lt (rr_ HO32.out))) (Kd.R_lt (rr_ HO35.out))) (below_size hb_));have n10_:=kb_ BK8 hb;have n11_:=a0_ (below_step hb_ hb);clear HO_4 HO_6;clear HO_7 HO_8;clear HO_9 Z9;clear HO29 HO32;clear HO35 BK8 HB;have HO_4:=n0_;have HO_6:=n1_;have HO_7:=n2_;have HO_8:=n3_;have HO_9:=n4_;have Z9:=n5_;have HO29:=n6_;have HO32:=n7_;have HO35:=n8_;have HO46:=n9_;have BK8:=n10_;have HB:=n11_;clear n0_ n1_ n2_ n3_ n4_ n5_ n6_ n7_ n8_ n9_ n10_ n11_;(try clear hb);(try clear ho0);obtain ⟨Ao134,co134,eo134⟩:=Kd.R_slice HO46.out;subst eo134) | (go_at_call 13;(with_reducible refine (laws_equalGroup.calls kj5 _ _ t30 _ _ t44 true _ ?side1 ?side2 ?side3 ?side4 A93.out).mono ?_);(case side1=>exact cc_ (Kd.R_reads' HO32.out).2.2);(case side2=>exact (Kd.R_reads' HO32.out).2.1);(case side3=>exact cc_ (Kd.R_reads' HO46.out).2.2);(case side4=>exact (Kd.R_reads' HO46.out).2.1);rintro e w' ⟨rfl,⟨nd,rfl⟩⟩;obtain ⟨Ao135,co135,eo135⟩:=Kd.R_slice HO_7.out;subst eo135;have hcz136_0 : w133.cell? ⟨gb8,0,none⟩ = some (.slice Ao9 t1.length co9):=(blk_cell BK8.out 0).trans rfl;have hfz136_0:=blk_frozen BK8.out 0) | (go_at_call 12;(with_reducible refine (impl_FlattenGroup.calls kj5 _ _ t1 _ _ t12 t52 _ ?side1 ?side2 ?side3 ?side4 A124.out).mono ?_);(case side1=>exact cc_ (Kd.R_reads' Z9.out).2.2);(case side2=>exact (Kd.R_reads' Z9.out).2.1);(case side3=>exact cc_ (Kd.R_reads' HO_7.out).2.2);(case side4=>exact (Kd.R_reads' HO_7.out).2.1);rintro e w137 ⟨v53,rfl,ho0,hb⟩;have n0_:=a0_ (Kd.R_elder' (rr_ HO_4.out) (Kd.R_base ho0) hb);have n1_:=a0_ (Kd.R_elder' (rr_ HO_6.out) (Kd.R_base ho0) hb);have n2_:=a0_ (Kd.R_elder' (rr_ HO_7.out) (Kd.R_base ho0) hb);have n3_:=a0_ (Kd.R_elder' (rr_ HO_8.out) (Kd.R_base ho0) hb);have n4_:=a0_ (Kd.R_elder' (rr_ HO_9.out) (Kd.R_base ho0) hb);have n5_:=rb_ Z9 hb;have n6_:=a0_ (Kd.R_elder' (rr_ HO29.out) (Kd.R_base ho0) hb);have n7_:=a0_ (Kd.R_elder' (rr_ HO32.out) (Kd.R_base ho0) hb);have n8_:=a0_ (Kd.R_elder' (rr_ HO35.out) (Kd.R_base ho0) hb);have n9_:=a0_ (Kd.R_elder' (rr_ HO46.out) (Kd.R_base ho0) hb);have n10_:=a0_ (Kd.R_lower (Kd.R_new' (Kd.R_new' (Kd.R_new' (Kd.R_new' (Kd.R_new' (Kd.R_new' (Kd.R_new' (Kd.R_new' (Kd.R_new' ho0 (Kd.R_lt (rr_ HO_4.out))) (Kd.R_lt (rr_ HO_6.out))) (Kd.R_lt (rr_ HO_7.out))) (Kd.R_lt (rr_ HO_8.out))) (Kd.R_lt (rr_ HO_9.out))) (Kd.R_lt (rr_ HO29.out))) (Kd.R_lt (rr_ HO32.out))) (Kd.R_lt (rr_ HO35.out))) (Kd.R_lt (rr_ HO46.out))) (below_size hb_));have n11_:=kb_ BK8 hb;have n12_:=a0_ (below_step hb_ hb);clear HO_4 HO_6;clear HO_7 HO_8;clear HO_9 Z9;clear HO29 HO32;clear HO35 HO46;clear BK8 HB;have HO_4:=n0_;have HO_6:=n1_;have HO_7:=n2_;have HO_8:=n3_;have HO_9:=n4_;have Z9:=n5_;have HO29:=n6_;have HO32:=n7_;have HO35:=n8_;have HO46:=n9_;have HO54:=n10_;have BK8:=n11_;have HB:=n12_;clear n0_ n1_ n2_ n3_ n4_ n5_ n6_ n7_ n8_ n9_ n10_ n11_ n12_;(try clear hb);(try clear ho0);obtain ⟨Ao138,co138,eo138⟩:=Kd.R_slice HO35.out;subst eo138;obtain ⟨Ao139,co139,eo139⟩:=Kd.R_slice HO54.out;subst eo139) | (go_at_call 13;(with_reducible refine (laws_equalGroup.calls kj5 _ _ t33 _ _ t52 t55 _ ?side1 ?side2 ?side3 ?side4 A125.out).mono ?_);(case side1=>exact cc_ (Kd.R_reads' HO35.out).2.2);(case side2=>exact (Kd.R_reads' HO35.out).2.1);(case side3=>exact cc_ (Kd.R_reads' HO54.out).2.2);(case side4=>exact (Kd.R_reads' HO54.out).2.1);rintro e w' ⟨rfl,⟨nd,rfl⟩⟩))
         go_ret
         exact ⟨by first | rfl | (simp [errW_none,errW_some] <;> rfl) | (simp [*,errW_none,errW_some] <;> rfl),hb_⟩
       ·replace c94:=Bool.eq_false_iff.mpr c94
        subst c94
        have H1 : (some false) = some r:=by rw [if_neg (show ¬ (false = true) by decide)] at H;exact H
        clear H
        have H:=H1
        clear H1
        obtain rfl:=Option.some.inj H
        try go_wp2
        have n0_:=a0_ (Kd.R_drew HO_4.out)
        have n1_:=a0_ (Kd.R_drew HO_6.out)
        have n2_:=a0_ (Kd.R_drew HO_7.out)
        have n3_:=a0_ (Kd.R_drew HO_8.out)
        have n4_:=a0_ (Kd.R_drew HO_9.out)
        have n5_:=a0_ (Kd.R_drew Z9.out)
        have n6_:=a0_ (blk_drew BK8.out)
        have n7_:=a0_ (below_drew1 HB.out)
        clear HO_4
        clear HO_6
        clear HO_7
        clear HO_8
        clear HO_9
        clear Z9
        clear BK8
        clear HB
        have HO_4:=n0_
        have HO_6:=n1_
        have HO_7:=n2_
        have HO_8:=n3_
        have HO_9:=n4_
        have Z9:=n5_
        have BK8:=n6_
        have HB:=n7_
        clear n0_ n1_ n2_ n3_ n4_ n5_ n6_ n7_
        refine start_ (n:=11) (S:=fun w'=>w'.cell? ⟨gb8,0,none⟩ = some (.slice Ao9 t1.length co9)) (ds:=[]) #[false,false,false,false,false,false,false,false,false,false,false] (by kernel_rfl) rfl rfl ((blk_cell BK8.out 0).trans rfl) (fun hHeld=>?_);refine with_tabW laws_FnFlattenGroupSplit.tab8 laws_FnFlattenGroupSplit.bits8 (fun HT_ HW_=>?_)
        generalize wc.drew = w140 at HO_4 HO_6 HO_7 HO_8 HO_9 Z9 BK8 HB hHeld ⊢
        refine pure_ (i:=2) (N:=some 68) (v:=?_) (a':=?_) #[false,false,true,false,false,false,false,false,false,false,false] rfl rfl (any_of HT_.out (by kernel_rfl)) (fun _ _ _ h=>h) (Or.inl ⟨by rfl,?_⟩) ?_ ?_
        rotate_left
        ·intro w'
         go_simp
         with_reducible rfl
        rotate_left
        ·simp only [Act.put,s1_,s2_,s3_,i64_w,i32_w]
         rfl
        refine pure_ (i:=4) (N:=some 70) (v:=?_) (a':=?_) #[false,false,true,false,true,false,false,false,false,false,false] rfl rfl (any_of HT_.out (by kernel_rfl)) (fun _ _ _ h=>h) (Or.inl ⟨by rfl,?_⟩) ?_ ?_
        rotate_left
        ·intro w'
         go_simp
         with_reducible rfl
        rotate_left
        ·simp only [Act.put,s1_,s2_,s3_,i64_w,i32_w]
         rfl
        refine take_ (i:=0) (N:=some 66) (v:=?_) (a':=?_) #[true,false,true,false,true,false,false,false,false,false,false] rfl rfl (take_ofW HT_.out HW_.out (by kernel_rfl)) (fun _ _ _ h=>h) (Or.inl ⟨by rfl,?_⟩) hHeld ?_ ?_
        rotate_left
        ·intro w' s0
         go_simp
         with_reducible rfl
        rotate_left
        ·simp only [Act.put,s1_,s2_,s3_,i64_w,i32_w]
         rfl
        refine take_ (i:=1) (N:=some 67) (v:=?_) (a':=?_) #[true,true,true,false,true,false,false,false,false,false,false] rfl rfl (take_ofW HT_.out HW_.out (by kernel_rfl)) (fun _ _ _ h=>h) (Or.inl ⟨by rfl,?_⟩) hHeld ?_ ?_
        rotate_left
        ·intro w' s0
         go_simp
         with_reducible rfl
        rotate_left
        ·simp only [Act.put,s1_,s2_,s3_,i64_w,i32_w]
         rfl
        refine one_ (i:=3) (N:=some 69) #[true,true,true,true,true,false,false,false,false,false,false] rfl rfl (one_of HT_.out (by kernel_rfl)) (by decide) (fun K hK=>?_)
        refine goes_ Try.func12 (by kernel_rfl) rfl #[.agg #[.slice Ao9 t1.length co9],.slice Ao11 t4.length co11] (by rfl) rfl rfl lm_ ?_
        with_reducible refine (impl_FlattenGroup.calls kj5 _ _ t1 _ _ t4 t27 _ ?side1 ?side2 ?side3 ?side4 A52.out).mono ?_
        (case side1=>exact cc_ (Kd.R_reads' Z9.out).2.2)
        (case side2=>exact (Kd.R_reads' Z9.out).2.1)
        (case side3=>exact cc_ (Kd.R_reads' HO_4.out).2.2)
        (case side4=>exact (Kd.R_reads' HO_4.out).2.1)
        rintro e w141 ⟨v28,rfl,ho0,hb⟩
        refine ⟨_,rfl,?_⟩
        have n0_:=a0_ (Kd.R_elder' (rr_ HO_4.out) (Kd.R_base ho0) hb)
        have n1_:=a0_ (Kd.R_elder' (rr_ HO_6.out) (Kd.R_base ho0) hb)
        have n2_:=a0_ (Kd.R_elder' (rr_ HO_7.out) (Kd.R_base ho0) hb)
        have n3_:=a0_ (Kd.R_elder' (rr_ HO_8.out) (Kd.R_base ho0) hb)
        have n4_:=a0_ (Kd.R_elder' (rr_ HO_9.out) (Kd.R_base ho0) hb)
        have n5_:=rb_ Z9 hb
        have n6_:=a0_ (Kd.R_lower (Kd.R_new' (Kd.R_new' (Kd.R_new' (Kd.R_new' (Kd.R_new' ho0 (Kd.R_lt (rr_ HO_4.out))) (Kd.R_lt (rr_ HO_6.out))) (Kd.R_lt (rr_ HO_7.out))) (Kd.R_lt (rr_ HO_8.out))) (Kd.R_lt (rr_ HO_9.out))) (below_size hb_))
        have n7_:=kb_ BK8 hb
        have n8_:=a0_ (below_step hb_ hb)
        clear HO_4
        clear HO_6
        clear HO_7
        clear HO_8
        clear HO_9
        clear Z9
        clear BK8
        clear HB
        have HO_4:=n0_
        have HO_6:=n1_
        have HO_7:=n2_
        have HO_8:=n3_
        have HO_9:=n4_
        have Z9:=n5_
        have HO29:=n6_
        have BK8:=n7_
        have HB:=n8_
        clear n0_ n1_ n2_ n3_ n4_ n5_ n6_ n7_ n8_
        (try clear hb)
        (try clear hb2)
        (try clear hk)
        (try clear hi)
        (try clear ho0)
        obtain ⟨Ao142,co142,eo142⟩:=Kd.R_slice HO29.out
        (first | subst eo142 | (injection eo142 with f1_ f2_ f3_;have f4_:=f1_.symm;have f5_:=f3_.symm;clear f1_ f2_ f3_;subst f4_;subst f5_))
        refine hK.out _ _ ((blk_cell BK8.out 0).trans rfl) (fun hHeld=>?_)
        clear hK K
        refine norm_ (a':=?_) ?_ ?_
        rotate_left
        ·show Act.put _ (some 69) _ = _
         simp only [Act.put,s1_,s2_,s3_,i64_w,i32_w]
         rfl
        refine one_ (i:=5) (N:=some 71) #[true,true,true,true,true,true,false,false,false,false,false] rfl rfl (one_of HT_.out (by kernel_rfl)) (by decide) (fun K hK=>?_)
        refine goes_ Try.func25 (by kernel_rfl) rfl #[.agg #[.slice Ao9 t1.length co9],.slice Ao142 t27.length co142,.int .i64 t7] (by rfl) rfl rfl lm_ ?_
        with_reducible refine (impl_SplitGroup.calls _ _ t1 _ _ t27 t7 t30 t33 _ ?side1 ?side2 ?side3 ?side4 A53.out).mono ?_
        (case side1=>exact cc_ (Kd.R_reads' Z9.out).2.2)
        (case side2=>exact (Kd.R_reads' Z9.out).2.1)
        (case side3=>exact cc_ (Kd.R_reads' HO29.out).2.2)
        (case side4=>exact (Kd.R_reads' HO29.out).2.1)
        rintro e w143 ⟨v31,v34,rfl,ho0,ho1,hb⟩
        refine ⟨_,rfl,?_⟩
        have n0_:=a0_ (Kd.R_mono (Kd.R_told (Kd.R_told (Kd.R_old (rr_ HO_4.out) hb) (Kd.R_base ho0)) (Kd.R_base ho1)) (fun _ h_=>h_.1))
        have n1_:=a0_ (Kd.R_mono (Kd.R_told (Kd.R_told (Kd.R_old (rr_ HO_6.out) hb) (Kd.R_base ho0)) (Kd.R_base ho1)) (fun _ h_=>h_.1))
        have n2_:=a0_ (Kd.R_mono (Kd.R_told (Kd.R_told (Kd.R_old (rr_ HO_7.out) hb) (Kd.R_base ho0)) (Kd.R_base ho1)) (fun _ h_=>h_.1))
        have n3_:=a0_ (Kd.R_mono (Kd.R_told (Kd.R_told (Kd.R_old (rr_ HO_8.out) hb) (Kd.R_base ho0)) (Kd.R_base ho1)) (fun _ h_=>h_.1))
        have n4_:=a0_ (Kd.R_mono (Kd.R_told (Kd.R_told (Kd.R_old (rr_ HO_9.out) hb) (Kd.R_base ho0)) (Kd.R_base ho1)) (fun _ h_=>h_.1))
        have n5_:=rb_ Z9 hb
        have n6_:=a0_ (Kd.R_mono (Kd.R_told (Kd.R_told (Kd.R_old (rr_ HO29.out) hb) (Kd.R_base ho0)) (Kd.R_base ho1)) (fun _ h_=>h_.1))
        have n7_:=a0_ (Kd.R_lower (Kd.R_new' (Kd.R_new' (Kd.R_new' (Kd.R_new' (Kd.R_new' (Kd.R_new' ho0 (Kd.R_lt (rr_ HO_4.out))) (Kd.R_lt (rr_ HO_6.out))) (Kd.R_lt (rr_ HO_7.out))) (Kd.R_lt (rr_ HO_8.out))) (Kd.R_lt (rr_ HO_9.out))) (Kd.R_lt (rr_ HO29.out))) (below_size hb_))
        have n8_:=a0_ (Kd.R_lower (Kd.R_new' (Kd.R_new' (Kd.R_new' (Kd.R_new' (Kd.R_new' (Kd.R_new' ho1 (Kd.R_lt (rr_ HO_4.out))) (Kd.R_lt (rr_ HO_6.out))) (Kd.R_lt (rr_ HO_7.out))) (Kd.R_lt (rr_ HO_8.out))) (Kd.R_lt (rr_ HO_9.out))) (Kd.R_lt (rr_ HO29.out))) (below_size hb_))
        have n9_:=kb_ BK8 hb
        have n10_:=a0_ (below_step hb_ hb)
        clear HO_4
        clear HO_6
        clear HO_7
        clear HO_8
        clear HO_9
        clear Z9
        clear HO29
        clear BK8
        clear HB
        have HO_4:=n0_
        have HO_6:=n1_
        have HO_7:=n2_
        have HO_8:=n3_
        have HO_9:=n4_
        have Z9:=n5_
        have HO29:=n6_
        have HO32:=n7_
        have HO35:=n8_
        have BK8:=n9_
        have HB:=n10_
        clear n0_ n1_ n2_ n3_ n4_ n5_ n6_ n7_ n8_ n9_ n10_
        (try clear hb)
        (try clear hb2)
        (try clear hk)
        (try clear hi)
        (try clear ho0)
        (try clear ho1)
        refine hK.out _ _ ((blk_cell BK8.out 0).trans rfl) (fun hHeld=>?_)
        clear hK K
        refine norm_ (a':=?_) ?_ ?_
        rotate_left
        ·show Act.put _ (some 71) _ = _
         simp only [Act.put,s1_,s2_,s3_,i64_w,i32_w]
         rfl
        refine pure_ (i:=6) (N:=some 65) (v:=?_) (a':=?_) #[true,true,true,true,true,true,true,false,false,false,false] rfl rfl (any_of HT_.out (by kernel_rfl)) (fun _ _ _ h=>h) (Or.inl ⟨by rfl,?_⟩) ?_ ?_
        rotate_left
        ·intro w'
         go_simp
         with_reducible rfl
        rotate_left
        ·simp only [Act.put,s1_,s2_,s3_,i64_w,i32_w]
         rfl
        refine pure_ (i:=7) (N:=some 72) (v:=?_) (a':=?_) #[true,true,true,true,true,true,true,true,false,false,false] rfl rfl (any_of HT_.out (by kernel_rfl)) (fun _ _ _ h=>h) (Or.inl ⟨by rfl,?_⟩) ?_ ?_
        rotate_left
        ·intro w'
         go_simp
         with_reducible rfl
        rotate_left
        ·simp only [Act.put,s1_,s2_,s3_,i64_w,i32_w]
         rfl
        refine pure_ (i:=8) (N:=some 73) (v:=?_) (a':=?_) #[true,true,true,true,true,true,true,true,true,false,false] rfl rfl (any_of HT_.out (by kernel_rfl)) (fun _ _ _ h=>h) (Or.inl ⟨by rfl,?_⟩) ?_ ?_
        rotate_left
        ·intro w'
         go_simp
         with_reducible rfl
        rotate_left
        ·simp only [Act.put,s1_,s2_,s3_,i64_w,i32_w]
         rfl
        refine pure_ (i:=9) (N:=some 10) (v:=?_) (a':=?_) #[true,true,true,true,true,true,true,true,true,true,false] rfl rfl (any_of HT_.out (by kernel_rfl)) (fun _ _ _ h=>h) (Or.inl ⟨by rfl,?_⟩) ?_ ?_
        rotate_left
        ·intro w'
         go_simp
         with_reducible rfl
        rotate_left
        ·simp only [Act.put,s1_,s2_,s3_,i64_w,i32_w]
         rfl
        refine pure_ (i:=10) (N:=some 11) (v:=?_) (a':=?_) #[true,true,true,true,true,true,true,true,true,true,true] rfl rfl (any_of HT_.out (by kernel_rfl)) (fun _ _ _ h=>h) (Or.inl ⟨by rfl,?_⟩) ?_ ?_
        rotate_left
        ·intro w'
         go_simp
         with_reducible rfl
        rotate_left
        ·simp only [Act.put,s1_,s2_,s3_,i64_w,i32_w]
         rfl
        refine done_ (done_of HT_.out (by kernel_rfl)) ?_
        obtain ⟨Ao144,co144,eo144⟩:=Kd.R_slice HO_6.out
        subst eo144
        obtain ⟨Ao145,co145,eo145⟩:=Kd.R_slice HO32.out
        subst eo145
        have hcz146_0 : w143.cell? ⟨gb8,0,none⟩ = some (.slice Ao9 t1.length co9):=(blk_cell BK8.out 0).trans rfl
        have hfz146_0:=blk_frozen BK8.out 0
        try go_wp2_with (first | (go_at_call 12;(with_reducible refine (impl_FlattenGroup.calls kj5 _ _ t1 _ _ t9 t44 _ ?side1 ?side2 ?side3 ?side4 A92.out).mono ?_);(case side1=>exact cc_ (Kd.R_reads' Z9.out).2.2);(case side2=>exact (Kd.R_reads' Z9.out).2.1);(case side3=>exact cc_ (Kd.R_reads' HO_6.out).2.2);(case side4=>exact (Kd.R_reads' HO_6.out).2.1);rintro e w147 ⟨v45,rfl,ho0,hb⟩;have n0_:=a0_ (Kd.R_elder' (rr_ HO_4.out) (Kd.R_base ho0) hb);have n1_:=a0_ (Kd.R_elder' (rr_ HO_6.out) (Kd.R_base ho0) hb);have n2_:=a0_ (Kd.R_elder' (rr_ HO_7.out) (Kd.R_base ho0) hb);have n3_:=a0_ (Kd.R_elder' (rr_ HO_8.out) (Kd.R_base ho0) hb);have n4_:=a0_ (Kd.R_elder' (rr_ HO_9.out) (Kd.R_base ho0) hb);have n5_:=rb_ Z9 hb;have n6_:=a0_ (Kd.R_elder' (rr_ HO29.out) (Kd.R_base ho0) hb);have n7_:=a0_ (Kd.R_elder' (rr_ HO32.out) (Kd.R_base ho0) hb);have n8_:=a0_ (Kd.R_elder' (rr_ HO35.out) (Kd.R_base ho0) hb);have n9_:=a0_ (Kd.R_lower (Kd.R_new' (Kd.R_new' (Kd.R_new' (Kd.R_new' (Kd.R_new' (Kd.R_new' (Kd.R_new' (Kd.R_new' ho0 (Kd.R_lt (rr_ HO_4.out))) (Kd.R_lt (rr_ HO_6.out))) (Kd.R_lt (rr_ HO_7.out))) (Kd.R_lt (rr_ HO_8.out))) (Kd.R_lt (rr_ HO_9.out))) (Kd.R_lt (rr_ HO29.out))) (Kd.R_lt (rr_ HO32.out))) (Kd.R_lt (rr_ HO35.out))) (below_size hb_));have n10_:=kb_ BK8 hb;have n11_:=a0_ (below_step hb_ hb);clear HO_4 HO_6;clear HO_7 HO_8;clear HO_9 Z9;clear HO29 HO32;clear HO35 BK8 HB;have HO_4:=n0_;have HO_6:=n1_;have HO_7:=n2_;have HO_8:=n3_;have HO_9:=n4_;have Z9:=n5_;have HO29:=n6_;have HO32:=n7_;have HO35:=n8_;have HO46:=n9_;have BK8:=n10_;have HB:=n11_;clear n0_ n1_ n2_ n3_ n4_ n5_ n6_ n7_ n8_ n9_ n10_ n11_;(try clear hb);(try clear ho0);obtain ⟨Ao148,co148,eo148⟩:=Kd.R_slice HO46.out;subst eo148) | (go_at_call 13;(with_reducible refine (laws_equalGroup.calls kj5 _ _ t30 _ _ t44 false _ ?side1 ?side2 ?side3 ?side4 A93.out).mono ?_);(case side1=>exact cc_ (Kd.R_reads' HO32.out).2.2);(case side2=>exact (Kd.R_reads' HO32.out).2.1);(case side3=>exact cc_ (Kd.R_reads' HO46.out).2.2);(case side4=>exact (Kd.R_reads' HO46.out).2.1);rintro e w' ⟨rfl,⟨nd,rfl⟩⟩))
        go_ret
        exact ⟨by first | rfl | (simp [errW_none,errW_some] <;> rfl) | (simp [*,errW_none,errW_some] <;> rfl),hb_⟩
     ·rw [if_neg c54] at H
      have c54b0 : ((t9.length : Int) == 0) = false:=beq_eq_false_iff_ne.mpr c54
      have c54b1 : ((t9.length : Int) != 0) = true:=bne_iff_ne.mpr c54
      have c54b2 : ¬ (t9 = []):=fun h_=>c54 (by rw [h_];rfl)
      replace H:=Option.bind_eq_some_iff.mp H
      obtain ⟨t56,A1490,H⟩:=H
      try dsimp only at H
      have A149:=a0_ A1490
      clear A1490
      replace H:=Option.bind_eq_some_iff.mp H
      obtain ⟨t59,A1500,H⟩:=H
      try dsimp only at H
      have A150:=a0_ A1500
      clear A1500
      by_cases c151 : t59 = true
      ·subst c151
       have H1 : (if (t12.length : Int) = 0 then (if (t33.length : Int) = 0 then (some true) else ((impl_FlattenGroup.f kj5 t1 t12).bind fun t60=>((laws_equalGroup.f kj5 t33 t60).bind fun t63=>(some t63)))) else ((impl_FlattenGroup.f kj5 t1 t12).bind fun t64=>((laws_equalGroup.f kj5 t33 t64).bind fun t67=>(some t67)))) = some r:=by rw [if_pos rfl] at H;exact H
       clear H
       have H:=H1
       clear H1
       by_cases c152 : (t12.length : Int) = 0
       ·rw [if_pos c152] at H
        have c152b0 : ((t12.length : Int) == 0) = true:=beq_iff_eq.mpr c152
        have c152b1 : ((t12.length : Int) != 0) = false:=bne_eq_false_iff_eq.mpr c152
        clear c152
        by_cases c153 : (t33.length : Int) = 0
        ·rw [if_pos c153] at H
         have c153b0 : ((t33.length : Int) == 0) = true:=beq_iff_eq.mpr c153
         have c153b1 : ((t33.length : Int) != 0) = false:=bne_eq_false_iff_eq.mpr c153
         clear c153
         obtain rfl:=Option.some.inj H
         try go_wp2
         have n0_:=a0_ (Kd.R_drew HO_4.out)
         have n1_:=a0_ (Kd.R_drew HO_6.out)
         have n2_:=a0_ (Kd.R_drew HO_7.out)
         have n3_:=a0_ (Kd.R_drew HO_8.out)
         have n4_:=a0_ (Kd.R_drew HO_9.out)
         have n5_:=a0_ (Kd.R_drew Z9.out)
         have n6_:=a0_ (blk_drew BK8.out)
         have n7_:=a0_ (below_drew1 HB.out)
         clear HO_4
         clear HO_6
         clear HO_7
         clear HO_8
         clear HO_9
         clear Z9
         clear BK8
         clear HB
         have HO_4:=n0_
         have HO_6:=n1_
         have HO_7:=n2_
         have HO_8:=n3_
         have HO_9:=n4_
         have Z9:=n5_
         have BK8:=n6_
         have HB:=n7_
         clear n0_ n1_ n2_ n3_ n4_ n5_ n6_ n7_
         refine start_ (n:=11) (S:=fun w'=>w'.cell? ⟨gb8,0,none⟩ = some (.slice Ao9 t1.length co9)) (ds:=[]) #[false,false,false,false,false,false,false,false,false,false,false] (by kernel_rfl) rfl rfl ((blk_cell BK8.out 0).trans rfl) (fun hHeld=>?_);refine with_tabW laws_FnFlattenGroupSplit.tab8 laws_FnFlattenGroupSplit.bits8 (fun HT_ HW_=>?_)
         generalize wc.drew = w154 at HO_4 HO_6 HO_7 HO_8 HO_9 Z9 BK8 HB hHeld ⊢
         refine pure_ (i:=2) (N:=some 68) (v:=?_) (a':=?_) #[false,false,true,false,false,false,false,false,false,false,false] rfl rfl (any_of HT_.out (by kernel_rfl)) (fun _ _ _ h=>h) (Or.inl ⟨by rfl,?_⟩) ?_ ?_
         rotate_left
         ·intro w'
          go_simp
          with_reducible rfl
         rotate_left
         ·simp only [Act.put,s1_,s2_,s3_,i64_w,i32_w]
          rfl
         refine pure_ (i:=4) (N:=some 70) (v:=?_) (a':=?_) #[false,false,true,false,true,false,false,false,false,false,false] rfl rfl (any_of HT_.out (by kernel_rfl)) (fun _ _ _ h=>h) (Or.inl ⟨by rfl,?_⟩) ?_ ?_
         rotate_left
         ·intro w'
          go_simp
          with_reducible rfl
         rotate_left
         ·simp only [Act.put,s1_,s2_,s3_,i64_w,i32_w]
          rfl
         refine take_ (i:=0) (N:=some 66) (v:=?_) (a':=?_) #[true,false,true,false,true,false,false,false,false,false,false] rfl rfl (take_ofW HT_.out HW_.out (by kernel_rfl)) (fun _ _ _ h=>h) (Or.inl ⟨by rfl,?_⟩) hHeld ?_ ?_
         rotate_left
         ·intro w' s0
          go_simp
          with_reducible rfl
         rotate_left
         ·simp only [Act.put,s1_,s2_,s3_,i64_w,i32_w]
          rfl
         refine take_ (i:=1) (N:=some 67) (v:=?_) (a':=?_) #[true,true,true,false,true,false,false,false,false,false,false] rfl rfl (take_ofW HT_.out HW_.out (by kernel_rfl)) (fun _ _ _ h=>h) (Or.inl ⟨by rfl,?_⟩) hHeld ?_ ?_
         rotate_left
         ·intro w' s0
          go_simp
          with_reducible rfl
         rotate_left
         ·simp only [Act.put,s1_,s2_,s3_,i64_w,i32_w]
          rfl
         refine one_ (i:=3) (N:=some 69) #[true,true,true,true,true,false,false,false,false,false,false] rfl rfl (one_of HT_.out (by kernel_rfl)) (by decide) (fun K hK=>?_)
         refine goes_ Try.func12 (by kernel_rfl) rfl #[.agg #[.slice Ao9 t1.length co9],.slice Ao11 t4.length co11] (by rfl) rfl rfl lm_ ?_
         with_reducible refine (impl_FlattenGroup.calls kj5 _ _ t1 _ _ t4 t27 _ ?side1 ?side2 ?side3 ?side4 A52.out).mono ?_
         (case side1=>exact cc_ (Kd.R_reads' Z9.out).2.2)
         (case side2=>exact (Kd.R_reads' Z9.out).2.1)
         (case side3=>exact cc_ (Kd.R_reads' HO_4.out).2.2)
         (case side4=>exact (Kd.R_reads' HO_4.out).2.1)
         rintro e w155 ⟨v28,rfl,ho0,hb⟩
         refine ⟨_,rfl,?_⟩
         have n0_:=a0_ (Kd.R_elder' (rr_ HO_4.out) (Kd.R_base ho0) hb)
         have n1_:=a0_ (Kd.R_elder' (rr_ HO_6.out) (Kd.R_base ho0) hb)
         have n2_:=a0_ (Kd.R_elder' (rr_ HO_7.out) (Kd.R_base ho0) hb)
         have n3_:=a0_ (Kd.R_elder' (rr_ HO_8.out) (Kd.R_base ho0) hb)
         have n4_:=a0_ (Kd.R_elder' (rr_ HO_9.out) (Kd.R_base ho0) hb)
         have n5_:=rb_ Z9 hb
         have n6_:=a0_ (Kd.R_lower (Kd.R_new' (Kd.R_new' (Kd.R_new' (Kd.R_new' (Kd.R_new' ho0 (Kd.R_lt (rr_ HO_4.out))) (Kd.R_lt (rr_ HO_6.out))) (Kd.R_lt (rr_ HO_7.out))) (Kd.R_lt (rr_ HO_8.out))) (Kd.R_lt (rr_ HO_9.out))) (below_size hb_))
         have n7_:=kb_ BK8 hb
         have n8_:=a0_ (below_step hb_ hb)
         clear HO_4
         clear HO_6
         clear HO_7
         clear HO_8
         clear HO_9
         clear Z9
         clear BK8
         clear HB
         have HO_4:=n0_
         have HO_6:=n1_
         have HO_7:=n2_
         have HO_8:=n3_
         have HO_9:=n4_
         have Z9:=n5_
         have HO29:=n6_
         have BK8:=n7_
         have HB:=n8_
         clear n0_ n1_ n2_ n3_ n4_ n5_ n6_ n7_ n8_
         (try clear hb)
         (try clear hb2)
         (try clear hk)
         (try clear hi)
         (try clear ho0)
         obtain ⟨Ao156,co156,eo156⟩:=Kd.R_slice HO29.out
         (first | subst eo156 | (injection eo156 with f1_ f2_ f3_;have f4_:=f1_.symm;have f5_:=f3_.symm;clear f1_ f2_ f3_;subst f4_;subst f5_))
         refine hK.out _ _ ((blk_cell BK8.out 0).trans rfl) (fun hHeld=>?_)
         clear hK K
         refine norm_ (a':=?_) ?_ ?_
         rotate_left
         ·show Act.put _ (some 69) _ = _
          simp only [Act.put,s1_,s2_,s3_,i64_w,i32_w]
          rfl
         refine one_ (i:=5) (N:=some 71) #[true,true,true,true,true,true,false,false,false,false,false] rfl rfl (one_of HT_.out (by kernel_rfl)) (by decide) (fun K hK=>?_)
         refine goes_ Try.func25 (by kernel_rfl) rfl #[.agg #[.slice Ao9 t1.length co9],.slice Ao156 t27.length co156,.int .i64 t7] (by rfl) rfl rfl lm_ ?_
         with_reducible refine (impl_SplitGroup.calls _ _ t1 _ _ t27 t7 t30 t33 _ ?side1 ?side2 ?side3 ?side4 A53.out).mono ?_
         (case side1=>exact cc_ (Kd.R_reads' Z9.out).2.2)
         (case side2=>exact (Kd.R_reads' Z9.out).2.1)
         (case side3=>exact cc_ (Kd.R_reads' HO29.out).2.2)
         (case side4=>exact (Kd.R_reads' HO29.out).2.1)
         rintro e w157 ⟨v31,v34,rfl,ho0,ho1,hb⟩
         refine ⟨_,rfl,?_⟩
         have n0_:=a0_ (Kd.R_mono (Kd.R_told (Kd.R_told (Kd.R_old (rr_ HO_4.out) hb) (Kd.R_base ho0)) (Kd.R_base ho1)) (fun _ h_=>h_.1))
         have n1_:=a0_ (Kd.R_mono (Kd.R_told (Kd.R_told (Kd.R_old (rr_ HO_6.out) hb) (Kd.R_base ho0)) (Kd.R_base ho1)) (fun _ h_=>h_.1))
         have n2_:=a0_ (Kd.R_mono (Kd.R_told (Kd.R_told (Kd.R_old (rr_ HO_7.out) hb) (Kd.R_base ho0)) (Kd.R_base ho1)) (fun _ h_=>h_.1))
         have n3_:=a0_ (Kd.R_mono (Kd.R_told (Kd.R_told (Kd.R_old (rr_ HO_8.out) hb) (Kd.R_base ho0)) (Kd.R_base ho1)) (fun _ h_=>h_.1))
         have n4_:=a0_ (Kd.R_mono (Kd.R_told (Kd.R_told (Kd.R_old (rr_ HO_9.out) hb) (Kd.R_base ho0)) (Kd.R_base ho1)) (fun _ h_=>h_.1))
         have n5_:=rb_ Z9 hb
         have n6_:=a0_ (Kd.R_mono (Kd.R_told (Kd.R_told (Kd.R_old (rr_ HO29.out) hb) (Kd.R_base ho0)) (Kd.R_base ho1)) (fun _ h_=>h_.1))
         have n7_:=a0_ (Kd.R_lower (Kd.R_new' (Kd.R_new' (Kd.R_new' (Kd.R_new' (Kd.R_new' (Kd.R_new' ho0 (Kd.R_lt (rr_ HO_4.out))) (Kd.R_lt (rr_ HO_6.out))) (Kd.R_lt (rr_ HO_7.out))) (Kd.R_lt (rr_ HO_8.out))) (Kd.R_lt (rr_ HO_9.out))) (Kd.R_lt (rr_ HO29.out))) (below_size hb_))
         have n8_:=a0_ (Kd.R_lower (Kd.R_new' (Kd.R_new' (Kd.R_new' (Kd.R_new' (Kd.R_new' (Kd.R_new' ho1 (Kd.R_lt (rr_ HO_4.out))) (Kd.R_lt (rr_ HO_6.out))) (Kd.R_lt (rr_ HO_7.out))) (Kd.R_lt (rr_ HO_8.out))) (Kd.R_lt (rr_ HO_9.out))) (Kd.R_lt (rr_ HO29.out))) (below_size hb_))
         have n9_:=kb_ BK8 hb
         have n10_:=a0_ (below_step hb_ hb)
         clear HO_4
         clear HO_6
         clear HO_7
         clear HO_8
         clear HO_9
         clear Z9
         clear HO29
         clear BK8
         clear HB
         have HO_4:=n0_
         have HO_6:=n1_
         have HO_7:=n2_
         have HO_8:=n3_
         have HO_9:=n4_
         have Z9:=n5_
         have HO29:=n6_
         have HO32:=n7_
         have HO35:=n8_
         have BK8:=n9_
         have HB:=n10_
         clear n0_ n1_ n2_ n3_ n4_ n5_ n6_ n7_ n8_ n9_ n10_
         (try clear hb)
         (try clear hb2)
         (try clear hk)
         (try clear hi)
         (try clear ho0)
         (try clear ho1)
         refine hK.out _ _ ((blk_cell BK8.out 0).trans rfl) (fun hHeld=>?_)
         clear hK K
         refine norm_ (a':=?_) ?_ ?_
         rotate_left
         ·show Act.put _ (some 71) _ = _
          simp only [Act.put,s1_,s2_,s3_,i64_w,i32_w]
          rfl
         refine pure_ (i:=6) (N:=some 65) (v:=?_) (a':=?_) #[true,true,true,true,true,true,true,false,false,false,false] rfl rfl (any_of HT_.out (by kernel_rfl)) (fun _ _ _ h=>h) (Or.inl ⟨by rfl,?_⟩) ?_ ?_
         rotate_left
         ·intro w'
          go_simp
          with_reducible rfl
         rotate_left
         ·simp only [Act.put,s1_,s2_,s3_,i64_w,i32_w]
          rfl
         refine pure_ (i:=7) (N:=some 72) (v:=?_) (a':=?_) #[true,true,true,true,true,true,true,true,false,false,false] rfl rfl (any_of HT_.out (by kernel_rfl)) (fun _ _ _ h=>h) (Or.inl ⟨by rfl,?_⟩) ?_ ?_
         rotate_left
         ·intro w'
          go_simp
          with_reducible rfl
         rotate_left
         ·simp only [Act.put,s1_,s2_,s3_,i64_w,i32_w]
          rfl
         refine pure_ (i:=8) (N:=some 73) (v:=?_) (a':=?_) #[true,true,true,true,true,true,true,true,true,false,false] rfl rfl (any_of HT_.out (by kernel_rfl)) (fun _ _ _ h=>h) (Or.inl ⟨by rfl,?_⟩) ?_ ?_
         rotate_left
         ·intro w'
          go_simp
          with_reducible rfl
         rotate_left
         ·simp only [Act.put,s1_,s2_,s3_,i64_w,i32_w]
          rfl
         refine pure_ (i:=9) (N:=some 10) (v:=?_) (a':=?_) #[true,true,true,true,true,true,true,true,true,true,false] rfl rfl (any_of HT_.out (by kernel_rfl)) (fun _ _ _ h=>h) (Or.inl ⟨by rfl,?_⟩) ?_ ?_
         rotate_left
         ·intro w'
          go_simp
          with_reducible rfl
         rotate_left
         ·simp only [Act.put,s1_,s2_,s3_,i64_w,i32_w]
          rfl
         refine pure_ (i:=10) (N:=some 11) (v:=?_) (a':=?_) #[true,true,true,true,true,true,true,true,true,true,true] rfl rfl (any_of HT_.out (by kernel_rfl)) (fun _ _ _ h=>h) (Or.inl ⟨by rfl,?_⟩) ?_ ?_
         rotate_left
         ·intro w'
          go_simp
          with_reducible rfl
         rotate_left
         ·simp only [Act.put,s1_,s2_,s3_,i64_w,i32_w]
          rfl
         refine done_ (done_of HT_.out (by kernel_rfl)) ?_
         obtain ⟨Ao158,co158,eo158⟩:=Kd.R_slice HO_6.out
         subst eo158
         have hcz159_0 : w157.cell? ⟨gb8,0,none⟩ = some (.slice Ao9 t1.length co9):=(blk_cell BK8.out 0).trans rfl
         have hfz159_0:=blk_frozen BK8.out 0
         try go_wp2_with (first | (go_at_call 12;(with_reducible refine (impl_FlattenGroup.calls kj5 _ _ t1 _ _ t9 t56 _ ?side1 ?side2 ?side3 ?side4 A149.out).mono ?_);(case side1=>exact cc_ (Kd.R_reads' Z9.out).2.2);(case side2=>exact (Kd.R_reads' Z9.out).2.1);(case side3=>exact cc_ (Kd.R_reads' HO_6.out).2.2);(case side4=>exact (Kd.R_reads' HO_6.out).2.1);rintro e w160 ⟨v57,rfl,ho0,hb⟩;have n0_:=a0_ (Kd.R_elder' (rr_ HO_4.out) (Kd.R_base ho0) hb);have n1_:=a0_ (Kd.R_elder' (rr_ HO_6.out) (Kd.R_base ho0) hb);have n2_:=a0_ (Kd.R_elder' (rr_ HO_7.out) (Kd.R_base ho0) hb);have n3_:=a0_ (Kd.R_elder' (rr_ HO_8.out) (Kd.R_base ho0) hb);have n4_:=a0_ (Kd.R_elder' (rr_ HO_9.out) (Kd.R_base ho0) hb);have n5_:=rb_ Z9 hb;have n6_:=a0_ (Kd.R_elder' (rr_ HO29.out) (Kd.R_base ho0) hb);have n7_:=a0_ (Kd.R_elder' (rr_ HO32.out) (Kd.R_base ho0) hb);have n8_:=a0_ (Kd.R_elder' (rr_ HO35.out) (Kd.R_base ho0) hb);have n9_:=a0_ (Kd.R_lower (Kd.R_new' (Kd.R_new' (Kd.R_new' (Kd.R_new' (Kd.R_new' (Kd.R_new' (Kd.R_new' (Kd.R_new' ho0 (Kd.R_lt (rr_ HO_4.out))) (Kd.R_lt (rr_ HO_6.out))) (Kd.R_lt (rr_ HO_7.out))) (Kd.R_lt (rr_ HO_8.out))) (Kd.R_lt (rr_ HO_9.out))) (Kd.R_lt (rr_ HO29.out))) (Kd.R_lt (rr_ HO32.out))) (Kd.R_lt (rr_ HO35.out))) (below_size hb_));have n10_:=kb_ BK8 hb;have n11_:=a0_ (below_step hb_ hb);clear HO_4 HO_6;clear HO_7 HO_8;clear HO_9 Z9;clear HO29 HO32;clear HO35 BK8 HB;have HO_4:=n0_;have HO_6:=n1_;have HO_7:=n2_;have HO_8:=n3_;have HO_9:=n4_;have Z9:=n5_;have HO29:=n6_;have HO32:=n7_;have HO35:=n8_;have HO58:=n9_;have BK8:=n10_;have HB:=n11_;clear n0_ n1_ n2_ n3_ n4_ n5_ n6_ n7_ n8_ n9_ n10_ n11_;(try clear hb);(try clear ho0);obtain ⟨Ao161,co161,eo161⟩:=Kd.R_slice HO32.out;subst eo161;obtain ⟨Ao162,co162,eo162⟩:=Kd.R_slice HO58.out;subst eo162) | (go_at_call 13;(with_reducible refine (laws_equalGroup.calls kj5 _ _ t30 _ _ t56 true _ ?side1 ?side2 ?side3 ?side4 A150.out).mono ?_);(case side1=>exact cc_ (Kd.R_reads' HO32.out).2.2);(case side2=>exact (Kd.R_reads' HO32.out).2.1);(case side3=>exact cc_ (Kd.R_reads' HO58.out).2.2);(case side4=>exact (Kd.R_reads' HO58.out).2.1);rintro e w' ⟨rfl,⟨nd,rfl⟩⟩;obtain ⟨Ao163,co163,eo163⟩:=Kd.R_slice HO_7.out;subst eo163;obtain ⟨Ao164,co164,eo164⟩:=Kd.R_slice HO35.out;subst eo164))
         go_ret
         exact ⟨by first | rfl | (simp [errW_none,errW_some] <;> rfl) | (simp [*,errW_none,errW_some] <;> rfl),hb_⟩
        ·rw [if_neg c153] at H
         have c153b0 : ((t33.length : Int) == 0) = false:=beq_eq_false_iff_ne.mpr c153
         have c153b1 : ((t33.length : Int) != 0) = true:=bne_iff_ne.mpr c153
         have c153b2 : ¬ (t33 = []):=fun h_=>c153 (by rw [h_];rfl)
         replace H:=Option.bind_eq_some_iff.mp H
         obtain ⟨t60,A1650,H⟩:=H
         try dsimp only at H
         have A165:=a0_ A1650
         clear A1650
         replace H:=Option.bind_eq_some_iff.mp H
         obtain ⟨t63,A1660,H⟩:=H
         replace H : (some t63) = some r:=H
         have A166:=a0_ A1660
         clear A1660
         obtain rfl:=Option.some.inj H
         try go_wp2
         have n0_:=a0_ (Kd.R_drew HO_4.out)
         have n1_:=a0_ (Kd.R_drew HO_6.out)
         have n2_:=a0_ (Kd.R_drew HO_7.out)
         have n3_:=a0_ (Kd.R_drew HO_8.out)
         have n4_:=a0_ (Kd.R_drew HO_9.out)
         have n5_:=a0_ (Kd.R_drew Z9.out)
         have n6_:=a0_ (blk_drew BK8.out)
         have n7_:=a0_ (below_drew1 HB.out)
         clear HO_4
         clear HO_6
         clear HO_7
         clear HO_8
         clear HO_9
         clear Z9
         clear BK8
         clear HB
         have HO_4:=n0_
         have HO_6:=n1_
         have HO_7:=n2_
         have HO_8:=n3_
         have HO_9:=n4_
         have Z9:=n5_
         have BK8:=n6_
         have HB:=n7_
         clear n0_ n1_ n2_ n3_ n4_ n5_ n6_ n7_
         refine start_ (n:=11) (S:=fun w'=>w'.cell? ⟨gb8,0,none⟩ = some (.slice Ao9 t1.length co9)) (ds:=[]) #[false,false,false,false,false,false,false,false,false,false,false] (by kernel_rfl) rfl rfl ((blk_cell BK8.out 0).trans rfl) (fun hHeld=>?_);refine with_tabW laws_FnFlattenGroupSplit.tab8 laws_FnFlattenGroupSplit.bits8 (fun HT_ HW_=>?_)
         generalize wc.drew = w167 at HO_4 HO_6 HO_7 HO_8 HO_9 Z9 BK8 HB hHeld ⊢
         refine pure_ (i:=2) (N:=some 68) (v:=?_) (a':=?_) #[false,false,true,false,false,false,false,false,false,false,false] rfl rfl (any_of HT_.out (by kernel_rfl)) (fun _ _ _ h=>h) (Or.inl ⟨by rfl,?_⟩) ?_ ?_
         rotate_left
         ·intro w'
          go_simp
          with_reducible rfl
         rotate_left
         ·simp only [Act.put,s1_,s2_,s3_,i64_w,i32_w]
          rfl
         refine pure_ (i:=4) (N:=some 70) (v:=?_) (a':=?_) #[false,false,true,false,true,false,false,false,false,false,false] rfl rfl (any_of HT_.out (by kernel_rfl)) (fun _ _ _ h=>h) (Or.inl ⟨by rfl,?_⟩) ?_ ?_
         rotate_left
         ·intro w'
          go_simp
          with_reducible rfl
         rotate_left
         ·simp only [Act.put,s1_,s2_,s3_,i64_w,i32_w]
          rfl
         refine take_ (i:=0) (N:=some 66) (v:=?_) (a':=?_) #[true,false,true,false,true,false,false,false,false,false,false] rfl rfl (take_ofW HT_.out HW_.out (by kernel_rfl)) (fun _ _ _ h=>h) (Or.inl ⟨by rfl,?_⟩) hHeld ?_ ?_
         rotate_left
         ·intro w' s0
          go_simp
          with_reducible rfl
         rotate_left
         ·simp only [Act.put,s1_,s2_,s3_,i64_w,i32_w]
          rfl
         refine take_ (i:=1) (N:=some 67) (v:=?_) (a':=?_) #[true,true,true,false,true,false,false,false,false,false,false] rfl rfl (take_ofW HT_.out HW_.out (by kernel_rfl)) (fun _ _ _ h=>h) (Or.inl ⟨by rfl,?_⟩) hHeld ?_ ?_
         rotate_left
         ·intro w' s0
          go_simp
          with_reducible rfl
         rotate_left
         ·simp only [Act.put,s1_,s2_,s3_,i64_w,i32_w]
          rfl
         refine one_ (i:=3) (N:=some 69) #[true,true,true,true,true,false,false,false,false,false,false] rfl rfl (one_of HT_.out (by kernel_rfl)) (by decide) (fun K hK=>?_)
         refine goes_ Try.func12 (by kernel_rfl) rfl #[.agg #[.slice Ao9 t1.length co9],.slice Ao11 t4.length co11] (by rfl) rfl rfl lm_ ?_
         with_reducible refine (impl_FlattenGroup.calls kj5 _ _ t1 _ _ t4 t27 _ ?side1 ?side2 ?side3 ?side4 A52.out).mono ?_
         (case side1=>exact cc_ (Kd.R_reads' Z9.out).2.2)
         (case side2=>exact (Kd.R_reads' Z9.out).2.1)
         (case side3=>exact cc_ (Kd.R_reads' HO_4.out).2.2)
         (case side4=>exact (Kd.R_reads' HO_4.out).2.1)
         rintro e w168 ⟨v28,rfl,ho0,hb⟩
         refine ⟨_,rfl,?_⟩
         have n0_:=a0_ (Kd.R_elder' (rr_ HO_4.out) (Kd.R_base ho0) hb)
         have n1_:=a0_ (Kd.R_elder' (rr_ HO_6.out) (Kd.R_base ho0) hb)
         have n2_:=a0_ (Kd.R_elder' (rr_ HO_7.out) (Kd.R_base ho0) hb)
         have n3_:=a0_ (Kd.R_elder' (rr_ HO_8.out) (Kd.R_base ho0) hb)
         have n4_:=a0_ (Kd.R_elder' (rr_ HO_9.out) (Kd.R_base ho0) hb)
         have n5_:=rb_ Z9 hb
         have n6_:=a0_ (Kd.R_lower (Kd.R_new' (Kd.R_new' (Kd.R_new' (Kd.R_new' (Kd.R_new' ho0 (Kd.R_lt (rr_ HO_4.out))) (Kd.R_lt (rr_ HO_6.out))) (Kd.R_lt (rr_ HO_7.out))) (Kd.R_lt (rr_ HO_8.out))) (Kd.R_lt (rr_ HO_9.out))) (below_size hb_))
         have n7_:=kb_ BK8 hb
         have n8_:=a0_ (below_step hb_ hb)
         clear HO_4
         clear HO_6
         clear HO_7
         clear HO_8
         clear HO_9
         clear Z9
         clear BK8
         clear HB
         have HO_4:=n0_
         have HO_6:=n1_
         have HO_7:=n2_
         have HO_8:=n3_
         have HO_9:=n4_
         have Z9:=n5_
         have HO29:=n6_
         have BK8:=n7_
         have HB:=n8_
         clear n0_ n1_ n2_ n3_ n4_ n5_ n6_ n7_ n8_
         (try clear hb)
         (try clear hb2)
         (try clear hk)
         (try clear hi)
         (try clear ho0)
         obtain ⟨Ao169,co169,eo169⟩:=Kd.R_slice HO29.out
         (first | subst eo169 | (injection eo169 with f1_ f2_ f3_;have f4_:=f1_.symm;have f5_:=f3_.symm;clear f1_ f2_ f3_;subst f4_;subst f5_))
         refine hK.out _ _ ((blk_cell BK8.out 0).trans rfl) (fun hHeld=>?_)
         clear hK K
         refine norm_ (a':=?_) ?_ ?_
         rotate_left
         ·show Act.put _ (some 69) _ = _
          simp only [Act.put,s1_,s2_,s3_,i64_w,i32_w]
          rfl
         refine one_ (i:=5) (N:=some 71) #[true,true,true,true,true,true,false,false,false,false,false] rfl rfl (one_of HT_.out (by kernel_rfl)) (by decide) (fun K hK=>?_)
         refine goes_ Try.func25 (by kernel_rfl) rfl #[.agg #[.slice Ao9 t1.length co9],.slice Ao169 t27.length co169,.int .i64 t7] (by rfl) rfl rfl lm_ ?_
         with_reducible refine (impl_SplitGroup.calls _ _ t1 _ _ t27 t7 t30 t33 _ ?side1 ?side2 ?side3 ?side4 A53.out).mono ?_
         (case side1=>exact cc_ (Kd.R_reads' Z9.out).2.2)
         (case side2=>exact (Kd.R_reads' Z9.out).2.1)
         (case side3=>exact cc_ (Kd.R_reads' HO29.out).2.2)
         (case side4=>exact (Kd.R_reads' HO29.out).2.1)
         rintro e w170 ⟨v31,v34,rfl,ho0,ho1,hb⟩
         refine ⟨_,rfl,?_⟩
         have n0_:=a0_ (Kd.R_mono (Kd.R_told (Kd.R_told (Kd.R_old (rr_ HO_4.out) hb) (Kd.R_base ho0)) (Kd.R_base ho1)) (fun _ h_=>h_.1))
         have n1_:=a0_ (Kd.R_mono (Kd.R_told (Kd.R_told (Kd.R_old (rr_ HO_6.out) hb) (Kd.R_base ho0)) (Kd.R_base ho1)) (fun _ h_=>h_.1))
         have n2_:=a0_ (Kd.R_mono (Kd.R_told (Kd.R_told (Kd.R_old (rr_ HO_7.out) hb) (Kd.R_base ho0)) (Kd.R_base ho1)) (fun _ h_=>h_.1))
         have n3_:=a0_ (Kd.R_mono (Kd.R_told (Kd.R_told (Kd.R_old (rr_ HO_8.out) hb) (Kd.R_base ho0)) (Kd.R_base ho1)) (fun _ h_=>h_.1))
         have n4_:=a0_ (Kd.R_mono (Kd.R_told (Kd.R_told (Kd.R_old (rr_ HO_9.out) hb) (Kd.R_base ho0)) (Kd.R_base ho1)) (fun _ h_=>h_.1))
         have n5_:=rb_ Z9 hb
         have n6_:=a0_ (Kd.R_mono (Kd.R_told (Kd.R_told (Kd.R_old (rr_ HO29.out) hb) (Kd.R_base ho0)) (Kd.R_base ho1)) (fun _ h_=>h_.1))
         have n7_:=a0_ (Kd.R_lower (Kd.R_new' (Kd.R_new' (Kd.R_new' (Kd.R_new' (Kd.R_new' (Kd.R_new' ho0 (Kd.R_lt (rr_ HO_4.out))) (Kd.R_lt (rr_ HO_6.out))) (Kd.R_lt (rr_ HO_7.out))) (Kd.R_lt (rr_ HO_8.out))) (Kd.R_lt (rr_ HO_9.out))) (Kd.R_lt (rr_ HO29.out))) (below_size hb_))
         have n8_:=a0_ (Kd.R_lower (Kd.R_new' (Kd.R_new' (Kd.R_new' (Kd.R_new' (Kd.R_new' (Kd.R_new' ho1 (Kd.R_lt (rr_ HO_4.out))) (Kd.R_lt (rr_ HO_6.out))) (Kd.R_lt (rr_ HO_7.out))) (Kd.R_lt (rr_ HO_8.out))) (Kd.R_lt (rr_ HO_9.out))) (Kd.R_lt (rr_ HO29.out))) (below_size hb_))
         have n9_:=kb_ BK8 hb
         have n10_:=a0_ (below_step hb_ hb)
         clear HO_4
         clear HO_6
         clear HO_7
         clear HO_8
         clear HO_9
         clear Z9
         clear HO29
         clear BK8
         clear HB
         have HO_4:=n0_
         have HO_6:=n1_
         have HO_7:=n2_
         have HO_8:=n3_
         have HO_9:=n4_
         have Z9:=n5_
         have HO29:=n6_
         have HO32:=n7_
         have HO35:=n8_
         have BK8:=n9_
         have HB:=n10_
         clear n0_ n1_ n2_ n3_ n4_ n5_ n6_ n7_ n8_ n9_ n10_
         (try clear hb)
         (try clear hb2)
         (try clear hk)
         (try clear hi)
         (try clear ho0)
         (try clear ho1)
         refine hK.out _ _ ((blk_cell BK8.out 0).trans rfl) (fun hHeld=>?_)
         clear hK K
         refine norm_ (a':=?_) ?_ ?_
         rotate_left
         ·show Act.put _ (some 71) _ = _
          simp only [Act.put,s1_,s2_,s3_,i64_w,i32_w]
          rfl
         refine pure_ (i:=6) (N:=some 65) (v:=?_) (a':=?_) #[true,true,true,true,true,true,true,false,false,false,false] rfl rfl (any_of HT_.out (by kernel_rfl)) (fun _ _ _ h=>h) (Or.inl ⟨by rfl,?_⟩) ?_ ?_
         rotate_left
         ·intro w'
          go_simp
          with_reducible rfl
         rotate_left
         ·simp only [Act.put,s1_,s2_,s3_,i64_w,i32_w]
          rfl
         refine pure_ (i:=7) (N:=some 72) (v:=?_) (a':=?_) #[true,true,true,true,true,true,true,true,false,false,false] rfl rfl (any_of HT_.out (by kernel_rfl)) (fun _ _ _ h=>h) (Or.inl ⟨by rfl,?_⟩) ?_ ?_
         rotate_left
         ·intro w'
          go_simp
          with_reducible rfl
         rotate_left
         ·simp only [Act.put,s1_,s2_,s3_,i64_w,i32_w]
          rfl
         refine pure_ (i:=8) (N:=some 73) (v:=?_) (a':=?_) #[true,true,true,true,true,true,true,true,true,false,false] rfl rfl (any_of HT_.out (by kernel_rfl)) (fun _ _ _ h=>h) (Or.inl ⟨by rfl,?_⟩) ?_ ?_
         rotate_left
         ·intro w'
          go_simp
          with_reducible rfl
         rotate_left
         ·simp only [Act.put,s1_,s2_,s3_,i64_w,i32_w]
          rfl
         refine pure_ (i:=9) (N:=some 10) (v:=?_) (a':=?_) #[true,true,true,true,true,true,true,true,true,true,false] rfl rfl (any_of HT_.out (by kernel_rfl)) (fun _ _ _ h=>h) (Or.inl ⟨by rfl,?_⟩) ?_ ?_
         rotate_left
         ·intro w'
          go_simp
          with_reducible rfl
         rotate_left
         ·simp only [Act.put,s1_,s2_,s3_,i64_w,i32_w]
          rfl
         refine pure_ (i:=10) (N:=some 11) (v:=?_) (a':=?_) #[true,true,true,true,true,true,true,true,true,true,true] rfl rfl (any_of HT_.out (by kernel_rfl)) (fun _ _ _ h=>h) (Or.inl ⟨by rfl,?_⟩) ?_ ?_
         rotate_left
         ·intro w'
          go_simp
          with_reducible rfl
         rotate_left
         ·simp only [Act.put,s1_,s2_,s3_,i64_w,i32_w]
          rfl
         refine done_ (done_of HT_.out (by kernel_rfl)) ?_
         obtain ⟨Ao171,co171,eo171⟩:=Kd.R_slice HO_6.out
         subst eo171
         have hcz172_0 : w170.cell? ⟨gb8,0,none⟩ = some (.slice Ao9 t1.length co9):=(blk_cell BK8.out 0).trans rfl
         have hfz172_0:=blk_frozen BK8.out 0
         try go_wp2_with (first | (go_at_call 12;(with_reducible refine (impl_FlattenGroup.calls kj5 _ _ t1 _ _ t9 t56 _ ?side1 ?side2 ?side3 ?side4 A149.out).mono ?_);(case side1=>exact cc_ (Kd.R_reads' Z9.out).2.2);(case side2=>exact (Kd.R_reads' Z9.out).2.1);(case side3=>exact cc_ (Kd.R_reads' HO_6.out).2.2);(case side4=>exact (Kd.R_reads' HO_6.out).2.1);rintro e w173 ⟨v57,rfl,ho0,hb⟩;have n0_:=a0_ (Kd.R_elder' (rr_ HO_4.out) (Kd.R_base ho0) hb);have n1_:=a0_ (Kd.R_elder' (rr_ HO_6.out) (Kd.R_base ho0) hb);have n2_:=a0_ (Kd.R_elder' (rr_ HO_7.out) (Kd.R_base ho0) hb);have n3_:=a0_ (Kd.R_elder' (rr_ HO_8.out) (Kd.R_base ho0) hb);have n4_:=a0_ (Kd.R_elder' (rr_ HO_9.out) (Kd.R_base ho0) hb);have n5_:=rb_ Z9 hb;have n6_:=a0_ (Kd.R_elder' (rr_ HO29.out) (Kd.R_base ho0) hb);have n7_:=a0_ (Kd.R_elder' (rr_ HO32.out) (Kd.R_base ho0) hb);have n8_:=a0_ (Kd.R_elder' (rr_ HO35.out) (Kd.R_base ho0) hb);have n9_:=a0_ (Kd.R_lower (Kd.R_new' (Kd.R_new' (Kd.R_new' (Kd.R_new' (Kd.R_new' (Kd.R_new' (Kd.R_new' (Kd.R_new' ho0 (Kd.R_lt (rr_ HO_4.out))) (Kd.R_lt (rr_ HO_6.out))) (Kd.R_lt (rr_ HO_7.out))) (Kd.R_lt (rr_ HO_8.out))) (Kd.R_lt (rr_ HO_9.out))) (Kd.R_lt (rr_ HO29.out))) (Kd.R_lt (rr_ HO32.out))) (Kd.R_lt (rr_ HO35.out))) (below_size hb_));have n10_:=kb_ BK8 hb;have n11_:=a0_ (below_step hb_ hb);clear HO_4 HO_6;clear HO_7 HO_8;clear HO_9 Z9;clear HO29 HO32;clear HO35 BK8 HB;have HO_4:=n0_;have HO_6:=n1_;have HO_7:=n2_;have HO_8:=n3_;have HO_9:=n4_;have Z9:=n5_;have HO29:=n6_;have HO32:=n7_;have HO35:=n8_;have HO58:=n9_;have BK8:=n10_;have HB:=n11_;clear n0_ n1_ n2_ n3_ n4_ n5_ n6_ n7_ n8_ n9_ n10_ n11_;(try clear hb);(try clear ho0);obtain ⟨Ao174,co174,eo174⟩:=Kd.R_slice HO32.out;subst eo174;obtain ⟨Ao175,co175,eo175⟩:=Kd.R_slice HO58.out;subst eo175) | (go_at_call 13;(with_reducible refine (laws_equalGroup.calls kj5 _ _ t30 _ _ t56 true _ ?side1 ?side2 ?side3 ?side4 A150.out).mono ?_);(case side1=>exact cc_ (Kd.R_reads' HO32.out).2.2);(case side2=>exact (Kd.R_reads' HO32.out).2.1);(case side3=>exact cc_ (Kd.R_reads' HO58.out).2.2);(case side4=>exact (Kd.R_reads' HO58.out).2.1);rintro e w' ⟨rfl,⟨nd,rfl⟩⟩;obtain ⟨Ao176,co176,eo176⟩:=Kd.R_slice HO_7.out;subst eo176;obtain ⟨Ao177,co177,eo177⟩:=Kd.R_slice HO35.out;subst eo177;have hcz178_0 : w173.cell? ⟨gb8,0,none⟩ = some (.slice Ao9 t1.length co9):=(blk_cell BK8.out 0).trans rfl;have hfz178_0:=blk_frozen BK8.out 0) | (go_at_call 12;(with_reducible refine (impl_FlattenGroup.calls kj5 _ _ t1 _ _ t12 t60 _ ?side1 ?side2 ?side3 ?side4 A165.out).mono ?_);(case side1=>exact cc_ (Kd.R_reads' Z9.out).2.2);(case side2=>exact (Kd.R_reads' Z9.out).2.1);(case side3=>exact cc_ (Kd.R_reads' HO_7.out).2.2);(case side4=>exact (Kd.R_reads' HO_7.out).2.1);rintro e w179 ⟨v61,rfl,ho0,hb⟩;have n0_:=a0_ (Kd.R_elder' (rr_ HO_4.out) (Kd.R_base ho0) hb);have n1_:=a0_ (Kd.R_elder' (rr_ HO_6.out) (Kd.R_base ho0) hb);have n2_:=a0_ (Kd.R_elder' (rr_ HO_7.out) (Kd.R_base ho0) hb);have n3_:=a0_ (Kd.R_elder' (rr_ HO_8.out) (Kd.R_base ho0) hb);have n4_:=a0_ (Kd.R_elder' (rr_ HO_9.out) (Kd.R_base ho0) hb);have n5_:=rb_ Z9 hb;have n6_:=a0_ (Kd.R_elder' (rr_ HO29.out) (Kd.R_base ho0) hb);have n7_:=a0_ (Kd.R_elder' (rr_ HO32.out) (Kd.R_base ho0) hb);have n8_:=a0_ (Kd.R_elder' (rr_ HO35.out) (Kd.R_base ho0) hb);have n9_:=a0_ (Kd.R_elder' (rr_ HO58.out) (Kd.R_base ho0) hb);have n10_:=a0_ (Kd.R_lower (Kd.R_new' (Kd.R_new' (Kd.R_new' (Kd.R_new' (Kd.R_new' (Kd.R_new' (Kd.R_new' (Kd.R_new' (Kd.R_new' ho0 (Kd.R_lt (rr_ HO_4.out))) (Kd.R_lt (rr_ HO_6.out))) (Kd.R_lt (rr_ HO_7.out))) (Kd.R_lt (rr_ HO_8.out))) (Kd.R_lt (rr_ HO_9.out))) (Kd.R_lt (rr_ HO29.out))) (Kd.R_lt (rr_ HO32.out))) (Kd.R_lt (rr_ HO35.out))) (Kd.R_lt (rr_ HO58.out))) (below_size hb_));have n11_:=kb_ BK8 hb;have n12_:=a0_ (below_step hb_ hb);clear HO_4 HO_6;clear HO_7 HO_8;clear HO_9 Z9;clear HO29 HO32;clear HO35 HO58;clear BK8 HB;have HO_4:=n0_;have HO_6:=n1_;have HO_7:=n2_;have HO_8:=n3_;have HO_9:=n4_;have Z9:=n5_;have HO29:=n6_;have HO32:=n7_;have HO35:=n8_;have HO58:=n9_;have HO62:=n10_;have BK8:=n11_;have HB:=n12_;clear n0_ n1_ n2_ n3_ n4_ n5_ n6_ n7_ n8_ n9_ n10_ n11_ n12_;(try clear hb);(try clear ho0);obtain ⟨Ao180,co180,eo180⟩:=Kd.R_slice HO62.out;subst eo180) | (go_at_call 13;(with_reducible refine (laws_equalGroup.calls kj5 _ _ t33 _ _ t60 t63 _ ?side1 ?side2 ?side3 ?side4 A166.out).mono ?_);(case side1=>exact cc_ (Kd.R_reads' HO35.out).2.2);(case side2=>exact (Kd.R_reads' HO35.out).2.1);(case side3=>exact cc_ (Kd.R_reads' HO62.out).2.2);(case side4=>exact (Kd.R_reads' HO62.out).2.1);rintro e w' ⟨rfl,⟨nd,rfl⟩⟩))
         go_ret
         exact ⟨by first | rfl | (simp [errW_none,errW_some] <;> rfl) | (simp [*,errW_none,errW_some] <;> rfl),hb_⟩
       ·rw [if_neg c152] at H
        have c152b0 : ((t12.length : Int) == 0) = false:=beq_eq_false_iff_ne.mpr c152
        have c152b1 : ((t12.length : Int) != 0) = true:=bne_iff_ne.mpr c152
        have c152b2 : ¬ (t12 = []):=fun h_=>c152 (by rw [h_];rfl)
        replace H:=Option.bind_eq_some_iff.mp H
        obtain ⟨t64,A1810,H⟩:=H
        try dsimp only at H
        have A181:=a0_ A1810
        clear A1810
        replace H:=Option.bind_eq_some_iff.mp H
        obtain ⟨t67,A1820,H⟩:=H
        replace H : (some t67) = some r:=H
        have A182:=a0_ A1820
        clear A1820
        obtain rfl:=Option.some.inj H
        try go_wp2
        have n0_:=a0_ (Kd.R_drew HO_4.out)
        have n1_:=a0_ (Kd.R_drew HO_6.out)
        have n2_:=a0_ (Kd.R_drew HO_7.out)
        have n3_:=a0_ (Kd.R_drew HO_8.out)
        have n4_:=a0_ (Kd.R_drew HO_9.out)
        have n5_:=a0_ (Kd.R_drew Z9.out)
        have n6_:=a0_ (blk_drew BK8.out)
        have n7_:=a0_ (below_drew1 HB.out)
        clear HO_4
        clear HO_6
        clear HO_7
        clear HO_8
        clear HO_9
        clear Z9
        clear BK8
        clear HB
        have HO_4:=n0_
        have HO_6:=n1_
        have HO_7:=n2_
        have HO_8:=n3_
        have HO_9:=n4_
        have Z9:=n5_
        have BK8:=n6_
        have HB:=n7_
        clear n0_ n1_ n2_ n3_ n4_ n5_ n6_ n7_
        refine start_ (n:=11) (S:=fun w'=>w'.cell? ⟨gb8,0,none⟩ = some (.slice Ao9 t1.length co9)) (ds:=[]) #[false,false,false,false,false,false,false,false,false,false,false] (by kernel_rfl) rfl rfl ((blk_cell BK8.out 0).trans rfl) (fun hHeld=>?_);refine with_tabW laws_FnFlattenGroupSplit.tab8 laws_FnFlattenGroupSplit.bits8 (fun HT_ HW_=>?_)
        generalize wc.drew = w183 at HO_4 HO_6 HO_7 HO_8 HO_9 Z9 BK8 HB hHeld ⊢
        refine pure_ (i:=2) (N:=some 68) (v:=?_) (a':=?_) #[false,false,true,false,false,false,false,false,false,false,false] rfl rfl (any_of HT_.out (by kernel_rfl)) (fun _ _ _ h=>h) (Or.inl ⟨by rfl,?_⟩) ?_ ?_
        rotate_left
        ·intro w'
         go_simp
         with_reducible rfl
        rotate_left
        ·simp only [Act.put,s1_,s2_,s3_,i64_w,i32_w]
         rfl
        refine pure_ (i:=4) (N:=some 70) (v:=?_) (a':=?_) #[false,false,true,false,true,false,false,false,false,false,false] rfl rfl (any_of HT_.out (by kernel_rfl)) (fun _ _ _ h=>h) (Or.inl ⟨by rfl,?_⟩) ?_ ?_
        rotate_left
        ·intro w'
         go_simp
         with_reducible rfl
        rotate_left
        ·simp only [Act.put,s1_,s2_,s3_,i64_w,i32_w]
         rfl
        refine take_ (i:=0) (N:=some 66) (v:=?_) (a':=?_) #[true,false,true,false,true,false,false,false,false,false,false] rfl rfl (take_ofW HT_.out HW_.out (by kernel_rfl)) (fun _ _ _ h=>h) (Or.inl ⟨by rfl,?_⟩) hHeld ?_ ?_
        rotate_left
        ·intro w' s0
         go_simp
         with_reducible rfl
        rotate_left
        ·simp only [Act.put,s1_,s2_,s3_,i64_w,i32_w]
         rfl
        refine take_ (i:=1) (N:=some 67) (v:=?_) (a':=?_) #[true,true,true,false,true,false,false,false,false,false,false] rfl rfl (take_ofW HT_.out HW_.out (by kernel_rfl)) (fun _ _ _ h=>h) (Or.inl ⟨by rfl,?_⟩) hHeld ?_ ?_
        rotate_left
        ·intro w' s0
         go_simp
         with_reducible rfl
        rotate_left
        ·simp only [Act.put,s1_,s2_,s3_,i64_w,i32_w]
         rfl
        refine one_ (i:=3) (N:=some 69) #[true,true,true,true,true,false,false,false,false,false,false] rfl rfl (one_of HT_.out (by kernel_rfl)) (by decide) (fun K hK=>?_)
        refine goes_ Try.func12 (by kernel_rfl) rfl #[.agg #[.slice Ao9 t1.length co9],.slice Ao11 t4.length co11] (by rfl) rfl rfl lm_ ?_
        with_reducible refine (impl_FlattenGroup.calls kj5 _ _ t1 _ _ t4 t27 _ ?side1 ?side2 ?side3 ?side4 A52.out).mono ?_
        (case side1=>exact cc_ (Kd.R_reads' Z9.out).2.2)
        (case side2=>exact (Kd.R_reads' Z9.out).2.1)
        (case side3=>exact cc_ (Kd.R_reads' HO_4.out).2.2)
        (case side4=>exact (Kd.R_reads' HO_4.out).2.1)
        rintro e w184 ⟨v28,rfl,ho0,hb⟩
        refine ⟨_,rfl,?_⟩
        have n0_:=a0_ (Kd.R_elder' (rr_ HO_4.out) (Kd.R_base ho0) hb)
        have n1_:=a0_ (Kd.R_elder' (rr_ HO_6.out) (Kd.R_base ho0) hb)
        have n2_:=a0_ (Kd.R_elder' (rr_ HO_7.out) (Kd.R_base ho0) hb)
        have n3_:=a0_ (Kd.R_elder' (rr_ HO_8.out) (Kd.R_base ho0) hb)
        have n4_:=a0_ (Kd.R_elder' (rr_ HO_9.out) (Kd.R_base ho0) hb)
        have n5_:=rb_ Z9 hb
        have n6_:=a0_ (Kd.R_lower (Kd.R_new' (Kd.R_new' (Kd.R_new' (Kd.R_new' (Kd.R_new' ho0 (Kd.R_lt (rr_ HO_4.out))) (Kd.R_lt (rr_ HO_6.out))) (Kd.R_lt (rr_ HO_7.out))) (Kd.R_lt (rr_ HO_8.out))) (Kd.R_lt (rr_ HO_9.out))) (below_size hb_))
        have n7_:=kb_ BK8 hb
        have n8_:=a0_ (below_step hb_ hb)
        clear HO_4
        clear HO_6
        clear HO_7
        clear HO_8
        clear HO_9
        clear Z9
        clear BK8
        clear HB
        have HO_4:=n0_
        have HO_6:=n1_
        have HO_7:=n2_
        have HO_8:=n3_
        have HO_9:=n4_
        have Z9:=n5_
        have HO29:=n6_
        have BK8:=n7_
        have HB:=n8_
        clear n0_ n1_ n2_ n3_ n4_ n5_ n6_ n7_ n8_
        (try clear hb)
        (try clear hb2)
        (try clear hk)
        (try clear hi)
        (try clear ho0)
        obtain ⟨Ao185,co185,eo185⟩:=Kd.R_slice HO29.out
        (first | subst eo185 | (injection eo185 with f1_ f2_ f3_;have f4_:=f1_.symm;have f5_:=f3_.symm;clear f1_ f2_ f3_;subst f4_;subst f5_))
        refine hK.out _ _ ((blk_cell BK8.out 0).trans rfl) (fun hHeld=>?_)
        clear hK K
        refine norm_ (a':=?_) ?_ ?_
        rotate_left
        ·show Act.put _ (some 69) _ = _
         simp only [Act.put,s1_,s2_,s3_,i64_w,i32_w]
         rfl
        refine one_ (i:=5) (N:=some 71) #[true,true,true,true,true,true,false,false,false,false,false] rfl rfl (one_of HT_.out (by kernel_rfl)) (by decide) (fun K hK=>?_)
        refine goes_ Try.func25 (by kernel_rfl) rfl #[.agg #[.slice Ao9 t1.length co9],.slice Ao185 t27.length co185,.int .i64 t7] (by rfl) rfl rfl lm_ ?_
        with_reducible refine (impl_SplitGroup.calls _ _ t1 _ _ t27 t7 t30 t33 _ ?side1 ?side2 ?side3 ?side4 A53.out).mono ?_
        (case side1=>exact cc_ (Kd.R_reads' Z9.out).2.2)
        (case side2=>exact (Kd.R_reads' Z9.out).2.1)
        (case side3=>exact cc_ (Kd.R_reads' HO29.out).2.2)
        (case side4=>exact (Kd.R_reads' HO29.out).2.1)
        rintro e w186 ⟨v31,v34,rfl,ho0,ho1,hb⟩
        refine ⟨_,rfl,?_⟩
        have n0_:=a0_ (Kd.R_mono (Kd.R_told (Kd.R_told (Kd.R_old (rr_ HO_4.out) hb) (Kd.R_base ho0)) (Kd.R_base ho1)) (fun _ h_=>h_.1))
        have n1_:=a0_ (Kd.R_mono (Kd.R_told (Kd.R_told (Kd.R_old (rr_ HO_6.out) hb) (Kd.R_base ho0)) (Kd.R_base ho1)) (fun _ h_=>h_.1))
        have n2_:=a0_ (Kd.R_mono (Kd.R_told (Kd.R_told (Kd.R_old (rr_ HO_7.out) hb) (Kd.R_base ho0)) (Kd.R_base ho1)) (fun _ h_=>h_.1))
        have n3_:=a0_ (Kd.R_mono (Kd.R_told (Kd.R_told (Kd.R_old (rr_ HO_8.out) hb) (Kd.R_base ho0)) (Kd.R_base ho1)) (fun _ h_=>h_.1))
        have n4_:=a0_ (Kd.R_mono (Kd.R_told (Kd.R_told (Kd.R_old (rr_ HO_9.out) hb) (Kd.R_base ho0)) (Kd.R_base ho1)) (fun _ h_=>h_.1))
        have n5_:=rb_ Z9 hb
        have n6_:=a0_ (Kd.R_mono (Kd.R_told (Kd.R_told (Kd.R_old (rr_ HO29.out) hb) (Kd.R_base ho0)) (Kd.R_base ho1)) (fun _ h_=>h_.1))
        have n7_:=a0_ (Kd.R_lower (Kd.R_new' (Kd.R_new' (Kd.R_new' (Kd.R_new' (Kd.R_new' (Kd.R_new' ho0 (Kd.R_lt (rr_ HO_4.out))) (Kd.R_lt (rr_ HO_6.out))) (Kd.R_lt (rr_ HO_7.out))) (Kd.R_lt (rr_ HO_8.out))) (Kd.R_lt (rr_ HO_9.out))) (Kd.R_lt (rr_ HO29.out))) (below_size hb_))
        have n8_:=a0_ (Kd.R_lower (Kd.R_new' (Kd.R_new' (Kd.R_new' (Kd.R_new' (Kd.R_new' (Kd.R_new' ho1 (Kd.R_lt (rr_ HO_4.out))) (Kd.R_lt (rr_ HO_6.out))) (Kd.R_lt (rr_ HO_7.out))) (Kd.R_lt (rr_ HO_8.out))) (Kd.R_lt (rr_ HO_9.out))) (Kd.R_lt (rr_ HO29.out))) (below_size hb_))
        have n9_:=kb_ BK8 hb
        have n10_:=a0_ (below_step hb_ hb)
        clear HO_4
        clear HO_6
        clear HO_7
        clear HO_8
        clear HO_9
        clear Z9
        clear HO29
        clear BK8
        clear HB
        have HO_4:=n0_
        have HO_6:=n1_
        have HO_7:=n2_
        have HO_8:=n3_
        have HO_9:=n4_
        have Z9:=n5_
        have HO29:=n6_
        have HO32:=n7_
        have HO35:=n8_
        have BK8:=n9_
        have HB:=n10_
        clear n0_ n1_ n2_ n3_ n4_ n5_ n6_ n7_ n8_ n9_ n10_
        (try clear hb)
        (try clear hb2)
        (try clear hk)
        (try clear hi)
        (try clear ho0)
        (try clear ho1)
        refine hK.out _ _ ((blk_cell BK8.out 0).trans rfl) (fun hHeld=>?_)
        clear hK K
        refine norm_ (a':=?_) ?_ ?_
        rotate_left
        ·show Act.put _ (some 71) _ = _
         simp only [Act.put,s1_,s2_,s3_,i64_w,i32_w]
         rfl
        refine pure_ (i:=6) (N:=some 65) (v:=?_) (a':=?_) #[true,true,true,true,true,true,true,false,false,false,false] rfl rfl (any_of HT_.out (by kernel_rfl)) (fun _ _ _ h=>h) (Or.inl ⟨by rfl,?_⟩) ?_ ?_
        rotate_left
        ·intro w'
         go_simp
         with_reducible rfl
        rotate_left
        ·simp only [Act.put,s1_,s2_,s3_,i64_w,i32_w]
         rfl
        refine pure_ (i:=7) (N:=some 72) (v:=?_) (a':=?_) #[true,true,true,true,true,true,true,true,false,false,false] rfl rfl (any_of HT_.out (by kernel_rfl)) (fun _ _ _ h=>h) (Or.inl ⟨by rfl,?_⟩) ?_ ?_
        rotate_left
        ·intro w'
         go_simp
         with_reducible rfl
        rotate_left
        ·simp only [Act.put,s1_,s2_,s3_,i64_w,i32_w]
         rfl
        refine pure_ (i:=8) (N:=some 73) (v:=?_) (a':=?_) #[true,true,true,true,true,true,true,true,true,false,false] rfl rfl (any_of HT_.out (by kernel_rfl)) (fun _ _ _ h=>h) (Or.inl ⟨by rfl,?_⟩) ?_ ?_
        rotate_left
        ·intro w'
         go_simp
         with_reducible rfl
        rotate_left
        ·simp only [Act.put,s1_,s2_,s3_,i64_w,i32_w]
         rfl
        refine pure_ (i:=9) (N:=some 10) (v:=?_) (a':=?_) #[true,true,true,true,true,true,true,true,true,true,false] rfl rfl (any_of HT_.out (by kernel_rfl)) (fun _ _ _ h=>h) (Or.inl ⟨by rfl,?_⟩) ?_ ?_
        rotate_left
        ·intro w'
         go_simp
         with_reducible rfl
        rotate_left
        ·simp only [Act.put,s1_,s2_,s3_,i64_w,i32_w]
         rfl
        refine pure_ (i:=10) (N:=some 11) (v:=?_) (a':=?_) #[true,true,true,true,true,true,true,true,true,true,true] rfl rfl (any_of HT_.out (by kernel_rfl)) (fun _ _ _ h=>h) (Or.inl ⟨by rfl,?_⟩) ?_ ?_
        rotate_left
        ·intro w'
         go_simp
         with_reducible rfl
        rotate_left
        ·simp only [Act.put,s1_,s2_,s3_,i64_w,i32_w]
         rfl
        refine done_ (done_of HT_.out (by kernel_rfl)) ?_
        obtain ⟨Ao187,co187,eo187⟩:=Kd.R_slice HO_6.out
        subst eo187
        have hcz188_0 : w186.cell? ⟨gb8,0,none⟩ = some (.slice Ao9 t1.length co9):=(blk_cell BK8.out 0).trans rfl
        have hfz188_0:=blk_frozen BK8.out 0
        try go_wp2_with (first | (go_at_call 12;(with_reducible refine (impl_FlattenGroup.calls kj5 _ _ t1 _ _ t9 t56 _ ?side1 ?side2 ?side3 ?side4 A149.out).mono ?_);(case side1=>exact cc_ (Kd.R_reads' Z9.out).2.2);(case side2=>exact (Kd.R_reads' Z9.out).2.1);(case side3=>exact cc_ (Kd.R_reads' HO_6.out).2.2);(case side4=>exact (Kd.R_reads' HO_6.out).2.1);rintro e w189 ⟨v57,rfl,ho0,hb⟩;have n0_:=a0_ (Kd.R_elder' (rr_ HO_4.out) (Kd.R_base ho0) hb);have n1_:=a0_ (Kd.R_elder' (rr_ HO_6.out) (Kd.R_base ho0) hb);have n2_:=a0_ (Kd.R_elder' (rr_ HO_7.out) (Kd.R_base ho0) hb);have n3_:=a0_ (Kd.R_elder' (rr_ HO_8.out) (Kd.R_base ho0) hb);have n4_:=a0_ (Kd.R_elder' (rr_ HO_9.out) (Kd.R_base ho0) hb);have n5_:=rb_ Z9 hb;have n6_:=a0_ (Kd.R_elder' (rr_ HO29.out) (Kd.R_base ho0) hb);have n7_:=a0_ (Kd.R_elder' (rr_ HO32.out) (Kd.R_base ho0) hb);have n8_:=a0_ (Kd.R_elder' (rr_ HO35.out) (Kd.R_base ho0) hb);have n9_:=a0_ (Kd.R_lower (Kd.R_new' (Kd.R_new' (Kd.R_new' (Kd.R_new' (Kd.R_new' (Kd.R_new' (Kd.R_new' (Kd.R_new' ho0 (Kd.R_lt (rr_ HO_4.out))) (Kd.R_lt (rr_ HO_6.out))) (Kd.R_lt (rr_ HO_7.out))) (Kd.R_lt (rr_ HO_8.out))) (Kd.R_lt (rr_ HO_9.out))) (Kd.R_lt (rr_ HO29.out))) (Kd.R_lt (rr_ HO32.out))) (Kd.R_lt (rr_ HO35.out))) (below_size hb_));have n10_:=kb_ BK8 hb;have n11_:=a0_ (below_step hb_ hb);clear HO_4 HO_6;clear HO_7 HO_8;clear HO_9 Z9;clear HO29 HO32;clear HO35 BK8 HB;have HO_4:=n0_;have HO_6:=n1_;have HO_7:=n2_;have HO_8:=n3_;have HO_9:=n4_;have Z9:=n5_;have HO29:=n6_;have HO32:=n7_;have HO35:=n8_;have HO58:=n9_;have BK8:=n10_;have HB:=n11_;clear n0_ n1_ n2_ n3_ n4_ n5_ n6_ n7_ n8_ n9_ n10_ n11_;(try clear hb);(try clear ho0);obtain ⟨Ao190,co190,eo190⟩:=Kd.R_slice HO32.out;subst eo190;obtain ⟨Ao191,co191,eo191⟩:=Kd.R_slice HO58.out;subst eo191) | (go_at_call 13;(with_reducible refine (laws_equalGroup.calls kj5 _ _ t30 _ _ t56 true _ ?side1 ?side2 ?side3 ?side4 A150.out).mono ?_);(case side1=>exact cc_ (Kd.R_reads' HO32.out).2.2);(case side2=>exact (Kd.R_reads' HO32.out).2.1);(case side3=>exact cc_ (Kd.R_reads' HO58.out).2.2);(case side4=>exact (Kd.R_reads' HO58.out).2.1);rintro e w' ⟨rfl,⟨nd,rfl⟩⟩;obtain ⟨Ao192,co192,eo192⟩:=Kd.R_slice HO_7.out;subst eo192;have hcz193_0 : w189.cell? ⟨gb8,0,none⟩ = some (.slice Ao9 t1.length co9):=(blk_cell BK8.out 0).trans rfl;have hfz193_0:=blk_frozen BK8.out 0) | (go_at_call 12;(with_reducible refine (impl_FlattenGroup.calls kj5 _ _ t1 _ _ t12 t64 _ ?side1 ?side2 ?side3 ?side4 A181.out).mono ?_);(case side1=>exact cc_ (Kd.R_reads' Z9.out).2.2);(case side2=>exact (Kd.R_reads' Z9.out).2.1);(case side3=>exact cc_ (Kd.R_reads' HO_7.out).2.2);(case side4=>exact (Kd.R_reads' HO_7.out).2.1);rintro e w194 ⟨v65,rfl,ho0,hb⟩;have n0_:=a0_ (Kd.R_elder' (rr_ HO_4.out) (Kd.R_base ho0) hb);have n1_:=a0_ (Kd.R_elder' (rr_ HO_6.out) (Kd.R_base ho0) hb);have n2_:=a0_ (Kd.R_elder' (rr_ HO_7.out) (Kd.R_base ho0) hb);have n3_:=a0_ (Kd.R_elder' (rr_ HO_8.out) (Kd.R_base ho0) hb);have n4_:=a0_ (Kd.R_elder' (rr_ HO_9.out) (Kd.R_base ho0) hb);have n5_:=rb_ Z9 hb;have n6_:=a0_ (Kd.R_elder' (rr_ HO29.out) (Kd.R_base ho0) hb);have n7_:=a0_ (Kd.R_elder' (rr_ HO32.out) (Kd.R_base ho0) hb);have n8_:=a0_ (Kd.R_elder' (rr_ HO35.out) (Kd.R_base ho0) hb);have n9_:=a0_ (Kd.R_elder' (rr_ HO58.out) (Kd.R_base ho0) hb);have n10_:=a0_ (Kd.R_lower (Kd.R_new' (Kd.R_new' (Kd.R_new' (Kd.R_new' (Kd.R_new' (Kd.R_new' (Kd.R_new' (Kd.R_new' (Kd.R_new' ho0 (Kd.R_lt (rr_ HO_4.out))) (Kd.R_lt (rr_ HO_6.out))) (Kd.R_lt (rr_ HO_7.out))) (Kd.R_lt (rr_ HO_8.out))) (Kd.R_lt (rr_ HO_9.out))) (Kd.R_lt (rr_ HO29.out))) (Kd.R_lt (rr_ HO32.out))) (Kd.R_lt (rr_ HO35.out))) (Kd.R_lt (rr_ HO58.out))) (below_size hb_));have n11_:=kb_ BK8 hb;have n12_:=a0_ (below_step hb_ hb);clear HO_4 HO_6;clear HO_7 HO_8;clear HO_9 Z9;clear HO29 HO32;clear HO35 HO58;clear BK8 HB;have HO_4:=n0_;have HO_6:=n1_;have HO_7:=n2_;have HO_8:=n3_;have HO_9:=n4_;have Z9:=n5_;have HO29:=n6_;have HO32:=n7_;have HO35:=n8_;have HO58:=n9_;have HO66:=n10_;have BK8:=n11_;have HB:=n12_;clear n0_ n1_ n2_ n3_ n4_ n5_ n6_ n7_ n8_ n9_ n10_ n11_ n12_;(try clear hb);(try clear ho0);obtain ⟨Ao195,co195,eo195⟩:=Kd.R_slice HO35.out;subst eo195;obtain ⟨Ao196,co196,eo196⟩:=Kd.R_slice HO66.out;subst eo196) | (go_at_call 13;(with_reducible refine (laws_equalGroup.calls kj5 _ _ t33 _ _ t64 t67 _ ?side1 ?side2 ?side3 ?side4 A182.out).mono ?_);(case side1=>exact cc_ (Kd.R_reads' HO35.out).2.2);(case side2=>exact (Kd.R_reads' HO35.out).2.1);(case side3=>exact cc_ (Kd.R_reads' HO66.out).2.2);(case side4=>exact (Kd.R_reads' HO66.out).2.1);rintro e w' ⟨rfl,⟨nd,rfl⟩⟩))
        go_ret
        exact ⟨by first | rfl | (simp [errW_none,errW_some] <;> rfl) | (simp [*,errW_none,errW_some] <;> rfl),hb_⟩
      ·replace c151:=Bool.eq_false_iff.mpr c151
       subst c151
       have H1 : (some false) = some r:=by rw [if_neg (show ¬ (false = true) by decide)] at H;exact H
       clear H
       have H:=H1
       clear H1
       obtain rfl:=Option.some.inj H
       try go_wp2
       have n0_:=a0_ (Kd.R_drew HO_4.out)
       have n1_:=a0_ (Kd.R_drew HO_6.out)
       have n2_:=a0_ (Kd.R_drew HO_7.out)
       have n3_:=a0_ (Kd.R_drew HO_8.out)
       have n4_:=a0_ (Kd.R_drew HO_9.out)
       have n5_:=a0_ (Kd.R_drew Z9.out)
       have n6_:=a0_ (blk_drew BK8.out)
       have n7_:=a0_ (below_drew1 HB.out)
       clear HO_4
       clear HO_6
       clear HO_7
       clear HO_8
       clear HO_9
       clear Z9
       clear BK8
       clear HB
       have HO_4:=n0_
       have HO_6:=n1_
       have HO_7:=n2_
       have HO_8:=n3_
       have HO_9:=n4_
       have Z9:=n5_
       have BK8:=n6_
       have HB:=n7_
       clear n0_ n1_ n2_ n3_ n4_ n5_ n6_ n7_
       refine start_ (n:=11) (S:=fun w'=>w'.cell? ⟨gb8,0,none⟩ = some (.slice Ao9 t1.length co9)) (ds:=[]) #[false,false,false,false,false,false,false,false,false,false,false] (by kernel_rfl) rfl rfl ((blk_cell BK8.out 0).trans rfl) (fun hHeld=>?_);refine with_tabW laws_FnFlattenGroupSplit.tab8 laws_FnFlattenGroupSplit.bits8 (fun HT_ HW_=>?_)
       generalize wc.drew = w197 at HO_4 HO_6 HO_7 HO_8 HO_9 Z9 BK8 HB hHeld ⊢
       refine pure_ (i:=2) (N:=some 68) (v:=?_) (a':=?_) #[false,false,true,false,false,false,false,false,false,false,false] rfl rfl (any_of HT_.out (by kernel_rfl)) (fun _ _ _ h=>h) (Or.inl ⟨by rfl,?_⟩) ?_ ?_
       rotate_left
       ·intro w'
        go_simp
        with_reducible rfl
       rotate_left
       ·simp only [Act.put,s1_,s2_,s3_,i64_w,i32_w]
        rfl
       refine pure_ (i:=4) (N:=some 70) (v:=?_) (a':=?_) #[false,false,true,false,true,false,false,false,false,false,false] rfl rfl (any_of HT_.out (by kernel_rfl)) (fun _ _ _ h=>h) (Or.inl ⟨by rfl,?_⟩) ?_ ?_
       rotate_left
       ·intro w'
        go_simp
        with_reducible rfl
       rotate_left
       ·simp only [Act.put,s1_,s2_,s3_,i64_w,i32_w]
        rfl
       refine take_ (i:=0) (N:=some 66) (v:=?_) (a':=?_) #[true,false,true,false,true,false,false,false,false,false,false] rfl rfl (take_ofW HT_.out HW_.out (by kernel_rfl)) (fun _ _ _ h=>h) (Or.inl ⟨by rfl,?_⟩) hHeld ?_ ?_
       rotate_left
       ·intro w' s0
        go_simp
        with_reducible rfl
       rotate_left
       ·simp only [Act.put,s1_,s2_,s3_,i64_w,i32_w]
        rfl
       refine take_ (i:=1) (N:=some 67) (v:=?_) (a':=?_) #[true,true,true,false,true,false,false,false,false,false,false] rfl rfl (take_ofW HT_.out HW_.out (by kernel_rfl)) (fun _ _ _ h=>h) (Or.inl ⟨by rfl,?_⟩) hHeld ?_ ?_
       rotate_left
       ·intro w' s0
        go_simp
        with_reducible rfl
       rotate_left
       ·simp only [Act.put,s1_,s2_,s3_,i64_w,i32_w]
        rfl
       refine one_ (i:=3) (N:=some 69) #[true,true,true,true,true,false,false,false,false,false,false] rfl rfl (one_of HT_.out (by kernel_rfl)) (by decide) (fun K hK=>?_)
       refine goes_ Try.func12 (by kernel_rfl) rfl #[.agg #[.slice Ao9 t1.length co9],.slice Ao11 t4.length co11] (by rfl) rfl rfl lm_ ?_
       with_reducible refine (impl_FlattenGroup.calls kj5 _ _ t1 _ _ t4 t27 _ ?side1 ?side2 ?side3 ?side4 A52.out).mono ?_
       (case side1=>exact cc_ (Kd.R_reads' Z9.out).2.2)
       (case side2=>exact (Kd.R_reads' Z9.out).2.1)
       (case side3=>exact cc_ (Kd.R_reads' HO_4.out).2.2)
       (case side4=>exact (Kd.R_reads' HO_4.out).2.1)
       rintro e w198 ⟨v28,rfl,ho0,hb⟩
       refine ⟨_,rfl,?_⟩
       have n0_:=a0_ (Kd.R_elder' (rr_ HO_4.out) (Kd.R_base ho0) hb)
       have n1_:=a0_ (Kd.R_elder' (rr_ HO_6.out) (Kd.R_base ho0) hb)
       have n2_:=a0_ (Kd.R_elder' (rr_ HO_7.out) (Kd.R_base ho0) hb)
       have n3_:=a0_ (Kd.R_elder' (rr_ HO_8.out) (Kd.R_base ho0) hb)
       have n4_:=a0_ (Kd.R_elder' (rr_ HO_9.out) (Kd.R_base ho0) hb)
       have n5_:=rb_ Z9 hb
       have n6_:=a0_ (Kd.R_lower (Kd.R_new' (Kd.R_new' (Kd.R_new' (Kd.R_new' (Kd.R_new' ho0 (Kd.R_lt (rr_ HO_4.out))) (Kd.R_lt (rr_ HO_6.out))) (Kd.R_lt (rr_ HO_7.out))) (Kd.R_lt (rr_ HO_8.out))) (Kd.R_lt (rr_ HO_9.out))) (below_size hb_))
       have n7_:=kb_ BK8 hb
       have n8_:=a0_ (below_step hb_ hb)
       clear HO_4
       clear HO_6
       clear HO_7
       clear HO_8
       clear HO_9
       clear Z9
       clear BK8
       clear HB
       have HO_4:=n0_
       have HO_6:=n1_
       have HO_7:=n2_
       have HO_8:=n3_
       have HO_9:=n4_
       have Z9:=n5_
       have HO29:=n6_
       have BK8:=n7_
       have HB:=n8_
       clear n0_ n1_ n2_ n3_ n4_ n5_ n6_ n7_ n8_
       (try clear hb)
       (try clear hb2)
       (try clear hk)
       (try clear hi)
       (try clear ho0)
       obtain ⟨Ao199,co199,eo199⟩:=Kd.R_slice HO29.out
       (first | subst eo199 | (injection eo199 with f1_ f2_ f3_;have f4_:=f1_.symm;have f5_:=f3_.symm;clear f1_ f2_ f3_;subst f4_;subst f5_))
       refine hK.out _ _ ((blk_cell BK8.out 0).trans rfl) (fun hHeld=>?_)
       clear hK K
       refine norm_ (a':=?_) ?_ ?_
       rotate_left
       ·show Act.put _ (some 69) _ = _
        simp only [Act.put,s1_,s2_,s3_,i64_w,i32_w]
        rfl
       refine one_ (i:=5) (N:=some 71) #[true,true,true,true,true,true,false,false,false,false,false] rfl rfl (one_of HT_.out (by kernel_rfl)) (by decide) (fun K hK=>?_)
       refine goes_ Try.func25 (by kernel_rfl) rfl #[.agg #[.slice Ao9 t1.length co9],.slice Ao199 t27.length co199,.int .i64 t7] (by rfl) rfl rfl lm_ ?_
       with_reducible refine (impl_SplitGroup.calls _ _ t1 _ _ t27 t7 t30 t33 _ ?side1 ?side2 ?side3 ?side4 A53.out).mono ?_
       (case side1=>exact cc_ (Kd.R_reads' Z9.out).2.2)
       (case side2=>exact (Kd.R_reads' Z9.out).2.1)
       (case side3=>exact cc_ (Kd.R_reads' HO29.out).2.2)
       (case side4=>exact (Kd.R_reads' HO29.out).2.1)
       rintro e w200 ⟨v31,v34,rfl,ho0,ho1,hb⟩
       refine ⟨_,rfl,?_⟩
       have n0_:=a0_ (Kd.R_mono (Kd.R_told (Kd.R_told (Kd.R_old (rr_ HO_4.out) hb) (Kd.R_base ho0)) (Kd.R_base ho1)) (fun _ h_=>h_.1))
       have n1_:=a0_ (Kd.R_mono (Kd.R_told (Kd.R_told (Kd.R_old (rr_ HO_6.out) hb) (Kd.R_base ho0)) (Kd.R_base ho1)) (fun _ h_=>h_.1))
       have n2_:=a0_ (Kd.R_mono (Kd.R_told (Kd.R_told (Kd.R_old (rr_ HO_7.out) hb) (Kd.R_base ho0)) (Kd.R_base ho1)) (fun _ h_=>h_.1))
       have n3_:=a0_ (Kd.R_mono (Kd.R_told (Kd.R_told (Kd.R_old (rr_ HO_8.out) hb) (Kd.R_base ho0)) (Kd.R_base ho1)) (fun _ h_=>h_.1))
       have n4_:=a0_ (Kd.R_mono (Kd.R_told (Kd.R_told (Kd.R_old (rr_ HO_9.out) hb) (Kd.R_base ho0)) (Kd.R_base ho1)) (fun _ h_=>h_.1))
       have n5_:=rb_ Z9 hb
       have n6_:=a0_ (Kd.R_mono (Kd.R_told (Kd.R_told (Kd.R_old (rr_ HO29.out) hb) (Kd.R_base ho0)) (Kd.R_base ho1)) (fun _ h_=>h_.1))
       have n7_:=a0_ (Kd.R_lower (Kd.R_new' (Kd.R_new' (Kd.R_new' (Kd.R_new' (Kd.R_new' (Kd.R_new' ho0 (Kd.R_lt (rr_ HO_4.out))) (Kd.R_lt (rr_ HO_6.out))) (Kd.R_lt (rr_ HO_7.out))) (Kd.R_lt (rr_ HO_8.out))) (Kd.R_lt (rr_ HO_9.out))) (Kd.R_lt (rr_ HO29.out))) (below_size hb_))
       have n8_:=a0_ (Kd.R_lower (Kd.R_new' (Kd.R_new' (Kd.R_new' (Kd.R_new' (Kd.R_new' (Kd.R_new' ho1 (Kd.R_lt (rr_ HO_4.out))) (Kd.R_lt (rr_ HO_6.out))) (Kd.R_lt (rr_ HO_7.out))) (Kd.R_lt (rr_ HO_8.out))) (Kd.R_lt (rr_ HO_9.out))) (Kd.R_lt (rr_ HO29.out))) (below_size hb_))
       have n9_:=kb_ BK8 hb
       have n10_:=a0_ (below_step hb_ hb)
       clear HO_4
       clear HO_6
       clear HO_7
       clear HO_8
       clear HO_9
       clear Z9
       clear HO29
       clear BK8
       clear HB
       have HO_4:=n0_
       have HO_6:=n1_
       have HO_7:=n2_
       have HO_8:=n3_
       have HO_9:=n4_
       have Z9:=n5_
       have HO29:=n6_
       have HO32:=n7_
       have HO35:=n8_
       have BK8:=n9_
       have HB:=n10_
       clear n0_ n1_ n2_ n3_ n4_ n5_ n6_ n7_ n8_ n9_ n10_
       (try clear hb)
       (try clear hb2)
       (try clear hk)
       (try clear hi)
       (try clear ho0)
       (try clear ho1)
       refine hK.out _ _ ((blk_cell BK8.out 0).trans rfl) (fun hHeld=>?_)
       clear hK K
       refine norm_ (a':=?_) ?_ ?_
       rotate_left
       ·show Act.put _ (some 71) _ = _
        simp only [Act.put,s1_,s2_,s3_,i64_w,i32_w]
        rfl
       refine pure_ (i:=6) (N:=some 65) (v:=?_) (a':=?_) #[true,true,true,true,true,true,true,false,false,false,false] rfl rfl (any_of HT_.out (by kernel_rfl)) (fun _ _ _ h=>h) (Or.inl ⟨by rfl,?_⟩) ?_ ?_
       rotate_left
       ·intro w'
        go_simp
        with_reducible rfl
       rotate_left
       ·simp only [Act.put,s1_,s2_,s3_,i64_w,i32_w]
        rfl
       refine pure_ (i:=7) (N:=some 72) (v:=?_) (a':=?_) #[true,true,true,true,true,true,true,true,false,false,false] rfl rfl (any_of HT_.out (by kernel_rfl)) (fun _ _ _ h=>h) (Or.inl ⟨by rfl,?_⟩) ?_ ?_
       rotate_left
       ·intro w'
        go_simp
        with_reducible rfl
       rotate_left
       ·simp only [Act.put,s1_,s2_,s3_,i64_w,i32_w]
        rfl
       refine pure_ (i:=8) (N:=some 73) (v:=?_) (a':=?_) #[true,true,true,true,true,true,true,true,true,false,false] rfl rfl (any_of HT_.out (by kernel_rfl)) (fun _ _ _ h=>h) (Or.inl ⟨by rfl,?_⟩) ?_ ?_
       rotate_left
       ·intro w'
        go_simp
        with_reducible rfl
       rotate_left
       ·simp only [Act.put,s1_,s2_,s3_,i64_w,i32_w]
        rfl
       refine pure_ (i:=9) (N:=some 10) (v:=?_) (a':=?_) #[true,true,true,true,true,true,true,true,true,true,false] rfl rfl (any_of HT_.out (by kernel_rfl)) (fun _ _ _ h=>h) (Or.inl ⟨by rfl,?_⟩) ?_ ?_
       rotate_left
       ·intro w'
        go_simp
        with_reducible rfl
       rotate_left
       ·simp only [Act.put,s1_,s2_,s3_,i64_w,i32_w]
        rfl
       refine pure_ (i:=10) (N:=some 11) (v:=?_) (a':=?_) #[true,true,true,true,true,true,true,true,true,true,true] rfl rfl (any_of HT_.out (by kernel_rfl)) (fun _ _ _ h=>h) (Or.inl ⟨by rfl,?_⟩) ?_ ?_
       rotate_left
       ·intro w'
        go_simp
        with_reducible rfl
       rotate_left
       ·simp only [Act.put,s1_,s2_,s3_,i64_w,i32_w]
        rfl
       refine done_ (done_of HT_.out (by kernel_rfl)) ?_
       obtain ⟨Ao201,co201,eo201⟩:=Kd.R_slice HO_6.out
       subst eo201
       have hcz202_0 : w200.cell? ⟨gb8,0,none⟩ = some (.slice Ao9 t1.length co9):=(blk_cell BK8.out 0).trans rfl
       have hfz202_0:=blk_frozen BK8.out 0
       try go_wp2_with (first | (go_at_call 12;(with_reducible refine (impl_FlattenGroup.calls kj5 _ _ t1 _ _ t9 t56 _ ?side1 ?side2 ?side3 ?side4 A149.out).mono ?_);(case side1=>exact cc_ (Kd.R_reads' Z9.out).2.2);(case side2=>exact (Kd.R_reads' Z9.out).2.1);(case side3=>exact cc_ (Kd.R_reads' HO_6.out).2.2);(case side4=>exact (Kd.R_reads' HO_6.out).2.1);rintro e w203 ⟨v57,rfl,ho0,hb⟩;have n0_:=a0_ (Kd.R_elder' (rr_ HO_4.out) (Kd.R_base ho0) hb);have n1_:=a0_ (Kd.R_elder' (rr_ HO_6.out) (Kd.R_base ho0) hb);have n2_:=a0_ (Kd.R_elder' (rr_ HO_7.out) (Kd.R_base ho0) hb);have n3_:=a0_ (Kd.R_elder' (rr_ HO_8.out) (Kd.R_base ho0) hb);have n4_:=a0_ (Kd.R_elder' (rr_ HO_9.out) (Kd.R_base ho0) hb);have n5_:=rb_ Z9 hb;have n6_:=a0_ (Kd.R_elder' (rr_ HO29.out) (Kd.R_base ho0) hb);have n7_:=a0_ (Kd.R_elder' (rr_ HO32.out) (Kd.R_base ho0) hb);have n8_:=a0_ (Kd.R_elder' (rr_ HO35.out) (Kd.R_base ho0) hb);have n9_:=a0_ (Kd.R_lower (Kd.R_new' (Kd.R_new' (Kd.R_new' (Kd.R_new' (Kd.R_new' (Kd.R_new' (Kd.R_new' (Kd.R_new' ho0 (Kd.R_lt (rr_ HO_4.out))) (Kd.R_lt (rr_ HO_6.out))) (Kd.R_lt (rr_ HO_7.out))) (Kd.R_lt (rr_ HO_8.out))) (Kd.R_lt (rr_ HO_9.out))) (Kd.R_lt (rr_ HO29.out))) (Kd.R_lt (rr_ HO32.out))) (Kd.R_lt (rr_ HO35.out))) (below_size hb_));have n10_:=kb_ BK8 hb;have n11_:=a0_ (below_step hb_ hb);clear HO_4 HO_6;clear HO_7 HO_8;clear HO_9 Z9;clear HO29 HO32;clear HO35 BK8 HB;have HO_4:=n0_;have HO_6:=n1_;have HO_7:=n2_;have HO_8:=n3_;have HO_9:=n4_;have Z9:=n5_;have HO29:=n6_;have HO32:=n7_;have HO35:=n8_;have HO58:=n9_;have BK8:=n10_;have HB:=n11_;clear n0_ n1_ n2_ n3_ n4_ n5_ n6_ n7_ n8_ n9_ n10_ n11_;(try clear hb);(try clear ho0);obtain ⟨Ao204,co204,eo204⟩:=Kd.R_slice HO32.out;subst eo204;obtain ⟨Ao205,co205,eo205⟩:=Kd.R_slice HO58.out;subst eo205) | (go_at_call 13;(with_reducible refine (laws_equalGroup.calls kj5 _ _ t30 _ _ t56 false _ ?side1 ?side2 ?side3 ?side4 A150.out).mono ?_);(case side1=>exact cc_ (Kd.R_reads' HO32.out).2.2);(case side2=>exact (Kd.R_reads' HO32.out).2.1);(case side3=>exact cc_ (Kd.R_reads' HO58.out).2.2);(case side4=>exact (Kd.R_reads' HO58.out).2.1);rintro e w' ⟨rfl,⟨nd,rfl⟩⟩))
       go_ret
       exact ⟨by first | rfl | (simp [errW_none,errW_some] <;> rfl) | (simp [*,errW_none,errW_some] <;> rfl),hb_⟩
def laws_FnFlattenGroupSplit.Pure : Prop:=∀ (l0 : List Int),l0.length ≤ maxLen → l0.length * 1 ≤ 140737488351232 → (∀ x ∈ l0,(Lit.int .u8 x).wf = true) → ∃ k,laws_FnFlattenGroupSplit.f k l0 = some true
theorem laws_FnFlattenGroupSplit.walk (P : laws_FnFlattenGroupSplit.Pure) (a0 : Option Addr) (len0 cap0 : Nat) (z0 : List Int) (w : World) (w0 : (a0 = none ∧ len0 = 0 ∧ cap0 = 0 ∧ z0 = []) ∨ ∃ x,a0 = some x ∧ len0 ≤ cap0 ∧ cap0 ≤ maxLen ∧ z0.length = cap0 ∧ (∀ i,i < z0.length → w.cell? (x.add i) = some (.int .u8 (z0.getD i 0))) ∧ ∀ n ∈ z0,(Lit.int .u8 n).wf = true) (y0 : len0 * 1 ≤ 140737488351232) :
  Calls Try.prog 6 #[.slice a0 len0 cap0] w fun e w'=>e = .returned (.bool true) ∧ Below w.heap.size w w':=by
 obtain ⟨l0,rfl,hr0,hm0,hw0,hc0⟩:=ReadsInt.ofRowC w0
 obtain ⟨k,h⟩:=P l0 hm0 y0 hw0
 refine (laws_FnFlattenGroupSplit.calls k _ _ l0 true w (Kd.C_of_reads (d:=(0 : Int)) (h1:=fun _=>rfl) hr0) hc0 h).mono ?_
 rintro e w' ⟨rfl,hd⟩
 exact ⟨rfl,hd⟩
end Go.Proofs.Ytfphcdbnnienhaa.P
namespace Go.Proofs.Ytfphcdbnnienhaa.P
open Go.RowKit Go.Proofs.YtfphcdbnnienhaaW.PrintWords Go.Proofs.YtfphcdbnnienhaaW.PrintLast Go.Proofs.YtfphcdbnnienhaaW.PrintMore
attribute [local go_sem] max2_int min2_int max_two min_two max_three min_three max_four min_four
set_option linter.unusedVariables false
set_option linter.unusedSimpArgs false
def ForN : Nat → Int → List Prt → Prop
 | 0,_,l=>l = []
 | n + 1,d,l=>l = [] ∨ (∃ p r,l = p :: r ∧ p.f0 = d ∧ p.f1 = false ∧ ForN n d r) ∨ (∃ p k r,l = p :: (k ++ r) ∧ p.f0 = d ∧ p.f1 = true ∧ k ≠ [] ∧ ForN n (d + 1) k ∧ ForN n d r)
def Fr (d : Int) (l : List Prt) : Prop:=∃ n,ForN n d l
theorem ForN_mono : ∀ (n : Nat) (d : Int) (l : List Prt),ForN n d l → ForN (n + 1) d l:=by
 intro n
 induction n with
 | zero=>intro d l h;exact Or.inl h
 | succ n ih =>
  intro d l h
  rcases h with h | ⟨p,r,h1,h2,h3,h4⟩ | ⟨p,k,r,h1,h2,h3,h4,h5,h6⟩
  ·exact Or.inl h
  ·exact Or.inr (Or.inl ⟨p,r,h1,h2,h3,ih _ _ h4⟩)
  ·exact Or.inr (Or.inr ⟨p,k,r,h1,h2,h3,h4,ih _ _ h5,ih _ _ h6⟩)
theorem ForN_le {n m : Nat} {d : Int} {l : List Prt} (h : n ≤ m) (hs : ForN n d l) : ForN m d l:=by
 obtain ⟨e,rfl⟩:=Nat.exists_eq_add_of_le h
 clear h
 induction e with
 | zero=>exact hs
 | succ e ih=>exact ForN_mono _ _ _ ih
theorem Fr.nil (d : Int) : Fr d []:=⟨0,rfl⟩
theorem Fr.leaf {d : Int} {p : Prt} {r : List Prt} (h0 : p.f0 = d) (h1 : p.f1 = false) (hr : Fr d r) : Fr d (p :: r):=by
 obtain ⟨n,hn⟩:=hr
 exact ⟨n + 1,Or.inr (Or.inl ⟨p,r,rfl,h0,h1,hn⟩)⟩
theorem Fr.node {d : Int} {p : Prt} {k r : List Prt} (h0 : p.f0 = d) (h1 : p.f1 = true) (hne : k ≠ []) (hk : Fr (d + 1) k) (hr : Fr d r) : Fr d (p :: (k ++ r)):=by
 obtain ⟨n,hn⟩:=hk
 obtain ⟨m,hm⟩:=hr
 exact ⟨max n m + 1,Or.inr (Or.inr ⟨p,k,r,rfl,h0,h1,hne,ForN_le (Nat.le_max_left _ _) hn,ForN_le (Nat.le_max_right _ _) hm⟩)⟩
theorem Fr.rec2 {P : Int → List Prt → Prop} (hnil : ∀ d,P d []) (hleaf : ∀ d p r,p.f0 = d → p.f1 = false → Fr d r → P d r → P d (p :: r)) (hnode : ∀ d p k r,p.f0 = d → p.f1 = true → k ≠ [] → Fr (d + 1) k → Fr d r → P (d + 1) k → P d r → P d (p :: (k ++ r))) {d : Int} {l : List Prt} (h : Fr d l) : P d l:=by
 obtain ⟨n,hn⟩:=h
 induction n generalizing d l with
 | zero =>
  have : l = []:=hn
  rw [this]
  exact hnil d
 | succ n ih =>
  rcases hn with h | ⟨p,r,rfl,h2,h3,h4⟩ | ⟨p,k,r,rfl,h2,h3,h4,h5,h6⟩
  ·rw [h];exact hnil d
  ·exact hleaf d p r h2 h3 ⟨n,h4⟩ (ih h4)
  ·exact hnode d p k r h2 h3 h4 ⟨n,h5⟩ ⟨n,h6⟩ (ih h5) (ih h6)
theorem Fr.depth {d : Int} {l : List Prt} (h : Fr d l) : (∀ q ∈ l,d ≤ q.f0) ∧ ∀ q,l.head? = some q → q.f0 = d:=by
 refine Fr.rec2 (P:=fun d l=>(∀ q ∈ l,d ≤ q.f0) ∧ ∀ q,l.head? = some q → q.f0 = d) (fun d=>⟨fun q hq=>absurd hq (by simp),fun q hq=>by simp at hq⟩) (fun d p r h0 h1 _ ih=>⟨fun q hq=>?_,fun q hq=>?_⟩) (fun d p k r h0 h1 _ _ _ ihk ihr=>⟨fun q hq=>?_,fun q hq=>?_⟩) h
 ·rcases List.mem_cons.1 hq with rfl | hq
  ·omega
  ·exact ih.1 q hq
 ·obtain rfl : p = q:=by simpa using hq
  exact h0
 ·rcases List.mem_cons.1 hq with rfl | hq
  ·omega
  ·rcases List.mem_append.1 hq with hq | hq
   ·have:=ihk.1 q hq;omega
   ·exact ihr.1 q hq
 ·obtain rfl : p = q:=by simpa using hq
  exact h0
theorem Fr.append {d : Int} {l r : List Prt} (h : Fr d l) (hr : Fr d r) : Fr d (l ++ r):=by
 refine Fr.rec2 (P:=fun d l=>∀ r,Fr d r → Fr d (l ++ r)) (fun d r hr=>hr) (fun d p s h0 h1 _ ih r hr=>Fr.leaf h0 h1 (ih r hr)) (fun d p k s h0 h1 hne hk _ _ ihr r hr=>?_) h r hr
 rw [List.cons_append,List.append_assoc]
 exact Fr.node h0 h1 hne hk (ihr r hr)
def chn : List Prt → Prop
 | []=>True
 | p :: r=>(match r with | []=>p.f1 = false | q :: _=>(p.f1 = true → q.f0 = p.f0 + 1) ∧ (p.f1 = false → q.f0 ≤ p.f0)) ∧ chn r
theorem tw_all {α : Type} {p : α → Bool} {l : List α} (h : ∀ x ∈ l,p x = true) : l.takeWhile p = l:=by
 have:=List.takeWhile_append_of_pos (l₂:=[]) h
 simpa using this
theorem chn_suffix : ∀ (a b : List Prt),chn (a ++ b) → chn b:=by
 intro a
 induction a with
 | nil=>intro b h;exact h
 | cons p a ih=>intro b h;exact ih b h.2
theorem chn_Fr : ∀ (n : Nat) (l : List Prt) (d : Int),l.length ≤ n → chn l → (∀ q,l.head? = some q → q.f0 ≤ d) → Fr d (l.takeWhile (fun q=>decide (d ≤ q.f0))):=by
 intro n
 induction n with
 | zero =>
  intro l d hl _ _
  have : l = []:=List.length_eq_zero_iff.1 (by omega)
  rw [this]
  exact Fr.nil d
 | succ n ih =>
  intro l d hl hc hh
  cases l with
  | nil=>exact Fr.nil d
  | cons p r =>
   have hp:=hh p rfl
   rw [List.length_cons] at hl
   by_cases hd : d ≤ p.f0
   ·rw [List.takeWhile_cons,if_pos (by simpa using hd)]
    have hpd : p.f0 = d:=by omega
    cases hg : p.f1 with
    | false =>
     refine Fr.leaf hpd hg (ih r d (by omega) hc.2 (fun q hq=>?_))
     cases r with
     | nil=>simp at hq
     | cons q' r =>
      obtain rfl : q' = q:=by simpa using hq
      have:=hc.1.2 hg
      omega
    | true =>
     cases r with
     | nil=>have : p.f1 = false:=hc.1;rw [hg] at this;cases this
     | cons q r =>
      have hq:=hc.1.1 hg
      have hsplit:=List.takeWhile_append_dropWhile (p:=fun x : Prt=>decide (d + 1 ≤ x.f0)) (l:=q :: r)
      have hk:=ih (q :: r) (d + 1) (by omega) hc.2 (fun x hx=>by
       obtain rfl : q = x:=by simpa using hx
       omega)
      have hne : (q :: r).takeWhile (fun x=>decide (d + 1 ≤ x.f0)) ≠ []:=by
       rw [List.takeWhile_cons,if_pos (by simp;omega)]
       simp
      have hlen : ((q :: r).dropWhile (fun x=>decide (d + 1 ≤ x.f0))).length ≤ n:=by
       have:=(List.dropWhile_sublist (fun x : Prt=>decide (d + 1 ≤ x.f0)) (l:=q :: r)).length_le
       omega
      have hhd : ∀ x,((q :: r).dropWhile (fun x=>decide (d + 1 ≤ x.f0))).head? = some x → x.f0 ≤ d:=by
       intro x hx
       have:=List.head?_dropWhile_not (fun x : Prt=>decide (d + 1 ≤ x.f0)) (q :: r)
       rw [hx] at this
       simp at this
       omega
      have hr:=ih _ d hlen (chn_suffix ((q :: r).takeWhile (fun x=>decide (d + 1 ≤ x.f0))) _ (by rw [hsplit];exact hc.2)) hhd
      have e : (q :: r).takeWhile (fun x=>decide (d ≤ x.f0)) = (q :: r).takeWhile (fun x=>decide (d + 1 ≤ x.f0)) ++ ((q :: r).dropWhile (fun x=>decide (d + 1 ≤ x.f0))).takeWhile (fun x=>decide (d ≤ x.f0)):=by
       conv=>lhs;rw [← hsplit]
       rw [List.takeWhile_append_of_pos]
       intro x hx
       have:=List.all_eq_true.1 (List.all_takeWhile (p:=fun x : Prt=>decide (d + 1 ≤ x.f0)) (l:=q :: r)) x hx
       simp at this ⊢
       omega
      rw [e]
      exact Fr.node hpd hg hne hk hr
   ·rw [List.takeWhile_cons,if_neg (by simpa using hd)]
    exact Fr.nil d
theorem Fr_chn {d : Int} {l : List Prt} (h : Fr d l) : ∀ b,chn b → (∀ q,b.head? = some q → q.f0 ≤ d) → chn (l ++ b):=by
 refine Fr.rec2 (P:=fun d l=>∀ b,chn b → (∀ q,b.head? = some q → q.f0 ≤ d) → chn (l ++ b)) (fun d b hb _=>hb) (fun d p r h0 h1 hr ih b hb hh=>?_) (fun d p k r h0 h1 hne hk hr ihk ihr b hb hh=>?_) h
 ·refine ⟨?_,ih b hb hh⟩
  cases r with
  | nil =>
   cases b with
   | nil=>exact h1
   | cons q b =>
    refine ⟨(fun hf=>by rw [h1] at hf;cases hf),fun _=>?_⟩
    have:=hh q rfl
    omega
  | cons q r =>
   refine ⟨(fun hf=>by rw [h1] at hf;cases hf),fun _=>?_⟩
   have:=hr.depth.2 q rfl
   omega
 ·rw [List.cons_append,List.append_assoc]
  have hd : ∀ q,(r ++ b).head? = some q → q.f0 ≤ d:=by
   intro q hq
   cases r with
   | nil=>exact hh q hq
   | cons q' r =>
    obtain rfl : q' = q:=by simpa using hq
    have:=hr.depth.2 q' rfl
    omega
  refine ⟨?_,ihk (r ++ b) (ihr b hb hh) (fun q hq=>by have:=hd q hq;omega)⟩
  cases k with
  | nil=>exact absurd rfl hne
  | cons q k =>
   refine ⟨fun _=>?_,(fun hf=>by rw [h1] at hf;cases hf)⟩
   have:=hk.depth.2 q rfl
   omega
def okE (t : List Cls) (p : Prt) : Prop:=(0 ≤ p.f3 ∧ p.f3 ≤ 99) ∧ (p.f1 = true → p.f2 = 0) ∧ (p.f1 = false → hasC t p.f2 = true)
def Tre (g : List Prt) : Prop:=∃ p r,g = p :: r ∧ p.f0 = 0 ∧ ((p.f1 = false ∧ r = []) ∨ (p.f1 = true ∧ r ≠ [] ∧ Fr 1 r))
theorem Tre_Fr {g : List Prt} (h : Tre g) : Fr 0 g:=by
 obtain ⟨p,r,rfl,h0,⟨h1,rfl⟩ | ⟨h1,h2,h3⟩⟩:=h
 ·exact Fr.leaf h0 h1 (Fr.nil 0)
 ·have:=Fr.node h0 h1 h2 h3 (Fr.nil 0)
  rwa [List.append_nil] at this
theorem getD_at {g : List Prt} {i : Nat} (hi : i < g.length) : g.getD i z47 = g[i]:=by simp [List.getD,hi]
theorem vG_chn {t : List Cls} {g : List Prt} (h : psG t g = true) : ∀ (d j : Nat),j + d = g.length → chn (g.drop j):=by
 intro d
 induction d with
 | zero=>intro j hj;rw [List.drop_eq_nil_of_le (by omega)];trivial
 | succ d ih =>
  intro j hj
  have hlt : j < g.length:=by omega
  rw [List.drop_eq_getElem_cons hlt]
  refine ⟨?_,ih (j + 1) (by omega)⟩
  have h1:=psG_at h j hlt
  rw [getD_at hlt] at h1
  unfold okP at h1
  rw [endG_below] at h1
  unfold belowB at h1
  rw [getD_at hlt] at h1
  simp only [Bool.and_eq_true] at h1
  have hb:=h1.2.2
  by_cases hn : j + 1 < g.length
  ·rw [List.drop_eq_getElem_cons hn]
   have h2:=psG_at h (j + 1) hn
   rw [getD_at hn] at h2
   unfold okP okUp at h2
   rw [if_neg (by omega),show j + 1 - 1 = j by omega,getD_at hlt] at h2
   simp only [Bool.and_eq_true,Bool.not_eq_true',decide_eq_false_iff_not,Bool.and_eq_false_iff,Bool.not_eq_false'] at h2
   rw [getD_at hn,decide_eq_true hn,Bool.true_and] at hb
   constructor
   ·intro hg
    rw [hg] at hb
    simp at hb
    have:=h2.2.1.1
    omega
   ·intro hg
    rcases h2.2.1.2 with h3 | h3
    ·omega
    ·rw [hg] at h3;cases h3
  ·rw [List.drop_eq_nil_of_le (by omega)]
   rw [decide_eq_false hn,Bool.false_and] at hb
   simpa using hb
theorem vG_tre {t : List Cls} {g : List Prt} (h : vG t g = true) : Tre g ∧ (∀ p ∈ g,okE t p ∧ 0 ≤ p.f0 ∧ p.f0 ≤ 5) ∧ g.length ≤ 16 ∧ vT t = true:=by
 obtain ⟨ht,h1,h2⟩:=vG_tree h
 unfold vG at h
 rw [Bool.and_eq_true] at h
 have hp:=h.1
 have hc:=vG_chn hp g.length 0 (by omega)
 rw [List.drop_zero] at hc
 have hat : ∀ j (hj : j < g.length),okE t g[j] ∧ (0 ≤ g[j].f0 ∧ g[j].f0 ≤ 5) ∧ (g[j].f0 = 0 ↔ j = 0):=by
  intro j hj
  have h3:=psG_at hp j hj
  rw [getD_at hj] at h3
  unfold okP okP1 at h3
  simp only [Bool.and_eq_true,decide_eq_true_eq] at h3
  obtain ⟨⟨a,b,c,d,e⟩,_⟩:=h3
  refine ⟨⟨a,fun hg=>?_,fun hg=>?_⟩,b,?_⟩
  ·rw [hg] at c;simpa using c
  ·rw [hg] at d;simpa using d
  ·have e2 : ((g[j].f0 == 0) = true) = (((j : Int) == 0) = true):=by rw [beq_iff_eq.1 e]
   rw [beq_iff_eq,beq_iff_eq] at e2
   have:=e2 ▸ Iff.rfl (a:=g[j].f0 = 0)
   constructor
   ·intro h0;have:=e2.mp h0;omega
   ·intro h0;exact e2.mpr (by omega)
 refine ⟨?_,fun p hm=>?_,h2,ht⟩
 ·cases g with
  | nil=>simp at h1
  | cons p r =>
   have h0:=hat 0 (by simp)
   refine ⟨p,r,rfl,h0.2.2.2 rfl,?_⟩
   have hd : ∀ q ∈ r,1 ≤ q.f0:=by
    intro q hq
    obtain ⟨i,hi,rfl⟩:=List.getElem_of_mem hq
    have:=hat (i + 1) (by simp;omega)
    simp only [List.getElem_cons_succ] at this
    have h3:=this.2.2
    have h4:=this.2.1.1
    omega
   have hp0 : p.f0 = 0:=h0.2.2.2 rfl
   cases hg : p.f1 with
   | false =>
    left
    refine ⟨rfl,?_⟩
    cases r with
    | nil=>rfl
    | cons q r =>
     have h5:=hc.1.2 hg
     have:=hd q (by simp)
     omega
   | true =>
    right
    cases r with
    | nil=>have : p.f1 = false:=hc.1;rw [hg] at this;cases this
    | cons q r =>
     refine ⟨rfl,by simp,?_⟩
     have h5:=hc.1.1 hg
     have:=chn_Fr _ (q :: r) 1 (Nat.le_refl _) hc.2 (fun x hx=>by
      obtain rfl : q = x:=by simpa using hx
      omega)
     rwa [tw_all (fun x hx=>by simpa using hd x hx)] at this
 ·obtain ⟨i,hi,rfl⟩:=List.getElem_of_mem hm
  have:=hat i hi
  exact ⟨this.1,this.2.1⟩
theorem chn_at : ∀ (g : List Prt) (i : Nat) (_ : chn g) (hi : i < g.length),(∀ hn : i + 1 < g.length,(g[i].f1 = true → g[i + 1].f0 = g[i].f0 + 1) ∧ (g[i].f1 = false → g[i + 1].f0 ≤ g[i].f0)) ∧ (i + 1 = g.length → g[i].f1 = false):=by
 intro g
 induction g with
 | nil=>intro i _ hi;simp at hi
 | cons p r ih =>
  intro i hc hi
  cases i with
  | zero =>
   cases r with
   | nil=>exact ⟨fun hn=>by simp at hn,fun _=>hc.1⟩
   | cons q r=>exact ⟨fun _=>hc.1,fun he=>by simp at he⟩
  | succ i =>
   have:=ih i hc.2 (by simpa using hi)
   simp only [List.getElem_cons_succ,List.length_cons]
   exact ⟨fun hn=>this.1 (by omega),fun he=>this.2 (by omega)⟩
theorem vG_mk {t : List Cls} {g : List Prt} (hT : Tre g) (he : ∀ p ∈ g,okE t p ∧ p.f0 ≤ 5) (hl : g.length ≤ 16) (ht : vT t = true) : vG t g = true:=by
 have hF:=Tre_Fr hT
 have hc:=Fr_chn hF [] trivial (fun q hq=>by simp at hq)
 rw [List.append_nil] at hc
 have hz : ∀ j (hj : j < g.length),0 ≤ g[j].f0 ∧ (g[j].f0 = 0 ↔ j = 0):=by
  obtain ⟨p,r,rfl,h0,h⟩:=hT
  intro j hj
  cases j with
  | zero=>exact ⟨by simpa using Int.le_of_eq h0.symm,by simpa using h0⟩
  | succ j =>
   rcases h with ⟨_,rfl⟩ | ⟨_,_,hr⟩
   ·simp at hj
   ·have:=hr.depth.1 (r[j]'(by simpa using hj)) (List.getElem_mem _)
    simp only [List.getElem_cons_succ]
    omega
 unfold vG
 rw [ht,decide_eq_true hl,decide_eq_true (show 1 ≤ g.length by obtain ⟨p,r,rfl,_⟩:=hT;simp)]
 rw [Bool.true_and,Bool.and_true,Bool.and_true]
 refine psG_of (fun j hj=>?_)
 have h1:=he g[j] (List.getElem_mem _)
 have h2:=hz j hj
 have h3:=chn_at g j hc hj
 rw [getD_at hj]
 unfold okP okP1
 rw [endG_below]
 unfold belowB
 rw [getD_at hj]
 obtain ⟨⟨⟨a1,a2⟩,a3,a4⟩,a5⟩:=h1
 have e0 : ((g[j].f0 == 0) == ((j : Int) == 0)) = true:=by
  rw [beq_iff_eq]
  by_cases e : j = 0
  ·rw [h2.2.2 e,e];rfl
  ·rw [beq_eq_false_iff_ne.2 (fun hh=>e (h2.2.1 hh)),beq_eq_false_iff_ne.2 (by omega)]
 have e1 : (g[j].f1 && !(g[j].f2 == 0)) = false:=by
  cases hg : g[j].f1 with
  | false=>rfl
  | true=>rw [a3 hg];rfl
 have e2 : (!g[j].f1 && !hasC t g[j].f2) = false:=by
  cases hg : g[j].f1 with
  | true=>rfl
  | false=>rw [a4 hg];rfl
 rw [e0,e1,e2,decide_eq_true a1,decide_eq_true a2,decide_eq_true h2.1,decide_eq_true a5]
 simp only [Bool.and_self,Bool.not_false,Bool.true_and,Bool.and_eq_true]
 constructor
 ·by_cases e : j = 0
  ·rw [if_pos e]
  ·rw [if_neg e]
   obtain ⟨i,rfl⟩ : ∃ i,j = i + 1:=⟨j - 1,by omega⟩
   have h4:=(chn_at g i hc (by omega)).1 hj
   rw [show i + 1 - 1 = i by omega,getD_at (show i < g.length by omega)]
   unfold okUp
   cases hg : g[i].f1 with
   | true =>
    have:=h4.1 hg
    simp
    omega
   | false =>
    have:=h4.2 hg
    simp
    omega
 ·cases hg : g[j].f1 with
  | false=>rfl
  | true =>
   by_cases hn : j + 1 < g.length
   ·have:=(h3.1 hn).1 hg
    rw [decide_eq_true hn,getD_at hn,decide_eq_true (by omega)]
    rfl
   ·have:=h3.2 (by omega)
    rw [hg] at this
    cases this
end Go.Proofs.Ytfphcdbnnienhaa.P
namespace Go.Proofs.Ytfphcdbnnienhaa.P
open Go.RowKit Go.Proofs.YtfphcdbnnienhaaW.PrintWords Go.Proofs.YtfphcdbnnienhaaW.PrintLast Go.Proofs.YtfphcdbnnienhaaW.PrintMore
attribute [local go_sem] max2_int min2_int max_two min_two max_three min_three max_four min_four
set_option linter.unusedVariables false
set_option linter.unusedSimpArgs false
def lfQ (P : Prt → Bool) (q : Prt) : Bool:=!q.f1 && P q
def belw (p : Prt) (r : List Prt) : List Prt:=r.takeWhile (fun q=>decide (p.f0 < q.f0))
def selR (P : Prt → Bool) : List Prt → List Prt
 | []=>[]
 | p :: r=>(if (lfQ P p || (belw p r).any (lfQ P)) = true then [p] else []) ++ selR P r
theorem take_tw {α : Type} (p : α → Bool) : ∀ l : List α,l.take (l.takeWhile p).length = l.takeWhile p:=by
 intro l
 induction l with
 | nil=>rfl
 | cons x l ih =>
  rw [List.takeWhile_cons]
  split
  ·rw [List.length_cons,List.take_succ_cons,ih]
  ·rfl
theorem keepW_at (P : Prt → Bool) (g : List Prt) (i : Nat) (hi : i < g.length) : keepW P g i = (lfQ P g[i] || (belw g[i] (g.drop (i + 1))).any (lfQ P)):=by
 unfold keepW endG belw
 have e : g.getD i z47 = g[i]:=by simp [List.getD,hi]
 rw [e,List.drop_eq_getElem_cons hi]
 rw [show i + 1 + ((g.drop (i + 1)).takeWhile (fun q=>decide (g[i].f0 < q.f0))).length - i = ((g.drop (i + 1)).takeWhile (fun q=>decide (g[i].f0 < q.f0))).length + 1 by omega]
 rw [List.take_succ_cons,List.any_cons]
 have e2:=take_tw (fun q : Prt=>decide (g[i].f0 < q.f0)) (g.drop (i + 1))
 rw [e2]
 rfl
theorem selW_selR (P : Prt → Bool) (g : List Prt) : selW P g g.length = selR P g:=by
 have key : ∀ d j,j + d = g.length → selW P g j ++ selR P (g.drop j) = selW P g g.length:=by
  intro d
  induction d with
  | zero =>
   intro j hj
   have e : j = g.length:=by omega
   rw [e,List.drop_length]
   simp [selR]
  | succ d ih =>
   intro j hj
   have hlt : j < g.length:=by omega
   rw [← ih (j + 1) (by omega),selW_succ,List.drop_eq_getElem_cons hlt,selR,keepW_at P g j hlt,List.append_assoc]
   have e : g.getD j z47 = g[j]:=by simp [List.getD,hlt]
   rw [e]
 have:=key g.length 0 (by omega)
 rw [← this]
 simp [selW]
theorem selR_sub (P : Prt → Bool) : ∀ l : List Prt,(selR P l).Sublist l:=by
 intro l
 induction l with
 | nil=>exact List.Sublist.refl _
 | cons p r ih =>
  rw [selR]
  split
  ·exact ih.cons_cons p
  ·exact ih.cons p
theorem selR_none (P : Prt → Bool) : ∀ l : List Prt,l.any (lfQ P) = false → selR P l = []:=by
 intro l
 induction l with
 | nil=>intro _;rfl
 | cons p r ih =>
  intro h
  rw [List.any_cons,Bool.or_eq_false_iff] at h
  have hb : (belw p r).any (lfQ P) = false:=by
   rw [List.any_eq_false] at h ⊢
   exact fun x hx=>h.2 x ((List.takeWhile_sublist _).subset hx)
  rw [selR,h.1,hb,ih h.2]
  rfl
theorem selR_some (P : Prt → Bool) : ∀ l : List Prt,l.any (lfQ P) = true → selR P l ≠ []:=by
 intro l
 induction l with
 | nil=>intro h;simp at h
 | cons p r ih =>
  intro h
  rw [selR]
  cases hp : lfQ P p with
  | true=>simp
  | false =>
   rw [List.any_cons,hp,Bool.false_or] at h
   have:=ih h
   intro he
   exact this (List.append_eq_nil_iff.1 he).2
theorem belw_stop {q : Prt} : ∀ (k r : List Prt),(∀ h,r.head? = some h → h.f0 ≤ q.f0) → belw q (k ++ r) = belw q k:=by
 intro k
 induction k with
 | nil =>
  intro r hr
  cases r with
  | nil=>rfl
  | cons h r =>
   have:=hr h rfl
   unfold belw
   rw [List.nil_append,List.takeWhile_cons,if_neg (by simp;omega)]
   rfl
 | cons x k ih =>
  intro r hr
  unfold belw at ih ⊢
  rw [List.cons_append,List.takeWhile_cons,List.takeWhile_cons,ih r hr]
theorem selR_append (P : Prt → Bool) : ∀ (k r : List Prt),(∀ q ∈ k,∀ h,r.head? = some h → h.f0 ≤ q.f0) → selR P (k ++ r) = selR P k ++ selR P r:=by
 intro k
 induction k with
 | nil=>intro r _;rfl
 | cons p k ih =>
  intro r hr
  rw [List.cons_append,selR,selR,ih r (fun q hq=>hr q (by simp [hq])),belw_stop k r (hr p (by simp)),List.append_assoc]
theorem selR_leaf (P : Prt → Bool) {d : Int} {p : Prt} {r : List Prt} (h0 : p.f0 = d) (hr : Fr d r) : selR P (p :: r) = (if lfQ P p = true then [p] else []) ++ selR P r:=by
 have hb : belw p r = []:=by
  have:=belw_stop (q:=p) [] r (fun h hh=>by have:=hr.depth.2 h hh;omega)
  exact this
 rw [selR,hb,List.any_nil,Bool.or_false]
theorem selR_node (P : Prt → Bool) {d : Int} {p : Prt} {k r : List Prt} (h0 : p.f0 = d) (h1 : p.f1 = true) (hk : Fr (d + 1) k) (hr : Fr d r) : selR P (p :: (k ++ r)) = (if k.any (lfQ P) = true then p :: selR P k else []) ++ selR P r:=by
 have hb : belw p (k ++ r) = k:=by
  rw [belw_stop (q:=p) k r (fun h hh=>by have:=hr.depth.2 h hh;omega)]
  unfold belw
  exact tw_all (fun x hx=>by have:=hk.depth.1 x hx;simp;omega)
 have hl : lfQ P p = false:=by unfold lfQ;rw [h1];rfl
 rw [selR,hb,hl,Bool.false_or,selR_append P k r (fun q hq h hh=>by have:=hr.depth.2 h hh;have:=hk.depth.1 q hq;omega)]
 cases hc : k.any (lfQ P) with
 | true=>rfl
 | false=>rw [selR_none P k hc];rfl
theorem selR_Fr (P : Prt → Bool) {d : Int} {l : List Prt} (h : Fr d l) : Fr d (selR P l):=by
 refine Fr.rec2 (P:=fun d l=>Fr d (selR P l)) (fun d=>Fr.nil d) (fun d p r h0 h1 hr ih=>?_) (fun d p k r h0 h1 hne hk hr ihk ihr=>?_) h
 ·rw [selR_leaf P h0 hr]
  split
  ·exact Fr.leaf h0 h1 ih
  ·exact ih
 ·rw [selR_node P h0 h1 hk hr]
  cases hc : k.any (lfQ P) with
  | true=>exact Fr.node h0 h1 (selR_some P k hc) ihk ihr
  | false=>exact ihr
theorem selR_leaves (P : Prt → Bool) {d : Int} {l : List Prt} (h : Fr d l) : (selR P l).filter (fun q=>!q.f1) = (l.filter (fun q=>!q.f1)).filter P:=by
 refine Fr.rec2 (P:=fun d l=>(selR P l).filter (fun q=>!q.f1) = (l.filter (fun q=>!q.f1)).filter P) (fun d=>rfl) (fun d p r h0 h1 hr ih=>?_) (fun d p k r h0 h1 hne hk hr ihk ihr=>?_) h
 ·have e1 : (p :: r).filter (fun q=>!q.f1) = p :: r.filter (fun q=>!q.f1):=by rw [List.filter_cons,h1];rfl
  rw [selR_leaf P h0 hr,List.filter_append,ih,e1,List.filter_cons]
  unfold lfQ
  rw [h1]
  cases hP : P p with
  | true=>simp [h1]
  | false=>simp
 ·have e1 : ∀ s : List Prt,(p :: s).filter (fun q=>!q.f1) = s.filter (fun q=>!q.f1):=fun s=>by rw [List.filter_cons,h1];rfl
  rw [selR_node P h0 h1 hk hr,List.filter_append,ihr,e1,List.filter_append,List.filter_append]
  congr 1
  cases hc : k.any (lfQ P) with
  | true=>rw [if_pos rfl,e1,ihk]
  | false =>
   have:=ihk
   rw [selR_none P k hc] at this
   exact this
theorem any_leaves (P : Prt → Bool) (l : List Prt) : l.any (lfQ P) = (l.filter (fun q=>!q.f1)).any P:=by
 rw [List.any_filter]
 rfl
theorem selR_any (P Q : Prt → Bool) {d : Int} {l : List Prt} (h : Fr d l) : (selR P l).any (lfQ Q) = l.any (lfQ (fun q=>P q && Q q)):=by
 rw [any_leaves,any_leaves,selR_leaves P h,List.any_filter]
theorem selR_selR (P Q : Prt → Bool) {d : Int} {l : List Prt} (h : Fr d l) : selR Q (selR P l) = selR (fun q=>P q && Q q) l:=by
 refine Fr.rec2 (P:=fun d l=>selR Q (selR P l) = selR (fun q=>P q && Q q) l) (fun d=>rfl) (fun d p r h0 h1 hr ih=>?_) (fun d p k r h0 h1 hne hk hr ihk ihr=>?_) h
 ·rw [selR_leaf P h0 hr,selR_leaf (fun q=>P q && Q q) h0 hr,← ih]
  have hr2:=selR_Fr P hr
  unfold lfQ
  rw [h1]
  cases hP : P p with
  | false=>simp [hP]
  | true =>
   simp only [Bool.not_false,Bool.true_and,if_true,List.singleton_append]
   rw [selR_leaf Q h0 hr2]
   unfold lfQ
   rw [h1,hP]
   rfl
 ·rw [selR_node P h0 h1 hk hr,selR_node (fun q=>P q && Q q) h0 h1 hk hr,← ihr,← ihk,← selR_any P Q hk]
  have hr2:=selR_Fr P hr
  have hk2:=selR_Fr P hk
  cases hc : k.any (lfQ P) with
  | true =>
   rw [if_pos rfl,List.cons_append,selR_node Q h0 h1 hk2 hr2]
  | false =>
   rw [selR_none P k hc]
   rfl
theorem selR_all (P : Prt → Bool) {d : Int} {l : List Prt} (h : Fr d l) (hP : ∀ q ∈ l,q.f1 = false → P q = true) : selR P l = l:=by
 refine Fr.rec2 (P:=fun d l=>(∀ q ∈ l,q.f1 = false → P q = true) → selR P l = l ∧ (l ≠ [] → l.any (lfQ P) = true)) (fun d _=>⟨rfl,fun h=>absurd rfl h⟩) (fun d p r h0 h1 hr ih hq=>?_) (fun d p k r h0 h1 hne hk hr ihk ihr hq=>?_) h hP |>.1
 ·have hp:=hq p (by simp) h1
  have hl : lfQ P p = true:=by unfold lfQ;rw [h1,hp];rfl
  rw [selR_leaf P h0 hr,hl,if_pos rfl,(ih (fun q hh=>hq q (by simp [hh]))).1]
  exact ⟨rfl,fun _=>by rw [List.any_cons,hl];rfl⟩
 ·have hk3:=ihk (fun q hh=>hq q (by simp [hh]))
  rw [selR_node P h0 h1 hk hr,hk3.2 hne,if_pos rfl,hk3.1,(ihr (fun q hh=>hq q (by simp [hh]))).1]
  exact ⟨rfl,fun _=>by rw [List.any_cons,List.any_append,hk3.2 hne];simp⟩
theorem selR_Tre (P : Prt → Bool) {g : List Prt} (hT : Tre g) (hne : selR P g ≠ []) : Tre (selR P g) ∧ (selR P g).head? = g.head?:=by
 obtain ⟨p,r,rfl,h0,⟨h1,rfl⟩ | ⟨h1,h2,h3⟩⟩:=hT
 ·have e:=selR_leaf P h0 (Fr.nil 0)
  rw [e] at hne ⊢
  cases hl : lfQ P p with
  | false=>rw [hl] at hne;exact absurd rfl hne
  | true=>exact ⟨⟨p,[],rfl,h0,Or.inl ⟨h1,rfl⟩⟩,rfl⟩
 ·have e:=selR_node P h0 h1 h3 (Fr.nil 0)
  rw [List.append_nil] at e
  rw [e] at hne ⊢
  cases hc : r.any (lfQ P) with
  | false=>rw [hc] at hne;exact absurd rfl hne
  | true =>
   rw [if_pos rfl]
   refine ⟨⟨p,selR P r,by simp [selR],h0,Or.inr ⟨h1,selR_some P r hc,selR_Fr P h3⟩⟩,rfl⟩
theorem vG_sel {t : List Cls} {g : List Prt} (hv : vG t g = true) (P : Prt → Bool) (hne : selR P g ≠ []) : vG t (selR P g) = true:=by
 obtain ⟨hT,he,hl,ht⟩:=vG_tre hv
 have hs:=selR_sub P g
 exact vG_mk (selR_Tre P hT hne).1 (fun p hp=>⟨(he p (hs.subset hp)).1,(he p (hs.subset hp)).2.2⟩) (Nat.le_trans hs.length_le hl) ht
end Go.Proofs.Ytfphcdbnnienhaa.P
