/- Texts under the proof of FnExactRaiseWhile: helper words, the functions' contracts and the plain laws. No condition. -/
import Derived.Test.YtfhcfhffmblacaaQFnExactRaiseWhilea
import Derived.Test.YtfhcfhffmblacaaQFnExactRaiseWhileb
import Derived.Test.YtfhcfhffmblacaaQFnExactRaiseWhilec
namespace Go.Proofs.Ytfhcfhffmblacaa.P
open Go.RowKit Go.Proofs.YtfhcfhffmblacaaW.PrintWords Go.Proofs.YtfhcfhffmblacaaW.PrintLast Go.Proofs.YtfhcfhffmblacaaW.PrintMore
attribute [local go_sem] max2_int min2_int max_two min_two max_three min_three max_four min_four
set_option linter.unusedVariables false
set_option linter.unusedSimpArgs false
mutual
def spec_raised.j0 : Nat → Int → Int → Bool → List (S79) → Option ((List (S79)))
 | 0,_,_,_,_=>none
 | k + 1,x1,x2,x17,x7000=>if x17 = true then (some x7000) else (spec_raised.l0 k x1 x2 x2 x7000)
def spec_raised.l0 : Nat → Int → Int → Int → List (S79) → Option ((List (S79)))
 | 0,_,_,_,_=>none
 | k + 1,x1,x2,x8,x7000=>if 0 ≤ x8 then (if x8 < (x7000.length : Int) then (if ((rd_T79 x7000 x8).f3) ≥ 0 then (if ((rd_T79 x7000 x8).f3) = x1 then ((some (x7000.set (x8 : Int).toNat (⟨(rd_T79 x7000 x8).f0,(rd_T79 x7000 x8).f1,(rd_T79 x7000 x8).f2,(-1),(rd_T79 x7000 x8).f4⟩ : S79) : List (S79))).bind fun y9=>(if 0 ≤ x1 then (if x1 < (x7000.length : Int) then (some (y9.set (x1 : Int).toNat (⟨(rd_T79 y9 x1).f0,(rd_T79 y9 x1).f1,(rd_T79 y9 x1).f2,x2,(rd_T79 y9 x1).f4⟩ : S79))) else (none)) else (none))) else (spec_raised.l0 k x1 x2 ((rd_T79 x7000 x8).f3) x7000)) else (if 0 ≤ x1 then (if x1 < (x7000.length : Int) then (some (x7000.set (x1 : Int).toNat (⟨(rd_T79 x7000 x1).f0,(rd_T79 x7000 x1).f1,(rd_T79 x7000 x1).f2,x2,(rd_T79 x7000 x1).f4⟩ : S79))) else (none)) else (none))) else (none)) else (none)
end
def spec_raised.f (k : Nat) (l0_0 : List (S79)) (a1 : Int) (a2 : Int) : Option ((List (S79))):=(spec_copyHeap.f l0_0).bind fun t3=>(if a1 = a2 then (spec_raised.j0 k a1 a2 true t3) else (spec_raised.j0 k a1 a2 (decide (a2 < 0)) t3))
theorem spec_raised.mono_l : ∀ k,(∀ y0 y1 y2 y3,LeO (spec_raised.j0 k y0 y1 y2 y3) (spec_raised.j0 (k + 1) y0 y1 y2 y3)) ∧ (∀ y0 y1 y2 y3,LeO (spec_raised.l0 k y0 y1 y2 y3) (spec_raised.l0 (k + 1) y0 y1 y2 y3))
 | 0=>⟨fun _ _ _ _ r h=>by simp [spec_raised.j0] at h,fun _ _ _ _ r h=>by simp [spec_raised.l0] at h⟩
 | k + 1=>by
  obtain ⟨ih0,ih1⟩:=spec_raised.mono_l k
  refine ⟨?_,?_⟩
  ·intro y0 y1 y2 y3
   unfold spec_raised.j0
   repeat' first
   | (with_reducible exact ih0 _ _ _ _)
   | (with_reducible exact ih1 _ _ _ _)
   | (with_reducible exact LeO.refl _)
   | (with_reducible exact LeO.none _)
   | (with_reducible refine LeO.ite ?_ ?_)
   | (with_reducible refine LeO.bind ?_ (fun _=>?_))
   | exact ih0 _ _ _ _
   | exact ih1 _ _ _ _
   | exact LeO.none _
   | refine LeO.ite ?_ ?_
   | refine LeO.bind ?_ (fun _=>?_)
  ·intro y0 y1 y2 y3
   unfold spec_raised.l0
   repeat' first
   | (with_reducible exact ih0 _ _ _ _)
   | (with_reducible exact ih1 _ _ _ _)
   | (with_reducible exact LeO.refl _)
   | (with_reducible exact LeO.none _)
   | (with_reducible refine LeO.ite ?_ ?_)
   | (with_reducible refine LeO.bind ?_ (fun _=>?_))
   | exact ih0 _ _ _ _
   | exact ih1 _ _ _ _
   | exact LeO.none _
   | refine LeO.ite ?_ ?_
   | refine LeO.bind ?_ (fun _=>?_)
theorem spec_raised.mono : ∀ a0 a1 a2 k,LeO (spec_raised.f k a0 a1 a2) (spec_raised.f (k + 1) a0 a1 a2):=by
 intro a0 a1 a2 k
 obtain ⟨ih0,ih1⟩:=spec_raised.mono_l k
 unfold spec_raised.f
 repeat' first
   | (with_reducible exact ih0 _ _ _ _)
   | (with_reducible exact ih1 _ _ _ _)
   | (with_reducible exact LeO.refl _)
   | (with_reducible exact LeO.none _)
   | (with_reducible refine LeO.ite ?_ ?_)
   | (with_reducible refine LeO.bind ?_ (fun _=>?_))
   | exact ih0 _ _ _ _
   | exact ih1 _ _ _ _
   | exact LeO.none _
   | refine LeO.ite ?_ ?_
   | refine LeO.bind ?_ (fun _=>?_)
set_option maxHeartbeats 8000000 in
set_option maxRecDepth 100000 in
theorem spec_raised.calls (k : Nat) (A0_0 : Option Addr) (c0_0 : Nat) (l0_0 : List (S79)) (a1 : Int) (a2 : Int) (r : List (S79)) (w : World) (hr0_0 : Kd.C k79 w A0_0 l0_0.length l0_0) (hc0_0 : l0_0.length ≤ c0_0) (h : spec_raised.f k l0_0 a1 a2 = some r) :
  Calls Try.prog 80 #[.agg #[.slice A0_0 l0_0.length c0_0],.int .i64 a1,.int .i64 a2] w fun e w'=>∃ v0_ : Value,e = .returned (.agg #[v0_]) ∧ Kd.R k79 79 w' w.heap.size (fun _=>True) v0_ r ∧ Below w.heap.size w w':=by
 have hu37:=Try.underlying37
 have HR0_0:=a0_ hr0_0
 have HC0_0:=a0_ hc0_0
 clear hr0_0 hc0_0
 have HB:=a0_ (Below.refl w.heap.size w)
 have H : ((spec_copyHeap.f l0_0).bind fun t3=>(if a1 = a2 then (spec_raised.j0 k a1 a2 true t3) else (spec_raised.j0 k a1 a2 (decide (a2 < 0)) t3))) = some r:=h
 clear h
 replace H:=Option.bind_eq_some_iff.mp H
 obtain ⟨t3,A40,H⟩:=H
 replace H : (if a1 = a2 then (spec_raised.j0 k a1 a2 true t3) else (spec_raised.j0 k a1 a2 (decide (a2 < 0)) t3)) = some r:=H
 have A4:=a0_ A40
 clear A40
 have HC5:=a0_ H
 clear H
 go_enter Try.func80,Try.ntmps80
 go_upto_region 2 with (first | ((with_reducible refine gate_dst (N:=3) rfl ?_);refine box_event ?hg (N:=3) ?hd (cs:=#[.slice A0_0 l0_0.length c0_0]) (t:=37) ?hr ?_;(case hd=>rfl);(case hg=>rfl);(case hr=>first | (go_simp;done) | (go_simp;rfl));intro gb1 hg w6 hbox hb;have BK1:=a0_ (hbox);have GW1:=a0_ ((by rw [hg];exact (below_size hb_) : w.heap.size ≤ gb1));have GE1:=a0_ ((by rw [hg];exact (below_size hb_) : w.heap.size ≤ gb1));replace HB:=a0_ (below_step hb_ hb);clear hb hbox hg) | ((with_reducible refine gate_dst (N:=6) rfl ?_);refine box_event ?hg (N:=6) ?hd (cs:=#[.slice none 0 0]) (t:=37) ?hr ?_;(case hd=>rfl);(case hg=>rfl);(case hr=>first | (go_simp;done) | (go_simp;rfl));intro gb2 hg w7 hbox hb;have n0_:=kb_ BK1 hb;have n1_:=a0_ (below_step hb_ hb);have n2_:=a0_ (hbox);have n3_:=a0_ ((by rw [hg];exact (below_size hb_) : w.heap.size ≤ gb2));have n4_:=a0_ ((by rw [hg];exact (below_size hb_) : w.heap.size ≤ gb2));have n5_:=a0_ ((by rw [hg];exact Nat.ne_of_lt (blk_lt (bb_ BK1.out)) : gb1 ≠ gb2));have n6_:=a0_ ((by rw [hg];exact Nat.ne_of_gt (blk_lt (bb_ BK1.out)) : gb2 ≠ gb1));clear BK1 HB;have BK1:=n0_;have HB:=n1_;have BK2:=n2_;have GW2:=n3_;have GE2:=n4_;have NB1_2:=n5_;have NB2_1:=n6_;clear n0_ n1_ n2_ n3_ n4_ n5_ n6_;clear hb hbox hg;have hnb8:=NB1_2.out;have hnc8:=NB2_1.out;have hcz9_0 : w7.cell? ⟨gb1,0,none⟩ = some (.slice A0_0 l0_0.length c0_0):=(blk_cell BK1.out 0).trans rfl;have hfz9_0:=blk_frozen BK1.out 0) | ((with_reducible refine gate_callee (f:=74) rfl ?_);refine goesL_ (some 10) rfl rfl Try.func74 (by kernel_rfl) rfl #[.agg #[.slice A0_0 l0_0.length c0_0]] rfl lm_ ?_;(with_reducible refine (spec_copyHeap.calls _ _ l0_0 t3 _ ?side1 ?side2 A4.out).mono ?_);(case side1=>exact cc_ (Kd.C_below HR0_0.out HB.out));(case side2=>exact HC0_0.out);rintro e w10 ⟨v4,rfl,ho0,hb⟩;refine ⟨_,rfl,?_⟩;have HO5:=a0_ (Kd.R_lower ho0 (below_size hb_));replace BK1:=kb_ BK1 hb;replace BK2:=kb_ BK2 hb;replace HB:=a0_ (below_step hb_ hb);(try clear hb);(try clear ho0)) | ((with_reducible refine gate_dst (N:=7) rfl ?_);refine box_event ?hg (N:=7) ?hd (cs:=#[.slice none 0 0]) (t:=37) ?hr ?_;(case hd=>rfl);(case hg=>rfl);(case hr=>first | (go_simp;done) | (go_simp;rfl));intro gb6 hg w11 hbox hb;have n0_:=rb_ HO5 hb;have n1_:=kb_ BK1 hb;have n2_:=kb_ BK2 hb;have n3_:=a0_ (below_step hb_ hb);have n4_:=a0_ (hbox);have n5_:=a0_ ((by rw [hg];exact (below_size hb_) : w.heap.size ≤ gb6));have n6_:=a0_ ((by rw [hg];exact (below_size hb_) : w.heap.size ≤ gb6));have n7_:=a0_ ((by rw [hg];exact Nat.ne_of_lt (blk_lt (bb_ BK1.out)) : gb1 ≠ gb6));have n8_:=a0_ ((by rw [hg];exact Nat.ne_of_gt (blk_lt (bb_ BK1.out)) : gb6 ≠ gb1));have n9_:=a0_ ((by rw [hg];exact Nat.ne_of_lt (blk_lt (bb_ BK2.out)) : gb2 ≠ gb6));have n10_:=a0_ ((by rw [hg];exact Nat.ne_of_gt (blk_lt (bb_ BK2.out)) : gb6 ≠ gb2));clear HO5 BK1;clear BK2 HB;have HO5:=n0_;have BK1:=n1_;have BK2:=n2_;have HB:=n3_;have BK6:=n4_;have GW6:=n5_;have GE6:=n6_;have NB1_6:=n7_;have NB6_1:=n8_;have NB2_6:=n9_;have NB6_2:=n10_;clear n0_ n1_ n2_ n3_ n4_ n5_ n6_ n7_ n8_ n9_ n10_;clear hb hbox hg;obtain ⟨Ao12,co12,eo12⟩:=Kd.R_slice HO5.out;subst eo12;have hnb13:=NB6_1.out;have hnc13:=NB1_6.out;have hnb14:=NB6_2.out;have hnc14:=NB2_6.out;have hcz15_0 : w11.cell? ⟨gb6,0,none⟩ = some (.slice none 0 0):=(blk_cell BK6.out 0).trans rfl;have hfz15_0:=blk_frozen BK6.out 0))
 (try simp only [Act.put,s1_,s2_,s3_])
 go_cut [17] (fun v17 wc=>∃ (kq : Nat) (x17_4 : Bool),v17 = .bool x17_4 ∧ Aside0 (spec_raised.j0 kq a1 a2 x17_4 t3 = some r) ∧ Aside0 (kq ≤ k) ∧ Aside0 (Kd.R k79 79 wc w.heap.size (fun _=>True) (.slice Ao12 t3.length co12) t3) ∧ Aside0 (wc.heap[gb1]? = some (.cells #[(.slice A0_0 l0_0.length c0_0)] 37 (0,0))) ∧ Aside0 (wc.heap[gb2]? = some (.cells #[(.slice none 0 0)] 37 (0,0))) ∧ Aside0 (wc.heap[gb6]? = some (.cells #[(.slice Ao12 t3.length co12)] 37 (0,0))) ∧ Aside0 (Below w.heap.size w wc))
 case first =>
  have H:=HC5.out
  clear HC5
  by_cases c16 : a1 = a2
  ·rw [if_pos c16] at H
   have c16b0 : (a1 == a2) = true:=beq_iff_eq.mpr c16
   have c16b1 : (a1 != a2) = false:=bne_eq_false_iff_eq.mpr c16
   clear c16
   (first | rw [c16b0] | (simp only [i64_w,i32_w];rw [c16b0]) | skip)
   have H':=a0_ H
   clear H
   go_wp2
   go_meet
   case rel=>exact ⟨_,(true),(by first | rfl | (simp;done) | (simp [*];done)),H',⟨by first | omega | exact Nat.le_refl _⟩,⟨by (with_reducible repeat (first | apply Kd.R_alloc | apply Kd.R_drewN | apply Kd.R_drew));exact Kd.R_mono (Kd.R_far (p:=⟨gb6,0,none⟩) (Kd.R_types HO5.out BK6.out (by decide)) (fun _ hk=>hk.2) (.slice Ao12 t3.length co12)) (fun _ hk=>trivial)⟩,⟨by (with_reducible repeat (first | refine blk_drewN ?_ _ | refine blk_drew ?_ | refine blk_alloc ?_ _));refine blk_far ?_ NB1_6.out _;(with_reducible repeat (first | refine blk_drewN ?_ _ | refine blk_drew ?_ | refine blk_alloc ?_ _));exact BK1.out⟩,⟨by (with_reducible repeat (first | refine blk_drewN ?_ _ | refine blk_drew ?_ | refine blk_alloc ?_ _));refine blk_far ?_ NB2_6.out _;(with_reducible repeat (first | refine blk_drewN ?_ _ | refine blk_drew ?_ | refine blk_alloc ?_ _));exact BK2.out⟩,⟨by (with_reducible repeat (first | refine blk_drewN ?_ _ | refine blk_drew ?_ | refine blk_alloc ?_ _));refine blk_put (cs:=#[.slice none 0 0]) ?_ 0 _ rfl;(with_reducible repeat (first | refine blk_drewN ?_ _ | refine blk_drew ?_ | refine blk_alloc ?_ _));exact BK6.out⟩,⟨hb_⟩⟩
  ·rw [if_neg c16] at H
   have c16b0 : (a1 == a2) = false:=beq_eq_false_iff_ne.mpr c16
   have c16b1 : (a1 != a2) = true:=bne_iff_ne.mpr c16
   (first | rw [c16b0] | (simp only [i64_w,i32_w];rw [c16b0]) | skip)
   have H':=a0_ H
   clear H
   go_wp2
   go_meet
   case rel=>exact ⟨_,(decide (a2 < 0)),(by first | rfl | (simp;done) | (simp [*];done)),H',⟨by first | omega | exact Nat.le_refl _⟩,⟨by (with_reducible repeat (first | apply Kd.R_alloc | apply Kd.R_drewN | apply Kd.R_drew));exact Kd.R_mono (Kd.R_far (p:=⟨gb6,0,none⟩) (Kd.R_types HO5.out BK6.out (by decide)) (fun _ hk=>hk.2) (.slice Ao12 t3.length co12)) (fun _ hk=>trivial)⟩,⟨by (with_reducible repeat (first | refine blk_drewN ?_ _ | refine blk_drew ?_ | refine blk_alloc ?_ _));refine blk_far ?_ NB1_6.out _;(with_reducible repeat (first | refine blk_drewN ?_ _ | refine blk_drew ?_ | refine blk_alloc ?_ _));exact BK1.out⟩,⟨by (with_reducible repeat (first | refine blk_drewN ?_ _ | refine blk_drew ?_ | refine blk_alloc ?_ _));refine blk_far ?_ NB2_6.out _;(with_reducible repeat (first | refine blk_drewN ?_ _ | refine blk_drew ?_ | refine blk_alloc ?_ _));exact BK2.out⟩,⟨by (with_reducible repeat (first | refine blk_drewN ?_ _ | refine blk_drew ?_ | refine blk_alloc ?_ _));refine blk_put (cs:=#[.slice none 0 0]) ?_ 0 _ rfl;(with_reducible repeat (first | refine blk_drewN ?_ _ | refine blk_drew ?_ | refine blk_alloc ?_ _));exact BK6.out⟩,⟨hb_⟩⟩
 case rest =>
  clear HC5
  try clear c1
  try clear p2
  try clear c7
  try clear c8
  try clear c13
  try clear c14
  try clear c16
  try clear c16b0
  try clear c16b1
  try clear hcz15_0
  try clear hcz9_0
  try clear hfz15_0
  try clear hfz9_0
  obtain ⟨kq,x17_4,rfl,HA,HJ4,Z7,BK1,BK2,BK6,HB⟩:=hcut
  cases kq with
  | zero=>exact absurd HA.out (by simp [spec_raised.j0])
  | succ kj4 =>
   have H:=HA.out
   clear HA
   simp only [spec_raised.j0] at H
   by_cases c17 : x17_4 = true
   ·subst c17
    have H1 : (some t3) = some r:=by rw [if_pos rfl] at H;exact H
    clear H
    have H:=H1
    clear H1
    obtain rfl:=Option.some.inj H
    have hnb18:=NB6_1.out
    have hnc18:=NB1_6.out
    have hnb19:=NB6_2.out
    have hnc19:=NB2_6.out
    have hcz20_0 : wc.cell? ⟨gb6,0,none⟩ = some (.slice Ao12 t3.length co12):=(blk_cell BK6.out 0).trans rfl
    have hfz20_0:=blk_frozen BK6.out 0
    have hnb21:=NB2_1.out
    have hnc21:=NB1_2.out
    have hcz22_0 : wc.cell? ⟨gb2,0,none⟩ = some (.slice none 0 0):=(blk_cell BK2.out 0).trans rfl
    have hfz22_0:=blk_frozen BK2.out 0
    go_wp2
    refine bodyPost_ret (results_cell_row rfl _ _ gb2 37 #[.slice Ao12 t3.length co12] (0,0) _ rfl (by (with_reducible repeat (first | refine blk_drewN ?_ _ | refine blk_drew ?_ | refine blk_alloc ?_ _));refine blk_put (cs:=#[.slice none 0 0]) ?_ 0 _ rfl;(with_reducible repeat (first | refine blk_drewN ?_ _ | refine blk_drew ?_ | refine blk_alloc ?_ _));exact BK2.out) Try.underlying37 rfl (by kernel_rfl)) rfl ?_
    exact ⟨_,by first | rfl | (simp [errW_none,errW_some] <;> rfl) | (simp [*,errW_none,errW_some] <;> rfl),by (with_reducible repeat (first | apply Kd.R_alloc | apply Kd.R_drewN | apply Kd.R_drew));exact Kd.R_mono (Kd.R_far (p:=⟨gb2,0,none⟩) (Kd.R_types Z7.out BK2.out (by decide)) (fun _ hk=>hk.2) (.slice Ao12 t3.length co12)) (fun _ hk=>trivial),hb_⟩
   ·replace c17:=Bool.eq_false_iff.mpr c17
    subst c17
    have H1 : (spec_raised.l0 kj4 a1 a2 a2 t3) = some r:=by rw [if_neg (show ¬ (false = true) by decide)] at H;exact H
    clear H
    have H:=H1
    clear H1
    have H':=a0_ H
    clear H
    go_wp2
    go_loopg [8] kj4 (fun kq v8 w'=>∃ (x8_2 : Int) (x7000_2 : List (S79)) (u7000 : Value),v8 = .int .i64 x8_2 ∧ Aside0 (spec_raised.l0 kq a1 a2 x8_2 x7000_2 = some r) ∧ Aside0 (kq ≤ kj4) ∧ Aside0 (Kd.R k79 79 w' w.heap.size (fun _=>True) u7000 x7000_2) ∧ Aside0 (w'.heap[gb1]? = some (.cells #[(.slice A0_0 l0_0.length c0_0)] 37 (0,0))) ∧ Aside0 (w'.heap[gb2]? = some (.cells #[(.slice none 0 0)] 37 (0,0))) ∧ Aside0 (w'.heap[gb6]? = some (.cells #[u7000] 37 (0,0))) ∧ Aside0 (Below w.heap.size w w'))
    case atStart=>exact ⟨(a2),(t3),(.slice Ao12 t3.length co12),(by first | rfl | (simp;done) | (simp [*];done)),H',⟨Nat.le_refl _⟩,⟨by (with_reducible repeat (first | apply Kd.R_alloc | apply Kd.R_drewN | apply Kd.R_drew));exact Z7.out⟩,⟨by (with_reducible repeat (first | refine blk_drewN ?_ _ | refine blk_drew ?_ | refine blk_alloc ?_ _));exact BK1.out⟩,⟨by (with_reducible repeat (first | refine blk_drewN ?_ _ | refine blk_drew ?_ | refine blk_alloc ?_ _));exact BK2.out⟩,⟨by (with_reducible repeat (first | refine blk_drewN ?_ _ | refine blk_drew ?_ | refine blk_alloc ?_ _));exact BK6.out⟩,⟨hb_⟩⟩
    case round =>
     clear H'
     try clear c1
     try clear c2
     try clear p2
     try clear c7
     try clear c8
     try clear c13
     try clear c14
     try clear c16
     try clear c16b0
     try clear c16b1
     try clear c17
     try clear c18
     try clear c19
     try clear c21
     try clear hcz15_0
     try clear hcz20_0
     try clear hcz22_0
     try clear hcz9_0
     try clear hfz15_0
     try clear hfz20_0
     try clear hfz22_0
     try clear hfz9_0
     try clear p2
     obtain ⟨x8_2,x7000_2,u7000,rfl,HA,HK2,Z7,BK1,BK2,BK6,HB⟩:=hrel
     cases gk with
     | zero=>exact absurd HA.out (by simp [spec_raised.l0])
     | succ k2 =>
      have H:=HA.out
      clear HA
      simp only [spec_raised.l0] at H
      by_cases c23 : 0 ≤ x8_2
      ·rw [if_pos c23] at H
       have c23b0 : decide (0 ≤ x8_2) = true:=decide_eq_true c23
       clear c23
       by_cases c24 : x8_2 < (x7000_2.length : Int)
       ·rw [if_pos c24] at H
        have c24b0 : decide (x8_2 < (x7000_2.length : Int)) = true:=decide_eq_true c24
        clear c24
        by_cases c25 : ((rd_T79 x7000_2 x8_2).f3) ≥ 0
        ·rw [if_pos c25] at H
         have c25b0 : decide (0 ≤ ((rd_T79 x7000_2 x8_2).f3)) = true:=decide_eq_true c25
         clear c25
         by_cases c26 : ((rd_T79 x7000_2 x8_2).f3) = a1
         ·rw [if_pos c26] at H
          have c26b0 : (((rd_T79 x7000_2 x8_2).f3) == a1) = true:=beq_iff_eq.mpr c26
          have c26b1 : (((rd_T79 x7000_2 x8_2).f3) != a1) = false:=bne_eq_false_iff_eq.mpr c26
          clear c26
          obtain ⟨y9,hy9⟩ : ∃ y_ : List (S79),y_ = (x7000_2.set (x8_2 : Int).toNat (⟨(rd_T79 x7000_2 x8_2).f0,(rd_T79 x7000_2 x8_2).f1,(rd_T79 x7000_2 x8_2).f2,(-1),(rd_T79 x7000_2 x8_2).f4⟩ : S79)):=⟨_,rfl⟩
          replace H : (if 0 ≤ a1 then (if a1 < (x7000_2.length : Int) then (some (y9.set (a1 : Int).toNat (⟨(rd_T79 y9 a1).f0,(rd_T79 y9 a1).f1,(rd_T79 y9 a1).f2,a2,(rd_T79 y9 a1).f4⟩ : S79))) else (none)) else (none)) = some r:=by first | (rw [hy9];with_reducible exact H) | (have H2_:=(Option.bind_some _ _).symm.trans H;rw [hy9];with_reducible exact H2_) | (have H2_:=(Option.bind_some _ _).symm.trans H;with_reducible exact H2_) | with_reducible exact H | (rw [hy9];exact H) | exact H
          have Ny9:=a0_ hy9
          clear hy9
          by_cases c28 : 0 ≤ a1
          ·rw [if_pos c28] at H
           have c28b0 : decide (0 ≤ a1) = true:=decide_eq_true c28
           clear c28
           by_cases c29 : a1 < (x7000_2.length : Int)
           ·rw [if_pos c29] at H
            have c29b0 : decide (a1 < (x7000_2.length : Int)) = true:=decide_eq_true c29
            clear c29
            obtain ⟨y10,hy10⟩ : ∃ y_ : List (S79),y_ = (y9.set (a1 : Int).toNat (⟨(rd_T79 y9 a1).f0,(rd_T79 y9 a1).f1,(rd_T79 y9 a1).f2,a2,(rd_T79 y9 a1).f4⟩ : S79)):=⟨_,rfl⟩
            replace H : (some y10) = some r:=by first | (rw [hy10];with_reducible exact H) | (have H2_:=(Option.bind_some _ _).symm.trans H;rw [hy10];with_reducible exact H2_) | (have H2_:=(Option.bind_some _ _).symm.trans H;with_reducible exact H2_) | with_reducible exact H | (rw [hy10];exact H) | exact H
            have Ny10:=a0_ hy10
            clear hy10
            obtain rfl:=Option.some.inj H
            have hnb31:=NB6_1.out
            have hnc31:=NB1_6.out
            have hnb32:=NB6_2.out
            have hnc32:=NB2_6.out
            have hcz33_0 : wr.cell? ⟨gb6,0,none⟩ = some (u7000):=(blk_cell BK6.out 0).trans rfl
            have hfz33_0:=blk_frozen BK6.out 0
            obtain ⟨Ao34,co34,eo34⟩:=Kd.R_slice Z7.out
            subst eo34
            have p7 : 0 ≤ (x8_2 : Int):=of_decide_eq_true (by first | (with_reducible assumption) | assumption)
            have q7 : x8_2 < (x7000_2.length : Int):=of_decide_eq_true (by first | (with_reducible assumption) | assumption)
            obtain ⟨ad7,e7,hx7_0,hx7_1,hx7_2,hx7_3,hx7_4⟩:=at_T79 (Kd.R_reads' Z7.out).2.2 x8_2 p7 q7
            cases e7
            replace p7:=eq_true p7
            replace q7:=eq_true q7
            have p8 : 0 ≤ (x8_2 : Int):=of_decide_eq_true (by first | (with_reducible assumption) | assumption)
            have q8 : x8_2 < (x7000_2.length : Int):=of_decide_eq_true (by first | (with_reducible assumption) | assumption)
            obtain ⟨ad8,e8,hx8_0,hx8_1,hx8_2,hx8_3,hx8_4⟩:=at_T79 (Kd.R_reads' Z7.out).2.2 x8_2 p8 q8
            obtain rfl : ad7 = ad8:=(by injection e8)
            replace p8:=eq_true p8
            replace q8:=eq_true q8
            have p27 : 0 ≤ (x8_2 : Int):=of_decide_eq_true (by first | (with_reducible assumption) | assumption)
            have q27 : (x8_2 : Int) < ((x7000_2.length : Int) : Int):=of_decide_eq_true (by first | (with_reducible assumption) | assumption)
            obtain ⟨go27,co27,eo27,gb27,gl27,cl27,HG27⟩:=Kd.R_form Z7.out (by omega)
            (first | cases eo27 | (injection eo27 with ea_ en_ ec_;(first | subst ea_ | (injection ea_ with ea_;subst ea_));subst ec_;clear en_))
            have GB27:=a0_ gb27
            have GG27:=a0_ HG27
            clear gb27 gl27 HG27
            (first | simp only [add_plain] at hx7_0 | skip)
            (first | simp only [add_plain] at hx7_1 | skip)
            (first | simp only [add_plain] at hx7_2 | skip)
            (first | simp only [add_plain] at hx7_3 | skip)
            (first | simp only [add_plain] at hx7_4 | skip)
            (first | simp only [add_plain] at hx8_0 | skip)
            (first | simp only [add_plain] at hx8_1 | skip)
            (first | simp only [add_plain] at hx8_2 | skip)
            (first | simp only [add_plain] at hx8_3 | skip)
            (first | simp only [add_plain] at hx8_4 | skip)
            obtain ⟨ce27,hcl27,hM27,hcc27,hfr27⟩:=Kd.R_elem Z7.out z79 (x8_2 : Int) p27 q27
            obtain rfl:=k79_openM hM27
            have hx27_0 : wr.cell? ⟨go27,(x8_2 : Int).toNat * 5,none⟩ = some (.int .i64 ((rd_T79 x7000_2 x8_2).f0)):=hcc27 0 _ rfl
            have hx27_1 : wr.cell? ⟨go27,(x8_2 : Int).toNat * 5 + 1,none⟩ = some (.int .i64 ((rd_T79 x7000_2 x8_2).f1)):=hcc27 1 _ rfl
            have hx27_2 : wr.cell? ⟨go27,(x8_2 : Int).toNat * 5 + 2,none⟩ = some (.int .i64 ((rd_T79 x7000_2 x8_2).f2)):=hcc27 2 _ rfl
            have hx27_3 : wr.cell? ⟨go27,(x8_2 : Int).toNat * 5 + 3,none⟩ = some (.int .i64 ((rd_T79 x7000_2 x8_2).f3)):=hcc27 3 _ rfl
            have hx27_4 : wr.cell? ⟨go27,(x8_2 : Int).toNat * 5 + 4,none⟩ = some (.bool ((rd_T79 x7000_2 x8_2).f4)):=hcc27 4 _ rfl
            have hf27_0 : wr.frozen? ⟨go27,(x8_2 : Int).toNat * 5,none⟩ = false:=hfr27 0
            have hf27_1 : wr.frozen? ⟨go27,(x8_2 : Int).toNat * 5 + 1,none⟩ = false:=hfr27 1
            have hf27_2 : wr.frozen? ⟨go27,(x8_2 : Int).toNat * 5 + 2,none⟩ = false:=hfr27 2
            have hf27_3 : wr.frozen? ⟨go27,(x8_2 : Int).toNat * 5 + 3,none⟩ = false:=hfr27 3
            have hf27_4 : wr.frozen? ⟨go27,(x8_2 : Int).toNat * 5 + 4,none⟩ = false:=hfr27 4
            clear hcl27 hcc27 hfr27 hM27
            replace p27:=eq_true p27
            replace q27:=eq_true q27
            have HX35:=a0_ (show Kd.R k79 79 wr w.heap.size (fun _=>True) (.slice (some ⟨go27,0,none⟩) x7000_2.length co34) x7000_2 from (rr_ Z7.out))
            obtain ⟨ce35,hcl35,hM35,hcc35,hfr35⟩:=Kd.R_elem HX35.out z79 (x8_2 : Int) (of_decide_eq_true (by first | (with_reducible assumption) | assumption)) (by have h_ : (x8_2 : Int) < ((x7000_2.length : Int) : Int):=of_decide_eq_true (by first | (with_reducible assumption) | assumption);first | exact h_ | (have e_:=(Kd.R_reads' Z7.out).1;omega) | simpa using h_)
            obtain rfl:=k79_openM hM35
            have HP35:=Kd.R_seg HX35.out (x8_2 : Int) (of_decide_eq_true (by first | (with_reducible assumption) | assumption)) (by have h_ : (x8_2 : Int) < ((x7000_2.length : Int) : Int):=of_decide_eq_true (by first | (with_reducible assumption) | assumption);first | exact h_ | (have e_:=(Kd.R_reads' Z7.out).1;omega) | simpa using h_) (seg:=[.int .i64 (-1)]) (j:=3) hcl35 hcc35 (show 4 ≤ 5 from by decide) (x':=(⟨(rd_T79 x7000_2 x8_2).f0,(rd_T79 x7000_2 x8_2).f1,(rd_T79 x7000_2 x8_2).f2,(-1),(rd_T79 x7000_2 x8_2).f4⟩ : S79)) (k79_mkM _ _ _ (⟨(rd_T79 x7000_2 x8_2).f0,(rd_T79 x7000_2 x8_2).f1,(rd_T79 x7000_2 x8_2).f2,(-1),(rd_T79 x7000_2 x8_2).f4⟩ : S79) ) (fun _ hk=>hk)
            have hx35_3:=hcc35 3 _ rfl
            (try simp only [show (k79).sz = 5 from rfl,Nat.mul_one,Nat.add_zero] at hx35_3)
            have hf35_3:=hfr35 3
            (try simp only [show (k79).sz = 5 from rfl,Nat.mul_one,Nat.add_zero] at hf35_3)
            clear hcl35 hcc35 hfr35 hM35
            go_wp2_with (first | ((with_reducible refine gate_store (t:=3) (p:=45) rfl ?_);refine store_event (t:=3) (p:=45) (v:=?vo_w36) (w1:=(wr.setCell ⟨go27,(x8_2 : Int).toNat * 5 + 3,none⟩ (.int .i64 (-1)))) ?hg ?ho ?hn ?hr ?_;(case ho=>rfl);(case hg=>rfl);(case hn=>rfl);(case hr=>first | (go_simp;done) | (go_simp;rfl));intro w36 hw;have hg : wr.grownBy w36 (some go27):=(by rw [hw];exact HP35.2);have hp_ : Kd.R k79 79 w36 w.heap.size (fun _=>True) (.slice (some ⟨go27,0,none⟩) x7000_2.length co34) y9:=(by rw [hw,Ny9.out];exact HP35.1);clear HP35;have n0_:=a0_ (hp_);have n1_:=a0_ (blk_grown (bb_ BK1.out) hg (Kd.R_ne Z7.out BK1.out (by decide)));have n2_:=a0_ (blk_grown (bb_ BK2.out) hg (Kd.R_ne Z7.out BK2.out (by decide)));have n3_:=a0_ (blk_grown (bb_ BK6.out) hg (Kd.R_ne Z7.out BK6.out (by decide)));have n4_:=a0_ ((by rw [hw];exact below_set (HB.out) GB27.out : Below w.heap.size w w36));clear Z7 BK1;clear BK2 BK6 HB;have Z7:=n0_;have BK1:=n1_;have BK2:=n2_;have BK6:=n3_;have HB:=n4_;clear n0_ n1_ n2_ n3_ n4_;clear hg hw hp_;have hcz37_0 : w36.cell? ⟨gb6,0,none⟩ = some (.slice (some ⟨go27,0,none⟩) x7000_2.length co34):=(blk_cell BK6.out 0).trans rfl;have hfz37_0:=blk_frozen BK6.out 0;have p30 : 0 ≤ (a1 : Int):=of_decide_eq_true (by first | (with_reducible assumption) | assumption);have q30 : (a1 : Int) < ((x7000_2.length : Int) : Int):=of_decide_eq_true (by first | (with_reducible assumption) | assumption);obtain ⟨ce30,hcl30,hM30,hcc30,hfr30⟩:=Kd.R_elem Z7.out z79 (a1 : Int) p30 q30;obtain rfl:=k79_openM hM30;have hx30_0 : w36.cell? ⟨go27,(a1 : Int).toNat * 5,none⟩ = some (.int .i64 ((rd_T79 y9 a1).f0)):=hcc30 0 _ rfl;have hx30_1 : w36.cell? ⟨go27,(a1 : Int).toNat * 5 + 1,none⟩ = some (.int .i64 ((rd_T79 y9 a1).f1)):=hcc30 1 _ rfl;have hx30_2 : w36.cell? ⟨go27,(a1 : Int).toNat * 5 + 2,none⟩ = some (.int .i64 ((rd_T79 y9 a1).f2)):=hcc30 2 _ rfl;have hx30_3 : w36.cell? ⟨go27,(a1 : Int).toNat * 5 + 3,none⟩ = some (.int .i64 ((rd_T79 y9 a1).f3)):=hcc30 3 _ rfl;have hx30_4 : w36.cell? ⟨go27,(a1 : Int).toNat * 5 + 4,none⟩ = some (.bool ((rd_T79 y9 a1).f4)):=hcc30 4 _ rfl;have hf30_0 : w36.frozen? ⟨go27,(a1 : Int).toNat * 5,none⟩ = false:=hfr30 0;have hf30_1 : w36.frozen? ⟨go27,(a1 : Int).toNat * 5 + 1,none⟩ = false:=hfr30 1;have hf30_2 : w36.frozen? ⟨go27,(a1 : Int).toNat * 5 + 2,none⟩ = false:=hfr30 2;have hf30_3 : w36.frozen? ⟨go27,(a1 : Int).toNat * 5 + 3,none⟩ = false:=hfr30 3;have hf30_4 : w36.frozen? ⟨go27,(a1 : Int).toNat * 5 + 4,none⟩ = false:=hfr30 4;clear hcl30 hcc30 hfr30 hM30;replace p30:=eq_true p30;replace q30:=eq_true q30;have HX38:=a0_ (show Kd.R k79 79 w36 w.heap.size (fun _=>True) (.slice (some ⟨go27,0,none⟩) x7000_2.length co34) y9 from (rr_ Z7.out));obtain ⟨ce38,hcl38,hM38,hcc38,hfr38⟩:=Kd.R_elem HX38.out z79 (a1 : Int) (of_decide_eq_true (by first | (with_reducible assumption) | assumption)) (by have h_ : (a1 : Int) < ((x7000_2.length : Int) : Int):=of_decide_eq_true (by first | (with_reducible assumption) | assumption);first | exact h_ | (have e_:=(Kd.R_reads' Z7.out).1;omega) | simpa using h_);obtain rfl:=k79_openM hM38;have HP38:=Kd.R_seg HX38.out (a1 : Int) (of_decide_eq_true (by first | (with_reducible assumption) | assumption)) (by have h_ : (a1 : Int) < ((x7000_2.length : Int) : Int):=of_decide_eq_true (by first | (with_reducible assumption) | assumption);first | exact h_ | (have e_:=(Kd.R_reads' Z7.out).1;omega) | simpa using h_) (seg:=[.int .i64 a2]) (j:=3) hcl38 hcc38 (show 4 ≤ 5 from by decide) (x':=(⟨(rd_T79 y9 a1).f0,(rd_T79 y9 a1).f1,(rd_T79 y9 a1).f2,a2,(rd_T79 y9 a1).f4⟩ : S79)) (k79_mkM _ _ _ (⟨(rd_T79 y9 a1).f0,(rd_T79 y9 a1).f1,(rd_T79 y9 a1).f2,a2,(rd_T79 y9 a1).f4⟩ : S79) ) (fun _ hk=>hk);have hx38_3:=hcc38 3 _ rfl;(try simp only [show (k79).sz = 5 from rfl,Nat.mul_one,Nat.add_zero] at hx38_3);have hf38_3:=hfr38 3;(try simp only [show (k79).sz = 5 from rfl,Nat.mul_one,Nat.add_zero] at hf38_3);clear hcl38 hcc38 hfr38 hM38) | ((with_reducible refine gate_store (t:=3) (p:=51) rfl ?_);refine store_event (t:=3) (p:=51) (v:=?vo_w39) (w1:=(w36.setCell ⟨go27,(a1 : Int).toNat * 5 + 3,none⟩ (.int .i64 a2))) ?hg ?ho ?hn ?hr ?_;(case ho=>rfl);(case hg=>rfl);(case hn=>rfl);(case hr=>first | (go_simp;done) | (go_simp;rfl));intro w39 hw;have hg : w36.grownBy w39 (some go27):=(by rw [hw];exact HP38.2);have hp_ : Kd.R k79 79 w39 w.heap.size (fun _=>True) (.slice (some ⟨go27,0,none⟩) x7000_2.length co34) y10:=(by rw [hw,Ny10.out];exact HP38.1);clear HP38;have n0_:=a0_ (hp_);have n1_:=a0_ (blk_grown (bb_ BK1.out) hg (Kd.R_ne Z7.out BK1.out (by decide)));have n2_:=a0_ (blk_grown (bb_ BK2.out) hg (Kd.R_ne Z7.out BK2.out (by decide)));have n3_:=a0_ (blk_grown (bb_ BK6.out) hg (Kd.R_ne Z7.out BK6.out (by decide)));have n4_:=a0_ ((by rw [hw];exact below_set (HB.out) GB27.out : Below w.heap.size w w39));clear Z7 BK1;clear BK2 BK6 HB;have Z7:=n0_;have BK1:=n1_;have BK2:=n2_;have BK6:=n3_;have HB:=n4_;clear n0_ n1_ n2_ n3_ n4_;clear hg hw hp_;have hcz40_0 : w39.cell? ⟨gb6,0,none⟩ = some (.slice (some ⟨go27,0,none⟩) x7000_2.length co34):=(blk_cell BK6.out 0).trans rfl;have hfz40_0:=blk_frozen BK6.out 0;have hnb41:=NB2_1.out;have hnc41:=NB1_2.out;have hcz42_0 : w39.cell? ⟨gb2,0,none⟩ = some (.slice none 0 0):=(blk_cell BK2.out 0).trans rfl;have hfz42_0:=blk_frozen BK2.out 0))
            refine bodyPost_ret (results_cell_row rfl _ _ gb2 37 #[.slice (some ⟨go27,0,none⟩) x7000_2.length co34] (0,0) _ rfl (by (with_reducible repeat (first | refine blk_drewN ?_ _ | refine blk_drew ?_ | refine blk_alloc ?_ _));refine blk_put (cs:=#[.slice none 0 0]) ?_ 0 _ rfl;(with_reducible repeat (first | refine blk_drewN ?_ _ | refine blk_drew ?_ | refine blk_alloc ?_ _));exact BK2.out) Try.underlying37 rfl (by kernel_rfl)) rfl ?_
            exact ⟨_,by first | rfl | (simp [errW_none,errW_some] <;> rfl) | (simp [*,errW_none,errW_some] <;> rfl),by (with_reducible repeat (first | apply Kd.R_alloc | apply Kd.R_drewN | apply Kd.R_drew));exact Kd.R_mono (Kd.R_far (p:=⟨gb2,0,none⟩) (Kd.R_types Z7.out BK2.out (by decide)) (fun _ hk=>hk.2) (.slice (some ⟨go27,0,none⟩) x7000_2.length co34)) (fun _ hk=>trivial),hb_⟩
           ·rw [if_neg c29] at H
            exact absurd H (by simp)
          ·rw [if_neg c28] at H
           exact absurd H (by simp)
         ·rw [if_neg c26] at H
          have c26b0 : (((rd_T79 x7000_2 x8_2).f3) == a1) = false:=beq_eq_false_iff_ne.mpr c26
          have c26b1 : (((rd_T79 x7000_2 x8_2).f3) != a1) = true:=bne_iff_ne.mpr c26
          have H':=a0_ H
          clear H
          have hnb43:=NB6_1.out
          have hnc43:=NB1_6.out
          have hnb44:=NB6_2.out
          have hnc44:=NB2_6.out
          have hcz45_0 : wr.cell? ⟨gb6,0,none⟩ = some (u7000):=(blk_cell BK6.out 0).trans rfl
          have hfz45_0:=blk_frozen BK6.out 0
          obtain ⟨Ao46,co46,eo46⟩:=Kd.R_slice Z7.out
          subst eo46
          have p7 : 0 ≤ (x8_2 : Int):=of_decide_eq_true (by first | (with_reducible assumption) | assumption)
          have q7 : x8_2 < (x7000_2.length : Int):=of_decide_eq_true (by first | (with_reducible assumption) | assumption)
          obtain ⟨ad7,e7,hx7_0,hx7_1,hx7_2,hx7_3,hx7_4⟩:=at_T79 (Kd.R_reads' Z7.out).2.2 x8_2 p7 q7
          cases e7
          replace p7:=eq_true p7
          replace q7:=eq_true q7
          have p8 : 0 ≤ (x8_2 : Int):=of_decide_eq_true (by first | (with_reducible assumption) | assumption)
          have q8 : x8_2 < (x7000_2.length : Int):=of_decide_eq_true (by first | (with_reducible assumption) | assumption)
          obtain ⟨ad8,e8,hx8_0,hx8_1,hx8_2,hx8_3,hx8_4⟩:=at_T79 (Kd.R_reads' Z7.out).2.2 x8_2 p8 q8
          obtain rfl : ad7 = ad8:=(by injection e8)
          replace p8:=eq_true p8
          replace q8:=eq_true q8
          have p11 : 0 ≤ (x8_2 : Int):=of_decide_eq_true (by first | (with_reducible assumption) | assumption)
          have q11 : x8_2 < (x7000_2.length : Int):=of_decide_eq_true (by first | (with_reducible assumption) | assumption)
          obtain ⟨ad11,e11,hx11_0,hx11_1,hx11_2,hx11_3,hx11_4⟩:=at_T79 (Kd.R_reads' Z7.out).2.2 x8_2 p11 q11
          obtain rfl : ad7 = ad11:=(by injection e11)
          replace p11:=eq_true p11
          replace q11:=eq_true q11
          go_wp2
          go_roundg k2
          case measure=>have:=HJ4.out;have:=HK2.out;omega
          case rel=>exact ⟨((rd_T79 x7000_2 x8_2).f3),(x7000_2),(.slice (some ad7) x7000_2.length co46),(by first | rfl | (simp;done) | (simp [*];done)),H',⟨by have:=HJ4.out;have:=HK2.out;omega⟩,⟨by (with_reducible repeat (first | apply Kd.R_alloc | apply Kd.R_drewN | apply Kd.R_drew));exact Z7.out⟩,⟨by (with_reducible repeat (first | refine blk_drewN ?_ _ | refine blk_drew ?_ | refine blk_alloc ?_ _));exact BK1.out⟩,⟨by (with_reducible repeat (first | refine blk_drewN ?_ _ | refine blk_drew ?_ | refine blk_alloc ?_ _));exact BK2.out⟩,⟨by (with_reducible repeat (first | refine blk_drewN ?_ _ | refine blk_drew ?_ | refine blk_alloc ?_ _));exact BK6.out⟩,⟨hb_⟩⟩
        ·rw [if_neg c25] at H
         have c25b0 : decide (0 ≤ ((rd_T79 x7000_2 x8_2).f3)) = false:=decide_eq_false c25
         clear c25
         by_cases c47 : 0 ≤ a1
         ·rw [if_pos c47] at H
          have c47b0 : decide (0 ≤ a1) = true:=decide_eq_true c47
          clear c47
          by_cases c48 : a1 < (x7000_2.length : Int)
          ·rw [if_pos c48] at H
           have c48b0 : decide (a1 < (x7000_2.length : Int)) = true:=decide_eq_true c48
           clear c48
           obtain ⟨y12,hy12⟩ : ∃ y_ : List (S79),y_ = (x7000_2.set (a1 : Int).toNat (⟨(rd_T79 x7000_2 a1).f0,(rd_T79 x7000_2 a1).f1,(rd_T79 x7000_2 a1).f2,a2,(rd_T79 x7000_2 a1).f4⟩ : S79)):=⟨_,rfl⟩
           replace H : (some y12) = some r:=by first | (rw [hy12];with_reducible exact H) | (have H2_:=(Option.bind_some _ _).symm.trans H;rw [hy12];with_reducible exact H2_) | (have H2_:=(Option.bind_some _ _).symm.trans H;with_reducible exact H2_) | with_reducible exact H | (rw [hy12];exact H) | exact H
           have Ny12:=a0_ hy12
           clear hy12
           obtain rfl:=Option.some.inj H
           have hnb50:=NB6_1.out
           have hnc50:=NB1_6.out
           have hnb51:=NB6_2.out
           have hnc51:=NB2_6.out
           have hcz52_0 : wr.cell? ⟨gb6,0,none⟩ = some (u7000):=(blk_cell BK6.out 0).trans rfl
           have hfz52_0:=blk_frozen BK6.out 0
           obtain ⟨Ao53,co53,eo53⟩:=Kd.R_slice Z7.out
           subst eo53
           have p7 : 0 ≤ (x8_2 : Int):=of_decide_eq_true (by first | (with_reducible assumption) | assumption)
           have q7 : x8_2 < (x7000_2.length : Int):=of_decide_eq_true (by first | (with_reducible assumption) | assumption)
           obtain ⟨ad7,e7,hx7_0,hx7_1,hx7_2,hx7_3,hx7_4⟩:=at_T79 (Kd.R_reads' Z7.out).2.2 x8_2 p7 q7
           cases e7
           replace p7:=eq_true p7
           replace q7:=eq_true q7
           have p49 : 0 ≤ (a1 : Int):=of_decide_eq_true (by first | (with_reducible assumption) | assumption)
           have q49 : (a1 : Int) < ((x7000_2.length : Int) : Int):=of_decide_eq_true (by first | (with_reducible assumption) | assumption)
           obtain ⟨go49,co49,eo49,gb49,gl49,cl49,HG49⟩:=Kd.R_form Z7.out (by omega)
           (first | cases eo49 | (injection eo49 with ea_ en_ ec_;(first | subst ea_ | (injection ea_ with ea_;subst ea_));subst ec_;clear en_))
           have GB49:=a0_ gb49
           have GG49:=a0_ HG49
           clear gb49 gl49 HG49
           (first | simp only [add_plain] at hx7_0 | skip)
           (first | simp only [add_plain] at hx7_1 | skip)
           (first | simp only [add_plain] at hx7_2 | skip)
           (first | simp only [add_plain] at hx7_3 | skip)
           (first | simp only [add_plain] at hx7_4 | skip)
           (first | simp only [add_plain] at hx8_0 | skip)
           (first | simp only [add_plain] at hx8_1 | skip)
           (first | simp only [add_plain] at hx8_2 | skip)
           (first | simp only [add_plain] at hx8_3 | skip)
           (first | simp only [add_plain] at hx8_4 | skip)
           (first | simp only [add_plain] at hx11_0 | skip)
           (first | simp only [add_plain] at hx11_1 | skip)
           (first | simp only [add_plain] at hx11_2 | skip)
           (first | simp only [add_plain] at hx11_3 | skip)
           (first | simp only [add_plain] at hx11_4 | skip)
           obtain ⟨ce49,hcl49,hM49,hcc49,hfr49⟩:=Kd.R_elem Z7.out z79 (a1 : Int) p49 q49
           obtain rfl:=k79_openM hM49
           have hx49_0 : wr.cell? ⟨go49,(a1 : Int).toNat * 5,none⟩ = some (.int .i64 ((rd_T79 x7000_2 a1).f0)):=hcc49 0 _ rfl
           have hx49_1 : wr.cell? ⟨go49,(a1 : Int).toNat * 5 + 1,none⟩ = some (.int .i64 ((rd_T79 x7000_2 a1).f1)):=hcc49 1 _ rfl
           have hx49_2 : wr.cell? ⟨go49,(a1 : Int).toNat * 5 + 2,none⟩ = some (.int .i64 ((rd_T79 x7000_2 a1).f2)):=hcc49 2 _ rfl
           have hx49_3 : wr.cell? ⟨go49,(a1 : Int).toNat * 5 + 3,none⟩ = some (.int .i64 ((rd_T79 x7000_2 a1).f3)):=hcc49 3 _ rfl
           have hx49_4 : wr.cell? ⟨go49,(a1 : Int).toNat * 5 + 4,none⟩ = some (.bool ((rd_T79 x7000_2 a1).f4)):=hcc49 4 _ rfl
           have hf49_0 : wr.frozen? ⟨go49,(a1 : Int).toNat * 5,none⟩ = false:=hfr49 0
           have hf49_1 : wr.frozen? ⟨go49,(a1 : Int).toNat * 5 + 1,none⟩ = false:=hfr49 1
           have hf49_2 : wr.frozen? ⟨go49,(a1 : Int).toNat * 5 + 2,none⟩ = false:=hfr49 2
           have hf49_3 : wr.frozen? ⟨go49,(a1 : Int).toNat * 5 + 3,none⟩ = false:=hfr49 3
           have hf49_4 : wr.frozen? ⟨go49,(a1 : Int).toNat * 5 + 4,none⟩ = false:=hfr49 4
           clear hcl49 hcc49 hfr49 hM49
           replace p49:=eq_true p49
           replace q49:=eq_true q49
           have HX54:=a0_ (show Kd.R k79 79 wr w.heap.size (fun _=>True) (.slice (some ⟨go49,0,none⟩) x7000_2.length co53) x7000_2 from (rr_ Z7.out))
           obtain ⟨ce54,hcl54,hM54,hcc54,hfr54⟩:=Kd.R_elem HX54.out z79 (a1 : Int) (of_decide_eq_true (by first | (with_reducible assumption) | assumption)) (by have h_ : (a1 : Int) < ((x7000_2.length : Int) : Int):=of_decide_eq_true (by first | (with_reducible assumption) | assumption);first | exact h_ | (have e_:=(Kd.R_reads' Z7.out).1;omega) | simpa using h_)
           obtain rfl:=k79_openM hM54
           have HP54:=Kd.R_seg HX54.out (a1 : Int) (of_decide_eq_true (by first | (with_reducible assumption) | assumption)) (by have h_ : (a1 : Int) < ((x7000_2.length : Int) : Int):=of_decide_eq_true (by first | (with_reducible assumption) | assumption);first | exact h_ | (have e_:=(Kd.R_reads' Z7.out).1;omega) | simpa using h_) (seg:=[.int .i64 a2]) (j:=3) hcl54 hcc54 (show 4 ≤ 5 from by decide) (x':=(⟨(rd_T79 x7000_2 a1).f0,(rd_T79 x7000_2 a1).f1,(rd_T79 x7000_2 a1).f2,a2,(rd_T79 x7000_2 a1).f4⟩ : S79)) (k79_mkM _ _ _ (⟨(rd_T79 x7000_2 a1).f0,(rd_T79 x7000_2 a1).f1,(rd_T79 x7000_2 a1).f2,a2,(rd_T79 x7000_2 a1).f4⟩ : S79) ) (fun _ hk=>hk)
           have hx54_3:=hcc54 3 _ rfl
           (try simp only [show (k79).sz = 5 from rfl,Nat.mul_one,Nat.add_zero] at hx54_3)
           have hf54_3:=hfr54 3
           (try simp only [show (k79).sz = 5 from rfl,Nat.mul_one,Nat.add_zero] at hf54_3)
           clear hcl54 hcc54 hfr54 hM54
           go_wp2_with (first | ((with_reducible refine gate_store (t:=3) (p:=51) rfl ?_);refine store_event (t:=3) (p:=51) (v:=?vo_w55) (w1:=(wr.setCell ⟨go49,(a1 : Int).toNat * 5 + 3,none⟩ (.int .i64 a2))) ?hg ?ho ?hn ?hr ?_;(case ho=>rfl);(case hg=>rfl);(case hn=>rfl);(case hr=>first | (go_simp;done) | (go_simp;rfl));intro w55 hw;have hg : wr.grownBy w55 (some go49):=(by rw [hw];exact HP54.2);have hp_ : Kd.R k79 79 w55 w.heap.size (fun _=>True) (.slice (some ⟨go49,0,none⟩) x7000_2.length co53) y12:=(by rw [hw,Ny12.out];exact HP54.1);clear HP54;have n0_:=a0_ (hp_);have n1_:=a0_ (blk_grown (bb_ BK1.out) hg (Kd.R_ne Z7.out BK1.out (by decide)));have n2_:=a0_ (blk_grown (bb_ BK2.out) hg (Kd.R_ne Z7.out BK2.out (by decide)));have n3_:=a0_ (blk_grown (bb_ BK6.out) hg (Kd.R_ne Z7.out BK6.out (by decide)));have n4_:=a0_ ((by rw [hw];exact below_set (HB.out) GB49.out : Below w.heap.size w w55));clear Z7 BK1;clear BK2 BK6 HB;have Z7:=n0_;have BK1:=n1_;have BK2:=n2_;have BK6:=n3_;have HB:=n4_;clear n0_ n1_ n2_ n3_ n4_;clear hg hw hp_;have hcz56_0 : w55.cell? ⟨gb6,0,none⟩ = some (.slice (some ⟨go49,0,none⟩) x7000_2.length co53):=(blk_cell BK6.out 0).trans rfl;have hfz56_0:=blk_frozen BK6.out 0;have hnb57:=NB2_1.out;have hnc57:=NB1_2.out;have hcz58_0 : w55.cell? ⟨gb2,0,none⟩ = some (.slice none 0 0):=(blk_cell BK2.out 0).trans rfl;have hfz58_0:=blk_frozen BK2.out 0))
           refine bodyPost_ret (results_cell_row rfl _ _ gb2 37 #[.slice (some ⟨go49,0,none⟩) x7000_2.length co53] (0,0) _ rfl (by (with_reducible repeat (first | refine blk_drewN ?_ _ | refine blk_drew ?_ | refine blk_alloc ?_ _));refine blk_put (cs:=#[.slice none 0 0]) ?_ 0 _ rfl;(with_reducible repeat (first | refine blk_drewN ?_ _ | refine blk_drew ?_ | refine blk_alloc ?_ _));exact BK2.out) Try.underlying37 rfl (by kernel_rfl)) rfl ?_
           exact ⟨_,by first | rfl | (simp [errW_none,errW_some] <;> rfl) | (simp [*,errW_none,errW_some] <;> rfl),by (with_reducible repeat (first | apply Kd.R_alloc | apply Kd.R_drewN | apply Kd.R_drew));exact Kd.R_mono (Kd.R_far (p:=⟨gb2,0,none⟩) (Kd.R_types Z7.out BK2.out (by decide)) (fun _ hk=>hk.2) (.slice (some ⟨go49,0,none⟩) x7000_2.length co53)) (fun _ hk=>trivial),hb_⟩
          ·rw [if_neg c48] at H
           exact absurd H (by simp)
         ·rw [if_neg c47] at H
          exact absurd H (by simp)
       ·rw [if_neg c24] at H
        exact absurd H (by simp)
      ·rw [if_neg c23] at H
       exact absurd H (by simp)
theorem spec_raised_l0 (h : List Fau) (f g : Int) (h0 : 0 ≤ f) (h1 : f < (h.length : Int)) (hc : ∀ x : Int,0 ≤ x → x < (h.length : Int) → ctxN h x < (h.length : Int)) : ∀ (d : Nat) (out : List Int) (x : Int),0 ≤ x → x < (h.length : Int) → out.contains x = false → restN h.length out ≤ d → ctxN h (lastI (chainL (ctxN h) d out x)) < 0 → Ev (fun k=>spec_raised.l0 k f g x h) (setC (cutF f (chainL (ctxN h) d out x) h) f g):=by
 intro d
 induction d with
 | zero =>
  intro out x g0 g1 hn hr _
  rw [restN_zero (n:=h.length) (out:=out) g0 g1 (by omega)] at hn
  cases hn
 | succ d ih =>
  intro out x g0 g1 hn hr hl
  have hch : chainL (ctxN h) (d + 1) out x = x :: chainL (ctxN h) d (out ++ [x]) (ctxN h x):=by rw [chainL,if_pos ⟨g0,hn⟩]
  rw [hch] at hl ⊢
  have hrd : ∀ (l : List Fau) (u : Int),rd_T79 l u = fauAt l u:=fun l u=>by simp [rd_T79,fauAt]
  have hcx : (fauAt h x).f3 = ctxN h x:=rfl
  refine Ev.succ ?_
  simp only [spec_raised.l0,hrd,hcx]
  refine Ev.pos g0 (Ev.pos g1 ?_)
  rw [cutF]
  by_cases hge : ctxN h x ≥ 0
  ·refine Ev.pos hge ?_
   by_cases he : ctxN h x = f
   ·refine Ev.pos he (Ev.bind (Ev.const rfl) (Ev.pos h0 (Ev.pos h1 (Ev.const ?_))))
    rw [if_pos he]
    rfl
   ·refine Ev.neg he ?_
    rw [if_neg he]
    have hno : (out ++ [x]).contains (ctxN h x) = false:=by
     cases hq : (out ++ [x]).contains (ctxN h x) with
     | false=>rfl
     | true =>
      have hnil : chainL (ctxN h) d (out ++ [x]) (ctxN h x) = []:=by
       cases d with
       | zero=>rfl
       | succ d=>rw [chainL,if_neg (by rw [hq];simp)]
      rw [hnil] at hl
      have e : lastI [x] = x:=by simp [lastI]
      rw [e] at hl
      omega
    have hlt:=restN_lt g0 g1 hn
    refine ih (out ++ [x]) (ctxN h x) hge (hc x g0 g1) hno (by omega) ?_
    cases hr2 : chainL (ctxN h) d (out ++ [x]) (ctxN h x) with
    | nil =>
     rw [hr2] at hl
     have e : lastI [x] = x:=by simp [lastI]
     rw [e] at hl
     omega
    | cons z r =>
     rw [hr2,lastI_cons] at hl
     exact hl
  ·have hnil : chainL (ctxN h) d (out ++ [x]) (ctxN h x) = []:=by
    cases d with
    | zero=>rfl
    | succ d=>rw [chainL,if_neg (fun hh=>hge hh.1)]
   refine Ev.neg hge (Ev.pos h0 (Ev.pos h1 (Ev.const ?_)))
   rw [if_neg (by omega),hnil,cutF]
   rfl
theorem spec_raised_ev (t : List Cls) (h : List Fau) (f g : Int) (hv : vH t h = true) (h0 : 0 ≤ f) (h1 : f < (h.length : Int)) (g0 : 0 ≤ g) (g1 : g < (h.length : Int)) : Ev (fun k=>spec_raised.f k h f g) (whlP h f g):=by
 obtain ⟨hfs,hes,_,hl⟩:=vH_parts hv
 refine Ev.bind (Ev.const (spec_copyHeap_ev h (by omega))) ?_
 unfold whlP
 by_cases he : f = g
 ·rw [if_pos he]
  refine Ev.pos he (Ev.succ ?_)
  simp only [spec_raised.j0]
  exact Ev.pos trivial (Ev.const rfl)
 ·rw [if_neg he]
  refine Ev.neg he (Ev.succ ?_)
  simp only [spec_raised.j0]
  refine Ev.neg (by simp;omega) ?_
  have hctx : ∀ x : Int,0 ≤ x → x < (h.length : Int) → ctxN h x < (h.length : Int):=fun x a b=>(fsH_ctx hfs x a b).2
  have hend : ctxN h (lastI (ctxL h g)) < 0:=by
   have:=all_at hes g.toNat (by omega)
   unfold endB at this
   rw [show ((g.toNat : Nat) : Int) = g by omega] at this
   exact of_decide_eq_true this
  have hcl : ctxL h g = chainL (ctxN h) h.length [] g:=by
   unfold ctxL
   rw [walkL_chain]
   rfl
  have hself : ctxN h f ≠ f:=by
   have:=all_at hfs f.toNat (by omega)
   unfold okF lnkB at this
   simp only [Bool.and_eq_true,Bool.or_eq_true,beq_iff_eq,bne_iff_ne] at this
   have h2:=this.2.2.2
   unfold ctxN
   rcases h2 with h2 | h2
   ·rw [h2];omega
   ·have:=h2.2;omega
  rw [hcl] at hend ⊢
  rw [cut_one h f h0 hself h.length [] g (fun _=>hend)]
  exact spec_raised_l0 h f g h0 h1 hctx h.length [] g g0 g1 (by simp) (restN_le _ _) hend
end Go.Proofs.Ytfhcfhffmblacaa.P
namespace Go.Proofs.Ytfhcfhffmblacaa.P
open Go.RowKit Go.Proofs.YtfhcfhffmblacaaW.PrintWords Go.Proofs.YtfhcfhffmblacaaW.PrintLast Go.Proofs.YtfhcfhffmblacaaW.PrintMore
attribute [local go_sem] max2_int min2_int max_two min_two max_three min_three max_four min_four
set_option linter.unusedVariables false
set_option linter.unusedSimpArgs false
def spec_RaiseWhile.f (k : Nat) (l0_0 : List (S106)) (l1_0 : List (S79)) (a2 : Int) (a3 : Int) : Option ((List (S79)) × Bool):=(spec_goodFault.f k l0_0 l1_0 a2).bind fun t4=>(if t4 = true then ((spec_hasFault.f l1_0 a3).bind fun t5=>(if t5 = true then ((spec_raised.f k l1_0 a2 a3).bind fun t6=>(some (t6,true))) else (some (([] : List (S79)),false)))) else (some (([] : List (S79)),false)))
theorem spec_RaiseWhile.mono : ∀ a0 a1 a2 a3 k,LeO (spec_RaiseWhile.f k a0 a1 a2 a3) (spec_RaiseWhile.f (k + 1) a0 a1 a2 a3):=by
 intro a0 a1 a2 a3 k
 unfold spec_RaiseWhile.f
 repeat' first
   | (with_reducible exact spec_goodFault.mono _ _ _ _)
   | (with_reducible exact spec_raised.mono _ _ _ _)
   | (with_reducible exact LeO.refl _)
   | (with_reducible exact LeO.none _)
   | (with_reducible refine LeO.ite ?_ ?_)
   | (with_reducible refine LeO.bind ?_ (fun _=>?_))
   | exact spec_goodFault.mono _ _ _ _
   | exact spec_raised.mono _ _ _ _
   | exact LeO.none _
   | refine LeO.ite ?_ ?_
   | refine LeO.bind ?_ (fun _=>?_)
set_option maxHeartbeats 8000000 in
set_option maxRecDepth 100000 in
theorem spec_RaiseWhile.calls (k : Nat) (A0_0 : Option Addr) (c0_0 : Nat) (l0_0 : List (S106)) (A1_0 : Option Addr) (c1_0 : Nat) (l1_0 : List (S79)) (a2 : Int) (a3 : Int) (r1 : List (S79)) (r2 : Bool) (w : World) (hr0_0 : Kd.C k106 w A0_0 l0_0.length l0_0) (hc0_0 : l0_0.length ≤ c0_0) (hr1_0 : Kd.C k79 w A1_0 l1_0.length l1_0) (hc1_0 : l1_0.length ≤ c1_0) (h : spec_RaiseWhile.f k l0_0 l1_0 a2 a3 = some (r1,r2)) :
  Calls Try.prog 42 #[.agg #[.slice A0_0 l0_0.length c0_0],.agg #[.slice A1_0 l1_0.length c1_0],.int .i64 a2,.int .i64 a3] w fun e w'=>∃ v0_ : Value,e = .returned (.tuple #[.agg #[v0_],.bool r2]) ∧ Kd.R k79 79 w' w.heap.size (fun _=>True) v0_ r1 ∧ Below w.heap.size w w':=by
 have hu33:=Try.underlying33
 have hu37:=Try.underlying37
 have HR0_0:=a0_ hr0_0
 have HC0_0:=a0_ hc0_0
 clear hr0_0 hc0_0
 have HR1_0:=a0_ hr1_0
 have HC1_0:=a0_ hc1_0
 clear hr1_0 hc1_0
 have HB:=a0_ (Below.refl w.heap.size w)
 have H : ((spec_goodFault.f k l0_0 l1_0 a2).bind fun t4=>(if t4 = true then ((spec_hasFault.f l1_0 a3).bind fun t5=>(if t5 = true then ((spec_raised.f k l1_0 a2 a3).bind fun t6=>(some (t6,true))) else (some (([] : List (S79)),false)))) else (some (([] : List (S79)),false)))) = some (r1,r2):=h
 clear h
 replace H:=Option.bind_eq_some_iff.mp H
 obtain ⟨t4,A50,H⟩:=H
 replace H : (if t4 = true then ((spec_hasFault.f l1_0 a3).bind fun t5=>(if t5 = true then ((spec_raised.f k l1_0 a2 a3).bind fun t6=>(some (t6,true))) else (some (([] : List (S79)),false)))) else (some (([] : List (S79)),false))) = some (r1,r2):=H
 have A5:=a0_ A50
 clear A50
 by_cases c6 : t4 = true
 ·subst c6
  have H1 : ((spec_hasFault.f l1_0 a3).bind fun t5=>(if t5 = true then ((spec_raised.f k l1_0 a2 a3).bind fun t6=>(some (t6,true))) else (some (([] : List (S79)),false)))) = some (r1,r2):=by rw [if_pos rfl] at H;exact H
  clear H
  have H:=H1
  clear H1
  replace H:=Option.bind_eq_some_iff.mp H
  obtain ⟨t5,A70,H⟩:=H
  replace H : (if t5 = true then ((spec_raised.f k l1_0 a2 a3).bind fun t6=>(some (t6,true))) else (some (([] : List (S79)),false))) = some (r1,r2):=H
  have A7:=a0_ A70
  clear A70
  by_cases c8 : t5 = true
  ·subst c8
   have H1 : ((spec_raised.f k l1_0 a2 a3).bind fun t6=>(some (t6,true))) = some (r1,r2):=by rw [if_pos rfl] at H;exact H
   clear H
   have H:=H1
   clear H1
   replace H:=Option.bind_eq_some_iff.mp H
   obtain ⟨t6,A90,H⟩:=H
   replace H : (some (t6,true)) = some (r1,r2):=H
   have A9:=a0_ A90
   clear A90
   simp only [Option.some.injEq,Prod.mk.injEq] at H
   obtain ⟨rfl,rfl⟩:=H
   go_enter Try.func42,Try.ntmps42
   go_wp2_with (first | ((with_reducible refine gate_dst (N:=4) rfl ?_);refine box_event ?hg (N:=4) ?hd (cs:=#[.slice A0_0 l0_0.length c0_0]) (t:=33) ?hr ?_;(case hd=>rfl);(case hg=>rfl);(case hr=>first | (go_simp;done) | (go_simp;rfl));intro gb1 hg w10 hbox hb;have BK1:=a0_ (hbox);have GW1:=a0_ ((by rw [hg];exact (below_size hb_) : w.heap.size ≤ gb1));have GE1:=a0_ ((by rw [hg];exact (below_size hb_) : w.heap.size ≤ gb1));replace HB:=a0_ (below_step hb_ hb);clear hb hbox hg) | ((with_reducible refine gate_dst (N:=5) rfl ?_);refine box_event ?hg (N:=5) ?hd (cs:=#[.slice A1_0 l1_0.length c1_0]) (t:=37) ?hr ?_;(case hd=>rfl);(case hg=>rfl);(case hr=>first | (go_simp;done) | (go_simp;rfl));intro gb2 hg w11 hbox hb;have n0_:=kb_ BK1 hb;have n1_:=a0_ (below_step hb_ hb);have n2_:=a0_ (hbox);have n3_:=a0_ ((by rw [hg];exact (below_size hb_) : w.heap.size ≤ gb2));have n4_:=a0_ ((by rw [hg];exact (below_size hb_) : w.heap.size ≤ gb2));have n5_:=a0_ ((by rw [hg];exact Nat.ne_of_lt (blk_lt (bb_ BK1.out)) : gb1 ≠ gb2));have n6_:=a0_ ((by rw [hg];exact Nat.ne_of_gt (blk_lt (bb_ BK1.out)) : gb2 ≠ gb1));clear BK1 HB;have BK1:=n0_;have HB:=n1_;have BK2:=n2_;have GW2:=n3_;have GE2:=n4_;have NB1_2:=n5_;have NB2_1:=n6_;clear n0_ n1_ n2_ n3_ n4_ n5_ n6_;clear hb hbox hg) | ((with_reducible refine gate_dst (N:=8) rfl ?_);refine box_event ?hg (N:=8) ?hd (cs:=#[.slice none 0 0]) (t:=37) ?hr ?_;(case hd=>rfl);(case hg=>rfl);(case hr=>first | (go_simp;done) | (go_simp;rfl));intro gb3 hg w12 hbox hb;have n0_:=kb_ BK1 hb;have n1_:=kb_ BK2 hb;have n2_:=a0_ (below_step hb_ hb);have n3_:=a0_ (hbox);have n4_:=a0_ ((by rw [hg];exact (below_size hb_) : w.heap.size ≤ gb3));have n5_:=a0_ ((by rw [hg];exact (below_size hb_) : w.heap.size ≤ gb3));have n6_:=a0_ ((by rw [hg];exact Nat.ne_of_lt (blk_lt (bb_ BK1.out)) : gb1 ≠ gb3));have n7_:=a0_ ((by rw [hg];exact Nat.ne_of_gt (blk_lt (bb_ BK1.out)) : gb3 ≠ gb1));have n8_:=a0_ ((by rw [hg];exact Nat.ne_of_lt (blk_lt (bb_ BK2.out)) : gb2 ≠ gb3));have n9_:=a0_ ((by rw [hg];exact Nat.ne_of_gt (blk_lt (bb_ BK2.out)) : gb3 ≠ gb2));clear BK1 BK2 HB;have BK1:=n0_;have BK2:=n1_;have HB:=n2_;have BK3:=n3_;have GW3:=n4_;have GE3:=n5_;have NB1_3:=n6_;have NB3_1:=n7_;have NB2_3:=n8_;have NB3_2:=n9_;clear n0_ n1_ n2_ n3_ n4_ n5_ n6_ n7_ n8_ n9_;clear hb hbox hg;have hnb13:=NB1_2.out;have hnc13:=NB2_1.out;have hnb14:=NB1_3.out;have hnc14:=NB3_1.out;have hcz15_0 : w12.cell? ⟨gb1,0,none⟩ = some (.slice A0_0 l0_0.length c0_0):=(blk_cell BK1.out 0).trans rfl;have hfz15_0:=blk_frozen BK1.out 0;have hnb16:=NB2_3.out;have hnc16:=NB3_2.out;have hcz17_0 : w12.cell? ⟨gb2,0,none⟩ = some (.slice A1_0 l1_0.length c1_0):=(blk_cell BK2.out 0).trans rfl;have hfz17_0:=blk_frozen BK2.out 0) | ((with_reducible refine gate_callee (f:=65) rfl ?_);refine goesL_ (some 13) rfl rfl Try.func65 (by kernel_rfl) rfl #[.agg #[.slice A0_0 l0_0.length c0_0],.agg #[.slice A1_0 l1_0.length c1_0],.int .i64 a2] rfl lm_ ?_;(with_reducible refine (spec_goodFault.calls k _ _ l0_0 _ _ l1_0 a2 true _ ?side1 ?side2 ?side3 ?side4 A5.out).mono ?_);(case side1=>exact cc_ (Kd.C_below HR0_0.out HB.out));(case side2=>exact HC0_0.out);(case side3=>exact cc_ (Kd.C_below HR1_0.out HB.out));(case side4=>exact HC1_0.out);rintro e w18 ⟨rfl,hb⟩;refine ⟨_,rfl,?_⟩;replace BK1:=kb_ BK1 hb;replace BK2:=kb_ BK2 hb;replace BK3:=kb_ BK3 hb;replace HB:=a0_ (below_step hb_ hb);(try clear hb);have hcz19_0 : w18.cell? ⟨gb2,0,none⟩ = some (.slice A1_0 l1_0.length c1_0):=(blk_cell BK2.out 0).trans rfl;have hfz19_0:=blk_frozen BK2.out 0) | (go_at_call 77;(with_reducible refine (spec_hasFault.calls _ _ l1_0 a3 true _ ?side1 ?side2 A7.out).mono ?_);(case side1=>exact cc_ (Kd.C_below HR1_0.out HB.out));(case side2=>exact HC1_0.out);rintro e w20 ⟨rfl,hb⟩;replace BK1:=kb_ BK1 hb;replace BK2:=kb_ BK2 hb;replace BK3:=kb_ BK3 hb;replace HB:=a0_ (below_step hb_ hb);(try clear hb);have hcz21_0 : w20.cell? ⟨gb2,0,none⟩ = some (.slice A1_0 l1_0.length c1_0):=(blk_cell BK2.out 0).trans rfl;have hfz21_0:=blk_frozen BK2.out 0) | ((with_reducible refine gate_callee (f:=80) rfl ?_);refine goesL_ (some 25) rfl rfl Try.func80 (by kernel_rfl) rfl #[.agg #[.slice A1_0 l1_0.length c1_0],.int .i64 a2,.int .i64 a3] rfl lm_ ?_;(with_reducible refine (spec_raised.calls k _ _ l1_0 a2 a3 t6 _ ?side1 ?side2 A9.out).mono ?_);(case side1=>exact cc_ (Kd.C_below HR1_0.out HB.out));(case side2=>exact HC1_0.out);rintro e w22 ⟨v7,rfl,ho0,hb⟩;refine ⟨_,rfl,?_⟩;have HO8:=a0_ (Kd.R_lower ho0 (below_size hb_));replace BK1:=kb_ BK1 hb;replace BK2:=kb_ BK2 hb;replace BK3:=kb_ BK3 hb;replace HB:=a0_ (below_step hb_ hb);(try clear hb);(try clear ho0);obtain ⟨Ao23,co23,eo23⟩:=Kd.R_slice HO8.out;subst eo23;have hcz24_0 : w22.cell? ⟨gb3,0,none⟩ = some (.slice none 0 0):=(blk_cell BK3.out 0).trans rfl;have hfz24_0:=blk_frozen BK3.out 0))
   refine bodyPost_ret (results_ct rfl _ _ gb3 37 #[.slice Ao23 t6.length co23] (0,0) _ rfl (by (with_reducible repeat (first | refine blk_drewN ?_ _ | refine blk_drew ?_ | refine blk_alloc ?_ _));refine blk_put (cs:=#[.slice none 0 0]) ?_ 0 _ rfl;(with_reducible repeat (first | refine blk_drewN ?_ _ | refine blk_drew ?_ | refine blk_alloc ?_ _));exact BK3.out) Try.underlying37 rfl (by kernel_rfl)) rfl ?_
   exact ⟨_,by first | rfl | (simp [errW_none,errW_some] <;> rfl) | (simp [*,errW_none,errW_some] <;> rfl),by (with_reducible repeat (first | apply Kd.R_alloc | apply Kd.R_drewN | apply Kd.R_drew));exact Kd.R_mono (Kd.R_far (p:=⟨gb3,0,none⟩) (Kd.R_types HO8.out BK3.out (by decide)) (fun _ hk=>hk.2) (.slice Ao23 t6.length co23)) (fun _ hk=>trivial),hb_⟩
  ·replace c8:=Bool.eq_false_iff.mpr c8
   subst c8
   have H1 : (some (([] : List (S79)),false)) = some (r1,r2):=by rw [if_neg (show ¬ (false = true) by decide)] at H;exact H
   clear H
   have H:=H1
   clear H1
   simp only [Option.some.injEq,Prod.mk.injEq] at H
   obtain ⟨rfl,rfl⟩:=H
   go_enter Try.func42,Try.ntmps42
   go_wp2_with (first | ((with_reducible refine gate_dst (N:=4) rfl ?_);refine box_event ?hg (N:=4) ?hd (cs:=#[.slice A0_0 l0_0.length c0_0]) (t:=33) ?hr ?_;(case hd=>rfl);(case hg=>rfl);(case hr=>first | (go_simp;done) | (go_simp;rfl));intro gb1 hg w25 hbox hb;have BK1:=a0_ (hbox);have GW1:=a0_ ((by rw [hg];exact (below_size hb_) : w.heap.size ≤ gb1));have GE1:=a0_ ((by rw [hg];exact (below_size hb_) : w.heap.size ≤ gb1));replace HB:=a0_ (below_step hb_ hb);clear hb hbox hg) | ((with_reducible refine gate_dst (N:=5) rfl ?_);refine box_event ?hg (N:=5) ?hd (cs:=#[.slice A1_0 l1_0.length c1_0]) (t:=37) ?hr ?_;(case hd=>rfl);(case hg=>rfl);(case hr=>first | (go_simp;done) | (go_simp;rfl));intro gb2 hg w26 hbox hb;have n0_:=kb_ BK1 hb;have n1_:=a0_ (below_step hb_ hb);have n2_:=a0_ (hbox);have n3_:=a0_ ((by rw [hg];exact (below_size hb_) : w.heap.size ≤ gb2));have n4_:=a0_ ((by rw [hg];exact (below_size hb_) : w.heap.size ≤ gb2));have n5_:=a0_ ((by rw [hg];exact Nat.ne_of_lt (blk_lt (bb_ BK1.out)) : gb1 ≠ gb2));have n6_:=a0_ ((by rw [hg];exact Nat.ne_of_gt (blk_lt (bb_ BK1.out)) : gb2 ≠ gb1));clear BK1 HB;have BK1:=n0_;have HB:=n1_;have BK2:=n2_;have GW2:=n3_;have GE2:=n4_;have NB1_2:=n5_;have NB2_1:=n6_;clear n0_ n1_ n2_ n3_ n4_ n5_ n6_;clear hb hbox hg) | ((with_reducible refine gate_dst (N:=8) rfl ?_);refine box_event ?hg (N:=8) ?hd (cs:=#[.slice none 0 0]) (t:=37) ?hr ?_;(case hd=>rfl);(case hg=>rfl);(case hr=>first | (go_simp;done) | (go_simp;rfl));intro gb3 hg w27 hbox hb;have n0_:=kb_ BK1 hb;have n1_:=kb_ BK2 hb;have n2_:=a0_ (below_step hb_ hb);have n3_:=a0_ (hbox);have n4_:=a0_ ((by rw [hg];exact (below_size hb_) : w.heap.size ≤ gb3));have n5_:=a0_ ((by rw [hg];exact (below_size hb_) : w.heap.size ≤ gb3));have n6_:=a0_ ((by rw [hg];exact Nat.ne_of_lt (blk_lt (bb_ BK1.out)) : gb1 ≠ gb3));have n7_:=a0_ ((by rw [hg];exact Nat.ne_of_gt (blk_lt (bb_ BK1.out)) : gb3 ≠ gb1));have n8_:=a0_ ((by rw [hg];exact Nat.ne_of_lt (blk_lt (bb_ BK2.out)) : gb2 ≠ gb3));have n9_:=a0_ ((by rw [hg];exact Nat.ne_of_gt (blk_lt (bb_ BK2.out)) : gb3 ≠ gb2));clear BK1 BK2 HB;have BK1:=n0_;have BK2:=n1_;have HB:=n2_;have BK3:=n3_;have GW3:=n4_;have GE3:=n5_;have NB1_3:=n6_;have NB3_1:=n7_;have NB2_3:=n8_;have NB3_2:=n9_;clear n0_ n1_ n2_ n3_ n4_ n5_ n6_ n7_ n8_ n9_;clear hb hbox hg;have hnb28:=NB1_2.out;have hnc28:=NB2_1.out;have hnb29:=NB1_3.out;have hnc29:=NB3_1.out;have hcz30_0 : w27.cell? ⟨gb1,0,none⟩ = some (.slice A0_0 l0_0.length c0_0):=(blk_cell BK1.out 0).trans rfl;have hfz30_0:=blk_frozen BK1.out 0;have hnb31:=NB2_3.out;have hnc31:=NB3_2.out;have hcz32_0 : w27.cell? ⟨gb2,0,none⟩ = some (.slice A1_0 l1_0.length c1_0):=(blk_cell BK2.out 0).trans rfl;have hfz32_0:=blk_frozen BK2.out 0) | ((with_reducible refine gate_callee (f:=65) rfl ?_);refine goesL_ (some 13) rfl rfl Try.func65 (by kernel_rfl) rfl #[.agg #[.slice A0_0 l0_0.length c0_0],.agg #[.slice A1_0 l1_0.length c1_0],.int .i64 a2] rfl lm_ ?_;(with_reducible refine (spec_goodFault.calls k _ _ l0_0 _ _ l1_0 a2 true _ ?side1 ?side2 ?side3 ?side4 A5.out).mono ?_);(case side1=>exact cc_ (Kd.C_below HR0_0.out HB.out));(case side2=>exact HC0_0.out);(case side3=>exact cc_ (Kd.C_below HR1_0.out HB.out));(case side4=>exact HC1_0.out);rintro e w33 ⟨rfl,hb⟩;refine ⟨_,rfl,?_⟩;replace BK1:=kb_ BK1 hb;replace BK2:=kb_ BK2 hb;replace BK3:=kb_ BK3 hb;replace HB:=a0_ (below_step hb_ hb);(try clear hb);have hcz34_0 : w33.cell? ⟨gb2,0,none⟩ = some (.slice A1_0 l1_0.length c1_0):=(blk_cell BK2.out 0).trans rfl;have hfz34_0:=blk_frozen BK2.out 0) | (go_at_call 77;(with_reducible refine (spec_hasFault.calls _ _ l1_0 a3 false _ ?side1 ?side2 A7.out).mono ?_);(case side1=>exact cc_ (Kd.C_below HR1_0.out HB.out));(case side2=>exact HC1_0.out);rintro e w35 ⟨rfl,hb⟩;replace BK1:=kb_ BK1 hb;replace BK2:=kb_ BK2 hb;replace BK3:=kb_ BK3 hb;replace HB:=a0_ (below_step hb_ hb);(try clear hb);have hcz36_0 : w35.cell? ⟨gb3,0,none⟩ = some (.slice none 0 0):=(blk_cell BK3.out 0).trans rfl;have hfz36_0:=blk_frozen BK3.out 0))
   refine bodyPost_ret (results_ct rfl _ _ gb3 37 #[.slice none 0 0] (0,0) _ rfl (by (with_reducible repeat (first | refine blk_drewN ?_ _ | refine blk_drew ?_ | refine blk_alloc ?_ _));refine blk_put (cs:=#[.slice none 0 0]) ?_ 0 _ rfl;(with_reducible repeat (first | refine blk_drewN ?_ _ | refine blk_drew ?_ | refine blk_alloc ?_ _));exact BK3.out) Try.underlying37 rfl (by kernel_rfl)) rfl ?_
   exact ⟨_,by first | rfl | (simp [errW_none,errW_some] <;> rfl) | (simp [*,errW_none,errW_some] <;> rfl),by first | exact Kd.R_nil _ _ _ _ _ | exact Kd.N_nil _ _ _ _ _ | exact Kd.V_nil _ _ _ _ _ | exact Kd.Q_nil _ _ _ _ _ | exact Kd.S_nil _ _ _ _ _,hb_⟩
 ·replace c6:=Bool.eq_false_iff.mpr c6
  subst c6
  have H1 : (some (([] : List (S79)),false)) = some (r1,r2):=by rw [if_neg (show ¬ (false = true) by decide)] at H;exact H
  clear H
  have H:=H1
  clear H1
  simp only [Option.some.injEq,Prod.mk.injEq] at H
  obtain ⟨rfl,rfl⟩:=H
  go_enter Try.func42,Try.ntmps42
  go_wp2_with (first | ((with_reducible refine gate_dst (N:=4) rfl ?_);refine box_event ?hg (N:=4) ?hd (cs:=#[.slice A0_0 l0_0.length c0_0]) (t:=33) ?hr ?_;(case hd=>rfl);(case hg=>rfl);(case hr=>first | (go_simp;done) | (go_simp;rfl));intro gb1 hg w37 hbox hb;have BK1:=a0_ (hbox);have GW1:=a0_ ((by rw [hg];exact (below_size hb_) : w.heap.size ≤ gb1));have GE1:=a0_ ((by rw [hg];exact (below_size hb_) : w.heap.size ≤ gb1));replace HB:=a0_ (below_step hb_ hb);clear hb hbox hg) | ((with_reducible refine gate_dst (N:=5) rfl ?_);refine box_event ?hg (N:=5) ?hd (cs:=#[.slice A1_0 l1_0.length c1_0]) (t:=37) ?hr ?_;(case hd=>rfl);(case hg=>rfl);(case hr=>first | (go_simp;done) | (go_simp;rfl));intro gb2 hg w38 hbox hb;have n0_:=kb_ BK1 hb;have n1_:=a0_ (below_step hb_ hb);have n2_:=a0_ (hbox);have n3_:=a0_ ((by rw [hg];exact (below_size hb_) : w.heap.size ≤ gb2));have n4_:=a0_ ((by rw [hg];exact (below_size hb_) : w.heap.size ≤ gb2));have n5_:=a0_ ((by rw [hg];exact Nat.ne_of_lt (blk_lt (bb_ BK1.out)) : gb1 ≠ gb2));have n6_:=a0_ ((by rw [hg];exact Nat.ne_of_gt (blk_lt (bb_ BK1.out)) : gb2 ≠ gb1));clear BK1 HB;have BK1:=n0_;have HB:=n1_;have BK2:=n2_;have GW2:=n3_;have GE2:=n4_;have NB1_2:=n5_;have NB2_1:=n6_;clear n0_ n1_ n2_ n3_ n4_ n5_ n6_;clear hb hbox hg) | ((with_reducible refine gate_dst (N:=8) rfl ?_);refine box_event ?hg (N:=8) ?hd (cs:=#[.slice none 0 0]) (t:=37) ?hr ?_;(case hd=>rfl);(case hg=>rfl);(case hr=>first | (go_simp;done) | (go_simp;rfl));intro gb3 hg w39 hbox hb;have n0_:=kb_ BK1 hb;have n1_:=kb_ BK2 hb;have n2_:=a0_ (below_step hb_ hb);have n3_:=a0_ (hbox);have n4_:=a0_ ((by rw [hg];exact (below_size hb_) : w.heap.size ≤ gb3));have n5_:=a0_ ((by rw [hg];exact (below_size hb_) : w.heap.size ≤ gb3));have n6_:=a0_ ((by rw [hg];exact Nat.ne_of_lt (blk_lt (bb_ BK1.out)) : gb1 ≠ gb3));have n7_:=a0_ ((by rw [hg];exact Nat.ne_of_gt (blk_lt (bb_ BK1.out)) : gb3 ≠ gb1));have n8_:=a0_ ((by rw [hg];exact Nat.ne_of_lt (blk_lt (bb_ BK2.out)) : gb2 ≠ gb3));have n9_:=a0_ ((by rw [hg];exact Nat.ne_of_gt (blk_lt (bb_ BK2.out)) : gb3 ≠ gb2));clear BK1 BK2 HB;have BK1:=n0_;have BK2:=n1_;have HB:=n2_;have BK3:=n3_;have GW3:=n4_;have GE3:=n5_;have NB1_3:=n6_;have NB3_1:=n7_;have NB2_3:=n8_;have NB3_2:=n9_;clear n0_ n1_ n2_ n3_ n4_ n5_ n6_ n7_ n8_ n9_;clear hb hbox hg;have hnb40:=NB1_2.out;have hnc40:=NB2_1.out;have hnb41:=NB1_3.out;have hnc41:=NB3_1.out;have hcz42_0 : w39.cell? ⟨gb1,0,none⟩ = some (.slice A0_0 l0_0.length c0_0):=(blk_cell BK1.out 0).trans rfl;have hfz42_0:=blk_frozen BK1.out 0;have hnb43:=NB2_3.out;have hnc43:=NB3_2.out;have hcz44_0 : w39.cell? ⟨gb2,0,none⟩ = some (.slice A1_0 l1_0.length c1_0):=(blk_cell BK2.out 0).trans rfl;have hfz44_0:=blk_frozen BK2.out 0) | ((with_reducible refine gate_callee (f:=65) rfl ?_);refine goesL_ (some 13) rfl rfl Try.func65 (by kernel_rfl) rfl #[.agg #[.slice A0_0 l0_0.length c0_0],.agg #[.slice A1_0 l1_0.length c1_0],.int .i64 a2] rfl lm_ ?_;(with_reducible refine (spec_goodFault.calls k _ _ l0_0 _ _ l1_0 a2 false _ ?side1 ?side2 ?side3 ?side4 A5.out).mono ?_);(case side1=>exact cc_ (Kd.C_below HR0_0.out HB.out));(case side2=>exact HC0_0.out);(case side3=>exact cc_ (Kd.C_below HR1_0.out HB.out));(case side4=>exact HC1_0.out);rintro e w45 ⟨rfl,hb⟩;refine ⟨_,rfl,?_⟩;replace BK1:=kb_ BK1 hb;replace BK2:=kb_ BK2 hb;replace BK3:=kb_ BK3 hb;replace HB:=a0_ (below_step hb_ hb);(try clear hb);have hcz46_0 : w45.cell? ⟨gb3,0,none⟩ = some (.slice none 0 0):=(blk_cell BK3.out 0).trans rfl;have hfz46_0:=blk_frozen BK3.out 0))
  refine bodyPost_ret (results_ct rfl _ _ gb3 37 #[.slice none 0 0] (0,0) _ rfl (by (with_reducible repeat (first | refine blk_drewN ?_ _ | refine blk_drew ?_ | refine blk_alloc ?_ _));refine blk_put (cs:=#[.slice none 0 0]) ?_ 0 _ rfl;(with_reducible repeat (first | refine blk_drewN ?_ _ | refine blk_drew ?_ | refine blk_alloc ?_ _));exact BK3.out) Try.underlying37 rfl (by kernel_rfl)) rfl ?_
  exact ⟨_,by first | rfl | (simp [errW_none,errW_some] <;> rfl) | (simp [*,errW_none,errW_some] <;> rfl),by first | exact Kd.R_nil _ _ _ _ _ | exact Kd.N_nil _ _ _ _ _ | exact Kd.V_nil _ _ _ _ _ | exact Kd.Q_nil _ _ _ _ _ | exact Kd.S_nil _ _ _ _ _,hb_⟩
theorem spec_RaiseWhile_ev (t : List Cls) (h : List Fau) (f g : Int) (hs : smT t = true) (ht : t.length ≤ 9223372036854775807) (hl : h.length ≤ 2097152) : Ev (fun k=>spec_RaiseWhile.f k t h f g) (raiP t h f g):=by
 refine Ev.bind (spec_goodFault_ev t h f hs ht hl) ?_
 unfold raiP
 cases hq : (vH t h && hasF h f) with
 | false=>exact Ev.neg (by simp) (Ev.const (by simp))
 | true =>
  refine Ev.pos rfl (Ev.bind (Ev.const (spec_hasFault_ev h g hl)) ?_)
  cases hq2 : hasF h g with
  | false=>exact Ev.neg (by simp) (Ev.const (by simp))
  | true =>
   obtain ⟨_,h0,h1⟩:=good_parts hq
   obtain ⟨g0,g1⟩:=hasF_in hq2
   rw [Bool.and_eq_true] at hq
   exact Ev.pos rfl (Ev.bind (spec_raised_ev t h f g hq.1 h0 h1 g0 g1) (Ev.const (by simp)))
end Go.Proofs.Ytfhcfhffmblacaa.P
namespace Go.Proofs.Ytfhcfhffmblacaa.P
open Go.RowKit Go.Proofs.YtfhcfhffmblacaaW.PrintWords Go.Proofs.YtfhcfhffmblacaaW.PrintLast Go.Proofs.YtfhcfhffmblacaaW.PrintMore
attribute [local go_sem] max2_int min2_int max_two min_two max_three min_three max_four min_four
set_option linter.unusedVariables false
set_option linter.unusedSimpArgs false
theorem pw_eqlnil {P : Program} {t e : TypeId} (a : Option Addr) (h : P.underlying t = some (.slice e)) : ∀ n c w,(binOp .eql t (.slice a n c) (.slice none 0 0)).run P w = .ok (.bool a.isNone) w:=by
 intro n c w
 have h1 : ∀ d,(Op.equalIn (d + 1) t (.slice a n c) (.slice none 0 0)).run P w = .ok a.isNone w:=by
  intro d
  cases a <;> simp [Op.equalIn,run_underlying h]
 have h2 : (Op.equal t (.slice a n c) (.slice none 0 0)).run P w = .ok a.isNone w:=h1 9999
 simp [binOp,h2]
end Go.Proofs.Ytfhcfhffmblacaa.P
namespace Go.Proofs.Ytfhcfhffmblacaa.P
open Go.RowKit Go.Proofs.YtfhcfhffmblacaaW.PrintWords Go.Proofs.YtfhcfhffmblacaaW.PrintLast Go.Proofs.YtfhcfhffmblacaaW.PrintMore
attribute [local go_sem] max2_int min2_int max_two min_two max_three min_three max_four min_four
set_option linter.unusedVariables false
set_option linter.unusedSimpArgs false
def slices_Clone_Fault.f (l0 : List (S79)) : Option (List (S79)):=if l0.length < 3518437208883 then some l0 else none
set_option maxHeartbeats 2000000 in
set_option maxRecDepth 100000 in
theorem slices_Clone_Fault.calls (A0 : Option Addr) (c0 : Nat) (l0 : List (S79)) (r : List (S79)) (w : World) (hr0 : Kd.C k79 w A0 l0.length l0) (hc0 : l0.length ≤ c0) (h : slices_Clone_Fault.f l0 = some r) :
  Calls Try.prog 82 #[.slice A0 l0.length c0] w fun e w'=>∃ v0_ : Value,e = .returned (v0_) ∧ Kd.R k79 79 w' w.heap.size (fun _=>True) v0_ r ∧ Below w.heap.size w w':=by
 have hlm : l0.length < 3518437208883:=by
  apply Classical.byContradiction
  intro hn
  rw [slices_Clone_Fault.f,if_neg hn] at h
  cases h
 rw [slices_Clone_Fault.f,if_pos hlm] at h
 obtain rfl:=Option.some.inj h
 clear h
 have HR0:=a0_ hr0
 have HC0:=a0_ hc0
 have LM:=a0_ hlm
 clear hlm hc0
 have HB:=a0_ (Below.refl w.heap.size w)
 obtain ⟨y1,hy1⟩ : ∃ y_ : List (S79),y_ = (([] : List (S79))):=⟨_,rfl⟩
 have Ny1:=a0_ hy1
 obtain ⟨y4,hy4⟩ : ∃ y_ : List (S79),y_ = y1 ++ l0:=⟨_,rfl⟩
 have Ny4:=a0_ hy4
 have Ny5:=a0_ (show y4 = l0 by rw [hy4,hy1,List.nil_append])
 have Ny6:=a0_ (show y1.length = 0 by rw [hy1];rfl)
 clear hy1 hy4
 cases A0 with
 | none =>
  have e0 : l0.length = 0:=by
   apply Classical.byContradiction
   intro hn
   obtain ⟨ad,e,_⟩:=hr0.2.2 (by omega)
   cases e
  clear hr0
  have e1 : l0 = []:=List.length_eq_zero_iff.1 e0
  have hnl:=pw_eqlnil (P:=Try.prog) none Try.underlying35
  simp only [Option.isNone_none] at hnl
  go_enter Try.func82,Try.ntmps82
  go_wp2
  go_ret
  exact ⟨_,rfl,by rw [e1];exact Kd.R_nil _ _ _ _ _,HB.out⟩
 | some a0 =>
  clear hr0
  have hnl:=pw_eqlnil (P:=Try.prog) (some a0) Try.underlying35
  simp only [Option.isNone_some] at hnl
  go_enter Try.func82,Try.ntmps82
  go_wp2_with (first | ((with_reducible refine gate_dst (N:=5) rfl ?_);refine Kd.R_lit k79 _ 79 ?hg (N:=5) ?hd (xs:=([] : List (S79))) (inner:=[]) (ok:=fun _=>True) (okp:=fun _=>True) ?hr ?hp (fun _ hk=>hk) trivial (Below.refl _ _) (Nat.le_refl _) (by simp) ?_;(case hd=>rfl);(case hg=>rfl);(case hr=>first | (go_simp;done) | (go_simp;rfl));(case hp=>exact (Reps.none _ _));intro v2 w4 ho5 hb hg_ hnew_;clear hg_ hnew_;(first | rw [← Ny1.out] at ho5 | (simp only [Int.reduceToNat] at ho5;rw [← Ny1.out] at ho5));have HO3:=a0_ (Kd.R_lower ho5 (below_size hb_));replace HB:=a0_ (below_step hb_ hb);clear hb ho5) | ((with_reducible refine gate_builtin (b:=.append) (xs:=#[.tmp 5,.tmp 6]) rfl ?_);at_builtin;refine Kd.R_append_rows k79 (w0:=w) w.heap.size rfl (.tmp 5) (.tmp 6) 35 79 (.agg #[(.int .i64 0),(.int .i64 0),(.int .i64 0),(.int .i64 0),(.bool false)]) 40 rfl Try.underlying35 info79 rfl (by decide) (by omega) v2 y1 l0 _ _ _ (fun _=>True) (fun _=>False) rfl rfl ?aO ?aR (fun _ _ h=>h) (fun _ h=>h.elim) ?aF ?aB ?aS ?aL ?_;(case aR=>exact cc_ (Kd.C_below HR0.out HB.out));(case aB=>exact hb_);(case aF=>exact (fun _ _=>trivial));(case aO=>exact (rr_ HO3.out));(case aS=>exact (below_size hb_));(case aL=>have:=LM.out;have:=Ny6.out;omega);intro v5 w6 ho hb hg hat;rw [← Ny4.out] at ho;have HO6:=a0_ (ho);replace HB:=a0_ (hb);clear HO3;clear ho hb hg hat))
  go_ret
  exact ⟨_,rfl,by rw [← Ny5.out];exact HO6.out,HB.out⟩
end Go.Proofs.Ytfhcfhffmblacaa.P
namespace Go.Proofs.Ytfhcfhffmblacaa.P
open Go.RowKit Go.Proofs.YtfhcfhffmblacaaW.PrintWords Go.Proofs.YtfhcfhffmblacaaW.PrintLast Go.Proofs.YtfhcfhffmblacaaW.PrintMore
attribute [local go_sem] max2_int min2_int max_two min_two max_three min_three max_four min_four
set_option linter.unusedVariables false
set_option linter.unusedSimpArgs false
def slices_Clip_Fault.f (l0 : List (S79)) : Option ((List (S79))):=if 0 ≤ (l0.length : Int) then (if (l0.length : Int) ≤ (l0.length : Int) then (some (l0.take ((l0.length : Int) : Int).toNat)) else (none)) else (none)
set_option maxHeartbeats 8000000 in
set_option maxRecDepth 100000 in
theorem slices_Clip_Fault.calls (P0_ : Nat → Prop) (u9000_ : Value) (l0 : List (S79)) (r : List (S79)) (w0 w : World) (hB : Below w0.heap.size w0 w) (ho0 : Kd.R k79 79 w w0.heap.size P0_ u9000_ l0) (h : slices_Clip_Fault.f l0 = some r) :
  Calls Try.prog 83 #[u9000_] w fun e w'=>∃ v0_ : Value,e = .returned (v0_) ∧ Kd.R k79 79 w' w0.heap.size (fun k_=>(P0_ k_ ∨ w.heap.size ≤ k_)) v0_ r ∧ Below w0.heap.size w0 w' ∧ Kept w w' (fun k_=>P0_ k_):=by
 have HO0:=a0_ (show Kd.R k79 79 w w0.heap.size (fun k_=>(P0_ k_ ∨ w.heap.size ≤ k_)) u9000_ l0 from Kd.R_mono ho0 (fun k_ hk=>(.inl hk)))
 have HK:=a0_ (Kept.refl w (fun k_=>P0_ k_))
 have HW0:=a0_ hB.size
 have HB:=a0_ hB
 clear hB
 have H : (if 0 ≤ (l0.length : Int) then (if (l0.length : Int) ≤ (l0.length : Int) then (some (l0.take ((l0.length : Int) : Int).toNat)) else (none)) else (none)) = some r:=h
 clear h
 by_cases c2 : 0 ≤ (l0.length : Int)
 ·rw [if_pos c2] at H
  have c2b0:=eq_true c2
  have c2b1 : decide (0 ≤ (l0.length : Int)) = true:=decide_eq_true c2
  clear c2
  by_cases c3 : (l0.length : Int) ≤ (l0.length : Int)
  ·rw [if_pos c3] at H
   have c3b0:=eq_true c3
   have c3b1 : decide ((l0.length : Int) ≤ (l0.length : Int)) = true:=decide_eq_true c3
   clear c3
   obtain ⟨y1,hy1⟩ : ∃ y_ : List (S79),y_ = (l0.take ((l0.length : Int) : Int).toNat):=⟨_,rfl⟩
   replace H : (some y1) = some r:=by first | (rw [hy1];with_reducible exact H) | (have H2_:=(Option.bind_some _ _).symm.trans H;rw [hy1];with_reducible exact H2_) | (have H2_:=(Option.bind_some _ _).symm.trans H;with_reducible exact H2_) | with_reducible exact H | (rw [hy1];exact H) | exact H
   have Ny1:=a0_ hy1
   clear hy1
   obtain rfl:=Option.some.inj H
   obtain ⟨Ao4,co4,eo4⟩:=Kd.R_slice HO0.out
   subst eo4
   have q5 : l0.length ≤ co4:=(Kd.R_reads' HO0.out).2.1
   have hr5:=Kd.R_clip2 HO0.out (((l0.length : Int) : Int).toNat) (by omega)
   rw [← Ny1.out] at hr5
   clear HO0
   have HO3:=a0_ hr5
   clear hr5
   go_enter Try.func83,Try.ntmps83
   go_wp2
   go_ret
   exact ⟨_,by first | rfl | (simp [errW_none,errW_some] <;> rfl) | (simp [*,errW_none,errW_some] <;> rfl),by (with_reducible repeat (first | apply Kd.R_alloc | apply Kd.R_drewN | apply Kd.R_drew));exact HO3.out,hb_,by repeat (first | (with_reducible first | exact HK.out | apply Kept.alloc | apply Kept.drewN | apply Kept.drew) | exact HK.out)⟩
  ·rw [if_neg c3] at H
   exact absurd H (by simp)
 ·rw [if_neg c2] at H
  exact absurd H (by simp)
end Go.Proofs.Ytfhcfhffmblacaa.P
namespace Go.Proofs.Ytfhcfhffmblacaa.P
open Go.RowKit Go.Proofs.YtfhcfhffmblacaaW.PrintWords Go.Proofs.YtfhcfhffmblacaaW.PrintLast Go.Proofs.YtfhcfhffmblacaaW.PrintMore
attribute [local go_sem] max2_int min2_int max_two min_two max_three min_three max_four min_four
set_option linter.unusedVariables false
set_option linter.unusedSimpArgs false
def impl_Heap_copied.f (l0_0 : List (S79)) : Option ((List (S79))):=(slices_Clone_Fault.f l0_0).bind fun t3=>((slices_Clip_Fault.f t3).bind fun t6=>(some t6))
set_option maxHeartbeats 8000000 in
set_option maxRecDepth 100000 in
theorem impl_Heap_copied.calls (A0_0 : Option Addr) (c0_0 : Nat) (l0_0 : List (S79)) (r : List (S79)) (w : World) (hr0_0 : Kd.C k79 w A0_0 l0_0.length l0_0) (hc0_0 : l0_0.length ≤ c0_0) (h : impl_Heap_copied.f l0_0 = some r) :
  Calls Try.prog 75 #[.agg #[.slice A0_0 l0_0.length c0_0]] w fun e w'=>∃ v0_ : Value,e = .returned (.agg #[v0_]) ∧ Kd.R k79 79 w' w.heap.size (fun _=>True) v0_ r ∧ Below w.heap.size w w':=by
 have hu37:=Try.underlying37
 have HR0_0:=a0_ hr0_0
 have HC0_0:=a0_ hc0_0
 clear hr0_0 hc0_0
 have HB:=a0_ (Below.refl w.heap.size w)
 have H : ((slices_Clone_Fault.f l0_0).bind fun t3=>((slices_Clip_Fault.f t3).bind fun t6=>(some t6))) = some r:=h
 clear h
 replace H:=Option.bind_eq_some_iff.mp H
 obtain ⟨t3,A20,H⟩:=H
 replace H : ((slices_Clip_Fault.f t3).bind fun t6=>(some t6)) = some r:=H
 have A2:=a0_ A20
 clear A20
 replace H:=Option.bind_eq_some_iff.mp H
 obtain ⟨t6,A30,H⟩:=H
 replace H : (some t6) = some r:=H
 have A3:=a0_ A30
 clear A30
 obtain rfl:=Option.some.inj H
 go_enter Try.func75,Try.ntmps75
 go_wp2_with (first | ((with_reducible refine gate_dst (N:=1) rfl ?_);refine box_event ?hg (N:=1) ?hd (cs:=#[.slice A0_0 l0_0.length c0_0]) (t:=37) ?hr ?_;(case hd=>rfl);(case hg=>rfl);(case hr=>first | (go_simp;done) | (go_simp;rfl));intro gb1 hg w4 hbox hb;have BK1:=a0_ (hbox);have GW1:=a0_ ((by rw [hg];exact (below_size hb_) : w.heap.size ≤ gb1));have GE1:=a0_ ((by rw [hg];exact (below_size hb_) : w.heap.size ≤ gb1));replace HB:=a0_ (below_step hb_ hb);clear hb hbox hg) | ((with_reducible refine gate_dst (N:=2) rfl ?_);refine box_event ?hg (N:=2) ?hd (cs:=#[.slice none 0 0]) (t:=37) ?hr ?_;(case hd=>rfl);(case hg=>rfl);(case hr=>first | (go_simp;done) | (go_simp;rfl));intro gb2 hg w5 hbox hb;have n0_:=kb_ BK1 hb;have n1_:=a0_ (below_step hb_ hb);have n2_:=a0_ (hbox);have n3_:=a0_ ((by rw [hg];exact (below_size hb_) : w.heap.size ≤ gb2));have n4_:=a0_ ((by rw [hg];exact (below_size hb_) : w.heap.size ≤ gb2));have n5_:=a0_ ((by rw [hg];exact Nat.ne_of_lt (blk_lt (bb_ BK1.out)) : gb1 ≠ gb2));have n6_:=a0_ ((by rw [hg];exact Nat.ne_of_gt (blk_lt (bb_ BK1.out)) : gb2 ≠ gb1));clear BK1 HB;have BK1:=n0_;have HB:=n1_;have BK2:=n2_;have GW2:=n3_;have GE2:=n4_;have NB1_2:=n5_;have NB2_1:=n6_;clear n0_ n1_ n2_ n3_ n4_ n5_ n6_;clear hb hbox hg;have hnb6:=NB1_2.out;have hnc6:=NB2_1.out;have hcz7_0 : w5.cell? ⟨gb1,0,none⟩ = some (.slice A0_0 l0_0.length c0_0):=(blk_cell BK1.out 0).trans rfl;have hfz7_0:=blk_frozen BK1.out 0) | ((with_reducible refine gate_callee (f:=82) rfl ?_);refine goesL_ (some 5) rfl rfl Try.func82 (by kernel_rfl) rfl #[.slice A0_0 l0_0.length c0_0] rfl lm_ ?_;(with_reducible refine (slices_Clone_Fault.calls _ _ l0_0 t3 _ ?side1 ?side2 A2.out).mono ?_);(case side1=>exact cc_ (Kd.C_below HR0_0.out HB.out));(case side2=>exact HC0_0.out);rintro e w8 ⟨v4,rfl,ho0,hb⟩;refine ⟨_,rfl,?_⟩;have HO5:=a0_ (Kd.R_lower ho0 (below_size hb_));replace BK1:=kb_ BK1 hb;replace BK2:=kb_ BK2 hb;replace HB:=a0_ (below_step hb_ hb);(try clear hb);(try clear ho0);obtain ⟨Ao9,co9,eo9⟩:=Kd.R_slice HO5.out;subst eo9) | ((with_reducible refine gate_callee (f:=83) rfl ?_);refine goesL_ (some 6) rfl rfl Try.func83 (by kernel_rfl) rfl #[.slice Ao9 t3.length co9] rfl lm_ ?_;(with_reducible refine (slices_Clip_Fault.calls (fun k_=>some k_ = (.slice Ao9 t3.length co9 : Value).ownBlock) (.slice Ao9 t3.length co9) t3 t6 w _ ?side1 ?side2 A3.out).mono ?_);(case side1=>exact hb_);(case side2=>exact Kd.R_tight rfl HO5.out);rintro e w10 ⟨v7,rfl,ho0,hb,hkp⟩;refine ⟨_,rfl,?_⟩;replace BK1:=a0_ (blk_kept (bb_ BK1.out) hkp (fun hs_=>(fun e_=>(Kd.R_ne HO5.out BK1.out (by decide)) e_) hs_));replace BK2:=a0_ (blk_kept (bb_ BK2.out) hkp (fun hs_=>(fun e_=>(Kd.R_ne HO5.out BK2.out (by decide)) e_) hs_));have HO8:=a0_ (Kd.R_mono (ok':=fun k_=>True) ho0 (fun k_ hk_=>trivial));replace HB:=a0_ (hb);clear HO5;(try clear hb);(try clear hkp);(try clear ho0);obtain ⟨Ao11,co11,eo11⟩:=Kd.R_slice HO8.out;subst eo11;have hcz12_0 : w10.cell? ⟨gb2,0,none⟩ = some (.slice none 0 0):=(blk_cell BK2.out 0).trans rfl;have hfz12_0:=blk_frozen BK2.out 0))
 refine bodyPost_ret (results_cell_row rfl _ _ gb2 37 #[.slice Ao11 t6.length co11] (0,0) _ rfl (by (with_reducible repeat (first | refine blk_drewN ?_ _ | refine blk_drew ?_ | refine blk_alloc ?_ _));refine blk_put (cs:=#[.slice none 0 0]) ?_ 0 _ rfl;(with_reducible repeat (first | refine blk_drewN ?_ _ | refine blk_drew ?_ | refine blk_alloc ?_ _));exact BK2.out) Try.underlying37 rfl (by kernel_rfl)) rfl ?_
 exact ⟨_,by first | rfl | (simp [errW_none,errW_some] <;> rfl) | (simp [*,errW_none,errW_some] <;> rfl),by (with_reducible repeat (first | apply Kd.R_alloc | apply Kd.R_drewN | apply Kd.R_drew));exact Kd.R_mono (Kd.R_far (p:=⟨gb2,0,none⟩) (Kd.R_types HO8.out BK2.out (by decide)) (fun _ hk=>hk.2) (.slice Ao11 t6.length co11)) (fun _ hk=>trivial),hb_⟩
theorem impl_Heap_copied_ev (h : List Fau) (hl : h.length ≤ 2097152) : impl_Heap_copied.f h = some h:=by
 unfold impl_Heap_copied.f
 rw [slices_Clone_Fault.f,if_pos (by omega),Option.bind_some]
 unfold slices_Clip_Fault.f
 rw [if_pos (by omega),if_pos (by omega)]
 simp
end Go.Proofs.Ytfhcfhffmblacaa.P
namespace Go.Proofs.Ytfhcfhffmblacaa.P
open Go.RowKit Go.Proofs.YtfhcfhffmblacaaW.PrintWords Go.Proofs.YtfhcfhffmblacaaW.PrintLast Go.Proofs.YtfhcfhffmblacaaW.PrintMore
attribute [local go_sem] max2_int min2_int max_two min_two max_three min_three max_four min_four
set_option linter.unusedVariables false
set_option linter.unusedSimpArgs false
theorem below_grown {w W W1 : World} {g : Nat} (h : Below w.heap.size w W) (hg : W.grownBy W1 (some g)) (h0 : w.heap.size ≤ g) : Below w.heap.size w W1:=h.trans ⟨hg.os,hg.tape,hg.output,hg.size,fun k hk=>hg.block k (Nat.lt_of_lt_of_le hk (below_size h)) (fun he=>by injection he with he;omega)⟩
end Go.Proofs.Ytfhcfhffmblacaa.P
namespace Go.Proofs.Ytfhcfhffmblacaa.P
open Go.RowKit Go.Proofs.YtfhcfhffmblacaaW.PrintWords Go.Proofs.YtfhcfhffmblacaaW.PrintLast Go.Proofs.YtfhcfhffmblacaaW.PrintMore
attribute [local go_sem] max2_int min2_int max_two min_two max_three min_three max_four min_four
set_option linter.unusedVariables false
set_option linter.unusedSimpArgs false
set_option maxHeartbeats 4000000 in
set_option maxRecDepth 100000 in
theorem impl_Heap_while.callsF (B go n c : Nat) (l : List Fau) (f g : Int) (w0 w : World) (hn : n = l.length) (hB : w.heap[B]? = some (.cells #[.slice (some ⟨go,0,none⟩) n c] 37 (0,0))) (hr : Kd.R k79 79 w w0.heap.size (fun _=>True) (.slice (some ⟨go,0,none⟩) n c) l) (hb : Below w0.heap.size w0 w) (hgo : w0.heap.size ≤ go) (hl : l.length ≤ 2097152)
  (hc : ∀ x : Int,0 ≤ x → x < (l.length : Int) → ctxN l x < (l.length : Int)) (f0 : 0 ≤ f) (f1 : f < (l.length : Int)) (g0 : 0 ≤ g) (g1 : g < (l.length : Int)) :
  Calls Try.prog 81 #[.pointer (some ⟨B,0,none⟩),.int .i64 f,.int .i64 g] w fun e w'=>e = .returned (.tuple #[]) ∧ Kd.R k79 79 w' w0.heap.size (fun _=>True) (.slice (some ⟨go,0,none⟩) n c) (whlP l f g) ∧ Below w0.heap.size w0 w' ∧ ∀ b o,w.heap[b]? = some o → b ≠ go → w'.heap[b]? = some o:=by
 have hu37:=Try.underlying37
 have hu79:=Try.underlying79
 subst hn
 have BK:=a0_ hB
 have HO:=a0_ hr
 have HB:=a0_ hb
 have HG:=a0_ hgo
 have hcz : w.cell? ⟨B,0,none⟩ = some (.slice (some ⟨go,0,none⟩) l.length c):=(blk_cell hB 0).trans rfl
 have HX:=a0_ (fun (W : World) (hr : Kd.C k79 W (some ⟨go,0,none⟩) l.length l)=>impl_Heap_contexts.callsF (some ⟨go,0,none⟩) c l g W g1 hl hc hr)
 have HM:=a0_ (ctxL_mem hc g g1)
 have HLN:=a0_ (ctxL_len l g)
 have HL:=a0_ hl
 have NE:=a0_ (show B ≠ go from fun e=>Kd.R_ne hr hB (by decide) (by rw [e];rfl))
 clear hB hr hb hgo
 unfold whlP
 by_cases hfg : f = g
 ·have hd : (f == g) = true:=beq_iff_eq.2 hfg
  rw [if_pos hfg]
  clear hfg HX
  go_enter Try.func81,Try.ntmps81
  go_wp2
  refine bodyPost_ret (results_none rfl _ _ _) rfl ?_
  exact ⟨rfl,HO.out,HB.out,fun b o h _=>h⟩
 ·have hd : (f == g) = false:=beq_eq_false_iff_ne.2 hfg
  rw [if_neg hfg]
  clear hfg
  generalize ctxL l g = L at HX HM HLN ⊢
  go_enter Try.func81,Try.ntmps81
  go_wp2_with (go_at_call 61;refine (HX.out _ (Kd.R_reads' HO.out).2.2).mono ?_;rintro e w2 ⟨v2,rfl,ho2,hb2⟩;obtain ⟨A2,c2,e2⟩:=Kd.R_slice ho2;subst e2;have HL2:=a0_ (Kd.R_lower ho2 (below_size HB.out));replace HO:=a0_ (Kd.R_below HO.out hb2);replace HB:=a0_ (below_step HB.out hb2);have KP:=a0_ (show ∀ b o,w.heap[b]? = some o → b ≠ go → w2.heap[b]? = some o from fun b o h _=>blk_keptB h hb2);clear ho2 hb2)
  go_loopg [17] L.length (fun gg s17 wr=>∃ (kk : Nat) (hh : List Fau),kk ≤ L.length ∧ L.length - kk ≤ gg ∧ s17 = .int .i64 kk ∧ hh.length = l.length ∧ Aside0 (cutL f (L.drop kk) hh = cutL f L l) ∧ Aside0 (Kd.R k79 79 wr w0.heap.size (fun _=>True) (.slice (some ⟨go,0,none⟩) l.length c) hh) ∧ Aside0 (Kd.R (Kd.int .i64) 3 wr w0.heap.size (fun _=>True) (.slice A2 L.length c2) L) ∧ Aside0 (Below w0.heap.size w0 wr) ∧ Aside0 (∀ b o,w.heap[b]? = some o → b ≠ go → wr.heap[b]? = some o))
  case atStart=>exact ⟨0,l,Nat.zero_le _,by omega,rfl,rfl,⟨by simp⟩,HO,HL2,HB,KP⟩
  case round =>
   clear HO HL2 HB KP hcz
   obtain ⟨kk,hh,hkk,hg,rfl,hhl,HE,HO,HL2,HB,KP⟩:=hrel
   have hcz : wr.cell? ⟨B,0,none⟩ = some (.slice (some ⟨go,0,none⟩) l.length c):=(blk_cell (KP.out B _ BK.out NE.out) 0).trans rfl
   have hln:=HLN.out
   by_cases hlt : kk < L.length
   ·have hltz : (kk : Int) < (L.length : Int):=by omega
    obtain ⟨ae,eae,hy0⟩:=Kd.at_int (Kd.R_reads' HL2.out).2.2 (kk : Int) (by omega) (by omega)
    cases eae
    have hrd : rd L (kk : Int) = L[kk]:=by simp [rd,hlt]
    rw [hrd,Int.toNat_natCast] at hy0
    have hmx:=HM.out L[kk] (List.getElem_mem hlt)
    have he:=HE.out
    rw [List.drop_eq_getElem_cons hlt,cutL] at he
    clear hrd HE
    generalize L[kk] = x at hy0 hmx he
    have hx0:=hmx.1
    have hx1:=hmx.2
    clear hmx
    obtain ⟨ce,hcl,hM,hcc,hfr⟩:=Kd.R_elem HO.out z79 x hx0 hx1
    obtain rfl:=k79_openM hM
    have hx3 : wr.cell? ⟨go,x.toNat * 5 + 3,none⟩ = some (.int .i64 (fauAt hh x).f3):=hcc 3 _ rfl
    have hf3 : wr.frozen? ⟨go,x.toNat * 5 + 3,none⟩ = false:=hfr 3
    have HP:=a0_ (Kd.R_seg HO.out x hx0 hx1 (seg:=[.int .i64 (-1)]) (j:=3) hcl hcc (show 4 ≤ 5 by decide) (x':=(⟨(fauAt hh x).f0,(fauAt hh x).f1,(fauAt hh x).f2,-1,(fauAt hh x).f4⟩ : S79)) (k79_mkM _ _ _ (⟨(fauAt hh x).f0,(fauAt hh x).f1,(fauAt hh x).f2,-1,(fauAt hh x).f4⟩ : S79)) (fun _ hk=>hk))
    have hcx : ctxN hh x = (fauAt hh x).f3:=rfl
    rw [hcx] at he
    have HE:=a0_ he
    have q0:=eq_true hx0
    have q1:=eq_true hx1
    clear hcl hcc hfr hM hcx he
    generalize (fauAt hh x).f3 = u3 at hx3 HE
    cases hq : (u3 == f) with
    | true =>
     have he2:=HE.out
     rw [if_pos (beq_iff_eq.1 hq)] at he2
     have HE2:=a0_ he2
     clear he2
     go_wp2
     go_roundg (L.length - (kk + 1))
     case measure=>omega
     case rel =>
      have hp1:=HP.out.1
      have hp2:=HP.out.2
      refine ⟨kk + 1,setC hh x (-1),by omega,by omega,by go_num,by rw [setC_len];exact hhl,HE2,⟨hp1⟩,⟨Kd.R_over' HL2.out (Kd.R_typed HO.out) (by decide) hp2⟩,⟨below_grown HB.out hp2 HG.out⟩,⟨fun b o h hb'=>blk_grown (KP.out b o h hb') hp2 (fun e=>hb' (Option.some.inj e))⟩⟩
    | false =>
     have he2:=HE.out
     rw [if_neg (fun e=>by rw [beq_iff_eq.2 e] at hq;cases hq)] at he2
     have HE2:=a0_ he2
     clear he2
     go_wp2
     go_roundg (L.length - (kk + 1))
     case measure=>omega
     case rel=>exact ⟨kk + 1,hh,by omega,by omega,by go_num,hhl,HE2,HO,HL2,HB,KP⟩
   ·have hltz : ¬ (kk : Int) < (L.length : Int):=by omega
    have he:=HE.out
    rw [List.drop_eq_nil_of_le (by omega),cutL] at he
    subst he
    obtain ⟨ce,hcl,hM,hcc,hfr⟩:=Kd.R_elem HO.out z79 f f0 f1
    obtain rfl:=k79_openM hM
    have hx3 : wr.cell? ⟨go,f.toNat * 5 + 3,none⟩ = some (.int .i64 (fauAt (cutL f L l) f).f3):=hcc 3 _ rfl
    have hf3 : wr.frozen? ⟨go,f.toNat * 5 + 3,none⟩ = false:=hfr 3
    have HP:=a0_ (Kd.R_seg HO.out f f0 f1 (seg:=[.int .i64 g]) (j:=3) hcl hcc (show 4 ≤ 5 by decide) (x':=(⟨(fauAt (cutL f L l) f).f0,(fauAt (cutL f L l) f).f1,(fauAt (cutL f L l) f).f2,g,(fauAt (cutL f L l) f).f4⟩ : S79)) (k79_mkM _ _ _ (⟨(fauAt (cutL f L l) f).f0,(fauAt (cutL f L l) f).f1,(fauAt (cutL f L l) f).f2,g,(fauAt (cutL f L l) f).f4⟩ : S79)) (fun _ hk=>hk))
    have q0:=eq_true f0
    have q1:=eq_true f1
    clear hcl hcc hfr hM
    go_wp2
    refine bodyPost_end (results_none rfl _ _ _) rfl ?_
    have hp1:=HP.out.1
    have hp2:=HP.out.2
    exact ⟨rfl,hp1,below_grown HB.out hp2 HG.out,fun b o h hb'=>blk_grown (KP.out b o h hb') hp2 (fun e=>hb' (Option.some.inj e))⟩
end Go.Proofs.Ytfhcfhffmblacaa.P
namespace Go.Proofs.Ytfhcfhffmblacaa.P
open Go.RowKit Go.Proofs.YtfhcfhffmblacaaW.PrintWords Go.Proofs.YtfhcfhffmblacaaW.PrintLast Go.Proofs.YtfhcfhffmblacaaW.PrintMore
attribute [local go_sem] max2_int min2_int max_two min_two max_three min_three max_four min_four
set_option linter.unusedVariables false
set_option linter.unusedSimpArgs false
theorem impl_faultsIn_ev2 (t : List Cls) (h : List Fau) (f g : Int) (hs : smT t = true) (hl : h.length ≤ 2097152) : impl_faultsIn.f t h [f,g] = some ((vH t h && hasF h f) && hasF h g):=by
 rw [impl_faultsIn.f,if_pos ⟨hs,hl⟩]
 cases vH t h <;> cases hf : hasF h f <;> cases hg : hasF h g <;> simp [hf,hg]
def impl_RaiseWhile.f (l0_0 : List Cls) (l1_0 : List Fau) (a2 a3 : Int) : Option (List Fau × Bool):=if smT l0_0 = true ∧ l1_0.length ≤ 2097152 then some (raiP l0_0 l1_0 a2 a3) else none
set_option maxHeartbeats 4000000 in
set_option maxRecDepth 100000 in
theorem impl_RaiseWhile.calls (A0_0 : Option Addr) (c0_0 : Nat) (l0_0 : List (S106)) (A1_0 : Option Addr) (c1_0 : Nat) (l1_0 : List (S79)) (a2 : Int) (a3 : Int) (r1 : List (S79)) (r2 : Bool) (w : World) (hr0_0 : Kd.C k106 w A0_0 l0_0.length l0_0) (hc0_0 : l0_0.length ≤ c0_0) (hr1_0 : Kd.C k79 w A1_0 l1_0.length l1_0) (hc1_0 : l1_0.length ≤ c1_0) (h : impl_RaiseWhile.f l0_0 l1_0 a2 a3 = some (r1,r2)) :
  Calls Try.prog 43 #[.agg #[.slice A0_0 l0_0.length c0_0],.agg #[.slice A1_0 l1_0.length c1_0],.int .i64 a2,.int .i64 a3] w fun e w'=>∃ v0_ : Value,e = .returned (.tuple #[.agg #[v0_],.bool r2]) ∧ Kd.R k79 79 w' w.heap.size (fun _=>True) v0_ r1 ∧ Below w.heap.size w w':=by
 have hu33:=Try.underlying33
 have hu37:=Try.underlying37
 have hu79:=Try.underlying79
 have hsm : smT l0_0 = true ∧ l1_0.length ≤ 2097152:=by
  apply Classical.byContradiction
  intro hn
  rw [impl_RaiseWhile.f,if_neg hn] at h
  cases h
 rw [impl_RaiseWhile.f,if_pos hsm] at h
 have hR:=Option.some.inj h
 clear h
 have hlm:=hsm.2
 obtain ⟨y3,hy3⟩ : ∃ y_ : List Int,y_ = [a2,a3]:=⟨_,rfl⟩
 have Ny3:=a0_ hy3
 have HF:=a0_ (fun (A : Option Addr) (c : Nat) (W : World) (hb : Below w.heap.size w W) (hr : Kd.C (Kd.int .i64) W A y3.length y3) (hc : y3.length ≤ c)=>impl_faultsIn.calls A0_0 c0_0 l0_0 A1_0 c1_0 l1_0 A c y3 ((vH l0_0 l1_0 && hasF l1_0 a2) && hasF l1_0 a3) W (Kd.C_below hr0_0 hb) hc0_0 (Kd.C_below hr1_0 hb) hc1_0 hr hc (by rw [hy3];exact impl_faultsIn_ev2 l0_0 l1_0 a2 a3 hsm.1 hsm.2))
 have HCP:=a0_ (fun (W : World) (hb : Below w.heap.size w W)=>impl_Heap_copied.calls A1_0 c1_0 l1_0 l1_0 W (Kd.C_below hr1_0 hb) hc1_0 (impl_Heap_copied_ev l1_0 (by omega)))
 unfold raiP at hR
 have BT:=a0_ (blk_alloc (heap_old2 w (.cells #[.slice A0_0 l0_0.length c0_0] 33) (.cells #[.slice A1_0 l1_0.length c1_0] 37)) (.cells #[.slice none 0 0] 37))
 have BH:=a0_ (blk_alloc (heap_new2 w (.cells #[.slice A0_0 l0_0.length c0_0] 33) (.cells #[.slice A1_0 l1_0.length c1_0] 37)) (.cells #[.slice none 0 0] 37))
 have BZ:=a0_ (show (((w.alloc (.cells #[.slice A0_0 l0_0.length c0_0] 33)).alloc (.cells #[.slice A1_0 l1_0.length c1_0] 37)).alloc (.cells #[.slice none 0 0] 37)).heap[w.heap.size + 1 + 1]? = some (.cells #[.slice none 0 0] 37 (0,0)) by
  have:=heap_new1 ((w.alloc (.cells #[.slice A0_0 l0_0.length c0_0] 33)).alloc (.cells #[.slice A1_0 l1_0.length c1_0] 37)) (.cells #[.slice none 0 0] 37)
  simpa using this)
 have HB:=a0_ (below_alloc (below2 w (.cells #[.slice A0_0 l0_0.length c0_0] 33) (.cells #[.slice A1_0 l1_0.length c1_0] 37)) (.cells #[.slice none 0 0] 37))
 clear hr0_0 hr1_0 hsm hy3
 go_enter Try.func43,Try.ntmps43
 go_upto_region 1 with (fail)
 generalize ((w.alloc (.cells #[.slice A0_0 l0_0.length c0_0] 33)).alloc (.cells #[.slice A1_0 l1_0.length c1_0] 37)).alloc (.cells #[.slice none 0 0] 37) = W0 at BT BH BZ HB ⊢
 have hct:=(blk_cell BT.out 0).trans rfl
 have hch:=(blk_cell BH.out 0).trans rfl
 have hcz : W0.cell? ⟨w.heap.size + 1 + 1,0,none⟩ = some (.slice none 0 0):=(blk_cell BZ.out 0).trans rfl
 have hfz:=blk_frozen BZ.out 0
 cases hq : ((vH l0_0 l1_0 && hasF l1_0 a2) && hasF l1_0 a3) with
 | false =>
  rw [hq,if_neg (by simp)] at hR
  rw [hq] at HF
  clear hq
  obtain ⟨rfl,rfl⟩:=Prod.mk.inj hR
  go_wp2_with (first | ((with_reducible refine gate_dst (N:=15) rfl ?_);refine Kd.R_lit (Kd.int .i64) _ 3 ?hg (N:=15) ?hd (xs:=([a2,a3] : List Int)) (inner:=[.int .i64 a2,.int .i64 a3]) (ok:=fun _=>True) (okp:=fun _=>True) ?hr ?hp (fun _ hk=>hk) trivial (Below.refl _ _) (Nat.le_refl _) (by simp) ?_;(case hd=>rfl);(case hg=>rfl);(case hr=>first | (go_simp;done) | (go_simp;rfl));(case hp=>exact (Reps.one (show Kd.M (Kd.int .i64) _ _ _ a2 [.int .i64 a2] from rfl) (Reps.one (show Kd.M (Kd.int .i64) _ _ _ a3 [.int .i64 a3] from rfl) (Reps.none _ _))));intro v4 w12 ho13 hb hg_ hnew_;clear hg_ hnew_;rw [← Ny3.out] at ho13;have HO5:=a0_ ho13;replace BH:=a0_ (blk_keptB BH.out hb);replace BZ:=a0_ (blk_keptB BZ.out hb);replace HB:=a0_ (below_step HB.out hb);clear hb ho13 hch hcz hfz;have hch:=(blk_cell BH.out 0).trans rfl;have hcz : w12.cell? ⟨w.heap.size + 1 + 1,0,none⟩ = some (.slice none 0 0):=(blk_cell BZ.out 0).trans rfl;have hfz:=blk_frozen BZ.out 0;obtain ⟨Ao14,co14,eo14⟩:=Kd.R_slice HO5.out;subst eo14) | (go_at_call 67;refine (HF.out _ _ _ HB.out (Kd.R_reads' HO5.out).2.2 (Kd.R_reads' HO5.out).2.1).mono ?_;rintro e w' ⟨rfl,hb'⟩;replace BH:=a0_ (blk_keptB BH.out hb');replace BZ:=a0_ (blk_keptB BZ.out hb');replace HB:=a0_ (below_step HB.out hb');clear hb' hch hcz hfz;have hch:=(blk_cell BH.out 0).trans rfl;have hcz : w'.cell? ⟨w.heap.size + 1 + 1,0,none⟩ = some (.slice none 0 0):=(blk_cell BZ.out 0).trans rfl;have hfz:=blk_frozen BZ.out 0))
  refine bodyPost_ret (results_ct rfl _ _ (w.heap.size + 1 + 1) 37 #[.slice none 0 0] (0,0) _ rfl (blk_put BZ.out 0 _ rfl) Try.underlying37 rfl (by kernel_rfl)) rfl ?_
  exact ⟨_,rfl,Kd.R_nil _ _ _ _ _,below_set HB.out (by omega)⟩
 | true =>
  rw [hq,if_pos rfl] at hR
  rw [hq] at HF
  rw [Bool.and_eq_true] at hq
  obtain ⟨hfs,h0,h1⟩:=good_parts hq.1
  obtain ⟨g0,g1⟩:=hasF_in hq.2
  have HCX:=a0_ (fun (x : Int) (a : 0 ≤ x) (b : x < (l1_0.length : Int))=>(fsH_ctx hfs x a b).2)
  have HA:=a0_ (show 0 ≤ a2 ∧ a2 < (l1_0.length : Int) ∧ 0 ≤ a3 ∧ a3 < (l1_0.length : Int) from ⟨h0,h1,g0,g1⟩)
  obtain ⟨rfl,rfl⟩:=Prod.mk.inj hR
  clear hq hR hfs
  go_wp2_with (first | ((with_reducible refine gate_dst (N:=15) rfl ?_);refine Kd.R_lit (Kd.int .i64) _ 3 ?hg (N:=15) ?hd (xs:=([a2,a3] : List Int)) (inner:=[.int .i64 a2,.int .i64 a3]) (ok:=fun _=>True) (okp:=fun _=>True) ?hr ?hp (fun _ hk=>hk) trivial (Below.refl _ _) (Nat.le_refl _) (by simp) ?_;(case hd=>rfl);(case hg=>rfl);(case hr=>first | (go_simp;done) | (go_simp;rfl));(case hp=>exact (Reps.one (show Kd.M (Kd.int .i64) _ _ _ a2 [.int .i64 a2] from rfl) (Reps.one (show Kd.M (Kd.int .i64) _ _ _ a3 [.int .i64 a3] from rfl) (Reps.none _ _))));intro v4 w12 ho13 hb hg_ hnew_;clear hg_ hnew_;rw [← Ny3.out] at ho13;have HO5:=a0_ ho13;replace BH:=a0_ (blk_keptB BH.out hb);replace BZ:=a0_ (blk_keptB BZ.out hb);replace HB:=a0_ (below_step HB.out hb);clear hb ho13 hch hcz hfz;have hch:=(blk_cell BH.out 0).trans rfl;have hcz : w12.cell? ⟨w.heap.size + 1 + 1,0,none⟩ = some (.slice none 0 0):=(blk_cell BZ.out 0).trans rfl;have hfz:=blk_frozen BZ.out 0;obtain ⟨Ao14,co14,eo14⟩:=Kd.R_slice HO5.out;subst eo14) | (go_at_call 67;refine (HF.out _ _ _ HB.out (Kd.R_reads' HO5.out).2.2 (Kd.R_reads' HO5.out).2.1).mono ?_;rintro e w' ⟨rfl,hb'⟩;replace BH:=a0_ (blk_keptB BH.out hb');replace BZ:=a0_ (blk_keptB BZ.out hb');replace HB:=a0_ (below_step HB.out hb');clear hb' hch hcz hfz;have hch:=(blk_cell BH.out 0).trans rfl;have hcz : w'.cell? ⟨w.heap.size + 1 + 1,0,none⟩ = some (.slice none 0 0):=(blk_cell BZ.out 0).trans rfl;have hfz:=blk_frozen BZ.out 0) | (go_at_call 75;refine (HCP.out _ HB.out).mono ?_;rintro e w4 ⟨v0,rfl,ho4,hb4⟩;obtain ⟨go,c4,e4,hgo1,hgo2,hgo3⟩:=Kd.R_form ho4 (by omega);subst e4;have GO:=a0_ (show w.heap.size ≤ go from Nat.le_trans (below_size HB.out) hgo1);have HO4:=a0_ (Kd.R_lower ho4 (below_size HB.out));replace BZ:=a0_ (blk_keptB BZ.out hb4);replace HB:=a0_ (below_step HB.out hb4);clear ho4 hb4 hgo1 hgo2 hgo3 hch hcz hfz) | ((with_reducible refine gate_dst (N:=10) rfl ?_);refine box_event ?hg (N:=10) ?hd (cs:=#[.slice none 0 0]) (t:=37) ?hr ?_;(case hd=>rfl);(case hg=>rfl);(case hr=>first | (go_simp;done) | (go_simp;rfl));intro gb hg w5 hbox hb;have GB:=a0_ (show w.heap.size ≤ gb by rw [hg];exact below_size HB.out);have NZ:=a0_ (show w.heap.size + 1 + 1 ≠ gb by rw [hg];exact Nat.ne_of_lt (blk_lt BZ.out));replace HO4:=a0_ (Kd.R_below HO4.out hb);replace BZ:=a0_ (blk_keptB BZ.out hb);replace HB:=a0_ (below_step HB.out hb);have BW:=a0_ hbox;have NW:=a0_ (show gb ≠ go from fun e=>Kd.R_ne HO4.out BW.out (by decide) (by rw [e];rfl));clear hb hbox hg;have hcw : w5.cell? ⟨gb,0,none⟩ = some (.slice none 0 0):=(blk_cell BW.out 0).trans rfl;have hfw:=blk_frozen BW.out 0) | (go_at_call 81;refine (impl_Heap_while.callsF gb go l1_0.length c4 l1_0 a2 a3 w (w5.setCell ⟨gb,0,none⟩ (.slice (some ⟨go,0,none⟩) l1_0.length c4)) rfl (blk_put BW.out 0 _ rfl) (Kd.R_set HO4.out BW.out (by decide) 0 _) (below_set HB.out GB.out) GO.out (by omega) HCX.out HA.out.1 HA.out.2.1 HA.out.2.2.1 HA.out.2.2.2).mono ?_;rintro e w6 ⟨rfl,ho6,hb6,hk6⟩;have HO6:=a0_ ho6;have BW6:=a0_ (hk6 gb _ (blk_put BW.out 0 _ rfl) NW.out);have BZ6:=a0_ (hk6 _ _ (blk_far BZ.out NZ.out _) (fun e=>Kd.R_ne HO4.out BZ.out (by decide) (by rw [e];rfl)));replace HB:=a0_ hb6;clear hcw hfw ho6 hb6 hk6;have hcw : w6.cell? ⟨gb,0,none⟩ = some (.slice (some ⟨go,0,none⟩) l1_0.length c4):=(blk_cell BW6.out 0).trans rfl;have hcz : w6.cell? ⟨w.heap.size + 1 + 1,0,none⟩ = some (.slice none 0 0):=(blk_cell BZ6.out 0).trans rfl;have hfz:=blk_frozen BZ6.out 0))
  refine bodyPost_ret (results_ct rfl _ _ (w.heap.size + 1 + 1) 37 #[_] (0,0) _ rfl (blk_put BZ6.out 0 _ rfl) Try.underlying37 rfl (by kernel_rfl)) rfl ?_
  exact ⟨_,rfl,Kd.R_set HO6.out BZ6.out (by decide) 0 _,below_set HB.out (by omega)⟩
theorem impl_RaiseWhile_ev (t : List Cls) (h : List Fau) (f g : Int) (hs : smT t = true) (hl : h.length ≤ 2097152) : impl_RaiseWhile.f t h f g = some (raiP t h f g):=by rw [impl_RaiseWhile.f,if_pos ⟨hs,hl⟩]
end Go.Proofs.Ytfhcfhffmblacaa.P
