/- Texts under the proof of FnValidProgram: helper words, the functions' contracts and the plain laws. No condition. -/
import Derived.Test.YtacgehaipacehaaQFnValidPrograma
import Derived.Test.YtacgehaipacehaaQFnValidProgramb
import Derived.Test.YtacgehaipacehaaQFnValidProgramc
import Derived.Test.YtacgehaipacehaaQFnValidPrograme
namespace Go.Proofs.Ytacgehaipacehaa.P
open Go.RowKit Go.Proofs.YtacgehaipacehaaW.PrintWords Go.Proofs.YtacgehaipacehaaW.PrintLast Go.Proofs.YtacgehaipacehaaW.PrintMore
attribute [local go_sem] max2_int min2_int max_two min_two max_three min_three max_four min_four
set_option linter.unusedVariables false
set_option linter.unusedSimpArgs false
mutual
def laws_FnValidProgram.j0 : Nat → List (S75) → Bool → Bool → List (S125) → Option (Bool)
 | 0,_,_,_,_=>none
 | k + 1,x4,x5,x27,x8000=>if x27 = true then ((spec_ValidProgram.f k x8000 x4).bind fun t10=>(some (x5 == t10))) else ((some (([] : List (S75)) : List (S75))).bind fun y11=>(if y11.length + x4.length < 4398046511104 then (laws_FnValidProgram.l0 k (y11 ++ x4) 0 x8000) else (none)))
def laws_FnValidProgram.l0 : Nat → List (S75) → Int → List (S125) → Option (Bool)
 | 0,_,_,_=>none
 | k + 1,x6,x7,x8000=>if x7 < (x6.length : Int) then (if 0 ≤ x7 then (if ((rd_T75 x6 x7).f1) = 1 then (laws_FnValidProgram.l0 k (x6.set (x7 : Int).toNat (⟨(rd_T75 x6 x7).f0,0,0,0⟩ : S75)) (wrap64 (x7 + 1)) x8000) else (laws_FnValidProgram.l0 k x6 (wrap64 (x7 + 1)) x8000)) else (none)) else ((impl_ValidProgram.f k x8000 x6).bind fun t20=>(if t20 = true then ((impl_ValidProgram.f k x8000 ([] : List (S75))).bind fun t21=>(some t21)) else (some false)))
end
def laws_FnValidProgram.f (k : Nat) (l0 : List Int) : Option (Bool):=if (l0.length : Int) > 1048576 then (some true) else ((spec_DrawValidProgram.f k l0).bind fun bt1=>((impl_ValidProgram.f k bt1.1 bt1.2).bind fun t8=>((spec_ValidProgram.f k bt1.1 bt1.2).bind fun t9=>(if (t8 != t9) = true then (laws_FnValidProgram.j0 k bt1.2 t8 true bt1.1) else (laws_FnValidProgram.j0 k bt1.2 t8 (!t8) bt1.1)))))
theorem laws_FnValidProgram.mono_l : ∀ k,(∀ y0 y1 y2 y3,LeO (laws_FnValidProgram.j0 k y0 y1 y2 y3) (laws_FnValidProgram.j0 (k + 1) y0 y1 y2 y3)) ∧ (∀ y0 y1 y2,LeO (laws_FnValidProgram.l0 k y0 y1 y2) (laws_FnValidProgram.l0 (k + 1) y0 y1 y2))
 | 0=>⟨fun _ _ _ _ r h=>by simp [laws_FnValidProgram.j0] at h,fun _ _ _ r h=>by simp [laws_FnValidProgram.l0] at h⟩
 | k + 1=>by
  obtain ⟨ih0,ih1⟩:=laws_FnValidProgram.mono_l k
  refine ⟨?_,?_⟩
  ·intro y0 y1 y2 y3
   unfold laws_FnValidProgram.j0
   repeat' first
   | (with_reducible exact ih0 _ _ _ _)
   | (with_reducible exact ih1 _ _ _)
   | (with_reducible exact impl_ValidProgram.mono _ _ _)
   | (with_reducible exact spec_DrawValidProgram.mono _ _)
   | (with_reducible exact spec_ValidProgram.mono _ _ _)
   | (with_reducible exact LeO.refl _)
   | (with_reducible exact LeO.none _)
   | (with_reducible refine LeO.ite ?_ ?_)
   | (with_reducible refine LeO.bind ?_ (fun _=>?_))
  ·intro y0 y1 y2
   unfold laws_FnValidProgram.l0
   repeat' first
   | (with_reducible exact ih0 _ _ _ _)
   | (with_reducible exact ih1 _ _ _)
   | (with_reducible exact impl_ValidProgram.mono _ _ _)
   | (with_reducible exact spec_DrawValidProgram.mono _ _)
   | (with_reducible exact spec_ValidProgram.mono _ _ _)
   | (with_reducible exact LeO.refl _)
   | (with_reducible exact LeO.none _)
   | (with_reducible refine LeO.ite ?_ ?_)
   | (with_reducible refine LeO.bind ?_ (fun _=>?_))
theorem laws_FnValidProgram.mono : ∀ a0 k,LeO (laws_FnValidProgram.f k a0) (laws_FnValidProgram.f (k + 1) a0):=by
 intro a0 k
 obtain ⟨ih0,ih1⟩:=laws_FnValidProgram.mono_l k
 unfold laws_FnValidProgram.f
 repeat' first
   | (with_reducible exact ih0 _ _ _ _)
   | (with_reducible exact ih1 _ _ _)
   | (with_reducible exact impl_ValidProgram.mono _ _ _)
   | (with_reducible exact spec_DrawValidProgram.mono _ _)
   | (with_reducible exact spec_ValidProgram.mono _ _ _)
   | (with_reducible exact LeO.refl _)
   | (with_reducible exact LeO.none _)
   | (with_reducible refine LeO.ite ?_ ?_)
   | (with_reducible refine LeO.bind ?_ (fun _=>?_))
set_option maxHeartbeats 8000000 in
set_option maxRecDepth 100000 in
theorem laws_FnValidProgram.calls (k : Nat) (A0 : Option Addr) (c0 : Nat) (l0 : List Int) (r : Bool) (w : World) (hr0 : Kd.C (Kd.int .u8) w A0 l0.length l0) (hc0 : l0.length ≤ c0) (h : laws_FnValidProgram.f k l0 = some r) :
  Calls Try.prog 8 #[.slice A0 l0.length c0] w fun e w'=>e = .returned (.bool r) ∧ Below w.heap.size w w':=by
 have hu25:=Try.underlying25;have hu75:=Try.underlying75;have HR0:=a0_ hr0;have HC0:=a0_ hc0;clear hr0 hc0;have HB:=a0_ (Below.refl w.heap.size w);have H : (if (l0.length : Int) > 1048576 then (some true) else ((spec_DrawValidProgram.f k l0).bind fun bt1=>((impl_ValidProgram.f k bt1.1 bt1.2).bind fun t8=>((spec_ValidProgram.f k bt1.1 bt1.2).bind fun t9=>(if (t8 != t9) = true then (laws_FnValidProgram.j0 k bt1.2 t8 true bt1.1) else (laws_FnValidProgram.j0 k bt1.2 t8 (!t8) bt1.1)))))) = some r:=h;clear h;by_cases c2 : (l0.length : Int) > 1048576
 ·rw [if_pos c2] at H
  have c2b0 : decide (1048576 < (l0.length : Int)) = true:=decide_eq_true c2;have c2b1 : decide (1048576 < l0.length) = true:=decide_eq_true (by omega);clear c2;obtain rfl:=Option.some.inj H;go_enter Try.func8,Try.ntmps8;go_wp2;go_ret;exact ⟨by first | rfl | (simp [errW_none,errW_some] <;> rfl) | (simp [*,errW_none,errW_some] <;> rfl),hbw_⟩
 ·rw [if_neg c2] at H
  have c2b0 : decide (1048576 < (l0.length : Int)) = false:=decide_eq_false c2;have c2b1 : decide (1048576 < l0.length) = false:=decide_eq_false (by omega);clear c2;replace H:=Option.bind_eq_some_iff.mp H;obtain ⟨⟨t1,t4⟩,A30,H⟩:=H;(try dsimp only at H);have A3:=a0_ A30;clear A30;replace H:=Option.bind_eq_some_iff.mp H;obtain ⟨t8,A40,H⟩:=H;(try dsimp only at H);have A4:=a0_ A40;clear A40;have HC5:=a0_ H;clear H;go_enter Try.func8,Try.ntmps8;go_upto_region 5 with (first | ((with_reducible refine gate_callee (f:=47) rfl ?_);refine goesL_ (some 13) rfl rfl Try.func47 (by kernel_rfl) rfl #[.slice A0 l0.length c0] rfl lm_ ?_;(with_reducible refine (spec_DrawValidProgram.calls k _ _ l0 t1 t4 _ ?side1 ?side2 A3.out).mono ?_);(case side1=>repeat (first | exact HR0.out | (with_reducible refine Kd.C_alloc ?_ _) | (with_reducible refine Kd.C_drewN ?_ _) | (with_reducible refine Kd.C_drew ?_)));(case side2=>exact HC0.out);rintro e w6 ⟨v2,v5,rfl,ho0,ho1,hb⟩;refine ⟨_,rfl,?_⟩;have HO3:=a0_ (Kd.R_lower ho0 (below_size hbw_));have HO6:=a0_ (Kd.Q_lower ho1 (below_size hbw_));replace HB:=a0_ (below_step hbw_ hb);(try clear hb);(try clear ho0);(try clear ho1)) | ((with_reducible refine gate_dst (N:=3) rfl ?_);refine box_event ?hg (N:=3) ?hd (cs:=#[.slice none 0 0]) (t:=25) ?hr ?_;(case hd=>rfl);(case hg=>rfl);(case hr=>first | (go_simp;done) | (go_simp;rfl));intro gb7 hg w7 hbox hb;replace HO3:=rb_ HO3 hb;replace HO6:=a0_ (Kd.Q_below (by (with_reducible repeat (first | apply Kd.Q_alloc | apply Kd.Q_drewN | apply Kd.Q_drew));exact HO6.out) hb);have BK7:=a0_ (hbox);have GW7:=a0_ ((by rw [hg];exact (below_size hbw_) : w.heap.size ≤ gb7));have GE7:=a0_ ((by rw [hg];exact (below_size hbw_) : w.heap.size ≤ gb7));replace HB:=a0_ (below_step hbw_ hb);clear hb hbox hg;obtain ⟨Ao8,co8,eo8⟩:=Kd.R_slice HO3.out;subst eo8;have hcz9_0 : w7.cell? ⟨gb7,0,none⟩ = some (.slice none 0 0):=(blk_cell BK7.out 0).trans rfl;have hfz9_0:=blk_frozen BK7.out 0;obtain ⟨Ao10,co10,eo10,_⟩:=Kd.Q_slice HO6.out;subst eo10) | ((with_reducible refine gate_callee (f:=45) rfl ?_);refine goesL_ (some 18) rfl rfl Try.func45 (by kernel_rfl) rfl #[.agg #[.slice Ao8 t1.length co8],.slice Ao10 t4.length co10] rfl lm_ ?_;(with_reducible refine (impl_ValidProgram.calls k _ _ t1 _ _ t4 t8 _ ?side1 ?side2 ?side3 ?side4 A4.out).mono ?_);(case side1=>refine (Kd.R_reads' (e:=125) (base:=w.heap.size) (ok:=fun k_=>True) (n:=t1.length) (c:=co8) ?_).2.2;exact (by (with_reducible repeat (first | apply Kd.R_alloc | apply Kd.R_drewN | apply Kd.R_drew));exact (Kd.R_mono (Kd.R_far (p:=⟨gb7,0,none⟩) (Kd.R_types HO3.out BK7.out (by decide)) (fun _ hk=>hk.2) (.slice Ao8 t1.length co8)) (fun _ h_=>h_.1))));(case side2=>exact (Kd.R_reads' HO3.out).2.1);(case side3=>refine (Kd.Q_reads' (e:=75) (base:=w.heap.size) (ok:=fun k_=>True) (n:=t4.length) (c:=co10) ?_).2.2;exact (by (with_reducible repeat (first | apply Kd.Q_alloc | apply Kd.Q_drewN | apply Kd.Q_drew));exact (Kd.Q_mono (Kd.Q_far (p:=⟨gb7,0,none⟩) (Kd.Q_types HO6.out BK7.out (by decide)) (fun _ hk=>hk.2) (.slice Ao8 t1.length co8)) (fun _ h_=>h_.1))));(case side4=>exact (Kd.Q_reads' HO6.out).2.1);rintro e w11 ⟨rfl,hb⟩;refine ⟨_,rfl,?_⟩;replace HO3:=a0_ (Kd.R_below (by (with_reducible repeat (first | apply Kd.R_alloc | apply Kd.R_drewN | apply Kd.R_drew));exact (Kd.R_mono (Kd.R_far (p:=⟨gb7,0,none⟩) (Kd.R_types HO3.out BK7.out (by decide)) (fun _ hk=>hk.2) (.slice Ao8 t1.length co8)) (fun _ h_=>h_.1))) hb);replace HO6:=a0_ (Kd.Q_below (by (with_reducible repeat (first | apply Kd.Q_alloc | apply Kd.Q_drewN | apply Kd.Q_drew));exact (Kd.Q_mono (Kd.Q_far (p:=⟨gb7,0,none⟩) (Kd.Q_types HO6.out BK7.out (by decide)) (fun _ hk=>hk.2) (.slice Ao8 t1.length co8)) (fun _ h_=>h_.1))) hb);replace BK7:=a0_ (blk_below (g:=gb7) (o:=.cells #[.slice Ao8 t1.length co8] 25 (0,0)) (by (with_reducible repeat (first | refine blk_drewN ?_ _ | refine blk_drew ?_ | refine blk_alloc ?_ _));refine blk_put (cs:=#[.slice none 0 0]) ?_ 0 _ rfl;(with_reducible repeat (first | refine blk_drewN ?_ _ | refine blk_drew ?_ | refine blk_alloc ?_ _));exact BK7.out) hb);replace HB:=a0_ (below_step hbw_ hb);(try clear hb);(try clear hb2);(try clear hk);(try clear hi)));(try simp only [Act.put,s1_,s2_,s3_]);go_cut [27] (fun v27 wc=>∃ (kq : Nat) (x27_4 : Bool),v27 = .bool x27_4 ∧ Aside0 (laws_FnValidProgram.j0 kq t4 t8 x27_4 t1 = some r) ∧ Aside0 (kq ≤ k) ∧ Aside0 (Kd.Q k75 75 wc w.heap.size (fun _=>True) (.slice Ao10 t4.length co10) t4) ∧ Aside0 (Kd.R k125 125 wc w.heap.size (fun _=>True) (.slice Ao8 t1.length co8) t1) ∧ Aside0 (wc.heap[gb7]? = some (.cells #[(.slice Ao8 t1.length co8)] 25 (0,0))) ∧ Aside0 (Below w.heap.size w wc))
  case first =>
   have H:=HC5.out;clear HC5;replace H:=Option.bind_eq_some_iff.mp H;obtain ⟨t9,A120,H⟩:=H;(try dsimp only at H);have A12:=a0_ A120;clear A120;by_cases c13 : (t8 != t9) = true
   ·rw [if_pos c13] at H
    have c13b0 : (t8 != t9) = true:=c13;(try (have c13b1 : decide (t8 = t9) = false:=by simpa using c13));(try (have c13b2 : (t8 == t9) = false:=by simpa using c13));(try (have c13b3 : ¬ (t8 = t9):=by simpa using c13));clear c13;(first | rw [c13b0] | (simp only [i64_w,i32_w];rw [c13b0]) | skip);have H':=a0_ H;clear H;have hcz14_0 : w11.cell? ⟨gb7,0,none⟩ = some (.slice Ao8 t1.length co8):=(blk_cell BK7.out 0).trans rfl;have hfz14_0:=blk_frozen BK7.out 0;go_wp2_with (first | ((with_reducible refine gate_callee (f:=43) rfl ?_);refine goesL_ (some 22) rfl rfl Try.func43 (by kernel_rfl) rfl #[.agg #[.slice Ao8 t1.length co8],.slice Ao10 t4.length co10] rfl lm_ ?_;(with_reducible refine (spec_ValidProgram.calls k _ _ t1 _ _ t4 t9 _ ?side1 ?side2 ?side3 ?side4 A12.out).mono ?_);(case side1=>exact cc_ (Kd.R_reads' HO3.out).2.2);(case side2=>exact (Kd.R_reads' HO3.out).2.1);(case side3=>repeat (first | exact (Kd.Q_reads' HO6.out).2.2 | (with_reducible refine Kd.C_alloc ?_ _) | (with_reducible refine Kd.C_drewN ?_ _) | (with_reducible refine Kd.C_drew ?_)));(case side4=>exact (Kd.Q_reads' HO6.out).2.1);rintro e w15 ⟨rfl,hb⟩;refine ⟨_,rfl,?_⟩;replace HO3:=rb_ HO3 hb;replace HO6:=a0_ (Kd.Q_below (by (with_reducible repeat (first | apply Kd.Q_alloc | apply Kd.Q_drewN | apply Kd.Q_drew));exact HO6.out) hb);replace BK7:=kb_ BK7 hb;replace HB:=a0_ (below_step hbw_ hb);(try clear hb);(try clear hb2);(try clear hk);(try clear hi)));go_meet
    case rel=>exact ⟨_,(true),(by first | rfl | (simp;done) | (simp [*];done)),H',⟨by first | omega | exact Nat.le_refl _⟩,⟨by (with_reducible repeat (first | apply Kd.Q_alloc | apply Kd.Q_drewN | apply Kd.Q_drew));exact HO6.out⟩,⟨by (with_reducible repeat (first | apply Kd.R_alloc | apply Kd.R_drewN | apply Kd.R_drew));exact HO3.out⟩,⟨by (with_reducible repeat (first | refine blk_drewN ?_ _ | refine blk_drew ?_ | refine blk_alloc ?_ _));exact BK7.out⟩,⟨hbw_⟩⟩
   ·rw [if_neg c13] at H
    have c13b0 : (t8 != t9) = false:=by simpa using c13
    (try (have c13b1 : decide (t8 = t9) = true:=by simpa using c13));(try (have c13b2 : (t8 == t9) = true:=by simpa using c13));clear c13;(first | rw [c13b0] | (simp only [i64_w,i32_w];rw [c13b0]) | skip);have H':=a0_ H;clear H;have hcz16_0 : w11.cell? ⟨gb7,0,none⟩ = some (.slice Ao8 t1.length co8):=(blk_cell BK7.out 0).trans rfl;have hfz16_0:=blk_frozen BK7.out 0;go_wp2_with (first | ((with_reducible refine gate_callee (f:=43) rfl ?_);refine goesL_ (some 22) rfl rfl Try.func43 (by kernel_rfl) rfl #[.agg #[.slice Ao8 t1.length co8],.slice Ao10 t4.length co10] rfl lm_ ?_;(with_reducible refine (spec_ValidProgram.calls k _ _ t1 _ _ t4 t9 _ ?side1 ?side2 ?side3 ?side4 A12.out).mono ?_);(case side1=>exact cc_ (Kd.R_reads' HO3.out).2.2);(case side2=>exact (Kd.R_reads' HO3.out).2.1);(case side3=>repeat (first | exact (Kd.Q_reads' HO6.out).2.2 | (with_reducible refine Kd.C_alloc ?_ _) | (with_reducible refine Kd.C_drewN ?_ _) | (with_reducible refine Kd.C_drew ?_)));(case side4=>exact (Kd.Q_reads' HO6.out).2.1);rintro e w17 ⟨rfl,hb⟩;refine ⟨_,rfl,?_⟩;replace HO3:=rb_ HO3 hb;replace HO6:=a0_ (Kd.Q_below (by (with_reducible repeat (first | apply Kd.Q_alloc | apply Kd.Q_drewN | apply Kd.Q_drew));exact HO6.out) hb);replace BK7:=kb_ BK7 hb;replace HB:=a0_ (below_step hbw_ hb);(try clear hb);(try clear hb2);(try clear hk);(try clear hi)));go_meet
    case rel=>exact ⟨_,(!t8),(by first | rfl | (simp;done) | (simp [*];done)),H',⟨by first | omega | exact Nat.le_refl _⟩,⟨by (with_reducible repeat (first | apply Kd.Q_alloc | apply Kd.Q_drewN | apply Kd.Q_drew));exact HO6.out⟩,⟨by (with_reducible repeat (first | apply Kd.R_alloc | apply Kd.R_drewN | apply Kd.R_drew));exact HO3.out⟩,⟨by (with_reducible repeat (first | refine blk_drewN ?_ _ | refine blk_drew ?_ | refine blk_alloc ?_ _));exact BK7.out⟩,⟨hbw_⟩⟩
  case rest =>
   clear HC5;(try clear c1);(try clear c2);(try clear c2b0);(try clear c2b1);(try clear p2);(try clear c4);(try clear c8);(try clear c13);(try clear c13b0);(try clear c13b1);(try clear c13b2);(try clear hcz14_0);(try clear hcz16_0);(try clear hcz9_0);(try clear hfz14_0);(try clear hfz16_0);(try clear hfz9_0);obtain ⟨kq,x27_4,rfl,HA,HJ4,HO_4,Z8,BK7,HB⟩:=hcut
   cases kq with
   | zero=>exact absurd HA.out (by simp [laws_FnValidProgram.j0])
   | succ kj4 =>
    have H:=HA.out;clear HA;simp only [laws_FnValidProgram.j0] at H;by_cases c18 : x27_4 = true
    ·subst c18
     have H1 : ((spec_ValidProgram.f kj4 t1 t4).bind fun t10=>(some (t8 == t10))) = some r:=by rw [if_pos rfl] at H;exact H
     clear H;have H:=H1;clear H1;replace H:=Option.bind_eq_some_iff.mp H;obtain ⟨t10,A190,H⟩:=H;replace H : (some (t8 == t10)) = some r:=H;have A19:=a0_ A190;clear A190;obtain rfl:=Option.some.inj H;have hcz20_0 : wc.cell? ⟨gb7,0,none⟩ = some (.slice Ao8 t1.length co8):=(blk_cell BK7.out 0).trans rfl;have hfz20_0:=blk_frozen BK7.out 0;go_wp2_with (first | ((with_reducible refine gate_callee (f:=43) rfl ?_);refine goesL_ (some 31) rfl rfl Try.func43 (by kernel_rfl) rfl #[.agg #[.slice Ao8 t1.length co8],.slice Ao10 t4.length co10] rfl lm_ ?_;(with_reducible refine (spec_ValidProgram.calls kj4 _ _ t1 _ _ t4 t10 _ ?side1 ?side2 ?side3 ?side4 A19.out).mono ?_);(case side1=>exact cc_ (Kd.R_reads' Z8.out).2.2);(case side2=>exact (Kd.R_reads' Z8.out).2.1);(case side3=>repeat (first | exact (Kd.Q_reads' HO_4.out).2.2 | (with_reducible refine Kd.C_alloc ?_ _) | (with_reducible refine Kd.C_drewN ?_ _) | (with_reducible refine Kd.C_drew ?_)));(case side4=>exact (Kd.Q_reads' HO_4.out).2.1);rintro e w21 ⟨rfl,hb⟩;refine ⟨_,rfl,?_⟩;replace HO_4:=a0_ (Kd.Q_below (by (with_reducible repeat (first | apply Kd.Q_alloc | apply Kd.Q_drewN | apply Kd.Q_drew));exact HO_4.out) hb);replace Z8:=rb_ Z8 hb;replace BK7:=kb_ BK7 hb;replace HB:=a0_ (below_step hbw_ hb);(try clear hb);(try clear hb2);(try clear hk);(try clear hi)));go_ret;exact ⟨by first | rfl | (simp [errW_none,errW_some] <;> rfl) | (simp [*,errW_none,errW_some] <;> rfl),hbw_⟩
    ·replace c18:=Bool.eq_false_iff.mpr c18
     subst c18
     have H1 : ((some (([] : List (S75)) : List (S75))).bind fun y11=>(if y11.length + t4.length < 4398046511104 then (laws_FnValidProgram.l0 kj4 (y11 ++ t4) 0 t1) else (none))) = some r:=by rw [if_neg (show ¬ (false = true) by decide)] at H;exact H
     clear H;have H:=H1;clear H1;obtain ⟨y11,hy11⟩ : ∃ y_ : List (S75),y_ = (([] : List (S75))):=⟨_,rfl⟩
     replace H : (if y11.length + t4.length < 4398046511104 then (laws_FnValidProgram.l0 kj4 (y11 ++ t4) 0 t1) else (none)) = some r:=by first | (rw [hy11];with_reducible exact H) | (have H2_:=(Option.bind_some _ _).symm.trans H;rw [hy11];with_reducible exact H2_) | (have H2_:=(Option.bind_some _ _).symm.trans H;with_reducible exact H2_) | with_reducible exact H | (rw [hy11];exact H) | exact H
     have Ny11:=a0_ hy11;clear hy11;by_cases c22 : y11.length + t4.length < 4398046511104
     ·rw [if_pos c22] at H
      have LMc22:=a0_ c22;clear c22;obtain ⟨y14,hy14⟩ : ∃ y_ : List (S75),y_ = (y11 ++ t4):=⟨_,rfl⟩
      replace H : (laws_FnValidProgram.l0 kj4 y14 0 t1) = some r:=by first | (rw [hy14];with_reducible exact H) | (have H2_:=(Option.bind_some _ _).symm.trans H;rw [hy14];with_reducible exact H2_) | (have H2_:=(Option.bind_some _ _).symm.trans H;with_reducible exact H2_) | with_reducible exact H | (rw [hy14];exact H) | exact H
      have Ny14:=a0_ hy14;clear hy14;have H':=a0_ H;clear H;go_wp2_with (first | ((with_reducible refine gate_dst (N:=33) rfl ?_);refine Kd.R_lit k75 _ 75 ?hg (N:=33) ?hd (xs:=([] : List (S75))) (inner:=[]) (ok:=fun _=>True) (okp:=fun _=>True) ?hr ?hp (fun _ hk=>hk) trivial (Below.refl _ _) (Nat.le_refl _) (by simp) ?_;(case hd=>rfl);(case hg=>rfl);(case hr=>first | (go_simp;done) | (go_simp;rfl));(case hp=>exact (Reps.none _ _));intro v12 w23 ho24 hb hg_ hnew_;clear hg_ hnew_;(first | rw [← Ny11.out] at ho24 | (simp only [Int.reduceToNat] at ho24;rw [← Ny11.out] at ho24));have n0_:=a0_ (Kd.Q_elder' (by (with_reducible repeat (first | apply Kd.Q_alloc | apply Kd.Q_drewN | apply Kd.Q_drew));exact HO_4.out) (Kd.R_base ho24) hb);have n1_:=rb_ Z8 hb;have n2_:=a0_ (Kd.R_lower (Kd.R_new' ho24 (Kd.Q_lt (by (with_reducible repeat (first | apply Kd.Q_alloc | apply Kd.Q_drewN | apply Kd.Q_drew));exact HO_4.out))) (below_size hbw_));have n3_:=kb_ BK7 hb;have n4_:=a0_ (below_step hbw_ hb);clear HO_4 Z8;clear BK7 HB;have HO_4:=n0_;have Z8:=n1_;have HO13:=n2_;have BK7:=n3_;have HB:=n4_;clear n0_ n1_ n2_ n3_ n4_;clear hb ho24) | ((with_reducible refine gate_builtin (b:=.append) (xs:=#[.tmp 33,.tmp 34]) rfl ?_);at_builtin;refine Kd.R_append_rows k75 (w0:=w) w.heap.size rfl (.tmp 33) (.tmp 34) 68 75 (.agg #[(.int .i64 0),(.int .i64 0),(.int .i64 0),(.int .i64 0)]) 32 rfl Try.underlying68 info75 rfl (by decide) (by omega) v12 y11 t4 _ _ _ (fun k_=>some k_ ≠ (.slice Ao10 t4.length co10 : Value).ownBlock) (fun _=>False) rfl rfl ?aO ?aR (fun _ _ h=>h) (fun _ h=>h.elim) ?aF ?aB ?aS ?aL ?_;(case aR=>repeat (first | exact (Kd.Q_reads' HO_4.out).2.2 | (with_reducible refine Kd.C_alloc ?_ _) | (with_reducible refine Kd.C_drewN ?_ _) | (with_reducible refine Kd.C_drew ?_)));(case aB=>exact hbw_);(case aF=>exact (fun k_ hk=>Kd.fresh' (Kd.Q_lt (by (with_reducible repeat (first | apply Kd.Q_alloc | apply Kd.Q_drewN | apply Kd.Q_drew));exact HO_4.out)) k_ hk));(case aO=>exact (rm_ HO13.out (fun _ hk=>hk.2)));(case aS=>exact (below_size hbw_));(case aL=>have:=LMc22.out;omega);intro v15 w25 ho hb hg hat;rw [← Ny14.out] at ho;replace HO_4:=a0_ (Kd.Q_after (ok:=(fun _=>True)) (by (with_reducible repeat (first | apply Kd.Q_alloc | apply Kd.Q_drewN | apply Kd.Q_drew));exact HO_4.out) hg hat);replace Z8:=a0_ (Kd.R_over' (rr_ Z8.out) (Kd.R_typed (rr_ HO13.out)) (by decide) hg);replace BK7:=a0_ (blk_grown (bb_ BK7.out) hg (Kd.R_ne HO13.out BK7.out (by decide)));have HO16:=a0_ (ho);replace HB:=a0_ (hb);clear HO13;clear ho hb hg hat));go_loopg [7] kj4 (fun kq v7 w'=>∃ (x6_2 : List (S75)) (x7_2 : Int),v7 = .int .i64 x7_2 ∧ Aside0 (laws_FnValidProgram.l0 kq x6_2 x7_2 t1 = some r) ∧ Aside0 (kq ≤ kj4) ∧ Aside0 (Kd.R k75 75 w' w.heap.size (fun _=>True) v15 x6_2) ∧ Aside0 (Kd.R k125 125 w' w.heap.size (fun _=>True) (.slice Ao8 t1.length co8) t1) ∧ Aside0 (w'.heap[gb7]? = some (.cells #[(.slice Ao8 t1.length co8)] 25 (0,0))) ∧ Aside0 (Below w.heap.size w w'))
      case atStart=>exact ⟨(y14),(0),(by first | rfl | (simp;done) | (simp [*];done)),H',⟨Nat.le_refl _⟩,⟨by (with_reducible repeat (first | apply Kd.R_alloc | apply Kd.R_drewN | apply Kd.R_drew));exact Kd.R_mono HO16.out (fun _ hk=>trivial)⟩,⟨by (with_reducible repeat (first | apply Kd.R_alloc | apply Kd.R_drewN | apply Kd.R_drew));exact Z8.out⟩,⟨by (with_reducible repeat (first | refine blk_drewN ?_ _ | refine blk_drew ?_ | refine blk_alloc ?_ _));exact BK7.out⟩,⟨hbw_⟩⟩
      case round =>
       clear H';(try clear c1);(try clear c2);(try clear c2b0);(try clear c2b1);(try clear p2);(try clear c4);(try clear c8);(try clear c13);(try clear c13b0);(try clear c13b1);(try clear c13b2);(try clear c18);(try clear c22);(try clear hcz14_0);(try clear hcz16_0);(try clear hcz20_0);(try clear hcz9_0);(try clear hfz14_0);(try clear hfz16_0);(try clear hfz20_0);(try clear hfz9_0);(try clear p2);obtain ⟨x6_2,x7_2,rfl,HA,HK2,HO_6,Z8,BK7,HB⟩:=hrel
       cases gk with
       | zero=>exact absurd HA.out (by simp [laws_FnValidProgram.l0])
       | succ k2 =>
        have H:=HA.out;clear HA;simp only [laws_FnValidProgram.l0] at H;by_cases c26 : x7_2 < (x6_2.length : Int)
        ·rw [if_pos c26] at H
         have c26b0 : decide (x7_2 < (x6_2.length : Int)) = true:=decide_eq_true c26;clear c26;by_cases c27 : 0 ≤ x7_2
         ·rw [if_pos c27] at H
          have c27b0 : decide (0 ≤ x7_2) = true:=decide_eq_true c27;clear c27;by_cases c28 : ((rd_T75 x6_2 x7_2).f1) = 1
          ·rw [if_pos c28] at H
           have c28b0 : (((rd_T75 x6_2 x7_2).f1) == 1) = true:=beq_iff_eq.mpr c28;have c28b1 : (((rd_T75 x6_2 x7_2).f1) != 1) = false:=bne_eq_false_iff_eq.mpr c28;clear c28;obtain ⟨y19,hy19⟩ : ∃ y_ : List (S75),y_ = (x6_2.set (x7_2 : Int).toNat (⟨(rd_T75 x6_2 x7_2).f0,0,0,0⟩ : S75)):=⟨_,rfl⟩
           replace H : (laws_FnValidProgram.l0 k2 y19 (wrap64 (x7_2 + 1)) t1) = some r:=by first | (rw [hy19];with_reducible exact H) | (have H2_:=(Option.bind_some _ _).symm.trans H;rw [hy19];with_reducible exact H2_) | (have H2_:=(Option.bind_some _ _).symm.trans H;with_reducible exact H2_) | with_reducible exact H | (rw [hy19];exact H) | exact H
           have Ny19:=a0_ hy19;clear hy19;have H':=a0_ H;clear H;obtain ⟨Ao30,co30,eo30⟩:=Kd.R_slice HO_6.out;subst eo30;have p17 : 0 ≤ (x7_2 : Int):=od_;have q17 : x7_2 < (x6_2.length : Int):=od_;obtain ⟨ad17,e17,hx17_0,hx17_1,hx17_2,hx17_3⟩:=at_T75 (Kd.R_reads' HO_6.out).2.2 x7_2 p17 q17;cases e17;replace p17:=eq_true p17;replace q17:=eq_true q17;have p18 : 0 ≤ (x7_2 : Int):=od_;have q18 : x7_2 < (x6_2.length : Int):=od_;obtain ⟨ad18,e18,hx18_0,hx18_1,hx18_2,hx18_3⟩:=at_T75 (Kd.R_reads' HO_6.out).2.2 x7_2 p18 q18;obtain rfl : ad17 = ad18:=(by injection e18);replace p18:=eq_true p18;replace q18:=eq_true q18;have p29 : 0 ≤ (x7_2 : Int):=od_;have q29 : (x7_2 : Int) < ((x6_2.length : Int) : Int):=od_;obtain ⟨go29,co29,eo29,gb29,gl29,cl29,HG29⟩:=Kd.R_form HO_6.out (by omega);(first | cases eo29 | (injection eo29 with ea_ en_ ec_;(first | subst ea_ | (injection ea_ with ea_;subst ea_));subst ec_;clear en_));have GB29:=a0_ gb29;have GG29:=a0_ HG29;clear gb29 gl29 HG29;(first | simp only [add_plain] at hx17_0 | skip);(first | simp only [add_plain] at hx17_1 | skip);(first | simp only [add_plain] at hx17_2 | skip);(first | simp only [add_plain] at hx17_3 | skip);(first | simp only [add_plain] at hx18_0 | skip);(first | simp only [add_plain] at hx18_1 | skip);(first | simp only [add_plain] at hx18_2 | skip);(first | simp only [add_plain] at hx18_3 | skip);obtain ⟨ce29,hcl29,hM29,hcc29,hfr29⟩:=Kd.R_elem HO_6.out z75 (x7_2 : Int) p29 q29;obtain rfl:=k75_openM hM29;have hx29_0 : wr.cell? ⟨go29,(x7_2 : Int).toNat * 4,none⟩ = some (.int .i64 ((rd_T75 x6_2 x7_2).f0)):=hcc29 0 _ rfl;have hx29_1 : wr.cell? ⟨go29,(x7_2 : Int).toNat * 4 + 1,none⟩ = some (.int .i64 ((rd_T75 x6_2 x7_2).f1)):=hcc29 1 _ rfl;have hx29_2 : wr.cell? ⟨go29,(x7_2 : Int).toNat * 4 + 2,none⟩ = some (.int .i64 ((rd_T75 x6_2 x7_2).f2)):=hcc29 2 _ rfl;have hx29_3 : wr.cell? ⟨go29,(x7_2 : Int).toNat * 4 + 3,none⟩ = some (.int .i64 ((rd_T75 x6_2 x7_2).f3)):=hcc29 3 _ rfl;have hf29_0 : wr.frozen? ⟨go29,(x7_2 : Int).toNat * 4,none⟩ = false:=hfr29 0;have hf29_1 : wr.frozen? ⟨go29,(x7_2 : Int).toNat * 4 + 1,none⟩ = false:=hfr29 1;have hf29_2 : wr.frozen? ⟨go29,(x7_2 : Int).toNat * 4 + 2,none⟩ = false:=hfr29 2;have hf29_3 : wr.frozen? ⟨go29,(x7_2 : Int).toNat * 4 + 3,none⟩ = false:=hfr29 3;clear hcl29 hcc29 hfr29 hM29;replace p29:=eq_true p29;replace q29:=eq_true q29;have HX31:=a0_ (show Kd.R k75 75 wr w.heap.size (fun _=>True) (.slice (some ⟨go29,0,none⟩) x6_2.length co30) x6_2 from (rr_ HO_6.out));obtain ⟨ce31,hcl31,hM31,hcc31,hfr31⟩:=Kd.R_elem HX31.out z75 (x7_2 : Int) (od_) (by have h_ : (x7_2 : Int) < ((x6_2.length : Int) : Int):=od_;first | exact h_ | (have e_:=(Kd.R_reads' HO_6.out).1;omega) | simpa using h_);obtain rfl:=k75_openM hM31;have HP31:=Kd.R_seg HX31.out (x7_2 : Int) (od_) (by have h_ : (x7_2 : Int) < ((x6_2.length : Int) : Int):=od_;first | exact h_ | (have e_:=(Kd.R_reads' HO_6.out).1;omega) | simpa using h_) (seg:=[.int .i64 ((rd_T75 x6_2 x7_2).f0),.int .i64 0,.int .i64 0,.int .i64 0]) (j:=0) hcl31 hcc31 (show 4 ≤ 4 from by decide) (x':=(⟨(rd_T75 x6_2 x7_2).f0,0,0,0⟩ : S75)) (k75_mkM _ _ _ (⟨(rd_T75 x6_2 x7_2).f0,0,0,0⟩ : S75) ) (fun _ hk=>hk);have hx31_0:=hcc31 0 _ rfl;(try simp only [show (k75).sz = 4 from rfl,Nat.mul_one,Nat.add_zero] at hx31_0);have hf31_0:=hfr31 0;(try simp only [show (k75).sz = 4 from rfl,Nat.mul_one,Nat.add_zero] at hf31_0);have hx31_1:=hcc31 1 _ rfl;(try simp only [show (k75).sz = 4 from rfl,Nat.mul_one,Nat.add_zero] at hx31_1);have hf31_1:=hfr31 1;(try simp only [show (k75).sz = 4 from rfl,Nat.mul_one,Nat.add_zero] at hf31_1);have hx31_2:=hcc31 2 _ rfl;(try simp only [show (k75).sz = 4 from rfl,Nat.mul_one,Nat.add_zero] at hx31_2);have hf31_2:=hfr31 2;(try simp only [show (k75).sz = 4 from rfl,Nat.mul_one,Nat.add_zero] at hf31_2);have hx31_3:=hcc31 3 _ rfl;(try simp only [show (k75).sz = 4 from rfl,Nat.mul_one,Nat.add_zero] at hx31_3);have hf31_3:=hfr31 3;(try simp only [show (k75).sz = 4 from rfl,Nat.mul_one,Nat.add_zero] at hf31_3);clear hcl31 hcc31 hfr31 hM31;go_wp2_with (first | ((with_reducible refine gate_store (t:=75) (p:=56) rfl ?_);refine store_event (t:=75) (p:=56) (v:=?vo_w32) (w1:=((((wr.setCell ⟨go29,(x7_2 : Int).toNat * 4,none⟩ (.int .i64 ((rd_T75 x6_2 x7_2).f0))).setCell ⟨go29,(x7_2 : Int).toNat * 4 + 1,none⟩ (.int .i64 0)).setCell ⟨go29,(x7_2 : Int).toNat * 4 + 2,none⟩ (.int .i64 0)).setCell ⟨go29,(x7_2 : Int).toNat * 4 + 3,none⟩ (.int .i64 0))) ?hg ?ho ?hn ?hr ?_;(case ho=>rfl);(case hg=>rfl);(case hn=>rfl);(case hr=>first | (go_simp;done) | (go_simp;rfl));intro w32 hw;have hg : wr.grownBy w32 (some go29):=(by rw [hw];exact HP31.2);have hp_ : Kd.R k75 75 w32 w.heap.size (fun _=>True) (.slice (some ⟨go29,0,none⟩) x6_2.length co30) y19:=(by rw [hw,Ny19.out];exact HP31.1);clear HP31;have n0_:=a0_ (hp_);have n1_:=a0_ (Kd.R_over' (v:=(.slice (some ⟨go29,0,none⟩) x6_2.length co30)) (rr_ Z8.out) (Kd.R_typed HO_6.out) (by decide) hg);have n2_:=a0_ (blk_grown (bb_ BK7.out) hg (Kd.R_ne HO_6.out BK7.out (by decide)));have n3_:=a0_ ((by rw [hw];exact below_set (below_set (below_set (below_set (HB.out) GB29.out) GB29.out) GB29.out) GB29.out : Below w.heap.size w w32));clear HO_6 Z8;clear BK7 HB;have HO_6:=n0_;have Z8:=n1_;have BK7:=n2_;have HB:=n3_;clear n0_ n1_ n2_ n3_;clear hg hw hp_));go_roundg k2
           case measure=>have:=HJ4.out;have:=HK2.out;omega
           case rel=>exact ⟨(y19),(wrap64 (x7_2 + 1)),(by first | rfl | (simp;done) | (simp [*];done)),H',⟨by have:=HJ4.out;have:=HK2.out;omega⟩,⟨by (with_reducible repeat (first | apply Kd.R_alloc | apply Kd.R_drewN | apply Kd.R_drew));exact HO_6.out⟩,⟨by (with_reducible repeat (first | apply Kd.R_alloc | apply Kd.R_drewN | apply Kd.R_drew));exact Z8.out⟩,⟨by (with_reducible repeat (first | refine blk_drewN ?_ _ | refine blk_drew ?_ | refine blk_alloc ?_ _));exact BK7.out⟩,⟨hbw_⟩⟩
          ·rw [if_neg c28] at H
           have c28b0 : (((rd_T75 x6_2 x7_2).f1) == 1) = false:=beq_eq_false_iff_ne.mpr c28;have c28b1 : (((rd_T75 x6_2 x7_2).f1) != 1) = true:=bne_iff_ne.mpr c28;have H':=a0_ H;clear H;obtain ⟨Ao33,co33,eo33⟩:=Kd.R_slice HO_6.out;subst eo33;have p17 : 0 ≤ (x7_2 : Int):=od_;have q17 : x7_2 < (x6_2.length : Int):=od_;obtain ⟨ad17,e17,hx17_0,hx17_1,hx17_2,hx17_3⟩:=at_T75 (Kd.R_reads' HO_6.out).2.2 x7_2 p17 q17;cases e17;replace p17:=eq_true p17;replace q17:=eq_true q17;go_wp2;go_roundg k2
           case measure=>have:=HJ4.out;have:=HK2.out;omega
           case rel=>exact ⟨(x6_2),(wrap64 (x7_2 + 1)),(by first | rfl | (simp;done) | (simp [*];done)),H',⟨by have:=HJ4.out;have:=HK2.out;omega⟩,⟨by (with_reducible repeat (first | apply Kd.R_alloc | apply Kd.R_drewN | apply Kd.R_drew));exact HO_6.out⟩,⟨by (with_reducible repeat (first | apply Kd.R_alloc | apply Kd.R_drewN | apply Kd.R_drew));exact Z8.out⟩,⟨by (with_reducible repeat (first | refine blk_drewN ?_ _ | refine blk_drew ?_ | refine blk_alloc ?_ _));exact BK7.out⟩,⟨hbw_⟩⟩
         ·rw [if_neg c27] at H
          exact absurd H (by simp)
        ·rw [if_neg c26] at H
         have c26b0 : decide (x7_2 < (x6_2.length : Int)) = false:=decide_eq_false c26;clear c26;replace H:=Option.bind_eq_some_iff.mp H;obtain ⟨t20,A340,H⟩:=H;(try dsimp only at H);have A34:=a0_ A340;clear A340;by_cases c35 : t20 = true
         ·subst c35
          have H1 : ((impl_ValidProgram.f k2 t1 ([] : List (S75))).bind fun t21=>(some t21)) = some r:=by rw [if_pos rfl] at H;exact H
          clear H;have H:=H1;clear H1;replace H:=Option.bind_eq_some_iff.mp H;obtain ⟨t21,A360,H⟩:=H;replace H : (some t21) = some r:=H;have A36:=a0_ A360;clear A360;obtain rfl:=Option.some.inj H;obtain ⟨Ao37,co37,eo37⟩:=Kd.R_slice HO_6.out;subst eo37;have hcz38_0 : wr.cell? ⟨gb7,0,none⟩ = some (.slice Ao8 t1.length co8):=(blk_cell BK7.out 0).trans rfl;have hfz38_0:=blk_frozen BK7.out 0;go_wp2_with (first | ((with_reducible refine gate_callee (f:=45) rfl ?_);refine goesL_ (some 59) rfl rfl Try.func45 (by kernel_rfl) rfl #[.agg #[.slice Ao8 t1.length co8],.slice Ao37 x6_2.length co37] rfl lm_ ?_;(with_reducible refine (impl_ValidProgram.calls k2 _ _ t1 _ _ x6_2 true _ ?side1 ?side2 ?side3 ?side4 A34.out).mono ?_);(case side1=>exact cc_ (Kd.R_reads' Z8.out).2.2);(case side2=>exact (Kd.R_reads' Z8.out).2.1);(case side3=>exact cc_ (Kd.R_reads' HO_6.out).2.2);(case side4=>exact (Kd.R_reads' HO_6.out).2.1);rintro e w39 ⟨rfl,hb⟩;refine ⟨_,rfl,?_⟩;replace HO_6:=rb_ HO_6 hb;replace Z8:=rb_ Z8 hb;replace BK7:=kb_ BK7 hb;replace HB:=a0_ (below_step hbw_ hb);(try clear hb);have hcz40_0 : w39.cell? ⟨gb7,0,none⟩ = some (.slice Ao8 t1.length co8):=(blk_cell BK7.out 0).trans rfl;have hfz40_0:=blk_frozen BK7.out 0) | (go_at_call 45;(refine (impl_ValidProgram.calls k2 _ _ t1 _ _ ([] : List (S75)) t21 _ ?side1 ?side2 ?side3 ?side4 A36.out).mono ?_);(case side1=>exact cc_ (Kd.R_reads' Z8.out).2.2);(case side2=>exact (Kd.R_reads' Z8.out).2.1);(case side3=>exact Kd.C_nil _ _);(case side4=>exact Nat.le_refl _);rintro e w41 ⟨rfl,hb⟩;replace HO_6:=rb_ HO_6 hb;replace Z8:=rb_ Z8 hb;replace BK7:=kb_ BK7 hb;replace HB:=a0_ (below_step hbw_ hb);(try clear hb);(try clear hb2);(try clear hk);(try clear hi)));go_ret;exact ⟨by first | rfl | (simp [errW_none,errW_some] <;> rfl) | (simp [*,errW_none,errW_some] <;> rfl),hbw_⟩
         ·replace c35:=Bool.eq_false_iff.mpr c35
          subst c35
          have H1 : (some false) = some r:=by rw [if_neg (show ¬ (false = true) by decide)] at H;exact H
          clear H;have H:=H1;clear H1;obtain rfl:=Option.some.inj H;obtain ⟨Ao42,co42,eo42⟩:=Kd.R_slice HO_6.out;subst eo42;have hcz43_0 : wr.cell? ⟨gb7,0,none⟩ = some (.slice Ao8 t1.length co8):=(blk_cell BK7.out 0).trans rfl;have hfz43_0:=blk_frozen BK7.out 0;go_wp2_with (first | ((with_reducible refine gate_callee (f:=45) rfl ?_);refine goesL_ (some 59) rfl rfl Try.func45 (by kernel_rfl) rfl #[.agg #[.slice Ao8 t1.length co8],.slice Ao42 x6_2.length co42] rfl lm_ ?_;(with_reducible refine (impl_ValidProgram.calls k2 _ _ t1 _ _ x6_2 false _ ?side1 ?side2 ?side3 ?side4 A34.out).mono ?_);(case side1=>exact cc_ (Kd.R_reads' Z8.out).2.2);(case side2=>exact (Kd.R_reads' Z8.out).2.1);(case side3=>exact cc_ (Kd.R_reads' HO_6.out).2.2);(case side4=>exact (Kd.R_reads' HO_6.out).2.1);rintro e w44 ⟨rfl,hb⟩;refine ⟨_,rfl,?_⟩;replace HO_6:=rb_ HO_6 hb;replace Z8:=rb_ Z8 hb;replace BK7:=kb_ BK7 hb;replace HB:=a0_ (below_step hbw_ hb);(try clear hb);(try clear hb2);(try clear hk);(try clear hi)));go_ret;exact ⟨by first | rfl | (simp [errW_none,errW_some] <;> rfl) | (simp [*,errW_none,errW_some] <;> rfl),hbw_⟩
     ·rw [if_neg c22] at H
      exact absurd H (by simp)
def laws_FnValidProgram.Pure : Prop:=∀ (l0 : List Int),l0.length ≤ maxLen → l0.length * 1 ≤ 140737488351232 → (∀ x ∈ l0,(Lit.int .u8 x).wf = true) → ∃ k,laws_FnValidProgram.f k l0 = some true
theorem laws_FnValidProgram.walk (P : laws_FnValidProgram.Pure) (a0 : Option Addr) (len0 cap0 : Nat) (z0 : List Int) (w : World) (w0 : (a0 = none ∧ len0 = 0 ∧ cap0 = 0 ∧ z0 = []) ∨ ∃ x,a0 = some x ∧ len0 ≤ cap0 ∧ cap0 ≤ maxLen ∧ z0.length = cap0 ∧ (∀ i,i < z0.length → w.cell? (x.add i) = some (.int .u8 (z0.getD i 0))) ∧ ∀ n ∈ z0,(Lit.int .u8 n).wf = true) (y0 : len0 * 1 ≤ 140737488351232) :
  Calls Try.prog 8 #[.slice a0 len0 cap0] w fun e w'=>e = .returned (.bool true) ∧ Below w.heap.size w w':=by
 obtain ⟨l0,rfl,hr0,hm0,hw0,hc0⟩:=ReadsInt.ofRowC w0
 obtain ⟨k,h⟩:=P l0 hm0 y0 hw0
 refine (laws_FnValidProgram.calls k _ _ l0 true w (Kd.C_of_reads (d:=(0 : Int)) (h1:=fun _=>rfl) hr0) hc0 h).mono ?_
 rintro e w' ⟨rfl,hd⟩
 exact ⟨rfl,hd⟩
def psR (l m : List (S75)) : Prop:=l.length = m.length ∧ ∀ j,m.getD j z75 = l.getD j z75 ∨ (lk l j = 1 ∧ m.getD j z75 = ⟨ld l j,0,0,0⟩)
theorem psR_refl (l : List (S75)) : psR l l:=⟨rfl,fun _=>.inl rfl⟩
theorem psR_ld {l m : List (S75)} (h : psR l m) (j : Nat) : ld m j = ld l j:=by
 unfold ld
 rcases h.2 j with e | ⟨_,e⟩
 ·rw [e]
 ·rw [e];rfl
theorem psR_lk {l m : List (S75)} (h : psR l m) (j : Nat) : lk m j = lk l j ∨ (lk l j = 1 ∧ lk m j = 0):=by
 rcases h.2 j with e | ⟨e1,e⟩
 ·left;unfold lk;rw [e]
 ·right;exact ⟨e1,by unfold lk;rw [e]⟩
theorem psR_set {l m : List (S75)} (h : psR l m) (i : Nat) (hi : i < m.length) (h1 : lk m i = 1) : psR l (m.set i ⟨ld m i,0,0,0⟩):=by
 refine ⟨by rw [List.length_set];exact h.1,fun j=>?_⟩
 by_cases e : i = j
 ·subst e
  right
  have hl1 : lk l i = 1:=by
   rcases psR_lk h i with q | q
   ·omega
   ·omega
  refine ⟨hl1,?_⟩
  rw [← psR_ld h i]
  simp [List.getD,hi]
 ·have : (m.set i ⟨ld m i,0,0,0⟩).getD j z75 = m.getD j z75:=by simp [List.getD,List.getElem?_set_ne e]
  rw [this]
  exact h.2 j
theorem psR_scan {l m : List (S75)} (h : psR l m) (d : Int) : ∀ f k,scanN m d f k = scanN l d f k
 | 0,k=>rfl
 | f + 1,k=>by rw [scanN,scanN,psR_ld h k,psR_scan h d f (k + 1)]
theorem psR_end {l m : List (S75)} (h : psR l m) (i : Nat) : endN m i = endN l i:=by
 unfold endN
 rw [psR_scan h,psR_ld h,h.1]
theorem psR_chR {l m : List (S75)} (h : psR l m) : ∀ f c,chR m f c = chR l f c
 | 0,c=>rfl
 | f + 1,c=>by
  rw [chR,chR,psR_end h,psR_ld h,psR_ld h,psR_chR h f,← h.1]
  have hk:=psR_lk h (endN l c)
  by_cases hc : endN l c < l.length ∧ ld l (endN l c) = ld l c ∧ 8 ≤ lk l (endN l c) ∧ lk l (endN l c) ≤ 10
  ·rw [if_pos hc,if_pos ⟨hc.1,hc.2.1,by omega,by omega⟩]
  ·rw [if_neg hc,if_neg (fun q=>hc ⟨q.1,q.2.1,by omega,by omega⟩)]
theorem psR_okR {l m : List (S75)} (h : psR l m) : ∀ (R : List Nat) (ex last : Int),okR m R ex last = okR l R ex last
 | [],ex,last=>rfl
 | c :: R,ex,last=>by
  rw [okR,okR]
  rcases psR_lk h c with e | ⟨e1,e2⟩
  ·rw [e,psR_okR h R,psR_okR h R]
  ·rw [e1,e2,if_neg (by omega),if_neg (by omega),if_neg (by omega),if_neg (by omega)]
theorem psR_inL {l m : List (S75)} (h : psR l m) : ∀ k d,inL m k d = inL l k d
 | 0,d=>rfl
 | k + 1,d=>by
  rw [inL,inL,psR_ld h,psR_inL h k,psR_inL h k]
  have hk:=psR_lk h k
  by_cases e : lk l k = 12
  ·rw [if_pos e,if_pos (show lk m k = 12 by omega)]
  ·rw [if_neg e,if_neg (show ¬ lk m k = 12 by omega)]
theorem psR_hdL {l m : List (S75)} (h : psR l m) : ∀ k d,hdL m k d = hdL l k d
 | 0,d=>rfl
 | k + 1,d=>by rw [hdL,hdL,psR_ld h,psR_hdL h k]
theorem psR_lineOk {l m : List (S75)} (h : psR l m) (i : Nat) (hi : lineOk l i) : lineOk m i:=by
 have hk:=psR_lk h i
 refine ⟨fun q=>?_,fun q=>?_,fun q1 q2=>?_⟩
 ·have:=hi.1 (by omega)
  unfold chOk at this ⊢
  rw [psR_chR h,psR_okR h,← h.1]
  exact this
 ·rw [psR_inL h,psR_ld h]
  exact hi.2.1 (by omega)
 ·obtain ⟨x,a1,a2,a3⟩:=hi.2.2 (by omega) (by omega)
  have hx:=psR_lk h x
  exact ⟨x,by rw [psR_hdL h,psR_ld h];exact a1,by omega,by omega⟩
theorem psR_pd {l m : List (S75)} (h : psR l m) : ∀ j,pd m j = pd l j
 | 0=>rfl
 | j + 1=>psR_ld h j
theorem psR_pk {l m : List (S75)} (h : psR l m) : ∀ j,(7 ≤ pk m j ∧ pk m j ≤ 12) ↔ (7 ≤ pk l j ∧ pk l j ≤ 12)
 | 0=>Iff.rfl
 | j + 1=>by
  have hk:=psR_lk h j
  rw [pk,pk]
  omega
theorem numOk_pass (t : List (S125)) (d : Int) : numOk t (⟨d,0,0,0⟩ : S75) = true:=by
 unfold numOk
 simp
theorem vP_pass {t : List (S125)} {l m : List (S75)} (h : psR l m) (hv : vP t l) : vP t m:=by
 obtain ⟨h1,h2,h3,h4,h5⟩:=hv
 refine ⟨h1,by rw [← h.1];exact h2,fun j hj=>?_,fun hp hk=>?_,fun j hj=>psR_lineOk h j (h5 j (by rw [h.1];exact hj))⟩
 ·obtain ⟨a1,a2,a3,a4,a5⟩:=h3 j (by rw [h.1];exact hj)
  refine ⟨?_,by rw [psR_ld h];exact a2,by rw [psR_ld h];exact a3,fun q=>by rw [psR_ld h,psR_pd h];exact a4 ((psR_pk h j).1 q),fun q=>by rw [psR_ld h,psR_pd h];exact a5 (fun q'=>q ((psR_pk h j).2 q'))⟩
  rcases h.2 j with e | ⟨_,e⟩
  ·rw [e];exact a1
  ·rw [e];exact numOk_pass t _
 ·rw [← h.1] at hk hp
  exact h4 hp ((psR_pk h l.length).1 hk)
theorem vP_nil {t : List (S125)} (h : vT t = true) : vP t []:=⟨h,by simp,fun j hj=>by simp at hj,fun h=>by simp at h,fun j hj=>by simp at hj⟩
theorem laws_FnValidProgram_l0 {t : List (S125)} {l : List (S75)} (hs : smT t = true) (ht : t.length ≤ 8) (hl : l.length ≤ 24) (hv : vP t l) : ∀ (d i : Nat) (m : List (S75)),i + d = m.length → psR l m → Ev (fun k=>laws_FnValidProgram.l0 k m (i : Int) t) true:=by
 intro d
 induction d with
 | zero =>
  intro i m hi hR
  obtain ⟨b1,hb1,h1⟩:=impl_ValidProgram_ev t m hs (by omega) (by have:=hR.1;omega)
  obtain ⟨b2,hb2,h2⟩:=impl_ValidProgram_ev t [] hs (by omega) (by simp)
  obtain rfl:=h1.2 (vP_pass hR hv)
  obtain rfl:=h2.2 (vP_nil hv.1)
  refine Ev.succ ?_
  simp only [laws_FnValidProgram.l0]
  exact Ev.neg (by omega) (Ev.bind hb1 (Ev.pos rfl (Ev.bind hb2 (Ev.const rfl))))
 | succ d ih =>
  intro i m hi hR
  have hlen:=hR.1
  have hw : Aside0 (wrap64 ((i : Int) + 1) = ((i + 1 : Nat) : Int)):=⟨by rw [wrap_in (by omega) (by omega)];rfl⟩
  refine Ev.succ ?_
  simp only [laws_FnValidProgram.l0,hw.out,rd_ld_,rd_lk_,Int.toNat_natCast]
  refine Ev.pos (by omega) (Ev.pos (by omega) ?_)
  by_cases h1 : lk m i = 1
  ·exact Ev.pos h1 (ih (i + 1) _ (by rw [List.length_set];omega) (psR_set hR i (by omega) h1))
  ·exact Ev.neg h1 (ih (i + 1) m (by omega) hR)
end Go.Proofs.Ytacgehaipacehaa.P
namespace Go.Proofs.Ytacgehaipacehaa.Pure
open Go.RowKit Go.Proofs.Ytacgehaipacehaa.P
open Go.Proofs.YtacgehaipacehaaW.PrintWords (rd rdOf wrap_succ wrap_pred wrap_in toL_beq idxP)
set_option linter.unusedVariables false
theorem FnValidProgram : laws_FnValidProgram.Pure:=by
 intro l0 _ _ hw
 refine Ev.out (F:=fun k=>laws_FnValidProgram.f k l0) ?_
 unfold laws_FnValidProgram.f
 by_cases hl : (l0.length : Int) > 1048576
 ·exact Ev.pos hl (Ev.const rfl)
 obtain ⟨t,r,hD,hs,ht,hr⟩:=spec_DrawValidProgram_ev l0 hw
 obtain ⟨b1,hI,h1⟩:=impl_ValidProgram_ev t r hs (by omega) (by omega)
 obtain ⟨b2,hS,h2⟩:=spec_ValidProgram_ev t r hs (by omega) (by omega)
 obtain rfl : b1 = b2:=Bool.eq_iff_iff.2 (h1.trans h2.symm)
 refine Ev.neg hl (Ev.bind hD (Ev.bind hI (Ev.bind hS (Ev.neg (by simp) (Ev.succ ?_)))))
 simp only [laws_FnValidProgram.j0]
 cases b1 with
 | false=>exact Ev.pos (by simp) (Ev.bind hS (Ev.const (by simp)))
 | true=>exact Ev.neg (by simp) (Ev.bind (Ev.const rfl) (Ev.pos (by simp;omega) (laws_FnValidProgram_l0 hs ht hr (h1.1 rfl) r.length 0 r (by omega) (psR_refl r))))
end Go.Proofs.Ytacgehaipacehaa.Pure
