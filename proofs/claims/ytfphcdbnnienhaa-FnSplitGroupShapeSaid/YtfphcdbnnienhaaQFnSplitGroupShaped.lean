/- Texts under the proof of FnSplitGroupShape: helper words, the functions' contracts and the plain laws. No condition. -/
import Derived.Test.YtfphcdbnnienhaaQFnSplitGroupShapea
import Derived.Test.YtfphcdbnnienhaaQFnSplitGroupShapec
namespace Go.Proofs.Ytfphcdbnnienhaa.P
open Go.RowKit Go.Proofs.YtfphcdbnnienhaaW.PrintWords Go.Proofs.YtfphcdbnnienhaaW.PrintLast Go.Proofs.YtfphcdbnnienhaaW.PrintMore
attribute [local go_sem] max2_int min2_int max_two min_two max_three min_three max_four min_four
set_option linter.unusedVariables false
set_option linter.unusedSimpArgs false
def spec_above.l0 : Nat → Int → List Int → List (S85) → Option (List Int)
 | 0,_,_,_=>none
 | k + 1,x1,x5,x2000=>if x1 ≥ 0 then (if x5.length < 17592186044416 then (if 0 ≤ x1 then (if x1 < (x2000.length : Int) then (spec_above.l0 k ((rd_T85 x2000 x1).f1) (x5 ++ [x1]) x2000) else (none)) else (none)) else (none)) else (some x5)
def spec_above.f (k : Nat) (l0_0 : List (S85)) (a1 : Int) : Option (List Int):=spec_above.l0 k a1 (([] : List Int)) l0_0
theorem spec_above.mono_l : ∀ k,(∀ y0 y1 y2,LeO (spec_above.l0 k y0 y1 y2) (spec_above.l0 (k + 1) y0 y1 y2))
 | 0=>fun _ _ _ r h=>by simp [spec_above.l0] at h
 | k + 1=>by
  have ih0:=spec_above.mono_l k
  ·intro y0 y1 y2
   unfold spec_above.l0
   repeat' first
   | (with_reducible exact ih0 _ _ _)
   | (with_reducible exact LeO.refl _)
   | (with_reducible exact LeO.none _)
   | (with_reducible refine LeO.ite ?_ ?_)
   | (with_reducible refine LeO.bind ?_ (fun _=>?_))
   | exact ih0 _ _ _
   | exact LeO.none _
   | refine LeO.ite ?_ ?_
   | refine LeO.bind ?_ (fun _=>?_)
theorem spec_above.mono : ∀ a0 a1 k,LeO (spec_above.f k a0 a1) (spec_above.f (k + 1) a0 a1):=by
 intro a0 a1 k
 have ih0:=spec_above.mono_l k
 unfold spec_above.f
 repeat' first
   | (with_reducible exact ih0 _ _ _)
   | (with_reducible exact LeO.refl _)
   | (with_reducible exact LeO.none _)
   | (with_reducible refine LeO.ite ?_ ?_)
   | (with_reducible refine LeO.bind ?_ (fun _=>?_))
   | exact ih0 _ _ _
   | exact LeO.none _
   | refine LeO.ite ?_ ?_
   | refine LeO.bind ?_ (fun _=>?_)
set_option maxHeartbeats 8000000 in
set_option maxRecDepth 100000 in
theorem spec_above.calls (k : Nat) (A0_0 : Option Addr) (c0_0 : Nat) (l0_0 : List (S85)) (a1 : Int) (r : List Int) (w : World) (hr0_0 : Kd.C k85 w A0_0 l0_0.length l0_0) (hc0_0 : l0_0.length ≤ c0_0) (h : spec_above.f k l0_0 a1 = some r) :
  Calls Try.prog 93 #[.agg #[.slice A0_0 l0_0.length c0_0],.int .i64 a1] w fun e w'=>∃ v0_ : Value,e = .returned (v0_) ∧ Kd.R (Kd.int .i64) 3 w' w.heap.size (fun _=>True) v0_ r ∧ Below w.heap.size w w':=by
 have hu25:=Try.underlying25
 have HR0_0:=a0_ hr0_0
 have HC0_0:=a0_ hc0_0
 clear hr0_0 hc0_0
 have HB:=a0_ (Below.refl w.heap.size w)
 have H : (spec_above.l0 k a1 (([] : List Int)) l0_0) = some r:=h
 clear h
 obtain ⟨y2,hy2⟩ : ∃ y_ : List Int,y_ = (([] : List Int)):=⟨_,rfl⟩
 replace H : (spec_above.l0 k a1 y2 l0_0) = some r:=by first | (rw [hy2];with_reducible exact H) | (have H2_:=(Option.bind_some _ _).symm.trans H;rw [hy2];with_reducible exact H2_) | (have H2_:=(Option.bind_some _ _).symm.trans H;with_reducible exact H2_) | with_reducible exact H | (rw [hy2];exact H) | exact H
 have Ny2:=a0_ hy2
 clear hy2
 have H':=a0_ H
 clear H
 go_enter Try.func93,Try.ntmps93
 go_wp2_with (first | ((with_reducible refine gate_dst (N:=2) rfl ?_);refine box_event ?hg (N:=2) ?hd (cs:=#[.slice A0_0 l0_0.length c0_0]) (t:=25) ?hr ?_;(case hd=>rfl);(case hg=>rfl);(case hr=>first | (go_simp;done) | (go_simp;rfl));intro gb1 hg w3 hbox hb;have BK1:=a0_ (hbox);have GW1:=a0_ ((by rw [hg];exact (below_size hb_) : w.heap.size ≤ gb1));have GE1:=a0_ ((by rw [hg];exact (below_size hb_) : w.heap.size ≤ gb1));replace HB:=a0_ (below_step hb_ hb);clear hb hbox hg) | ((with_reducible refine gate_dst (N:=6) rfl ?_);refine Kd.R_lit (Kd.int .i64) _ 3 ?hg (N:=6) ?hd (xs:=([] : List Int)) (inner:=[]) (ok:=fun _=>True) (okp:=fun _=>True) ?hr ?hp (fun _ hk=>hk) trivial (Below.refl _ _) (Nat.le_refl _) (by simp) ?_;(case hd=>rfl);(case hg=>rfl);(case hr=>first | (go_simp;done) | (go_simp;rfl));(case hp=>exact (Reps.none _ _));intro v3 w4 ho5 hb hg_ hnew_;clear hg_ hnew_;(first | rw [← Ny2.out] at ho5 | (simp only [Int.reduceToNat] at ho5;rw [← Ny2.out] at ho5));have HO4:=a0_ (Kd.R_lower ho5 (below_size hb_));replace BK1:=kb_ BK1 hb;replace HB:=a0_ (below_step hb_ hb);clear hb ho5))
 go_loopg [1,5] k (fun kq v1 v5 w'=>∃ (x1_1 : Int) (x5_1 : List Int),v1 = .int .i64 x1_1 ∧ Aside0 (spec_above.l0 kq x1_1 x5_1 l0_0 = some r) ∧ Aside0 (kq ≤ k) ∧ Aside0 (Kd.R (Kd.int .i64) 3 w' w.heap.size (fun _=>True) v5 x5_1) ∧ Aside0 (w'.heap[gb1]? = some (.cells #[(.slice A0_0 l0_0.length c0_0)] 25 (0,0))) ∧ Aside0 (Below w.heap.size w w'))
 case atStart=>exact ⟨(a1),(y2),(by first | rfl | (simp;done) | (simp [*];done)),H',⟨Nat.le_refl _⟩,⟨by (with_reducible repeat (first | apply Kd.R_alloc | apply Kd.R_drewN | apply Kd.R_drew));exact HO4.out⟩,⟨by (with_reducible repeat (first | refine blk_drewN ?_ _ | refine blk_drew ?_ | refine blk_alloc ?_ _));exact BK1.out⟩,⟨hb_⟩⟩
 case round =>
  clear H'
  try clear p2
  obtain ⟨x1_1,x5_1,rfl,HA,HK1,HO_5,BK1,HB⟩:=hrel
  cases gk with
  | zero=>exact absurd HA.out (by simp [spec_above.l0])
  | succ k1 =>
   have H:=HA.out
   clear HA
   simp only [spec_above.l0] at H
   by_cases c6 : x1_1 ≥ 0
   ·rw [if_pos c6] at H
    have c6b0 : decide (0 ≤ x1_1) = true:=decide_eq_true c6
    clear c6
    by_cases c7 : x5_1.length < 17592186044416
    ·rw [if_pos c7] at H
     have LMc7:=a0_ c7
     clear c7
     obtain ⟨y5,hy5⟩ : ∃ y_ : List Int,y_ = (x5_1 ++ [x1_1]):=⟨_,rfl⟩
     replace H : (if 0 ≤ x1_1 then (if x1_1 < (l0_0.length : Int) then (spec_above.l0 k1 ((rd_T85 l0_0 x1_1).f1) y5 l0_0) else (none)) else (none)) = some r:=by first | (rw [hy5];with_reducible exact H) | (have H2_:=(Option.bind_some _ _).symm.trans H;rw [hy5];with_reducible exact H2_) | (have H2_:=(Option.bind_some _ _).symm.trans H;with_reducible exact H2_) | with_reducible exact H | (rw [hy5];exact H) | exact H
     have Ny5:=a0_ hy5
     clear hy5
     by_cases c8 : 0 ≤ x1_1
     ·rw [if_pos c8] at H
      have c8b0 : decide (0 ≤ x1_1) = true:=decide_eq_true c8
      clear c8
      by_cases c9 : x1_1 < (l0_0.length : Int)
      ·rw [if_pos c9] at H
       have c9b0 : decide (x1_1 < (l0_0.length : Int)) = true:=decide_eq_true c9
       clear c9
       have H':=a0_ H
       clear H
       go_wp2_with (first | ((with_reducible refine gate_builtin (b:=.append) (xs:=#[.tmp 15,.tmp 17]) rfl ?_);at_builtin;refine Kd.R_append (Kd.int .i64) (w0:=w) w.heap.size rfl (.tmp 15) (.tmp 17) 49 3 (.int .i64 0) 8 rfl Try.underlying49 info3 rfl (by decide) (by omega) u5 x5_1 x1_1 [.int .i64 x1_1] (fun _=>True) (fun _=>False) rfl rfl ?aP (fun _ hk=>hk.elim) ?aF ?aO ?aB ?aS ?aL ?_;(case aP=>exact rfl);(case aB=>exact hb_);(case aF=>exact (fun _ _=>trivial));(case aO=>exact (rr_ HO_5.out));(case aS=>exact (below_size hb_));(case aL=>have:=LMc7.out;omega);intro v6 w10 ho hb hg hat;rw [← Ny5.out] at ho;replace BK1:=a0_ (blk_grown (bb_ BK1.out) hg (Kd.R_ne HO_5.out BK1.out (by decide)));have HO7:=a0_ (ho);replace HB:=a0_ (hb);clear HO_5;clear ho hb hg hat;have hcz11_0 : w10.cell? ⟨gb1,0,none⟩ = some (.slice A0_0 l0_0.length c0_0):=(blk_cell BK1.out 0).trans rfl;have hfz11_0:=blk_frozen BK1.out 0;have p8 : 0 ≤ (x1_1 : Int):=of_decide_eq_true (by first | (with_reducible assumption) | assumption);have q8 : x1_1 < (l0_0.length : Int):=of_decide_eq_true (by first | (with_reducible assumption) | assumption);obtain ⟨ad8,e8,hx8_0,hx8_1⟩:=at_T85 HR0_0.out x1_1 p8 q8;cases e8;replace hx8_0:=(HB.out.cell (World.block_lt_of_cell? w _ hx8_0)).trans hx8_0;replace hx8_1:=(HB.out.cell (World.block_lt_of_cell? w _ hx8_1)).trans hx8_1;replace p8:=eq_true p8;replace q8:=eq_true q8))
       go_roundg k1
       case measure=>have:=HK1.out;omega
       case rel=>exact ⟨((rd_T85 l0_0 x1_1).f1),(y5),(by first | rfl | (simp;done) | (simp [*];done)),H',⟨by have:=HK1.out;omega⟩,⟨by (with_reducible repeat (first | apply Kd.R_alloc | apply Kd.R_drewN | apply Kd.R_drew));exact HO7.out⟩,⟨by (with_reducible repeat (first | refine blk_drewN ?_ _ | refine blk_drew ?_ | refine blk_alloc ?_ _));exact BK1.out⟩,⟨hb_⟩⟩
      ·rw [if_neg c9] at H
       exact absurd H (by simp)
     ·rw [if_neg c8] at H
      exact absurd H (by simp)
    ·rw [if_neg c7] at H
     exact absurd H (by simp)
   ·rw [if_neg c6] at H
    have c6b0 : decide (0 ≤ x1_1) = false:=decide_eq_false c6
    clear c6
    obtain rfl:=Option.some.inj H
    go_wp2
    go_ret
    exact ⟨_,by first | rfl | (simp [errW_none,errW_some] <;> rfl) | (simp [*,errW_none,errW_some] <;> rfl),by (with_reducible repeat (first | apply Kd.R_alloc | apply Kd.R_drewN | apply Kd.R_drew));exact HO_5.out,hb_⟩
theorem spec_above_l0 {t : List Cls} (h : vT t = true) : ∀ (k : Nat) (a : Int) (acc : List Int),a < (t.length : Int) → a + 1 < (k : Int) → 0 < k → acc.length + k ≤ 1000000 → spec_above.l0 k a acc t = some (acc ++ abv t a):=by
 intro k
 induction k with
 | zero=>intro a acc _ _ h0;exact absurd h0 (Nat.lt_irrefl 0)
 | succ k ih =>
  intro a acc ha hk _ hl
  simp only [spec_above.l0]
  by_cases h0 : a ≥ 0
  ·have hp:=vT_par' h a h0 ha
   rw [if_pos h0,if_pos (show acc.length < 17592186044416 by omega),if_pos (show 0 ≤ a from h0),if_pos ha,abv_step h a h0 ha,ih _ _ (by omega) (by omega) (by omega) (by simp;omega)]
   simp
  ·rw [if_neg h0,abv_neg t a (by omega),List.append_nil]
theorem spec_above_ev {t : List Cls} (h : vT t = true) (a : Int) (ha : a < (t.length : Int)) (k : Nat) (hk : 10 ≤ k) (hk2 : k ≤ 1000000) : spec_above.f k t a = some (abv t a):=by
 have h2:=vT_len h
 have:=spec_above_l0 h k a [] ha (by omega) (by omega) (by simp;omega)
 rw [List.nil_append] at this
 exact this
end Go.Proofs.Ytfphcdbnnienhaa.P
namespace Go.Proofs.Ytfphcdbnnienhaa.P
open Go.RowKit Go.Proofs.YtfphcdbnnienhaaW.PrintWords Go.Proofs.YtfphcdbnnienhaaW.PrintLast Go.Proofs.YtfphcdbnnienhaaW.PrintMore
attribute [local go_sem] max2_int min2_int max_two min_two max_three min_three max_four min_four
set_option linter.unusedVariables false
set_option linter.unusedSimpArgs false
def spec_isA.f (k : Nat) (l0_0 : List (S85)) (a1 : Int) (a2 : Int) : Option (Bool):=(spec_above.f k l0_0 a1).bind fun t2=>((spec_hasInt.f k t2 a2).bind fun t5=>(some t5))
theorem spec_isA.mono : ∀ a0 a1 a2 k,LeO (spec_isA.f k a0 a1 a2) (spec_isA.f (k + 1) a0 a1 a2):=by
 intro a0 a1 a2 k
 unfold spec_isA.f
 repeat' first
   | (with_reducible exact spec_above.mono _ _ _)
   | (with_reducible exact spec_hasInt.mono _ _ _)
   | (with_reducible exact LeO.refl _)
   | (with_reducible exact LeO.none _)
   | (with_reducible refine LeO.ite ?_ ?_)
   | (with_reducible refine LeO.bind ?_ (fun _=>?_))
   | exact spec_above.mono _ _ _
   | exact spec_hasInt.mono _ _ _
   | exact LeO.none _
   | refine LeO.ite ?_ ?_
   | refine LeO.bind ?_ (fun _=>?_)
set_option maxHeartbeats 8000000 in
set_option maxRecDepth 100000 in
theorem spec_isA.calls (k : Nat) (A0_0 : Option Addr) (c0_0 : Nat) (l0_0 : List (S85)) (a1 : Int) (a2 : Int) (r : Bool) (w : World) (hr0_0 : Kd.C k85 w A0_0 l0_0.length l0_0) (hc0_0 : l0_0.length ≤ c0_0) (h : spec_isA.f k l0_0 a1 a2 = some r) :
  Calls Try.prog 89 #[.agg #[.slice A0_0 l0_0.length c0_0],.int .i64 a1,.int .i64 a2] w fun e w'=>e = .returned (.bool r) ∧ Below w.heap.size w w':=by
 have hu25:=Try.underlying25
 have HR0_0:=a0_ hr0_0
 have HC0_0:=a0_ hc0_0
 clear hr0_0 hc0_0
 have HB:=a0_ (Below.refl w.heap.size w)
 have H : ((spec_above.f k l0_0 a1).bind fun t2=>((spec_hasInt.f k t2 a2).bind fun t5=>(some t5))) = some r:=h
 clear h
 replace H:=Option.bind_eq_some_iff.mp H
 obtain ⟨t2,A40,H⟩:=H
 replace H : ((spec_hasInt.f k t2 a2).bind fun t5=>(some t5)) = some r:=H
 have A4:=a0_ A40
 clear A40
 replace H:=Option.bind_eq_some_iff.mp H
 obtain ⟨t5,A50,H⟩:=H
 replace H : (some t5) = some r:=H
 have A5:=a0_ A50
 clear A50
 obtain rfl:=Option.some.inj H
 go_enter Try.func89,Try.ntmps89
 go_wp2_with (first | ((with_reducible refine gate_dst (N:=3) rfl ?_);refine box_event ?hg (N:=3) ?hd (cs:=#[.slice A0_0 l0_0.length c0_0]) (t:=25) ?hr ?_;(case hd=>rfl);(case hg=>rfl);(case hr=>first | (go_simp;done) | (go_simp;rfl));intro gb1 hg w6 hbox hb;have BK1:=a0_ (hbox);have GW1:=a0_ ((by rw [hg];exact (below_size hb_) : w.heap.size ≤ gb1));have GE1:=a0_ ((by rw [hg];exact (below_size hb_) : w.heap.size ≤ gb1));replace HB:=a0_ (below_step hb_ hb);clear hb hbox hg;have hcz7_0 : w6.cell? ⟨gb1,0,none⟩ = some (.slice A0_0 l0_0.length c0_0):=(blk_cell BK1.out 0).trans rfl;have hfz7_0:=blk_frozen BK1.out 0) | ((with_reducible refine gate_callee (f:=93) rfl ?_);refine goesL_ (some 9) rfl rfl Try.func93 (by kernel_rfl) rfl #[.agg #[.slice A0_0 l0_0.length c0_0],.int .i64 a1] rfl lm_ ?_;(with_reducible refine (spec_above.calls k _ _ l0_0 a1 t2 _ ?side1 ?side2 A4.out).mono ?_);(case side1=>exact cc_ (Kd.C_below HR0_0.out HB.out));(case side2=>exact HC0_0.out);rintro e w8 ⟨v3,rfl,ho0,hb⟩;refine ⟨_,rfl,?_⟩;have HO4:=a0_ (Kd.R_lower ho0 (below_size hb_));replace BK1:=kb_ BK1 hb;replace HB:=a0_ (below_step hb_ hb);(try clear hb);(try clear ho0);obtain ⟨Ao9,co9,eo9⟩:=Kd.R_slice HO4.out;subst eo9) | ((with_reducible refine gate_callee (f:=92) rfl ?_);refine goesL_ (some 11) rfl rfl Try.func92 (by kernel_rfl) rfl #[.slice Ao9 t2.length co9,.int .i64 a2] rfl lm_ ?_;(with_reducible refine (spec_hasInt.calls k _ _ t2 a2 t5 _ ?side1 ?side2 A5.out).mono ?_);(case side1=>exact cc_ (Kd.R_reads' HO4.out).2.2);(case side2=>exact (Kd.R_reads' HO4.out).2.1);rintro e w' ⟨rfl,⟨nd,rfl⟩⟩;refine ⟨_,rfl,?_⟩))
 go_ret
 exact ⟨by first | rfl | (simp [errW_none,errW_some] <;> rfl) | (simp [*,errW_none,errW_some] <;> rfl),hb_⟩
theorem spec_isA_ev {t : List Cls} (h : vT t = true) (a b : Int) (ha : a < (t.length : Int)) (k : Nat) (hk : 10 ≤ k) (hk2 : k ≤ 1000000) : spec_isA.f k t a b = some (isA t a b):=by
 have hl:=abv_len h a ha
 unfold spec_isA.f
 rw [spec_above_ev h a ha k hk hk2]
 simp only [Option.bind_some]
 rw [spec_hasInt_ev _ _ (by omega) k (by omega)]
 rfl
theorem spec_isA_Ev {t : List Cls} (h : vT t = true) (a b : Int) (ha : a < (t.length : Int)) : Ev (fun k=>spec_isA.f k t a b) (isA t a b) :=
 Ev.of_mono (spec_isA.mono t a b) (K:=10) (spec_isA_ev h a b ha 10 (by omega) (by omega))
end Go.Proofs.Ytfphcdbnnienhaa.P
namespace Go.Proofs.Ytfphcdbnnienhaa.P
open Go.RowKit Go.Proofs.YtfphcdbnnienhaaW.PrintWords Go.Proofs.YtfphcdbnnienhaaW.PrintLast Go.Proofs.YtfphcdbnnienhaaW.PrintMore
attribute [local go_sem] max2_int min2_int max_two min_two max_three min_three max_four min_four
set_option linter.unusedVariables false
set_option linter.unusedSimpArgs false
def spec_keeps.l0 : Nat → List (S47) → Int → Int → Bool → Int → List (S85) → Option (Bool)
 | 0,_,_,_,_,_,_=>none
 | k + 1,x1,x2,x3,x4,x11,x2000=>(spec_endOf.f k x1 x2).bind fun t2=>(if x11 < t2 then (if 0 ≤ x11 then (if x11 < (x1.length : Int) then (if ((rd_T47 x1 x11).f1 = true) then (spec_keeps.l0 k x1 x2 x3 x4 (wrap64 (x11 + 1)) x2000) else ((spec_isA.f k x2000 ((rd_T47 x1 x11).f2) x3).bind fun t5=>(if (t5 == x4) = true then (some true) else (spec_keeps.l0 k x1 x2 x3 x4 (wrap64 (x11 + 1)) x2000)))) else (none)) else (none)) else (some false))
def spec_keeps.f (k : Nat) (l0_0 : List (S85)) (l1 : List (S47)) (a2 : Int) (a3 : Int) (a4 : Bool) : Option (Bool):=spec_keeps.l0 k l1 a2 a3 a4 a2 l0_0
theorem spec_keeps.mono_l : ∀ k,(∀ y0 y1 y2 y3 y4 y5,LeO (spec_keeps.l0 k y0 y1 y2 y3 y4 y5) (spec_keeps.l0 (k + 1) y0 y1 y2 y3 y4 y5))
 | 0=>fun _ _ _ _ _ _ r h=>by simp [spec_keeps.l0] at h
 | k + 1=>by
  have ih0:=spec_keeps.mono_l k
  ·intro y0 y1 y2 y3 y4 y5
   unfold spec_keeps.l0
   repeat' first
   | (with_reducible exact ih0 _ _ _ _ _ _)
   | (with_reducible exact spec_endOf.mono _ _ _)
   | (with_reducible exact spec_isA.mono _ _ _ _)
   | (with_reducible exact LeO.refl _)
   | (with_reducible exact LeO.none _)
   | (with_reducible refine LeO.ite ?_ ?_)
   | (with_reducible refine LeO.bind ?_ (fun _=>?_))
   | exact ih0 _ _ _ _ _ _
   | exact spec_endOf.mono _ _ _
   | exact spec_isA.mono _ _ _ _
   | exact LeO.none _
   | refine LeO.ite ?_ ?_
   | refine LeO.bind ?_ (fun _=>?_)
theorem spec_keeps.mono : ∀ a0 a1 a2 a3 a4 k,LeO (spec_keeps.f k a0 a1 a2 a3 a4) (spec_keeps.f (k + 1) a0 a1 a2 a3 a4):=by
 intro a0 a1 a2 a3 a4 k
 have ih0:=spec_keeps.mono_l k
 unfold spec_keeps.f
 repeat' first
   | (with_reducible exact ih0 _ _ _ _ _ _)
   | (with_reducible exact spec_endOf.mono _ _ _)
   | (with_reducible exact spec_isA.mono _ _ _ _)
   | (with_reducible exact LeO.refl _)
   | (with_reducible exact LeO.none _)
   | (with_reducible refine LeO.ite ?_ ?_)
   | (with_reducible refine LeO.bind ?_ (fun _=>?_))
   | exact ih0 _ _ _ _ _ _
   | exact spec_endOf.mono _ _ _
   | exact spec_isA.mono _ _ _ _
   | exact LeO.none _
   | refine LeO.ite ?_ ?_
   | refine LeO.bind ?_ (fun _=>?_)
def spec_keeps.T4 : Bool × List (List Nat × List Nat):=(true,[([],[]),([],[]),([0,1],[0,1]),([2],[2]),([3],[3]),([4],[4]),([5],[5]),([6],[6]),([6],[6]),([6],[6]),([8,9,6],[6,8,9]),([10,6],[6,10]),([11,6],[6,11]),([6],[6]),([7,12,13,6,6],[6,7,12,13]),([6],[6]),([14,15,6],[6,14,15]),([6,16],[6,16])])
def spec_keeps.B4 : List Nat:=[0,0,3,7,15,31,63,127,127,127,895,1919,3967,127,16383,127,65535,131071]
theorem spec_keeps.tab4 : rtab .any (opsOf Try.f75 4) = spec_keeps.T4:=by kernel_rfl
theorem spec_keeps.bits4 : waitsOk spec_keeps.T4.2 spec_keeps.B4 = true:=by kernel_rfl
set_option maxHeartbeats 8000000 in
set_option maxRecDepth 100000 in
theorem spec_keeps.calls (k : Nat) (A0_0 : Option Addr) (c0_0 : Nat) (l0_0 : List (S85)) (A1 : Option Addr) (c1 : Nat) (l1 : List (S47)) (a2 : Int) (a3 : Int) (a4 : Bool) (r : Bool) (w : World) (hr0_0 : Kd.C k85 w A0_0 l0_0.length l0_0) (hc0_0 : l0_0.length ≤ c0_0) (hr1 : Kd.C k47 w A1 l1.length l1) (hc1 : l1.length ≤ c1) (h : spec_keeps.f k l0_0 l1 a2 a3 a4 = some r) :
  Calls Try.prog 75 #[.agg #[.slice A0_0 l0_0.length c0_0],.slice A1 l1.length c1,.int .i64 a2,.int .i64 a3,.bool a4] w fun e w'=>e = .returned (.bool r) ∧ Below w.heap.size w w':=by
 have hu25:=Try.underlying25
 have HR0_0:=a0_ hr0_0
 have HC0_0:=a0_ hc0_0
 clear hr0_0 hc0_0
 have HR1:=a0_ hr1
 have HC1:=a0_ hc1
 clear hr1 hc1
 have HB:=a0_ (Below.refl w.heap.size w)
 have H : (spec_keeps.l0 k l1 a2 a3 a4 a2 l0_0) = some r:=h
 clear h
 have H':=a0_ H
 clear H
 go_enter Try.func75,Try.ntmps75
 go_wp2_with (first | ((with_reducible refine gate_dst (N:=5) rfl ?_);refine box_event ?hg (N:=5) ?hd (cs:=#[.slice A0_0 l0_0.length c0_0]) (t:=25) ?hr ?_;(case hd=>rfl);(case hg=>rfl);(case hr=>first | (go_simp;done) | (go_simp;rfl));intro gb1 hg w6 hbox hb;have BK1:=a0_ (hbox);have GW1:=a0_ ((by rw [hg];exact (below_size hb_) : w.heap.size ≤ gb1));have GE1:=a0_ ((by rw [hg];exact (below_size hb_) : w.heap.size ≤ gb1));replace HB:=a0_ (below_step hb_ hb);clear hb hbox hg))
 go_loopg [11] k (fun kq v11 w'=>∃ (x11_1 : Int),v11 = .int .i64 x11_1 ∧ Aside0 (spec_keeps.l0 kq l1 a2 a3 a4 x11_1 l0_0 = some r) ∧ Aside0 (kq ≤ k) ∧ Aside0 (w'.heap[gb1]? = some (.cells #[(.slice A0_0 l0_0.length c0_0)] 25 (0,0))) ∧ Aside0 (Below w.heap.size w w'))
 case atStart=>exact ⟨(a2),(by first | rfl | (simp;done) | (simp [*];done)),H',⟨Nat.le_refl _⟩,⟨by (with_reducible repeat (first | refine blk_drewN ?_ _ | refine blk_drew ?_ | refine blk_alloc ?_ _));exact BK1.out⟩,⟨hb_⟩⟩
 case round =>
  clear H'
  try clear c1
  try clear p2
  obtain ⟨x11_1,rfl,HA,HK1,BK1,HB⟩:=hrel
  cases gk with
  | zero=>exact absurd HA.out (by simp [spec_keeps.l0])
  | succ k1 =>
   have H:=HA.out
   clear HA
   simp only [spec_keeps.l0] at H
   replace H:=Option.bind_eq_some_iff.mp H
   obtain ⟨t2,A70,H⟩:=H
   try dsimp only at H
   have A7:=a0_ A70
   clear A70
   by_cases c8 : x11_1 < t2
   ·rw [if_pos c8] at H
    have c8b0 : decide (x11_1 < t2) = true:=decide_eq_true c8
    clear c8
    by_cases c9 : 0 ≤ x11_1
    ·rw [if_pos c9] at H
     have c9b0 : decide (0 ≤ x11_1) = true:=decide_eq_true c9
     clear c9
     by_cases c10 : x11_1 < (l1.length : Int)
     ·rw [if_pos c10] at H
      have c10b0 : decide (x11_1 < (l1.length : Int)) = true:=decide_eq_true c10
      clear c10
      obtain ⟨bq11,hbq11⟩ : ∃ b_ : Bool,b_ = ((rd_T47 l1 x11_1).f1):=⟨_,rfl⟩
      replace H : (if (bq11 = true) then (spec_keeps.l0 k1 l1 a2 a3 a4 (wrap64 (x11_1 + 1)) l0_0) else ((spec_isA.f k1 l0_0 ((rd_T47 l1 x11_1).f2) a3).bind fun t5=>(if (t5 == a4) = true then (some true) else (spec_keeps.l0 k1 l1 a2 a3 a4 (wrap64 (x11_1 + 1)) l0_0)))) = some r:=by rw [← hbq11] at H;exact H
      have Nbq11:=a0_ hbq11
      clear hbq11
      by_cases c12 : (bq11 = true)
      ·subst c12
       have H1 : (spec_keeps.l0 k1 l1 a2 a3 a4 (wrap64 (x11_1 + 1)) l0_0) = some r:=by rw [if_pos rfl] at H;exact H
       clear H
       have H:=H1
       clear H1
       have H':=a0_ H
       clear H
       try go_wp2_with (first | ((with_reducible refine gate_callee (f:=66) rfl ?_);refine goesL_ (some 16) rfl rfl Try.func66 (by kernel_rfl) rfl #[.slice A1 l1.length c1,.int .i64 a2] rfl lm_ ?_;(with_reducible refine (spec_endOf.calls k1 _ _ l1 a2 t2 _ ?side1 ?side2 A7.out).mono ?_);(case side1=>exact cc_ (Kd.C_below HR1.out HB.out));(case side2=>exact HC1.out);rintro e w' ⟨rfl,⟨nd,rfl⟩⟩;refine ⟨_,rfl,?_⟩))
       (try (rw [drewN_self wr];generalize hq_ : World.drewN wr _ = wr;have n0_ : Aside0 (wr.heap[gb1]? = some (.cells #[.slice A0_0 l0_0.length c0_0] 25 (0,0))):=⟨by rw [← hq_];exact (bb_ BK1.out)⟩;have n1_ : Aside0 (Below w.heap.size w wr):=⟨by rw [← hq_];exact hb_⟩;clear BK1 HB hq_;have BK1:=n0_;have HB:=n1_;clear n0_ n1_))
       have n0_:=a0_ (blk_drew BK1.out)
       have n1_:=a0_ (below_drew1 HB.out)
       clear BK1
       clear HB
       have BK1:=n0_
       have HB:=n1_
       clear n0_ n1_
       have p3 : 0 ≤ (x11_1 : Int):=of_decide_eq_true (by first | (with_reducible assumption) | assumption)
       have q3 : x11_1 < (l1.length : Int):=of_decide_eq_true (by first | (with_reducible assumption) | assumption)
       obtain ⟨ad3,e3,hx3_0,hx3_1,hx3_2,hx3_3⟩:=at_T47 HR1.out x11_1 p3 q3
       have hw3_3:=hx3_3
       have hw3_2:=hx3_2
       have hw3_1:=hx3_1
       have hw3_0:=hx3_0
       (try rw [← Nbq11.out] at hx3_1)
       cases e3
       replace hx3_0:=(HB.out.cell (World.block_lt_of_cell? w _ hx3_0)).trans hx3_0
       replace hx3_1:=(HB.out.cell (World.block_lt_of_cell? w _ hx3_1)).trans hx3_1
       replace hx3_2:=(HB.out.cell (World.block_lt_of_cell? w _ hx3_2)).trans hx3_2
       replace hx3_3:=(HB.out.cell (World.block_lt_of_cell? w _ hx3_3)).trans hx3_3
       replace p3:=eq_true p3
       replace q3:=eq_true q3
       refine start_ (n:=18) (S:=fun w'=>w'.cell? (ad3.add ((x11_1).toNat * 4)) = some (.int .i64 ((rd_T47 l1 x11_1).f0)) ∧ w'.cell? ⟨(ad3.add ((x11_1).toNat * 4)).block,(ad3.add ((x11_1).toNat * 4)).off + 1,none⟩ = some (.bool true) ∧ w'.cell? ⟨(ad3.add ((x11_1).toNat * 4)).block,(ad3.add ((x11_1).toNat * 4)).off + 2,none⟩ = some (.int .i64 ((rd_T47 l1 x11_1).f2)) ∧ w'.cell? ⟨(ad3.add ((x11_1).toNat * 4)).block,(ad3.add ((x11_1).toNat * 4)).off + 3,none⟩ = some (.int .i64 ((rd_T47 l1 x11_1).f3))) (ds:=[]) #[false,false,false,false,false,false,false,false,false,false,false,false,false,false,false,false,false,false] (by kernel_rfl) rfl rfl ⟨((HB.out.cell (World.block_lt_of_cell? w _ hw3_0)).trans hw3_0),((HB.out.cell (World.block_lt_of_cell? w _ hw3_1)).trans (by first | exact hw3_1 | exact hw3_1.trans (congrArg (fun z_=>some (Value.bool z_)) Nbq11.out.symm))),((HB.out.cell (World.block_lt_of_cell? w _ hw3_2)).trans hw3_2),((HB.out.cell (World.block_lt_of_cell? w _ hw3_3)).trans hw3_3)⟩ (fun hHeld=>?_);refine with_tabW spec_keeps.tab4 spec_keeps.bits4 (fun HT_ HW_=>?_)
       generalize wr.drew = w13 at BK1 HB hx3_0 hx3_1 hx3_2 hx3_3 hHeld ⊢
       refine pure_ (i:=0) (N:=some 20) (v:=?_) (a':=?_) #[true,false,false,false,false,false,false,false,false,false,false,false,false,false,false,false,false,false] rfl rfl (any_of HT_.out (by kernel_rfl)) (fun _ _ _ h=>h) (Or.inl ⟨by rfl,?_⟩) ?_ ?_
       rotate_left
       ·intro w'
        go_simp
        with_reducible rfl
       rotate_left
       ·simp only [Act.put,s1_,s2_,s3_,i64_w,i32_w]
        rfl
       refine pure_ (i:=1) (N:=some 21) (v:=?_) (a':=?_) #[true,true,false,false,false,false,false,false,false,false,false,false,false,false,false,false,false,false] rfl rfl (any_of HT_.out (by kernel_rfl)) (fun _ _ _ h=>h) (Or.inl ⟨by rfl,?_⟩) ?_ ?_
       rotate_left
       ·intro w'
        go_simp
        with_reducible rfl
       rotate_left
       ·simp only [Act.put,s1_,s2_,s3_,i64_w,i32_w]
        rfl
       refine pure_ (i:=2) (N:=some 22) (v:=?_) (a':=?_) #[true,true,true,false,false,false,false,false,false,false,false,false,false,false,false,false,false,false] rfl rfl (any_of HT_.out (by kernel_rfl)) (fun _ _ _ h=>h) (Or.inl ⟨by rfl,?_⟩) ?_ ?_
       rotate_left
       ·intro w'
        go_simp
        with_reducible rfl
       rotate_left
       ·simp only [Act.put,s1_,s2_,s3_,i64_w,i32_w]
        rfl
       refine pure_ (i:=3) (N:=some 23) (v:=?_) (a':=?_) #[true,true,true,true,false,false,false,false,false,false,false,false,false,false,false,false,false,false] rfl rfl (any_of HT_.out (by kernel_rfl)) (fun _ _ _ h=>h) (Or.inl ⟨by rfl,?_⟩) ?_ ?_
       rotate_left
       ·intro w'
        go_simp
        with_reducible rfl
       rotate_left
       ·simp only [Act.put,s1_,s2_,s3_,i64_w,i32_w]
        rfl
       refine take_ (i:=4) (N:=some 24) (v:=?_) (a':=?_) #[true,true,true,true,true,false,false,false,false,false,false,false,false,false,false,false,false,false] rfl rfl (take_ofW HT_.out HW_.out (by kernel_rfl)) (fun _ _ _ h=>h) (Or.inl ⟨by rfl,?_⟩) hHeld ?_ ?_
       rotate_left
       ·rintro w' ⟨s0,s1,s2,s3⟩
        go_simp
        with_reducible rfl
       rotate_left
       ·simp only [Act.put,s1_,s2_,s3_,i64_w,i32_w]
        rfl
       refine pure_ (i:=5) (N:=some 25) (v:=?_) (a':=?_) #[true,true,true,true,true,true,false,false,false,false,false,false,false,false,false,false,false,false] rfl rfl (any_of HT_.out (by kernel_rfl)) (fun _ _ _ h=>h) (Or.inl ⟨by rfl,?_⟩) ?_ ?_
       rotate_left
       ·intro w'
        go_simp
        with_reducible rfl
       rotate_left
       ·simp only [Act.put,s1_,s2_,s3_,i64_w,i32_w]
        rfl
       refine pure_ (i:=6) (N:=some 26) (v:=?_) (a':=?_) #[true,true,true,true,true,true,true,false,false,false,false,false,false,false,false,false,false,false] rfl rfl (any_of HT_.out (by kernel_rfl)) (fun _ _ _ h=>h) (Or.inl ⟨by rfl,?_⟩) ?_ ?_
       rotate_left
       ·intro w'
        go_simp
        with_reducible rfl
       rotate_left
       ·simp only [Act.put,s1_,s2_,s3_,i64_w,i32_w]
        rfl
       refine pure_ (i:=7) (N:=some 27) (v:=undef) (a':=?_) #[true,true,true,true,true,true,true,true,false,false,false,false,false,false,false,false,false,false] rfl rfl (any_of HT_.out (by kernel_rfl)) (fun _ _ _ h=>h) (Or.inr ⟨by rfl,rfl⟩) ?_ ?_
       rotate_left
       ·simp only [Act.put,s1_,s2_,s3_,i64_w,i32_w]
        rfl
       refine pure_ (i:=8) (N:=some 28) (v:=undef) (a':=?_) #[true,true,true,true,true,true,true,true,true,false,false,false,false,false,false,false,false,false] rfl rfl (any_of HT_.out (by kernel_rfl)) (fun _ _ _ h=>h) (Or.inr ⟨by rfl,rfl⟩) ?_ ?_
       rotate_left
       ·simp only [Act.put,s1_,s2_,s3_,i64_w,i32_w]
        rfl
       refine pure_ (i:=9) (N:=some 29) (v:=undef) (a':=?_) #[true,true,true,true,true,true,true,true,true,true,false,false,false,false,false,false,false,false] rfl rfl (any_of HT_.out (by kernel_rfl)) (fun _ _ _ h=>h) (Or.inr ⟨by rfl,rfl⟩) ?_ ?_
       rotate_left
       ·simp only [Act.put,s1_,s2_,s3_,i64_w,i32_w]
        rfl
       refine pure_ (i:=10) (N:=some 30) (v:=undef) (a':=?_) #[true,true,true,true,true,true,true,true,true,true,true,false,false,false,false,false,false,false] rfl rfl (any_of HT_.out (by kernel_rfl)) (fun _ _ _ h=>h) (Or.inr ⟨by rfl,rfl⟩) ?_ ?_
       rotate_left
       ·simp only [Act.put,s1_,s2_,s3_,i64_w,i32_w]
        rfl
       refine pure_ (i:=11) (N:=some 31) (v:=undef) (a':=?_) #[true,true,true,true,true,true,true,true,true,true,true,true,false,false,false,false,false,false] rfl rfl (any_of HT_.out (by kernel_rfl)) (fun _ _ _ h=>h) (Or.inr ⟨by rfl,rfl⟩) ?_ ?_
       rotate_left
       ·simp only [Act.put,s1_,s2_,s3_,i64_w,i32_w]
        rfl
       refine pure_ (i:=12) (N:=some 32) (v:=undef) (a':=?_) #[true,true,true,true,true,true,true,true,true,true,true,true,true,false,false,false,false,false] rfl rfl (any_of HT_.out (by kernel_rfl)) (fun _ _ _ h=>h) (Or.inr ⟨by rfl,rfl⟩) ?_ ?_
       rotate_left
       ·simp only [Act.put,s1_,s2_,s3_,i64_w,i32_w]
        rfl
       refine pure_ (i:=13) (N:=some 33) (v:=undef) (a':=?_) #[true,true,true,true,true,true,true,true,true,true,true,true,true,true,false,false,false,false] rfl rfl (any_of HT_.out (by kernel_rfl)) (fun _ _ _ h=>h) (Or.inr ⟨by rfl,rfl⟩) ?_ ?_
       rotate_left
       ·simp only [Act.put,s1_,s2_,s3_,i64_w,i32_w]
        rfl
       refine pure_ (i:=14) (N:=some 34) (v:=undef) (a':=?_) #[true,true,true,true,true,true,true,true,true,true,true,true,true,true,true,false,false,false] rfl rfl (any_of HT_.out (by kernel_rfl)) (fun _ _ _ h=>h) (Or.inr ⟨by rfl,rfl⟩) ?_ ?_
       rotate_left
       ·simp only [Act.put,s1_,s2_,s3_,i64_w,i32_w]
        rfl
       refine pure_ (i:=15) (N:=some 35) (v:=undef) (a':=?_) #[true,true,true,true,true,true,true,true,true,true,true,true,true,true,true,true,false,false] rfl rfl (any_of HT_.out (by kernel_rfl)) (fun _ _ _ h=>h) (Or.inr ⟨by rfl,rfl⟩) ?_ ?_
       rotate_left
       ·simp only [Act.put,s1_,s2_,s3_,i64_w,i32_w]
        rfl
       refine pure_ (i:=16) (N:=some 36) (v:=undef) (a':=?_) #[true,true,true,true,true,true,true,true,true,true,true,true,true,true,true,true,true,false] rfl rfl (any_of HT_.out (by kernel_rfl)) (fun _ _ _ h=>h) (Or.inr ⟨by rfl,rfl⟩) ?_ ?_
       rotate_left
       ·simp only [Act.put,s1_,s2_,s3_,i64_w,i32_w]
        rfl
       refine pure_ (i:=17) (N:=some 37) (v:=?_) (a':=?_) #[true,true,true,true,true,true,true,true,true,true,true,true,true,true,true,true,true,true] rfl rfl (any_of HT_.out (by kernel_rfl)) (fun _ _ _ h=>h) (Or.inl ⟨by rfl,?_⟩) ?_ ?_
       rotate_left
       ·intro w'
        go_simp
        with_reducible rfl
       rotate_left
       ·simp only [Act.put,s1_,s2_,s3_,i64_w,i32_w]
        rfl
       refine done_ (done_of HT_.out (by kernel_rfl)) ?_
       try go_wp2
       go_roundg k1
       case measure=>have:=HK1.out;omega
       case rel=>exact ⟨(wrap64 (x11_1 + 1)),(by first | rfl | (simp;done) | (simp [*];done)),H',⟨by have:=HK1.out;omega⟩,⟨by (with_reducible repeat (first | refine blk_drewN ?_ _ | refine blk_drew ?_ | refine blk_alloc ?_ _));exact BK1.out⟩,⟨hb_⟩⟩
      ·replace c12:=Bool.eq_false_iff.mpr c12
       subst c12
       have H1 : ((spec_isA.f k1 l0_0 ((rd_T47 l1 x11_1).f2) a3).bind fun t5=>(if (t5 == a4) = true then (some true) else (spec_keeps.l0 k1 l1 a2 a3 a4 (wrap64 (x11_1 + 1)) l0_0))) = some r:=by rw [if_neg (show ¬ (false = true) by decide)] at H;exact H
       clear H
       have H:=H1
       clear H1
       replace H:=Option.bind_eq_some_iff.mp H
       obtain ⟨t5,A140,H⟩:=H
       try dsimp only at H
       have A14:=a0_ A140
       clear A140
       by_cases c15 : (t5 == a4) = true
       ·rw [if_pos c15] at H
        have c15b0 : (t5 == a4) = true:=c15
        (try (have c15b1 : decide (t5 = a4) = true:=by simpa using c15))
        (try (have c15b2 : (t5 == a4) = true:=by simpa using c15))
        clear c15
        obtain rfl:=Option.some.inj H
        try go_wp2_with (first | ((with_reducible refine gate_callee (f:=66) rfl ?_);refine goesL_ (some 16) rfl rfl Try.func66 (by kernel_rfl) rfl #[.slice A1 l1.length c1,.int .i64 a2] rfl lm_ ?_;(with_reducible refine (spec_endOf.calls k1 _ _ l1 a2 t2 _ ?side1 ?side2 A7.out).mono ?_);(case side1=>exact cc_ (Kd.C_below HR1.out HB.out));(case side2=>exact HC1.out);rintro e w' ⟨rfl,⟨nd,rfl⟩⟩;refine ⟨_,rfl,?_⟩))
        (try (rw [drewN_self wr];generalize hq_ : World.drewN wr _ = wr;have n0_ : Aside0 (wr.heap[gb1]? = some (.cells #[.slice A0_0 l0_0.length c0_0] 25 (0,0))):=⟨by rw [← hq_];exact (bb_ BK1.out)⟩;have n1_ : Aside0 (Below w.heap.size w wr):=⟨by rw [← hq_];exact hb_⟩;clear BK1 HB hq_;have BK1:=n0_;have HB:=n1_;clear n0_ n1_))
        have n0_:=a0_ (blk_drew BK1.out)
        have n1_:=a0_ (below_drew1 HB.out)
        clear BK1
        clear HB
        have BK1:=n0_
        have HB:=n1_
        clear n0_ n1_
        have p3 : 0 ≤ (x11_1 : Int):=of_decide_eq_true (by first | (with_reducible assumption) | assumption)
        have q3 : x11_1 < (l1.length : Int):=of_decide_eq_true (by first | (with_reducible assumption) | assumption)
        obtain ⟨ad3,e3,hx3_0,hx3_1,hx3_2,hx3_3⟩:=at_T47 HR1.out x11_1 p3 q3
        have hw3_3:=hx3_3
        have hw3_2:=hx3_2
        have hw3_1:=hx3_1
        have hw3_0:=hx3_0
        (try rw [← Nbq11.out] at hx3_1)
        cases e3
        replace hx3_0:=(HB.out.cell (World.block_lt_of_cell? w _ hx3_0)).trans hx3_0
        replace hx3_1:=(HB.out.cell (World.block_lt_of_cell? w _ hx3_1)).trans hx3_1
        replace hx3_2:=(HB.out.cell (World.block_lt_of_cell? w _ hx3_2)).trans hx3_2
        replace hx3_3:=(HB.out.cell (World.block_lt_of_cell? w _ hx3_3)).trans hx3_3
        replace p3:=eq_true p3
        replace q3:=eq_true q3
        have p4 : 0 ≤ (x11_1 : Int):=of_decide_eq_true (by first | (with_reducible assumption) | assumption)
        have q4 : x11_1 < (l1.length : Int):=of_decide_eq_true (by first | (with_reducible assumption) | assumption)
        obtain ⟨ad4,e4,hx4_0,hx4_1,hx4_2,hx4_3⟩:=at_T47 HR1.out x11_1 p4 q4
        have hw4_3:=hx4_3
        have hw4_2:=hx4_2
        have hw4_1:=hx4_1
        have hw4_0:=hx4_0
        (try rw [← Nbq11.out] at hx4_1)
        obtain rfl : ad3 = ad4:=(by injection e4)
        replace hx4_0:=(HB.out.cell (World.block_lt_of_cell? w _ hx4_0)).trans hx4_0
        replace hx4_1:=(HB.out.cell (World.block_lt_of_cell? w _ hx4_1)).trans hx4_1
        replace hx4_2:=(HB.out.cell (World.block_lt_of_cell? w _ hx4_2)).trans hx4_2
        replace hx4_3:=(HB.out.cell (World.block_lt_of_cell? w _ hx4_3)).trans hx4_3
        replace p4:=eq_true p4
        replace q4:=eq_true q4
        refine start_ (n:=18) (S:=fun w'=>w'.cell? ⟨gb1,0,none⟩ = some (.slice A0_0 l0_0.length c0_0) ∧ w'.cell? (ad3.add ((x11_1).toNat * 4)) = some (.int .i64 ((rd_T47 l1 x11_1).f0)) ∧ w'.cell? ⟨(ad3.add ((x11_1).toNat * 4)).block,(ad3.add ((x11_1).toNat * 4)).off + 1,none⟩ = some (.bool false) ∧ w'.cell? ⟨(ad3.add ((x11_1).toNat * 4)).block,(ad3.add ((x11_1).toNat * 4)).off + 2,none⟩ = some (.int .i64 ((rd_T47 l1 x11_1).f2)) ∧ w'.cell? ⟨(ad3.add ((x11_1).toNat * 4)).block,(ad3.add ((x11_1).toNat * 4)).off + 3,none⟩ = some (.int .i64 ((rd_T47 l1 x11_1).f3)) ∧ w'.cell? (ad3.add ((x11_1).toNat * 4)) = some (.int .i64 ((rd_T47 l1 x11_1).f0)) ∧ w'.cell? ⟨(ad3.add ((x11_1).toNat * 4)).block,(ad3.add ((x11_1).toNat * 4)).off + 1,none⟩ = some (.bool (false)) ∧ w'.cell? ⟨(ad3.add ((x11_1).toNat * 4)).block,(ad3.add ((x11_1).toNat * 4)).off + 2,none⟩ = some (.int .i64 ((rd_T47 l1 x11_1).f2)) ∧ w'.cell? ⟨(ad3.add ((x11_1).toNat * 4)).block,(ad3.add ((x11_1).toNat * 4)).off + 3,none⟩ = some (.int .i64 ((rd_T47 l1 x11_1).f3))) (ds:=[]) #[false,false,false,false,false,false,false,false,false,false,false,false,false,false,false,false,false,false] (by kernel_rfl) rfl rfl ⟨(blk_cell BK1.out 0).trans rfl,((HB.out.cell (World.block_lt_of_cell? w _ hw3_0)).trans hw3_0),((HB.out.cell (World.block_lt_of_cell? w _ hw3_1)).trans (by first | exact hw3_1 | exact hw3_1.trans (congrArg (fun z_=>some (Value.bool z_)) Nbq11.out.symm))),((HB.out.cell (World.block_lt_of_cell? w _ hw3_2)).trans hw3_2),((HB.out.cell (World.block_lt_of_cell? w _ hw3_3)).trans hw3_3),((HB.out.cell (World.block_lt_of_cell? w _ hw4_0)).trans hw4_0),((HB.out.cell (World.block_lt_of_cell? w _ hw4_1)).trans (by first | exact hw4_1 | exact hw4_1.trans (congrArg (fun z_=>some (Value.bool z_)) Nbq11.out.symm))),((HB.out.cell (World.block_lt_of_cell? w _ hw4_2)).trans hw4_2),((HB.out.cell (World.block_lt_of_cell? w _ hw4_3)).trans hw4_3)⟩ (fun hHeld=>?_);refine with_tabW spec_keeps.tab4 spec_keeps.bits4 (fun HT_ HW_=>?_)
        generalize wr.drew = w16 at BK1 HB hx3_0 hx3_1 hx3_2 hx3_3 hx4_0 hx4_1 hx4_2 hx4_3 hHeld ⊢
        refine pure_ (i:=0) (N:=some 20) (v:=?_) (a':=?_) #[true,false,false,false,false,false,false,false,false,false,false,false,false,false,false,false,false,false] rfl rfl (any_of HT_.out (by kernel_rfl)) (fun _ _ _ h=>h) (Or.inl ⟨by rfl,?_⟩) ?_ ?_
        rotate_left
        ·intro w'
         go_simp
         with_reducible rfl
        rotate_left
        ·simp only [Act.put,s1_,s2_,s3_,i64_w,i32_w]
         rfl
        refine pure_ (i:=1) (N:=some 21) (v:=?_) (a':=?_) #[true,true,false,false,false,false,false,false,false,false,false,false,false,false,false,false,false,false] rfl rfl (any_of HT_.out (by kernel_rfl)) (fun _ _ _ h=>h) (Or.inl ⟨by rfl,?_⟩) ?_ ?_
        rotate_left
        ·intro w'
         go_simp
         with_reducible rfl
        rotate_left
        ·simp only [Act.put,s1_,s2_,s3_,i64_w,i32_w]
         rfl
        refine pure_ (i:=2) (N:=some 22) (v:=?_) (a':=?_) #[true,true,true,false,false,false,false,false,false,false,false,false,false,false,false,false,false,false] rfl rfl (any_of HT_.out (by kernel_rfl)) (fun _ _ _ h=>h) (Or.inl ⟨by rfl,?_⟩) ?_ ?_
        rotate_left
        ·intro w'
         go_simp
         with_reducible rfl
        rotate_left
        ·simp only [Act.put,s1_,s2_,s3_,i64_w,i32_w]
         rfl
        refine pure_ (i:=3) (N:=some 23) (v:=?_) (a':=?_) #[true,true,true,true,false,false,false,false,false,false,false,false,false,false,false,false,false,false] rfl rfl (any_of HT_.out (by kernel_rfl)) (fun _ _ _ h=>h) (Or.inl ⟨by rfl,?_⟩) ?_ ?_
        rotate_left
        ·intro w'
         go_simp
         with_reducible rfl
        rotate_left
        ·simp only [Act.put,s1_,s2_,s3_,i64_w,i32_w]
         rfl
        refine take_ (i:=4) (N:=some 24) (v:=?_) (a':=?_) #[true,true,true,true,true,false,false,false,false,false,false,false,false,false,false,false,false,false] rfl rfl (take_ofW HT_.out HW_.out (by kernel_rfl)) (fun _ _ _ h=>h) (Or.inl ⟨by rfl,?_⟩) hHeld ?_ ?_
        rotate_left
        ·rintro w' ⟨s0,s1,s2,s3,s4,s5,s6,s7,s8⟩
         go_simp
         with_reducible rfl
        rotate_left
        ·simp only [Act.put,s1_,s2_,s3_,i64_w,i32_w]
         rfl
        refine pure_ (i:=5) (N:=some 25) (v:=?_) (a':=?_) #[true,true,true,true,true,true,false,false,false,false,false,false,false,false,false,false,false,false] rfl rfl (any_of HT_.out (by kernel_rfl)) (fun _ _ _ h=>h) (Or.inl ⟨by rfl,?_⟩) ?_ ?_
        rotate_left
        ·intro w'
         go_simp
         with_reducible rfl
        rotate_left
        ·simp only [Act.put,s1_,s2_,s3_,i64_w,i32_w]
         rfl
        refine pure_ (i:=6) (N:=some 26) (v:=?_) (a':=?_) #[true,true,true,true,true,true,true,false,false,false,false,false,false,false,false,false,false,false] rfl rfl (any_of HT_.out (by kernel_rfl)) (fun _ _ _ h=>h) (Or.inl ⟨by rfl,?_⟩) ?_ ?_
        rotate_left
        ·intro w'
         go_simp
         with_reducible rfl
        rotate_left
        ·simp only [Act.put,s1_,s2_,s3_,i64_w,i32_w]
         rfl
        refine pure_ (i:=8) (N:=some 28) (v:=?_) (a':=?_) #[true,true,true,true,true,true,true,false,true,false,false,false,false,false,false,false,false,false] rfl rfl (any_of HT_.out (by kernel_rfl)) (fun _ _ _ h=>h) (Or.inl ⟨by rfl,?_⟩) ?_ ?_
        rotate_left
        ·intro w'
         go_simp
         with_reducible rfl
        rotate_left
        ·simp only [Act.put,s1_,s2_,s3_,i64_w,i32_w]
         rfl
        refine pure_ (i:=9) (N:=some 29) (v:=?_) (a':=?_) #[true,true,true,true,true,true,true,false,true,true,false,false,false,false,false,false,false,false] rfl rfl (any_of HT_.out (by kernel_rfl)) (fun _ _ _ h=>h) (Or.inl ⟨by rfl,?_⟩) ?_ ?_
        rotate_left
        ·intro w'
         go_simp
         with_reducible rfl
        rotate_left
        ·simp only [Act.put,s1_,s2_,s3_,i64_w,i32_w]
         rfl
        refine pure_ (i:=10) (N:=some 30) (v:=?_) (a':=?_) #[true,true,true,true,true,true,true,false,true,true,true,false,false,false,false,false,false,false] rfl rfl (any_of HT_.out (by kernel_rfl)) (fun _ _ _ h=>h) (Or.inl ⟨by rfl,?_⟩) ?_ ?_
        rotate_left
        ·intro w'
         go_simp
         with_reducible rfl
        rotate_left
        ·simp only [Act.put,s1_,s2_,s3_,i64_w,i32_w]
         rfl
        refine pure_ (i:=11) (N:=some 31) (v:=?_) (a':=?_) #[true,true,true,true,true,true,true,false,true,true,true,true,false,false,false,false,false,false] rfl rfl (any_of HT_.out (by kernel_rfl)) (fun _ _ _ h=>h) (Or.inl ⟨by rfl,?_⟩) ?_ ?_
        rotate_left
        ·intro w'
         go_simp
         with_reducible rfl
        rotate_left
        ·simp only [Act.put,s1_,s2_,s3_,i64_w,i32_w]
         rfl
        refine pure_ (i:=13) (N:=some 33) (v:=?_) (a':=?_) #[true,true,true,true,true,true,true,false,true,true,true,true,false,true,false,false,false,false] rfl rfl (any_of HT_.out (by kernel_rfl)) (fun _ _ _ h=>h) (Or.inl ⟨by rfl,?_⟩) ?_ ?_
        rotate_left
        ·intro w'
         go_simp
         with_reducible rfl
        rotate_left
        ·simp only [Act.put,s1_,s2_,s3_,i64_w,i32_w]
         rfl
        refine pure_ (i:=15) (N:=some 35) (v:=?_) (a':=?_) #[true,true,true,true,true,true,true,false,true,true,true,true,false,true,false,true,false,false] rfl rfl (any_of HT_.out (by kernel_rfl)) (fun _ _ _ h=>h) (Or.inl ⟨by rfl,?_⟩) ?_ ?_
        rotate_left
        ·intro w'
         go_simp
         with_reducible rfl
        rotate_left
        ·simp only [Act.put,s1_,s2_,s3_,i64_w,i32_w]
         rfl
        refine take_ (i:=7) (N:=some 27) (v:=?_) (a':=?_) #[true,true,true,true,true,true,true,true,true,true,true,true,false,true,false,true,false,false] rfl rfl (take_ofW HT_.out HW_.out (by kernel_rfl)) (fun _ _ _ h=>h) (Or.inl ⟨by rfl,?_⟩) hHeld ?_ ?_
        rotate_left
        ·rintro w' ⟨s0,s1,s2,s3,s4,s5,s6,s7,s8⟩
         go_simp
         with_reducible rfl
        rotate_left
        ·simp only [Act.put,s1_,s2_,s3_,i64_w,i32_w]
         rfl
        refine take_ (i:=12) (N:=some 32) (v:=?_) (a':=?_) #[true,true,true,true,true,true,true,true,true,true,true,true,true,true,false,true,false,false] rfl rfl (take_ofW HT_.out HW_.out (by kernel_rfl)) (fun _ _ _ h=>h) (Or.inl ⟨by rfl,?_⟩) hHeld ?_ ?_
        rotate_left
        ·rintro w' ⟨s0,s1,s2,s3,s4,s5,s6,s7,s8⟩
         go_simp
         with_reducible rfl
        rotate_left
        ·simp only [Act.put,s1_,s2_,s3_,i64_w,i32_w]
         rfl
        refine one_ (i:=14) (N:=some 34) #[true,true,true,true,true,true,true,true,true,true,true,true,true,true,true,true,false,false] rfl rfl (one_of HT_.out (by kernel_rfl)) (by decide) (fun K hK=>?_)
        refine goes_ Try.func89 (by kernel_rfl) rfl #[.agg #[.slice A0_0 l0_0.length c0_0],.int .i64 ((rd_T47 l1 x11_1).f2),.int .i64 a3] (by rfl) rfl rfl lm_ ?_
        with_reducible refine (spec_isA.calls k1 _ _ l0_0 ((rd_T47 l1 x11_1).f2) a3 t5 _ ?side1 ?side2 A14.out).mono ?_
        (case side1=>exact cc_ (Kd.C_below HR0_0.out HB.out))
        (case side2=>exact HC0_0.out)
        rintro e w17 ⟨rfl,hb⟩
        refine ⟨_,rfl,?_⟩
        have n0_:=kb_ BK1 hb
        have n1_:=a0_ (below_step hb_ hb)
        clear BK1
        clear HB
        have BK1:=n0_
        have HB:=n1_
        clear n0_ n1_
        (try clear hb)
        (try clear hb2)
        (try clear hk)
        (try clear hi)
        refine hK.out _ _ ⟨(blk_cell BK1.out 0).trans rfl,((HB.out.cell (World.block_lt_of_cell? w _ hw3_0)).trans hw3_0),((HB.out.cell (World.block_lt_of_cell? w _ hw3_1)).trans (by first | exact hw3_1 | exact hw3_1.trans (congrArg (fun z_=>some (Value.bool z_)) Nbq11.out.symm))),((HB.out.cell (World.block_lt_of_cell? w _ hw3_2)).trans hw3_2),((HB.out.cell (World.block_lt_of_cell? w _ hw3_3)).trans hw3_3),((HB.out.cell (World.block_lt_of_cell? w _ hw4_0)).trans hw4_0),((HB.out.cell (World.block_lt_of_cell? w _ hw4_1)).trans (by first | exact hw4_1 | exact hw4_1.trans (congrArg (fun z_=>some (Value.bool z_)) Nbq11.out.symm))),((HB.out.cell (World.block_lt_of_cell? w _ hw4_2)).trans hw4_2),((HB.out.cell (World.block_lt_of_cell? w _ hw4_3)).trans hw4_3)⟩ (fun hHeld=>?_)
        clear hK K
        refine norm_ (a':=?_) ?_ ?_
        rotate_left
        ·show Act.put _ (some 34) _ = _
         simp only [Act.put,s1_,s2_,s3_,i64_w,i32_w]
         rfl
        refine pure_ (i:=16) (N:=some 36) (v:=?_) (a':=?_) #[true,true,true,true,true,true,true,true,true,true,true,true,true,true,true,true,true,false] rfl rfl (any_of HT_.out (by kernel_rfl)) (fun _ _ _ h=>h) (Or.inl ⟨by rfl,?_⟩) ?_ ?_
        rotate_left
        ·intro w'
         go_simp
         with_reducible rfl
        rotate_left
        ·simp only [Act.put,s1_,s2_,s3_,i64_w,i32_w]
         rfl
        refine pure_ (i:=17) (N:=some 37) (v:=?_) (a':=?_) #[true,true,true,true,true,true,true,true,true,true,true,true,true,true,true,true,true,true] rfl rfl (any_of HT_.out (by kernel_rfl)) (fun _ _ _ h=>h) (Or.inl ⟨by rfl,?_⟩) ?_ ?_
        rotate_left
        ·intro w'
         go_simp
         with_reducible rfl
        rotate_left
        ·simp only [Act.put,s1_,s2_,s3_,i64_w,i32_w]
         rfl
        refine done_ (done_of HT_.out (by kernel_rfl)) ?_
        try go_wp2
        go_ret
        exact ⟨by first | rfl | (simp [errW_none,errW_some] <;> rfl) | (simp [*,errW_none,errW_some] <;> rfl),hb_⟩
       ·rw [if_neg c15] at H
        have c15b0 : (t5 == a4) = false:=by simpa using c15
        (try (have c15b1 : decide (t5 = a4) = false:=by simpa using c15))
        (try (have c15b2 : (t5 == a4) = false:=by simpa using c15))
        (try (have c15b3 : ¬ (t5 = a4):=by simpa using c15))
        clear c15
        have H':=a0_ H
        clear H
        try go_wp2_with (first | ((with_reducible refine gate_callee (f:=66) rfl ?_);refine goesL_ (some 16) rfl rfl Try.func66 (by kernel_rfl) rfl #[.slice A1 l1.length c1,.int .i64 a2] rfl lm_ ?_;(with_reducible refine (spec_endOf.calls k1 _ _ l1 a2 t2 _ ?side1 ?side2 A7.out).mono ?_);(case side1=>exact cc_ (Kd.C_below HR1.out HB.out));(case side2=>exact HC1.out);rintro e w' ⟨rfl,⟨nd,rfl⟩⟩;refine ⟨_,rfl,?_⟩))
        (try (rw [drewN_self wr];generalize hq_ : World.drewN wr _ = wr;have n0_ : Aside0 (wr.heap[gb1]? = some (.cells #[.slice A0_0 l0_0.length c0_0] 25 (0,0))):=⟨by rw [← hq_];exact (bb_ BK1.out)⟩;have n1_ : Aside0 (Below w.heap.size w wr):=⟨by rw [← hq_];exact hb_⟩;clear BK1 HB hq_;have BK1:=n0_;have HB:=n1_;clear n0_ n1_))
        have n0_:=a0_ (blk_drew BK1.out)
        have n1_:=a0_ (below_drew1 HB.out)
        clear BK1
        clear HB
        have BK1:=n0_
        have HB:=n1_
        clear n0_ n1_
        have p3 : 0 ≤ (x11_1 : Int):=of_decide_eq_true (by first | (with_reducible assumption) | assumption)
        have q3 : x11_1 < (l1.length : Int):=of_decide_eq_true (by first | (with_reducible assumption) | assumption)
        obtain ⟨ad3,e3,hx3_0,hx3_1,hx3_2,hx3_3⟩:=at_T47 HR1.out x11_1 p3 q3
        have hw3_3:=hx3_3
        have hw3_2:=hx3_2
        have hw3_1:=hx3_1
        have hw3_0:=hx3_0
        (try rw [← Nbq11.out] at hx3_1)
        cases e3
        replace hx3_0:=(HB.out.cell (World.block_lt_of_cell? w _ hx3_0)).trans hx3_0
        replace hx3_1:=(HB.out.cell (World.block_lt_of_cell? w _ hx3_1)).trans hx3_1
        replace hx3_2:=(HB.out.cell (World.block_lt_of_cell? w _ hx3_2)).trans hx3_2
        replace hx3_3:=(HB.out.cell (World.block_lt_of_cell? w _ hx3_3)).trans hx3_3
        replace p3:=eq_true p3
        replace q3:=eq_true q3
        have p4 : 0 ≤ (x11_1 : Int):=of_decide_eq_true (by first | (with_reducible assumption) | assumption)
        have q4 : x11_1 < (l1.length : Int):=of_decide_eq_true (by first | (with_reducible assumption) | assumption)
        obtain ⟨ad4,e4,hx4_0,hx4_1,hx4_2,hx4_3⟩:=at_T47 HR1.out x11_1 p4 q4
        have hw4_3:=hx4_3
        have hw4_2:=hx4_2
        have hw4_1:=hx4_1
        have hw4_0:=hx4_0
        (try rw [← Nbq11.out] at hx4_1)
        obtain rfl : ad3 = ad4:=(by injection e4)
        replace hx4_0:=(HB.out.cell (World.block_lt_of_cell? w _ hx4_0)).trans hx4_0
        replace hx4_1:=(HB.out.cell (World.block_lt_of_cell? w _ hx4_1)).trans hx4_1
        replace hx4_2:=(HB.out.cell (World.block_lt_of_cell? w _ hx4_2)).trans hx4_2
        replace hx4_3:=(HB.out.cell (World.block_lt_of_cell? w _ hx4_3)).trans hx4_3
        replace p4:=eq_true p4
        replace q4:=eq_true q4
        refine start_ (n:=18) (S:=fun w'=>w'.cell? ⟨gb1,0,none⟩ = some (.slice A0_0 l0_0.length c0_0) ∧ w'.cell? (ad3.add ((x11_1).toNat * 4)) = some (.int .i64 ((rd_T47 l1 x11_1).f0)) ∧ w'.cell? ⟨(ad3.add ((x11_1).toNat * 4)).block,(ad3.add ((x11_1).toNat * 4)).off + 1,none⟩ = some (.bool false) ∧ w'.cell? ⟨(ad3.add ((x11_1).toNat * 4)).block,(ad3.add ((x11_1).toNat * 4)).off + 2,none⟩ = some (.int .i64 ((rd_T47 l1 x11_1).f2)) ∧ w'.cell? ⟨(ad3.add ((x11_1).toNat * 4)).block,(ad3.add ((x11_1).toNat * 4)).off + 3,none⟩ = some (.int .i64 ((rd_T47 l1 x11_1).f3)) ∧ w'.cell? (ad3.add ((x11_1).toNat * 4)) = some (.int .i64 ((rd_T47 l1 x11_1).f0)) ∧ w'.cell? ⟨(ad3.add ((x11_1).toNat * 4)).block,(ad3.add ((x11_1).toNat * 4)).off + 1,none⟩ = some (.bool (false)) ∧ w'.cell? ⟨(ad3.add ((x11_1).toNat * 4)).block,(ad3.add ((x11_1).toNat * 4)).off + 2,none⟩ = some (.int .i64 ((rd_T47 l1 x11_1).f2)) ∧ w'.cell? ⟨(ad3.add ((x11_1).toNat * 4)).block,(ad3.add ((x11_1).toNat * 4)).off + 3,none⟩ = some (.int .i64 ((rd_T47 l1 x11_1).f3))) (ds:=[]) #[false,false,false,false,false,false,false,false,false,false,false,false,false,false,false,false,false,false] (by kernel_rfl) rfl rfl ⟨(blk_cell BK1.out 0).trans rfl,((HB.out.cell (World.block_lt_of_cell? w _ hw3_0)).trans hw3_0),((HB.out.cell (World.block_lt_of_cell? w _ hw3_1)).trans (by first | exact hw3_1 | exact hw3_1.trans (congrArg (fun z_=>some (Value.bool z_)) Nbq11.out.symm))),((HB.out.cell (World.block_lt_of_cell? w _ hw3_2)).trans hw3_2),((HB.out.cell (World.block_lt_of_cell? w _ hw3_3)).trans hw3_3),((HB.out.cell (World.block_lt_of_cell? w _ hw4_0)).trans hw4_0),((HB.out.cell (World.block_lt_of_cell? w _ hw4_1)).trans (by first | exact hw4_1 | exact hw4_1.trans (congrArg (fun z_=>some (Value.bool z_)) Nbq11.out.symm))),((HB.out.cell (World.block_lt_of_cell? w _ hw4_2)).trans hw4_2),((HB.out.cell (World.block_lt_of_cell? w _ hw4_3)).trans hw4_3)⟩ (fun hHeld=>?_);refine with_tabW spec_keeps.tab4 spec_keeps.bits4 (fun HT_ HW_=>?_)
        generalize wr.drew = w18 at BK1 HB hx3_0 hx3_1 hx3_2 hx3_3 hx4_0 hx4_1 hx4_2 hx4_3 hHeld ⊢
        refine pure_ (i:=0) (N:=some 20) (v:=?_) (a':=?_) #[true,false,false,false,false,false,false,false,false,false,false,false,false,false,false,false,false,false] rfl rfl (any_of HT_.out (by kernel_rfl)) (fun _ _ _ h=>h) (Or.inl ⟨by rfl,?_⟩) ?_ ?_
        rotate_left
        ·intro w'
         go_simp
         with_reducible rfl
        rotate_left
        ·simp only [Act.put,s1_,s2_,s3_,i64_w,i32_w]
         rfl
        refine pure_ (i:=1) (N:=some 21) (v:=?_) (a':=?_) #[true,true,false,false,false,false,false,false,false,false,false,false,false,false,false,false,false,false] rfl rfl (any_of HT_.out (by kernel_rfl)) (fun _ _ _ h=>h) (Or.inl ⟨by rfl,?_⟩) ?_ ?_
        rotate_left
        ·intro w'
         go_simp
         with_reducible rfl
        rotate_left
        ·simp only [Act.put,s1_,s2_,s3_,i64_w,i32_w]
         rfl
        refine pure_ (i:=2) (N:=some 22) (v:=?_) (a':=?_) #[true,true,true,false,false,false,false,false,false,false,false,false,false,false,false,false,false,false] rfl rfl (any_of HT_.out (by kernel_rfl)) (fun _ _ _ h=>h) (Or.inl ⟨by rfl,?_⟩) ?_ ?_
        rotate_left
        ·intro w'
         go_simp
         with_reducible rfl
        rotate_left
        ·simp only [Act.put,s1_,s2_,s3_,i64_w,i32_w]
         rfl
        refine pure_ (i:=3) (N:=some 23) (v:=?_) (a':=?_) #[true,true,true,true,false,false,false,false,false,false,false,false,false,false,false,false,false,false] rfl rfl (any_of HT_.out (by kernel_rfl)) (fun _ _ _ h=>h) (Or.inl ⟨by rfl,?_⟩) ?_ ?_
        rotate_left
        ·intro w'
         go_simp
         with_reducible rfl
        rotate_left
        ·simp only [Act.put,s1_,s2_,s3_,i64_w,i32_w]
         rfl
        refine take_ (i:=4) (N:=some 24) (v:=?_) (a':=?_) #[true,true,true,true,true,false,false,false,false,false,false,false,false,false,false,false,false,false] rfl rfl (take_ofW HT_.out HW_.out (by kernel_rfl)) (fun _ _ _ h=>h) (Or.inl ⟨by rfl,?_⟩) hHeld ?_ ?_
        rotate_left
        ·rintro w' ⟨s0,s1,s2,s3,s4,s5,s6,s7,s8⟩
         go_simp
         with_reducible rfl
        rotate_left
        ·simp only [Act.put,s1_,s2_,s3_,i64_w,i32_w]
         rfl
        refine pure_ (i:=5) (N:=some 25) (v:=?_) (a':=?_) #[true,true,true,true,true,true,false,false,false,false,false,false,false,false,false,false,false,false] rfl rfl (any_of HT_.out (by kernel_rfl)) (fun _ _ _ h=>h) (Or.inl ⟨by rfl,?_⟩) ?_ ?_
        rotate_left
        ·intro w'
         go_simp
         with_reducible rfl
        rotate_left
        ·simp only [Act.put,s1_,s2_,s3_,i64_w,i32_w]
         rfl
        refine pure_ (i:=6) (N:=some 26) (v:=?_) (a':=?_) #[true,true,true,true,true,true,true,false,false,false,false,false,false,false,false,false,false,false] rfl rfl (any_of HT_.out (by kernel_rfl)) (fun _ _ _ h=>h) (Or.inl ⟨by rfl,?_⟩) ?_ ?_
        rotate_left
        ·intro w'
         go_simp
         with_reducible rfl
        rotate_left
        ·simp only [Act.put,s1_,s2_,s3_,i64_w,i32_w]
         rfl
        refine pure_ (i:=8) (N:=some 28) (v:=?_) (a':=?_) #[true,true,true,true,true,true,true,false,true,false,false,false,false,false,false,false,false,false] rfl rfl (any_of HT_.out (by kernel_rfl)) (fun _ _ _ h=>h) (Or.inl ⟨by rfl,?_⟩) ?_ ?_
        rotate_left
        ·intro w'
         go_simp
         with_reducible rfl
        rotate_left
        ·simp only [Act.put,s1_,s2_,s3_,i64_w,i32_w]
         rfl
        refine pure_ (i:=9) (N:=some 29) (v:=?_) (a':=?_) #[true,true,true,true,true,true,true,false,true,true,false,false,false,false,false,false,false,false] rfl rfl (any_of HT_.out (by kernel_rfl)) (fun _ _ _ h=>h) (Or.inl ⟨by rfl,?_⟩) ?_ ?_
        rotate_left
        ·intro w'
         go_simp
         with_reducible rfl
        rotate_left
        ·simp only [Act.put,s1_,s2_,s3_,i64_w,i32_w]
         rfl
        refine pure_ (i:=10) (N:=some 30) (v:=?_) (a':=?_) #[true,true,true,true,true,true,true,false,true,true,true,false,false,false,false,false,false,false] rfl rfl (any_of HT_.out (by kernel_rfl)) (fun _ _ _ h=>h) (Or.inl ⟨by rfl,?_⟩) ?_ ?_
        rotate_left
        ·intro w'
         go_simp
         with_reducible rfl
        rotate_left
        ·simp only [Act.put,s1_,s2_,s3_,i64_w,i32_w]
         rfl
        refine pure_ (i:=11) (N:=some 31) (v:=?_) (a':=?_) #[true,true,true,true,true,true,true,false,true,true,true,true,false,false,false,false,false,false] rfl rfl (any_of HT_.out (by kernel_rfl)) (fun _ _ _ h=>h) (Or.inl ⟨by rfl,?_⟩) ?_ ?_
        rotate_left
        ·intro w'
         go_simp
         with_reducible rfl
        rotate_left
        ·simp only [Act.put,s1_,s2_,s3_,i64_w,i32_w]
         rfl
        refine pure_ (i:=13) (N:=some 33) (v:=?_) (a':=?_) #[true,true,true,true,true,true,true,false,true,true,true,true,false,true,false,false,false,false] rfl rfl (any_of HT_.out (by kernel_rfl)) (fun _ _ _ h=>h) (Or.inl ⟨by rfl,?_⟩) ?_ ?_
        rotate_left
        ·intro w'
         go_simp
         with_reducible rfl
        rotate_left
        ·simp only [Act.put,s1_,s2_,s3_,i64_w,i32_w]
         rfl
        refine pure_ (i:=15) (N:=some 35) (v:=?_) (a':=?_) #[true,true,true,true,true,true,true,false,true,true,true,true,false,true,false,true,false,false] rfl rfl (any_of HT_.out (by kernel_rfl)) (fun _ _ _ h=>h) (Or.inl ⟨by rfl,?_⟩) ?_ ?_
        rotate_left
        ·intro w'
         go_simp
         with_reducible rfl
        rotate_left
        ·simp only [Act.put,s1_,s2_,s3_,i64_w,i32_w]
         rfl
        refine take_ (i:=7) (N:=some 27) (v:=?_) (a':=?_) #[true,true,true,true,true,true,true,true,true,true,true,true,false,true,false,true,false,false] rfl rfl (take_ofW HT_.out HW_.out (by kernel_rfl)) (fun _ _ _ h=>h) (Or.inl ⟨by rfl,?_⟩) hHeld ?_ ?_
        rotate_left
        ·rintro w' ⟨s0,s1,s2,s3,s4,s5,s6,s7,s8⟩
         go_simp
         with_reducible rfl
        rotate_left
        ·simp only [Act.put,s1_,s2_,s3_,i64_w,i32_w]
         rfl
        refine take_ (i:=12) (N:=some 32) (v:=?_) (a':=?_) #[true,true,true,true,true,true,true,true,true,true,true,true,true,true,false,true,false,false] rfl rfl (take_ofW HT_.out HW_.out (by kernel_rfl)) (fun _ _ _ h=>h) (Or.inl ⟨by rfl,?_⟩) hHeld ?_ ?_
        rotate_left
        ·rintro w' ⟨s0,s1,s2,s3,s4,s5,s6,s7,s8⟩
         go_simp
         with_reducible rfl
        rotate_left
        ·simp only [Act.put,s1_,s2_,s3_,i64_w,i32_w]
         rfl
        refine one_ (i:=14) (N:=some 34) #[true,true,true,true,true,true,true,true,true,true,true,true,true,true,true,true,false,false] rfl rfl (one_of HT_.out (by kernel_rfl)) (by decide) (fun K hK=>?_)
        refine goes_ Try.func89 (by kernel_rfl) rfl #[.agg #[.slice A0_0 l0_0.length c0_0],.int .i64 ((rd_T47 l1 x11_1).f2),.int .i64 a3] (by rfl) rfl rfl lm_ ?_
        with_reducible refine (spec_isA.calls k1 _ _ l0_0 ((rd_T47 l1 x11_1).f2) a3 t5 _ ?side1 ?side2 A14.out).mono ?_
        (case side1=>exact cc_ (Kd.C_below HR0_0.out HB.out))
        (case side2=>exact HC0_0.out)
        rintro e w19 ⟨rfl,hb⟩
        refine ⟨_,rfl,?_⟩
        have n0_:=kb_ BK1 hb
        have n1_:=a0_ (below_step hb_ hb)
        clear BK1
        clear HB
        have BK1:=n0_
        have HB:=n1_
        clear n0_ n1_
        (try clear hb)
        (try clear hb2)
        (try clear hk)
        (try clear hi)
        refine hK.out _ _ ⟨(blk_cell BK1.out 0).trans rfl,((HB.out.cell (World.block_lt_of_cell? w _ hw3_0)).trans hw3_0),((HB.out.cell (World.block_lt_of_cell? w _ hw3_1)).trans (by first | exact hw3_1 | exact hw3_1.trans (congrArg (fun z_=>some (Value.bool z_)) Nbq11.out.symm))),((HB.out.cell (World.block_lt_of_cell? w _ hw3_2)).trans hw3_2),((HB.out.cell (World.block_lt_of_cell? w _ hw3_3)).trans hw3_3),((HB.out.cell (World.block_lt_of_cell? w _ hw4_0)).trans hw4_0),((HB.out.cell (World.block_lt_of_cell? w _ hw4_1)).trans (by first | exact hw4_1 | exact hw4_1.trans (congrArg (fun z_=>some (Value.bool z_)) Nbq11.out.symm))),((HB.out.cell (World.block_lt_of_cell? w _ hw4_2)).trans hw4_2),((HB.out.cell (World.block_lt_of_cell? w _ hw4_3)).trans hw4_3)⟩ (fun hHeld=>?_)
        clear hK K
        refine norm_ (a':=?_) ?_ ?_
        rotate_left
        ·show Act.put _ (some 34) _ = _
         simp only [Act.put,s1_,s2_,s3_,i64_w,i32_w]
         rfl
        refine pure_ (i:=16) (N:=some 36) (v:=?_) (a':=?_) #[true,true,true,true,true,true,true,true,true,true,true,true,true,true,true,true,true,false] rfl rfl (any_of HT_.out (by kernel_rfl)) (fun _ _ _ h=>h) (Or.inl ⟨by rfl,?_⟩) ?_ ?_
        rotate_left
        ·intro w'
         go_simp
         with_reducible rfl
        rotate_left
        ·simp only [Act.put,s1_,s2_,s3_,i64_w,i32_w]
         rfl
        refine pure_ (i:=17) (N:=some 37) (v:=?_) (a':=?_) #[true,true,true,true,true,true,true,true,true,true,true,true,true,true,true,true,true,true] rfl rfl (any_of HT_.out (by kernel_rfl)) (fun _ _ _ h=>h) (Or.inl ⟨by rfl,?_⟩) ?_ ?_
        rotate_left
        ·intro w'
         go_simp
         with_reducible rfl
        rotate_left
        ·simp only [Act.put,s1_,s2_,s3_,i64_w,i32_w]
         rfl
        refine done_ (done_of HT_.out (by kernel_rfl)) ?_
        try go_wp2
        go_roundg k1
        case measure=>have:=HK1.out;omega
        case rel=>exact ⟨(wrap64 (x11_1 + 1)),(by first | rfl | (simp;done) | (simp [*];done)),H',⟨by have:=HK1.out;omega⟩,⟨by (with_reducible repeat (first | refine blk_drewN ?_ _ | refine blk_drew ?_ | refine blk_alloc ?_ _));exact BK1.out⟩,⟨hb_⟩⟩
     ·rw [if_neg c10] at H
      exact absurd H (by simp)
    ·rw [if_neg c9] at H
     exact absurd H (by simp)
   ·rw [if_neg c8] at H
    have c8b0 : decide (x11_1 < t2) = false:=decide_eq_false c8
    clear c8
    obtain rfl:=Option.some.inj H
    go_wp2_with (first | ((with_reducible refine gate_callee (f:=66) rfl ?_);refine goesL_ (some 16) rfl rfl Try.func66 (by kernel_rfl) rfl #[.slice A1 l1.length c1,.int .i64 a2] rfl lm_ ?_;(with_reducible refine (spec_endOf.calls k1 _ _ l1 a2 t2 _ ?side1 ?side2 A7.out).mono ?_);(case side1=>exact cc_ (Kd.C_below HR1.out HB.out));(case side2=>exact HC1.out);rintro e w' ⟨rfl,⟨nd,rfl⟩⟩;refine ⟨_,rfl,?_⟩))
    go_ret
    exact ⟨by first | rfl | (simp [errW_none,errW_some] <;> rfl) | (simp [*,errW_none,errW_some] <;> rfl),hb_⟩
theorem spec_keeps_ev {t : List Cls} (h : vT t = true) (g : List Prt) (hg : lfOk t g) (hl : g.length ≤ 9223372036854775807) (i : Nat) (hi : i < g.length) (a : Int) (yes : Bool) : Ev (fun k=>spec_keeps.f k t g (i : Int) a yes) (keepsB t g i a yes):=by
 have he:=endG_le g i hi
 have he2:=endG_gt g i
 have key : ∀ d j,j + d = endG g i → Ev (fun k=>spec_keeps.l0 k g (i : Int) a yes (j : Int) t) (((g.drop j).take d).any (lfB t a yes)):=by
  intro d
  induction d with
  | zero =>
   intro j hj
   refine Ev.succ ?_
   simp only [spec_keeps.l0]
   refine Ev.bind (spec_endOf_ev g i hi hl) (Ev.neg (by omega) ?_)
   exact Ev.const (by simp)
  | succ d ih =>
   intro j hj
   have hlt : j < g.length:=by omega
   have hrd : rd_T47 g (j : Int) = g[j]:=by simp [rd_T47,hlt]
   have hn:=ih (j + 1) (by omega)
   rw [List.drop_eq_getElem_cons hlt,List.take_succ_cons,List.any_cons]
   refine Ev.succ ?_
   simp only [spec_keeps.l0,hrd]
   rw [wrap_succ (i:=(j : Int)) (n:=g.length) (by omega) (by omega) (by omega)]
   refine Ev.bind (spec_endOf_ev g i hi hl) (Ev.pos (by omega) (Ev.pos (by omega) (Ev.pos (by omega) ?_)))
   unfold lfB at hn ⊢
   cases h1 : g[j].f1 with
   | true =>
    refine Ev.pos rfl ?_
    simpa using hn
   | false =>
    refine Ev.neg (by simp) (Ev.bind (spec_isA_Ev h g[j].f2 a (hg _ (List.getElem_mem hlt) h1)) ?_)
    cases h2 : (isA t g[j].f2 a == yes) with
    | true=>exact Ev.pos rfl (Ev.const rfl)
    | false =>
     refine Ev.neg (by simp) ?_
     simpa using hn
 exact key (endG g i - i) i (by omega)
end Go.Proofs.Ytfphcdbnnienhaa.P
namespace Go.Proofs.Ytfphcdbnnienhaa.P
open Go.RowKit Go.Proofs.YtfphcdbnnienhaaW.PrintWords Go.Proofs.YtfphcdbnnienhaaW.PrintLast Go.Proofs.YtfphcdbnnienhaaW.PrintMore
attribute [local go_sem] max2_int min2_int max_two min_two max_three min_three max_four min_four
set_option linter.unusedVariables false
set_option linter.unusedSimpArgs false
def spec_split.l0 : Nat → List (S47) → Int → List (S47) → List (S47) → Int → List (S85) → Option ((List (S47)) × (List (S47)))
 | 0,_,_,_,_,_,_=>none
 | k + 1,x1,x2,x8,x9,x10,x2000=>if x10 < (x1.length : Int) then ((spec_keeps.f k x2000 x1 x10 x2 true).bind fun t8=>(if t8 = true then (if 0 ≤ x10 then (if x8.length < 4398046511104 then ((some (x8 ++ [(⟨(rd_T47 x1 x10).f0,(rd_T47 x1 x10).f1,(rd_T47 x1 x10).f2,(rd_T47 x1 x10).f3⟩ : S47)] : List (S47))).bind fun y10=>((spec_keeps.f k x2000 x1 x10 x2 false).bind fun t13=>(if t13 = true then (if x9.length < 4398046511104 then (spec_split.l0 k x1 x2 y10 (x9 ++ [(⟨(rd_T47 x1 x10).f0,(rd_T47 x1 x10).f1,(rd_T47 x1 x10).f2,(rd_T47 x1 x10).f3⟩ : S47)]) (wrap64 (x10 + 1)) x2000) else (none)) else (spec_split.l0 k x1 x2 y10 x9 (wrap64 (x10 + 1)) x2000)))) else (none)) else (none)) else ((spec_keeps.f k x2000 x1 x10 x2 false).bind fun t18=>(if t18 = true then (if 0 ≤ x10 then (if x9.length < 4398046511104 then (spec_split.l0 k x1 x2 x8 (x9 ++ [(⟨(rd_T47 x1 x10).f0,(rd_T47 x1 x10).f1,(rd_T47 x1 x10).f2,(rd_T47 x1 x10).f3⟩ : S47)]) (wrap64 (x10 + 1)) x2000) else (none)) else (none)) else (spec_split.l0 k x1 x2 x8 x9 (wrap64 (x10 + 1)) x2000))))) else (some (x8,x9))
def spec_split.f (k : Nat) (l0_0 : List (S85)) (l1 : List (S47)) (a2 : Int) : Option ((List (S47)) × (List (S47))):=spec_split.l0 k l1 a2 (([] : List (S47))) (([] : List (S47))) 0 l0_0
theorem spec_split.mono_l : ∀ k,(∀ y0 y1 y2 y3 y4 y5,LeO (spec_split.l0 k y0 y1 y2 y3 y4 y5) (spec_split.l0 (k + 1) y0 y1 y2 y3 y4 y5))
 | 0=>fun _ _ _ _ _ _ r h=>by simp [spec_split.l0] at h
 | k + 1=>by
  have ih0:=spec_split.mono_l k
  ·intro y0 y1 y2 y3 y4 y5
   unfold spec_split.l0
   repeat' first
   | (with_reducible exact ih0 _ _ _ _ _ _)
   | (with_reducible exact spec_keeps.mono _ _ _ _ _ _)
   | (with_reducible exact LeO.refl _)
   | (with_reducible exact LeO.none _)
   | (with_reducible refine LeO.ite ?_ ?_)
   | (with_reducible refine LeO.bind ?_ (fun _=>?_))
   | exact ih0 _ _ _ _ _ _
   | exact spec_keeps.mono _ _ _ _ _ _
   | exact LeO.none _
   | refine LeO.ite ?_ ?_
   | refine LeO.bind ?_ (fun _=>?_)
theorem spec_split.mono : ∀ a0 a1 a2 k,LeO (spec_split.f k a0 a1 a2) (spec_split.f (k + 1) a0 a1 a2):=by
 intro a0 a1 a2 k
 have ih0:=spec_split.mono_l k
 unfold spec_split.f
 repeat' first
   | (with_reducible exact ih0 _ _ _ _ _ _)
   | (with_reducible exact spec_keeps.mono _ _ _ _ _ _)
   | (with_reducible exact LeO.refl _)
   | (with_reducible exact LeO.none _)
   | (with_reducible refine LeO.ite ?_ ?_)
   | (with_reducible refine LeO.bind ?_ (fun _=>?_))
   | exact ih0 _ _ _ _ _ _
   | exact spec_keeps.mono _ _ _ _ _ _
   | exact LeO.none _
   | refine LeO.ite ?_ ?_
   | refine LeO.bind ?_ (fun _=>?_)
set_option maxHeartbeats 8000000 in
set_option maxRecDepth 100000 in
theorem spec_split.calls (k : Nat) (A0_0 : Option Addr) (c0_0 : Nat) (l0_0 : List (S85)) (A1 : Option Addr) (c1 : Nat) (l1 : List (S47)) (a2 : Int) (r1 : List (S47)) (r2 : List (S47)) (w : World) (hr0_0 : Kd.C k85 w A0_0 l0_0.length l0_0) (hc0_0 : l0_0.length ≤ c0_0) (hr1 : Kd.C k47 w A1 l1.length l1) (hc1 : l1.length ≤ c1) (h : spec_split.f k l0_0 l1 a2 = some (r1,r2)) :
  Calls Try.prog 49 #[.agg #[.slice A0_0 l0_0.length c0_0],.slice A1 l1.length c1,.int .i64 a2] w fun e w'=>∃ v0_ v1_ : Value,e = .returned (.tuple #[v0_,v1_]) ∧ Kd.R k47 47 w' w.heap.size (fun k_=>some k_ ≠ (v1_ : Value).ownBlock) v0_ r1 ∧ Kd.R k47 47 w' w.heap.size (fun k_=>some k_ ≠ (v0_ : Value).ownBlock) v1_ r2 ∧ Below w.heap.size w w':=by
 have hu25:=Try.underlying25
 have hu47:=Try.underlying47
 have HR0_0:=a0_ hr0_0
 have HC0_0:=a0_ hc0_0
 clear hr0_0 hc0_0
 have HR1:=a0_ hr1
 have HC1:=a0_ hc1
 clear hr1 hc1
 have HB:=a0_ (Below.refl w.heap.size w)
 have H : (spec_split.l0 k l1 a2 (([] : List (S47))) (([] : List (S47))) 0 l0_0) = some (r1,r2):=h
 clear h
 obtain ⟨y2,hy2⟩ : ∃ y_ : List (S47),y_ = (([] : List (S47))):=⟨_,rfl⟩
 replace H : (spec_split.l0 k l1 a2 y2 (([] : List (S47))) 0 l0_0) = some (r1,r2):=by first | (rw [hy2];with_reducible exact H) | (have H2_:=(Option.bind_some _ _).symm.trans H;rw [hy2];with_reducible exact H2_) | (have H2_:=(Option.bind_some _ _).symm.trans H;with_reducible exact H2_) | with_reducible exact H | (rw [hy2];exact H) | exact H
 have Ny2:=a0_ hy2
 clear hy2
 obtain ⟨y5,hy5⟩ : ∃ y_ : List (S47),y_ = (([] : List (S47))):=⟨_,rfl⟩
 replace H : (spec_split.l0 k l1 a2 y2 y5 0 l0_0) = some (r1,r2):=by first | (rw [hy5];with_reducible exact H) | (have H2_:=(Option.bind_some _ _).symm.trans H;rw [hy5];with_reducible exact H2_) | (have H2_:=(Option.bind_some _ _).symm.trans H;with_reducible exact H2_) | with_reducible exact H | (rw [hy5];exact H) | exact H
 have Ny5:=a0_ hy5
 clear hy5
 have H':=a0_ H
 clear H
 go_enter Try.func49,Try.ntmps49
 go_wp2_with (first | ((with_reducible refine gate_dst (N:=3) rfl ?_);refine box_event ?hg (N:=3) ?hd (cs:=#[.slice A0_0 l0_0.length c0_0]) (t:=25) ?hr ?_;(case hd=>rfl);(case hg=>rfl);(case hr=>first | (go_simp;done) | (go_simp;rfl));intro gb1 hg w4 hbox hb;have BK1:=a0_ (hbox);have GW1:=a0_ ((by rw [hg];exact (below_size hb_) : w.heap.size ≤ gb1));have GE1:=a0_ ((by rw [hg];exact (below_size hb_) : w.heap.size ≤ gb1));replace HB:=a0_ (below_step hb_ hb);clear hb hbox hg) | ((with_reducible refine gate_dst (N:=11) rfl ?_);refine Kd.R_lit k47 _ 47 ?hg (N:=11) ?hd (xs:=([] : List (S47))) (inner:=[]) (ok:=fun _=>True) (okp:=fun _=>True) ?hr ?hp (fun _ hk=>hk) trivial (Below.refl _ _) (Nat.le_refl _) (by simp) ?_;(case hd=>rfl);(case hg=>rfl);(case hr=>first | (go_simp;done) | (go_simp;rfl));(case hp=>exact (Reps.none _ _));intro v3 w5 ho6 hb hg_ hnew_;clear hg_ hnew_;(first | rw [← Ny2.out] at ho6 | (simp only [Int.reduceToNat] at ho6;rw [← Ny2.out] at ho6));have HO4:=a0_ (Kd.R_lower ho6 (below_size hb_));replace BK1:=kb_ BK1 hb;replace HB:=a0_ (below_step hb_ hb);clear hb ho6) | ((with_reducible refine gate_dst (N:=12) rfl ?_);refine Kd.R_lit k47 _ 47 ?hg (N:=12) ?hd (xs:=([] : List (S47))) (inner:=[]) (ok:=fun _=>True) (okp:=fun _=>True) ?hr ?hp (fun _ hk=>hk) trivial (Below.refl _ _) (Nat.le_refl _) (by simp) ?_;(case hd=>rfl);(case hg=>rfl);(case hr=>first | (go_simp;done) | (go_simp;rfl));(case hp=>exact (Reps.none _ _));intro v6 w7 ho8 hb hg_ hnew_;clear hg_ hnew_;(first | rw [← Ny5.out] at ho8 | (simp only [Int.reduceToNat] at ho8;rw [← Ny5.out] at ho8));have n0_:=a0_ (Kd.R_elder' (rr_ HO4.out) (Kd.R_base ho8) hb);have n1_:=a0_ (Kd.R_lower (Kd.R_new' ho8 (Kd.R_lt (rr_ HO4.out))) (below_size hb_));have n2_:=kb_ BK1 hb;have n3_:=a0_ (below_step hb_ hb);clear HO4 BK1 HB;have HO4:=n0_;have HO7:=n1_;have BK1:=n2_;have HB:=n3_;clear n0_ n1_ n2_ n3_;clear hb ho8))
 go_loopg [8,9,10] k (fun kq v8 v9 v10 w'=>∃ (x8_1 : List (S47)) (x9_1 : List (S47)) (x10_1 : Int),v10 = .int .i64 x10_1 ∧ Aside0 (spec_split.l0 kq l1 a2 x8_1 x9_1 x10_1 l0_0 = some (r1,r2)) ∧ Aside0 (kq ≤ k) ∧ Aside0 (Kd.R k47 47 w' w.heap.size (fun k_=>some k_ ≠ (v9 : Value).ownBlock) v8 x8_1) ∧ Aside0 (Kd.R k47 47 w' w.heap.size (fun k_=>some k_ ≠ (v8 : Value).ownBlock) v9 x9_1) ∧ Aside0 (w'.heap[gb1]? = some (.cells #[(.slice A0_0 l0_0.length c0_0)] 25 (0,0))) ∧ Aside0 (Below w.heap.size w w'))
 case atStart=>exact ⟨(y2),(y5),(0),(by first | rfl | (simp;done) | (simp [*];done)),H',⟨Nat.le_refl _⟩,⟨by (with_reducible repeat (first | apply Kd.R_alloc | apply Kd.R_drewN | apply Kd.R_drew));exact Kd.R_mono HO4.out (fun _ hk=>hk.2)⟩,⟨by (with_reducible repeat (first | apply Kd.R_alloc | apply Kd.R_drewN | apply Kd.R_drew));exact Kd.R_mono HO7.out (fun _ hk=>hk.2)⟩,⟨by (with_reducible repeat (first | refine blk_drewN ?_ _ | refine blk_drew ?_ | refine blk_alloc ?_ _));exact BK1.out⟩,⟨hb_⟩⟩
 case round =>
  clear H'
  try clear c1
  try clear p2
  try clear c4
  obtain ⟨x8_1,x9_1,x10_1,rfl,HA,HK1,HO_8,HO_9,BK1,HB⟩:=hrel
  cases gk with
  | zero=>exact absurd HA.out (by simp [spec_split.l0])
  | succ k1 =>
   have H:=HA.out
   clear HA
   simp only [spec_split.l0] at H
   by_cases c9 : x10_1 < (l1.length : Int)
   ·rw [if_pos c9] at H
    have c9b0 : decide (x10_1 < (l1.length : Int)) = true:=decide_eq_true c9
    clear c9
    replace H:=Option.bind_eq_some_iff.mp H
    obtain ⟨t8,A100,H⟩:=H
    try dsimp only at H
    have A10:=a0_ A100
    clear A100
    by_cases c11 : t8 = true
    ·subst c11
     have H1 : (if 0 ≤ x10_1 then (if x8_1.length < 4398046511104 then ((some (x8_1 ++ [(⟨(rd_T47 l1 x10_1).f0,(rd_T47 l1 x10_1).f1,(rd_T47 l1 x10_1).f2,(rd_T47 l1 x10_1).f3⟩ : S47)] : List (S47))).bind fun y10=>((spec_keeps.f k1 l0_0 l1 x10_1 a2 false).bind fun t13=>(if t13 = true then (if x9_1.length < 4398046511104 then (spec_split.l0 k1 l1 a2 y10 (x9_1 ++ [(⟨(rd_T47 l1 x10_1).f0,(rd_T47 l1 x10_1).f1,(rd_T47 l1 x10_1).f2,(rd_T47 l1 x10_1).f3⟩ : S47)]) (wrap64 (x10_1 + 1)) l0_0) else (none)) else (spec_split.l0 k1 l1 a2 y10 x9_1 (wrap64 (x10_1 + 1)) l0_0)))) else (none)) else (none)) = some (r1,r2):=by rw [if_pos rfl] at H;exact H
     clear H
     have H:=H1
     clear H1
     by_cases c12 : 0 ≤ x10_1
     ·rw [if_pos c12] at H
      have c12b0 : decide (0 ≤ x10_1) = true:=decide_eq_true c12
      clear c12
      by_cases c13 : x8_1.length < 4398046511104
      ·rw [if_pos c13] at H
       have LMc13:=a0_ c13
       clear c13
       obtain ⟨y10,hy10⟩ : ∃ y_ : List (S47),y_ = (x8_1 ++ [(⟨(rd_T47 l1 x10_1).f0,(rd_T47 l1 x10_1).f1,(rd_T47 l1 x10_1).f2,(rd_T47 l1 x10_1).f3⟩ : S47)]):=⟨_,rfl⟩
       replace H : ((spec_keeps.f k1 l0_0 l1 x10_1 a2 false).bind fun t13=>(if t13 = true then (if x9_1.length < 4398046511104 then (spec_split.l0 k1 l1 a2 y10 (x9_1 ++ [(⟨(rd_T47 l1 x10_1).f0,(rd_T47 l1 x10_1).f1,(rd_T47 l1 x10_1).f2,(rd_T47 l1 x10_1).f3⟩ : S47)]) (wrap64 (x10_1 + 1)) l0_0) else (none)) else (spec_split.l0 k1 l1 a2 y10 x9_1 (wrap64 (x10_1 + 1)) l0_0))) = some (r1,r2):=by first | (rw [hy10];with_reducible exact H) | (have H2_:=(Option.bind_some _ _).symm.trans H;rw [hy10];with_reducible exact H2_) | (have H2_:=(Option.bind_some _ _).symm.trans H;with_reducible exact H2_) | with_reducible exact H | (rw [hy10];exact H) | exact H
       have Ny10:=a0_ hy10
       clear hy10
       replace H:=Option.bind_eq_some_iff.mp H
       obtain ⟨t13,A140,H⟩:=H
       try dsimp only at H
       have A14:=a0_ A140
       clear A140
       by_cases c15 : t13 = true
       ·subst c15
        have H1 : (if x9_1.length < 4398046511104 then (spec_split.l0 k1 l1 a2 y10 (x9_1 ++ [(⟨(rd_T47 l1 x10_1).f0,(rd_T47 l1 x10_1).f1,(rd_T47 l1 x10_1).f2,(rd_T47 l1 x10_1).f3⟩ : S47)]) (wrap64 (x10_1 + 1)) l0_0) else (none)) = some (r1,r2):=by rw [if_pos rfl] at H;exact H
        clear H
        have H:=H1
        clear H1
        by_cases c16 : x9_1.length < 4398046511104
        ·rw [if_pos c16] at H
         have LMc16:=a0_ c16
         clear c16
         obtain ⟨y15,hy15⟩ : ∃ y_ : List (S47),y_ = (x9_1 ++ [(⟨(rd_T47 l1 x10_1).f0,(rd_T47 l1 x10_1).f1,(rd_T47 l1 x10_1).f2,(rd_T47 l1 x10_1).f3⟩ : S47)]):=⟨_,rfl⟩
         replace H : (spec_split.l0 k1 l1 a2 y10 y15 (wrap64 (x10_1 + 1)) l0_0) = some (r1,r2):=by first | (rw [hy15];with_reducible exact H) | (have H2_:=(Option.bind_some _ _).symm.trans H;rw [hy15];with_reducible exact H2_) | (have H2_:=(Option.bind_some _ _).symm.trans H;with_reducible exact H2_) | with_reducible exact H | (rw [hy15];exact H) | exact H
         have Ny15:=a0_ hy15
         clear hy15
         have H':=a0_ H
         clear H
         have hcz17_0 : wr.cell? ⟨gb1,0,none⟩ = some (.slice A0_0 l0_0.length c0_0):=(blk_cell BK1.out 0).trans rfl
         have hfz17_0:=blk_frozen BK1.out 0
         go_wp2_with (first | ((with_reducible refine gate_callee (f:=75) rfl ?_);refine goesL_ (some 23) rfl rfl Try.func75 (by kernel_rfl) rfl #[.agg #[.slice A0_0 l0_0.length c0_0],.slice A1 l1.length c1,.int .i64 x10_1,.int .i64 a2,.bool true] rfl lm_ ?_;(with_reducible refine (spec_keeps.calls k1 _ _ l0_0 _ _ l1 x10_1 a2 true true _ ?side1 ?side2 ?side3 ?side4 A10.out).mono ?_);(case side1=>exact cc_ (Kd.C_below HR0_0.out HB.out));(case side2=>exact HC0_0.out);(case side3=>exact cc_ (Kd.C_below HR1.out HB.out));(case side4=>exact HC1.out);rintro e w18 ⟨rfl,hb⟩;refine ⟨_,rfl,?_⟩;replace HO_8:=rb_ HO_8 hb;replace HO_9:=rb_ HO_9 hb;replace BK1:=kb_ BK1 hb;replace HB:=a0_ (below_step hb_ hb);(try clear hb);have p9 : 0 ≤ (x10_1 : Int):=of_decide_eq_true (by first | (with_reducible assumption) | assumption);have q9 : x10_1 < (l1.length : Int):=of_decide_eq_true (by first | (with_reducible assumption) | assumption);obtain ⟨ad9,e9,hx9_0,hx9_1,hx9_2,hx9_3⟩:=at_T47 HR1.out x10_1 p9 q9;cases e9;replace hx9_0:=(HB.out.cell (World.block_lt_of_cell? w _ hx9_0)).trans hx9_0;replace hx9_1:=(HB.out.cell (World.block_lt_of_cell? w _ hx9_1)).trans hx9_1;replace hx9_2:=(HB.out.cell (World.block_lt_of_cell? w _ hx9_2)).trans hx9_2;replace hx9_3:=(HB.out.cell (World.block_lt_of_cell? w _ hx9_3)).trans hx9_3;replace p9:=eq_true p9;replace q9:=eq_true q9) | ((with_reducible refine gate_builtin (b:=.append) (xs:=#[.tmp 24,.tmp 29]) rfl ?_);at_builtin;refine Kd.R_append k47 (w0:=w) w.heap.size rfl (.tmp 24) (.tmp 29) 26 47 (.agg #[(.int .i64 0),(.bool false),(.int .i64 0),(.int .i64 0)]) 32 rfl Try.underlying26 info47 rfl (by decide) (by omega) u8 x8_1 (⟨(rd_T47 l1 x10_1).f0,(rd_T47 l1 x10_1).f1,(rd_T47 l1 x10_1).f2,(rd_T47 l1 x10_1).f3⟩ : S47) [.int .i64 ((rd_T47 l1 x10_1).f0),.bool ((rd_T47 l1 x10_1).f1),.int .i64 ((rd_T47 l1 x10_1).f2),.int .i64 ((rd_T47 l1 x10_1).f3)] (fun k_=>some k_ ≠ (u9 : Value).ownBlock) (fun _=>False) rfl rfl ?aP (fun _ hk=>hk.elim) ?aF ?aO ?aB ?aS ?aL ?_;(case aP=>exact k47_mkM _ _ _ (⟨(rd_T47 l1 x10_1).f0,(rd_T47 l1 x10_1).f1,(rd_T47 l1 x10_1).f2,(rd_T47 l1 x10_1).f3⟩ : S47));(case aB=>exact hb_);(case aF=>exact (fun k_ hk=>Kd.fresh' (Kd.R_lt (rr_ HO_9.out)) k_ hk));(case aO=>exact (rr_ HO_8.out));(case aS=>exact (below_size hb_));(case aL=>have:=LMc13.out;omega);intro v11 w19 ho hb hg hat;rw [← Ny10.out] at ho;replace HO_9:=a0_ (Kd.R_after (ok:=(fun _=>True)) (rm_ HO_9.out (fun _ hk=>⟨trivial,hk⟩)) hg hat);replace BK1:=a0_ (blk_grown (bb_ BK1.out) hg (Kd.R_ne HO_8.out BK1.out (by decide)));have HO12:=a0_ (ho);replace HB:=a0_ (hb);clear HO_8;clear ho hb hg hat;have hcz20_0 : w19.cell? ⟨gb1,0,none⟩ = some (.slice A0_0 l0_0.length c0_0):=(blk_cell BK1.out 0).trans rfl;have hfz20_0:=blk_frozen BK1.out 0) | ((with_reducible refine gate_callee (f:=75) rfl ?_);refine goesL_ (some 35) rfl rfl Try.func75 (by kernel_rfl) rfl #[.agg #[.slice A0_0 l0_0.length c0_0],.slice (some ad9) l1.length c1,.int .i64 x10_1,.int .i64 a2,.bool false] rfl lm_ ?_;(with_reducible refine (spec_keeps.calls k1 _ _ l0_0 _ _ l1 x10_1 a2 false true _ ?side1 ?side2 ?side3 ?side4 A14.out).mono ?_);(case side1=>exact cc_ (Kd.C_below HR0_0.out HB.out));(case side2=>exact HC0_0.out);(case side3=>exact cc_ (Kd.C_below HR1.out HB.out));(case side4=>exact HC1.out);rintro e w21 ⟨rfl,hb⟩;refine ⟨_,rfl,?_⟩;replace HO_9:=rb_ HO_9 hb;replace HO12:=rb_ HO12 hb;replace BK1:=kb_ BK1 hb;replace HB:=a0_ (below_step hb_ hb);(try clear hb);have p14 : 0 ≤ (x10_1 : Int):=of_decide_eq_true (by first | (with_reducible assumption) | assumption);have q14 : x10_1 < (l1.length : Int):=of_decide_eq_true (by first | (with_reducible assumption) | assumption);obtain ⟨ad14,e14,hx14_0,hx14_1,hx14_2,hx14_3⟩:=at_T47 HR1.out x10_1 p14 q14;obtain rfl : ad9 = ad14:=(by injection e14);replace hx14_0:=(HB.out.cell (World.block_lt_of_cell? w _ hx14_0)).trans hx14_0;replace hx14_1:=(HB.out.cell (World.block_lt_of_cell? w _ hx14_1)).trans hx14_1;replace hx14_2:=(HB.out.cell (World.block_lt_of_cell? w _ hx14_2)).trans hx14_2;replace hx14_3:=(HB.out.cell (World.block_lt_of_cell? w _ hx14_3)).trans hx14_3;replace p14:=eq_true p14;replace q14:=eq_true q14) | ((with_reducible refine gate_builtin (b:=.append) (xs:=#[.tmp 36,.tmp 41]) rfl ?_);at_builtin;refine Kd.R_append k47 (w0:=w) w.heap.size rfl (.tmp 36) (.tmp 41) 26 47 (.agg #[(.int .i64 0),(.bool false),(.int .i64 0),(.int .i64 0)]) 32 rfl Try.underlying26 info47 rfl (by decide) (by omega) u9 x9_1 (⟨(rd_T47 l1 x10_1).f0,(rd_T47 l1 x10_1).f1,(rd_T47 l1 x10_1).f2,(rd_T47 l1 x10_1).f3⟩ : S47) [.int .i64 ((rd_T47 l1 x10_1).f0),.bool ((rd_T47 l1 x10_1).f1),.int .i64 ((rd_T47 l1 x10_1).f2),.int .i64 ((rd_T47 l1 x10_1).f3)] (fun k_=>some k_ ≠ (v11 : Value).ownBlock) (fun _=>False) rfl rfl ?aP (fun _ hk=>hk.elim) ?aF ?aO ?aB ?aS ?aL ?_;(case aP=>exact k47_mkM _ _ _ (⟨(rd_T47 l1 x10_1).f0,(rd_T47 l1 x10_1).f1,(rd_T47 l1 x10_1).f2,(rd_T47 l1 x10_1).f3⟩ : S47));(case aB=>exact hb_);(case aF=>exact (fun k_ hk=>Kd.fresh' (Kd.R_lt (rr_ HO12.out)) k_ hk));(case aO=>exact (rm_ HO_9.out (fun _ hk=>hk.2)));(case aS=>exact (below_size hb_));(case aL=>have:=LMc16.out;omega);intro v16 w22 ho hb hg hat;rw [← Ny15.out] at ho;replace BK1:=a0_ (blk_grown (bb_ BK1.out) hg (Kd.R_ne HO_9.out BK1.out (by decide)));replace HO12:=a0_ (Kd.R_after (ok:=(fun _=>True)) (rm_ HO12.out (fun _ hk=>⟨trivial,hk⟩)) hg hat);have HO17:=a0_ (ho);replace HB:=a0_ (hb);clear HO_9;clear ho hb hg hat))
         go_roundg k1
         case measure=>have:=HK1.out;omega
         case rel=>exact ⟨(y10),(y15),(wrap64 (x10_1 + 1)),(by first | rfl | (simp;done) | (simp [*];done)),H',⟨by have:=HK1.out;omega⟩,⟨by (with_reducible repeat (first | apply Kd.R_alloc | apply Kd.R_drewN | apply Kd.R_drew));exact Kd.R_mono HO12.out (fun _ hk=>hk.2)⟩,⟨by (with_reducible repeat (first | apply Kd.R_alloc | apply Kd.R_drewN | apply Kd.R_drew));exact HO17.out⟩,⟨by (with_reducible repeat (first | refine blk_drewN ?_ _ | refine blk_drew ?_ | refine blk_alloc ?_ _));exact BK1.out⟩,⟨hb_⟩⟩
        ·rw [if_neg c16] at H
         exact absurd H (by simp)
       ·replace c15:=Bool.eq_false_iff.mpr c15
        subst c15
        have H1 : (spec_split.l0 k1 l1 a2 y10 x9_1 (wrap64 (x10_1 + 1)) l0_0) = some (r1,r2):=by rw [if_neg (show ¬ (false = true) by decide)] at H;exact H
        clear H
        have H:=H1
        clear H1
        have H':=a0_ H
        clear H
        have hcz23_0 : wr.cell? ⟨gb1,0,none⟩ = some (.slice A0_0 l0_0.length c0_0):=(blk_cell BK1.out 0).trans rfl
        have hfz23_0:=blk_frozen BK1.out 0
        go_wp2_with (first | ((with_reducible refine gate_callee (f:=75) rfl ?_);refine goesL_ (some 23) rfl rfl Try.func75 (by kernel_rfl) rfl #[.agg #[.slice A0_0 l0_0.length c0_0],.slice A1 l1.length c1,.int .i64 x10_1,.int .i64 a2,.bool true] rfl lm_ ?_;(with_reducible refine (spec_keeps.calls k1 _ _ l0_0 _ _ l1 x10_1 a2 true true _ ?side1 ?side2 ?side3 ?side4 A10.out).mono ?_);(case side1=>exact cc_ (Kd.C_below HR0_0.out HB.out));(case side2=>exact HC0_0.out);(case side3=>exact cc_ (Kd.C_below HR1.out HB.out));(case side4=>exact HC1.out);rintro e w24 ⟨rfl,hb⟩;refine ⟨_,rfl,?_⟩;replace HO_8:=rb_ HO_8 hb;replace HO_9:=rb_ HO_9 hb;replace BK1:=kb_ BK1 hb;replace HB:=a0_ (below_step hb_ hb);(try clear hb);have p9 : 0 ≤ (x10_1 : Int):=of_decide_eq_true (by first | (with_reducible assumption) | assumption);have q9 : x10_1 < (l1.length : Int):=of_decide_eq_true (by first | (with_reducible assumption) | assumption);obtain ⟨ad9,e9,hx9_0,hx9_1,hx9_2,hx9_3⟩:=at_T47 HR1.out x10_1 p9 q9;cases e9;replace hx9_0:=(HB.out.cell (World.block_lt_of_cell? w _ hx9_0)).trans hx9_0;replace hx9_1:=(HB.out.cell (World.block_lt_of_cell? w _ hx9_1)).trans hx9_1;replace hx9_2:=(HB.out.cell (World.block_lt_of_cell? w _ hx9_2)).trans hx9_2;replace hx9_3:=(HB.out.cell (World.block_lt_of_cell? w _ hx9_3)).trans hx9_3;replace p9:=eq_true p9;replace q9:=eq_true q9) | ((with_reducible refine gate_builtin (b:=.append) (xs:=#[.tmp 24,.tmp 29]) rfl ?_);at_builtin;refine Kd.R_append k47 (w0:=w) w.heap.size rfl (.tmp 24) (.tmp 29) 26 47 (.agg #[(.int .i64 0),(.bool false),(.int .i64 0),(.int .i64 0)]) 32 rfl Try.underlying26 info47 rfl (by decide) (by omega) u8 x8_1 (⟨(rd_T47 l1 x10_1).f0,(rd_T47 l1 x10_1).f1,(rd_T47 l1 x10_1).f2,(rd_T47 l1 x10_1).f3⟩ : S47) [.int .i64 ((rd_T47 l1 x10_1).f0),.bool ((rd_T47 l1 x10_1).f1),.int .i64 ((rd_T47 l1 x10_1).f2),.int .i64 ((rd_T47 l1 x10_1).f3)] (fun k_=>some k_ ≠ (u9 : Value).ownBlock) (fun _=>False) rfl rfl ?aP (fun _ hk=>hk.elim) ?aF ?aO ?aB ?aS ?aL ?_;(case aP=>exact k47_mkM _ _ _ (⟨(rd_T47 l1 x10_1).f0,(rd_T47 l1 x10_1).f1,(rd_T47 l1 x10_1).f2,(rd_T47 l1 x10_1).f3⟩ : S47));(case aB=>exact hb_);(case aF=>exact (fun k_ hk=>Kd.fresh' (Kd.R_lt (rr_ HO_9.out)) k_ hk));(case aO=>exact (rr_ HO_8.out));(case aS=>exact (below_size hb_));(case aL=>have:=LMc13.out;omega);intro v11 w25 ho hb hg hat;rw [← Ny10.out] at ho;replace HO_9:=a0_ (Kd.R_after (ok:=(fun _=>True)) (rm_ HO_9.out (fun _ hk=>⟨trivial,hk⟩)) hg hat);replace BK1:=a0_ (blk_grown (bb_ BK1.out) hg (Kd.R_ne HO_8.out BK1.out (by decide)));have HO12:=a0_ (ho);replace HB:=a0_ (hb);clear HO_8;clear ho hb hg hat;have hcz26_0 : w25.cell? ⟨gb1,0,none⟩ = some (.slice A0_0 l0_0.length c0_0):=(blk_cell BK1.out 0).trans rfl;have hfz26_0:=blk_frozen BK1.out 0) | ((with_reducible refine gate_callee (f:=75) rfl ?_);refine goesL_ (some 35) rfl rfl Try.func75 (by kernel_rfl) rfl #[.agg #[.slice A0_0 l0_0.length c0_0],.slice (some ad9) l1.length c1,.int .i64 x10_1,.int .i64 a2,.bool false] rfl lm_ ?_;(with_reducible refine (spec_keeps.calls k1 _ _ l0_0 _ _ l1 x10_1 a2 false false _ ?side1 ?side2 ?side3 ?side4 A14.out).mono ?_);(case side1=>exact cc_ (Kd.C_below HR0_0.out HB.out));(case side2=>exact HC0_0.out);(case side3=>exact cc_ (Kd.C_below HR1.out HB.out));(case side4=>exact HC1.out);rintro e w27 ⟨rfl,hb⟩;refine ⟨_,rfl,?_⟩;replace HO_9:=rb_ HO_9 hb;replace HO12:=rb_ HO12 hb;replace BK1:=kb_ BK1 hb;replace HB:=a0_ (below_step hb_ hb);(try clear hb);(try clear hb2);(try clear hk);(try clear hi)))
        go_roundg k1
        case measure=>have:=HK1.out;omega
        case rel=>exact ⟨(y10),(x9_1),(wrap64 (x10_1 + 1)),(by first | rfl | (simp;done) | (simp [*];done)),H',⟨by have:=HK1.out;omega⟩,⟨by (with_reducible repeat (first | apply Kd.R_alloc | apply Kd.R_drewN | apply Kd.R_drew));exact HO12.out⟩,⟨by (with_reducible repeat (first | apply Kd.R_alloc | apply Kd.R_drewN | apply Kd.R_drew));exact Kd.R_mono HO_9.out (fun _ hk=>hk.2)⟩,⟨by (with_reducible repeat (first | refine blk_drewN ?_ _ | refine blk_drew ?_ | refine blk_alloc ?_ _));exact BK1.out⟩,⟨hb_⟩⟩
      ·rw [if_neg c13] at H
       exact absurd H (by simp)
     ·rw [if_neg c12] at H
      exact absurd H (by simp)
    ·replace c11:=Bool.eq_false_iff.mpr c11
     subst c11
     have H1 : ((spec_keeps.f k1 l0_0 l1 x10_1 a2 false).bind fun t18=>(if t18 = true then (if 0 ≤ x10_1 then (if x9_1.length < 4398046511104 then (spec_split.l0 k1 l1 a2 x8_1 (x9_1 ++ [(⟨(rd_T47 l1 x10_1).f0,(rd_T47 l1 x10_1).f1,(rd_T47 l1 x10_1).f2,(rd_T47 l1 x10_1).f3⟩ : S47)]) (wrap64 (x10_1 + 1)) l0_0) else (none)) else (none)) else (spec_split.l0 k1 l1 a2 x8_1 x9_1 (wrap64 (x10_1 + 1)) l0_0))) = some (r1,r2):=by rw [if_neg (show ¬ (false = true) by decide)] at H;exact H
     clear H
     have H:=H1
     clear H1
     replace H:=Option.bind_eq_some_iff.mp H
     obtain ⟨t18,A280,H⟩:=H
     try dsimp only at H
     have A28:=a0_ A280
     clear A280
     by_cases c29 : t18 = true
     ·subst c29
      have H1 : (if 0 ≤ x10_1 then (if x9_1.length < 4398046511104 then (spec_split.l0 k1 l1 a2 x8_1 (x9_1 ++ [(⟨(rd_T47 l1 x10_1).f0,(rd_T47 l1 x10_1).f1,(rd_T47 l1 x10_1).f2,(rd_T47 l1 x10_1).f3⟩ : S47)]) (wrap64 (x10_1 + 1)) l0_0) else (none)) else (none)) = some (r1,r2):=by rw [if_pos rfl] at H;exact H
      clear H
      have H:=H1
      clear H1
      by_cases c30 : 0 ≤ x10_1
      ·rw [if_pos c30] at H
       have c30b0 : decide (0 ≤ x10_1) = true:=decide_eq_true c30
       clear c30
       by_cases c31 : x9_1.length < 4398046511104
       ·rw [if_pos c31] at H
        have LMc31:=a0_ c31
        clear c31
        obtain ⟨y20,hy20⟩ : ∃ y_ : List (S47),y_ = (x9_1 ++ [(⟨(rd_T47 l1 x10_1).f0,(rd_T47 l1 x10_1).f1,(rd_T47 l1 x10_1).f2,(rd_T47 l1 x10_1).f3⟩ : S47)]):=⟨_,rfl⟩
        replace H : (spec_split.l0 k1 l1 a2 x8_1 y20 (wrap64 (x10_1 + 1)) l0_0) = some (r1,r2):=by first | (rw [hy20];with_reducible exact H) | (have H2_:=(Option.bind_some _ _).symm.trans H;rw [hy20];with_reducible exact H2_) | (have H2_:=(Option.bind_some _ _).symm.trans H;with_reducible exact H2_) | with_reducible exact H | (rw [hy20];exact H) | exact H
        have Ny20:=a0_ hy20
        clear hy20
        have H':=a0_ H
        clear H
        have hcz32_0 : wr.cell? ⟨gb1,0,none⟩ = some (.slice A0_0 l0_0.length c0_0):=(blk_cell BK1.out 0).trans rfl
        have hfz32_0:=blk_frozen BK1.out 0
        go_wp2_with (first | ((with_reducible refine gate_callee (f:=75) rfl ?_);refine goesL_ (some 23) rfl rfl Try.func75 (by kernel_rfl) rfl #[.agg #[.slice A0_0 l0_0.length c0_0],.slice A1 l1.length c1,.int .i64 x10_1,.int .i64 a2,.bool true] rfl lm_ ?_;(with_reducible refine (spec_keeps.calls k1 _ _ l0_0 _ _ l1 x10_1 a2 true false _ ?side1 ?side2 ?side3 ?side4 A10.out).mono ?_);(case side1=>exact cc_ (Kd.C_below HR0_0.out HB.out));(case side2=>exact HC0_0.out);(case side3=>exact cc_ (Kd.C_below HR1.out HB.out));(case side4=>exact HC1.out);rintro e w33 ⟨rfl,hb⟩;refine ⟨_,rfl,?_⟩;replace HO_8:=rb_ HO_8 hb;replace HO_9:=rb_ HO_9 hb;replace BK1:=kb_ BK1 hb;replace HB:=a0_ (below_step hb_ hb);(try clear hb);have hcz34_0 : w33.cell? ⟨gb1,0,none⟩ = some (.slice A0_0 l0_0.length c0_0):=(blk_cell BK1.out 0).trans rfl;have hfz34_0:=blk_frozen BK1.out 0) | ((with_reducible refine gate_callee (f:=75) rfl ?_);refine goesL_ (some 35) rfl rfl Try.func75 (by kernel_rfl) rfl #[.agg #[.slice A0_0 l0_0.length c0_0],.slice A1 l1.length c1,.int .i64 x10_1,.int .i64 a2,.bool false] rfl lm_ ?_;(with_reducible refine (spec_keeps.calls k1 _ _ l0_0 _ _ l1 x10_1 a2 false true _ ?side1 ?side2 ?side3 ?side4 A28.out).mono ?_);(case side1=>exact cc_ (Kd.C_below HR0_0.out HB.out));(case side2=>exact HC0_0.out);(case side3=>exact cc_ (Kd.C_below HR1.out HB.out));(case side4=>exact HC1.out);rintro e w35 ⟨rfl,hb⟩;refine ⟨_,rfl,?_⟩;replace HO_8:=rb_ HO_8 hb;replace HO_9:=rb_ HO_9 hb;replace BK1:=kb_ BK1 hb;replace HB:=a0_ (below_step hb_ hb);(try clear hb);have p19 : 0 ≤ (x10_1 : Int):=of_decide_eq_true (by first | (with_reducible assumption) | assumption);have q19 : x10_1 < (l1.length : Int):=of_decide_eq_true (by first | (with_reducible assumption) | assumption);obtain ⟨ad19,e19,hx19_0,hx19_1,hx19_2,hx19_3⟩:=at_T47 HR1.out x10_1 p19 q19;cases e19;replace hx19_0:=(HB.out.cell (World.block_lt_of_cell? w _ hx19_0)).trans hx19_0;replace hx19_1:=(HB.out.cell (World.block_lt_of_cell? w _ hx19_1)).trans hx19_1;replace hx19_2:=(HB.out.cell (World.block_lt_of_cell? w _ hx19_2)).trans hx19_2;replace hx19_3:=(HB.out.cell (World.block_lt_of_cell? w _ hx19_3)).trans hx19_3;replace p19:=eq_true p19;replace q19:=eq_true q19) | ((with_reducible refine gate_builtin (b:=.append) (xs:=#[.tmp 36,.tmp 41]) rfl ?_);at_builtin;refine Kd.R_append k47 (w0:=w) w.heap.size rfl (.tmp 36) (.tmp 41) 26 47 (.agg #[(.int .i64 0),(.bool false),(.int .i64 0),(.int .i64 0)]) 32 rfl Try.underlying26 info47 rfl (by decide) (by omega) u9 x9_1 (⟨(rd_T47 l1 x10_1).f0,(rd_T47 l1 x10_1).f1,(rd_T47 l1 x10_1).f2,(rd_T47 l1 x10_1).f3⟩ : S47) [.int .i64 ((rd_T47 l1 x10_1).f0),.bool ((rd_T47 l1 x10_1).f1),.int .i64 ((rd_T47 l1 x10_1).f2),.int .i64 ((rd_T47 l1 x10_1).f3)] (fun k_=>some k_ ≠ (u8 : Value).ownBlock) (fun _=>False) rfl rfl ?aP (fun _ hk=>hk.elim) ?aF ?aO ?aB ?aS ?aL ?_;(case aP=>exact k47_mkM _ _ _ (⟨(rd_T47 l1 x10_1).f0,(rd_T47 l1 x10_1).f1,(rd_T47 l1 x10_1).f2,(rd_T47 l1 x10_1).f3⟩ : S47));(case aB=>exact hb_);(case aF=>exact (fun k_ hk=>Kd.fresh' (Kd.R_lt (rr_ HO_8.out)) k_ hk));(case aO=>exact (rr_ HO_9.out));(case aS=>exact (below_size hb_));(case aL=>have:=LMc31.out;omega);intro v21 w36 ho hb hg hat;rw [← Ny20.out] at ho;replace HO_8:=a0_ (Kd.R_after (ok:=(fun _=>True)) (rm_ HO_8.out (fun _ hk=>⟨trivial,hk⟩)) hg hat);replace BK1:=a0_ (blk_grown (bb_ BK1.out) hg (Kd.R_ne HO_9.out BK1.out (by decide)));have HO22:=a0_ (ho);replace HB:=a0_ (hb);clear HO_9;clear ho hb hg hat))
        go_roundg k1
        case measure=>have:=HK1.out;omega
        case rel=>exact ⟨(x8_1),(y20),(wrap64 (x10_1 + 1)),(by first | rfl | (simp;done) | (simp [*];done)),H',⟨by have:=HK1.out;omega⟩,⟨by (with_reducible repeat (first | apply Kd.R_alloc | apply Kd.R_drewN | apply Kd.R_drew));exact Kd.R_mono HO_8.out (fun _ hk=>hk.2)⟩,⟨by (with_reducible repeat (first | apply Kd.R_alloc | apply Kd.R_drewN | apply Kd.R_drew));exact HO22.out⟩,⟨by (with_reducible repeat (first | refine blk_drewN ?_ _ | refine blk_drew ?_ | refine blk_alloc ?_ _));exact BK1.out⟩,⟨hb_⟩⟩
       ·rw [if_neg c31] at H
        exact absurd H (by simp)
      ·rw [if_neg c30] at H
       exact absurd H (by simp)
     ·replace c29:=Bool.eq_false_iff.mpr c29
      subst c29
      have H1 : (spec_split.l0 k1 l1 a2 x8_1 x9_1 (wrap64 (x10_1 + 1)) l0_0) = some (r1,r2):=by rw [if_neg (show ¬ (false = true) by decide)] at H;exact H
      clear H
      have H:=H1
      clear H1
      have H':=a0_ H
      clear H
      have hcz37_0 : wr.cell? ⟨gb1,0,none⟩ = some (.slice A0_0 l0_0.length c0_0):=(blk_cell BK1.out 0).trans rfl
      have hfz37_0:=blk_frozen BK1.out 0
      go_wp2_with (first | ((with_reducible refine gate_callee (f:=75) rfl ?_);refine goesL_ (some 23) rfl rfl Try.func75 (by kernel_rfl) rfl #[.agg #[.slice A0_0 l0_0.length c0_0],.slice A1 l1.length c1,.int .i64 x10_1,.int .i64 a2,.bool true] rfl lm_ ?_;(with_reducible refine (spec_keeps.calls k1 _ _ l0_0 _ _ l1 x10_1 a2 true false _ ?side1 ?side2 ?side3 ?side4 A10.out).mono ?_);(case side1=>exact cc_ (Kd.C_below HR0_0.out HB.out));(case side2=>exact HC0_0.out);(case side3=>exact cc_ (Kd.C_below HR1.out HB.out));(case side4=>exact HC1.out);rintro e w38 ⟨rfl,hb⟩;refine ⟨_,rfl,?_⟩;replace HO_8:=rb_ HO_8 hb;replace HO_9:=rb_ HO_9 hb;replace BK1:=kb_ BK1 hb;replace HB:=a0_ (below_step hb_ hb);(try clear hb);have hcz39_0 : w38.cell? ⟨gb1,0,none⟩ = some (.slice A0_0 l0_0.length c0_0):=(blk_cell BK1.out 0).trans rfl;have hfz39_0:=blk_frozen BK1.out 0) | ((with_reducible refine gate_callee (f:=75) rfl ?_);refine goesL_ (some 35) rfl rfl Try.func75 (by kernel_rfl) rfl #[.agg #[.slice A0_0 l0_0.length c0_0],.slice A1 l1.length c1,.int .i64 x10_1,.int .i64 a2,.bool false] rfl lm_ ?_;(with_reducible refine (spec_keeps.calls k1 _ _ l0_0 _ _ l1 x10_1 a2 false false _ ?side1 ?side2 ?side3 ?side4 A28.out).mono ?_);(case side1=>exact cc_ (Kd.C_below HR0_0.out HB.out));(case side2=>exact HC0_0.out);(case side3=>exact cc_ (Kd.C_below HR1.out HB.out));(case side4=>exact HC1.out);rintro e w40 ⟨rfl,hb⟩;refine ⟨_,rfl,?_⟩;replace HO_8:=rb_ HO_8 hb;replace HO_9:=rb_ HO_9 hb;replace BK1:=kb_ BK1 hb;replace HB:=a0_ (below_step hb_ hb);(try clear hb);(try clear hb2);(try clear hk);(try clear hi)))
      go_roundg k1
      case measure=>have:=HK1.out;omega
      case rel=>exact ⟨(x8_1),(x9_1),(wrap64 (x10_1 + 1)),(by first | rfl | (simp;done) | (simp [*];done)),H',⟨by have:=HK1.out;omega⟩,⟨by (with_reducible repeat (first | apply Kd.R_alloc | apply Kd.R_drewN | apply Kd.R_drew));exact HO_8.out⟩,⟨by (with_reducible repeat (first | apply Kd.R_alloc | apply Kd.R_drewN | apply Kd.R_drew));exact HO_9.out⟩,⟨by (with_reducible repeat (first | refine blk_drewN ?_ _ | refine blk_drew ?_ | refine blk_alloc ?_ _));exact BK1.out⟩,⟨hb_⟩⟩
   ·rw [if_neg c9] at H
    have c9b0 : decide (x10_1 < (l1.length : Int)) = false:=decide_eq_false c9
    clear c9
    simp only [Option.some.injEq,Prod.mk.injEq] at H
    obtain ⟨rfl,rfl⟩:=H
    go_wp2
    go_ret2
    exact ⟨_,_,by first | rfl | (simp [errW_none,errW_some] <;> rfl) | (simp [*,errW_none,errW_some] <;> rfl),by (with_reducible repeat (first | apply Kd.R_alloc | apply Kd.R_drewN | apply Kd.R_drew));exact HO_8.out,by (with_reducible repeat (first | apply Kd.R_alloc | apply Kd.R_drewN | apply Kd.R_drew));exact HO_9.out,hb_⟩
theorem spec_split_ev {t : List Cls} (h : vT t = true) (g : List Prt) (hg : lfOk t g) (hl : g.length ≤ 1048576) (a : Int) : Ev (fun k=>spec_split.f k t g a) (selN t g a true g.length,selN t g a false g.length):=by
 have key : ∀ d i,i + d = g.length → Ev (fun k=>spec_split.l0 k g a (selN t g a true i) (selN t g a false i) (i : Int) t) (selN t g a true g.length,selN t g a false g.length):=by
  intro d
  induction d with
  | zero =>
   intro i hi
   obtain rfl : i = g.length:=by omega
   refine Ev.succ ?_
   simp only [spec_split.l0]
   exact Ev.neg (by omega) (Ev.const rfl)
  | succ d ih =>
   intro i hi
   have hlt : i < g.length:=by omega
   have hrd : rd_T47 g (i : Int) = g.getD i z47:=by simp [rd_T47]
   have hn:=ih (i + 1) (by omega)
   rw [selN_succ t g a true i,selN_succ t g a false i] at hn
   have l1:=selN_len t g a true i
   have l2:=selN_len t g a false i
   refine Ev.succ ?_
   simp only [spec_split.l0,hrd]
   rw [wrap_succ (i:=(i : Int)) (n:=g.length) (by omega) (by omega) (by omega)]
   have k1:=spec_keeps_ev h g hg (by omega) i hlt a true
   have k2:=spec_keeps_ev h g hg (by omega) i hlt a false
   refine Ev.pos (by omega) (Ev.bind k1 ?_)
   cases h1 : keepsB t g i a true with
   | true =>
    rw [h1,if_pos rfl] at hn
    refine Ev.pos rfl (Ev.pos (by omega) (Ev.pos (by omega) (Ev.bind (Ev.const rfl) (Ev.bind k2 ?_))))
    cases h2 : keepsB t g i a false with
    | true =>
     rw [h2,if_pos rfl] at hn
     exact Ev.pos rfl (Ev.pos (by omega) hn)
    | false =>
     rw [h2,if_neg (by simp),List.append_nil] at hn
     exact Ev.neg (by simp) hn
   | false =>
    rw [h1,if_neg (by simp),List.append_nil] at hn
    refine Ev.neg (by simp) (Ev.bind k2 ?_)
    cases h2 : keepsB t g i a false with
    | true =>
     rw [h2,if_pos rfl] at hn
     exact Ev.pos rfl (Ev.pos (by omega) (Ev.pos (by omega) hn))
    | false =>
     rw [h2,if_neg (by simp),List.append_nil] at hn
     exact Ev.neg (by simp) hn
 exact key g.length 0 (by omega)
end Go.Proofs.Ytfphcdbnnienhaa.P
namespace Go.Proofs.Ytfphcdbnnienhaa.P
open Go.RowKit Go.Proofs.YtfphcdbnnienhaaW.PrintWords Go.Proofs.YtfphcdbnnienhaaW.PrintLast Go.Proofs.YtfphcdbnnienhaaW.PrintMore
attribute [local go_sem] max2_int min2_int max_two min_two max_three min_three max_four min_four
set_option linter.unusedVariables false
set_option linter.unusedSimpArgs false
def spec_SplitGroup.f (k : Nat) (l0_0 : List (S85)) (l1 : List (S47)) (a2 : Int) : Option ((List (S47)) × (List (S47))):=(spec_validGroup.f l0_0 l1).bind fun t2=>(if t2 = true then ((spec_hasClass.f l0_0 a2).bind fun t3=>(if t3 = true then ((spec_split.f k l0_0 l1 a2).bind fun bt4=>(some (bt4.1,bt4.2))) else (some (([] : List (S47)),([] : List (S47)))))) else (some (([] : List (S47)),([] : List (S47)))))
theorem spec_SplitGroup.mono : ∀ a0 a1 a2 k,LeO (spec_SplitGroup.f k a0 a1 a2) (spec_SplitGroup.f (k + 1) a0 a1 a2):=by
 intro a0 a1 a2 k
 unfold spec_SplitGroup.f
 repeat' first
   | (with_reducible exact spec_split.mono _ _ _ _)
   | (with_reducible exact LeO.refl _)
   | (with_reducible exact LeO.none _)
   | (with_reducible refine LeO.ite ?_ ?_)
   | (with_reducible refine LeO.bind ?_ (fun _=>?_))
   | exact spec_split.mono _ _ _ _
   | exact LeO.none _
   | refine LeO.ite ?_ ?_
   | refine LeO.bind ?_ (fun _=>?_)
set_option maxHeartbeats 8000000 in
set_option maxRecDepth 100000 in
theorem spec_SplitGroup.calls (k : Nat) (A0_0 : Option Addr) (c0_0 : Nat) (l0_0 : List (S85)) (A1 : Option Addr) (c1 : Nat) (l1 : List (S47)) (a2 : Int) (r1 : List (S47)) (r2 : List (S47)) (w : World) (hr0_0 : Kd.C k85 w A0_0 l0_0.length l0_0) (hc0_0 : l0_0.length ≤ c0_0) (hr1 : Kd.C k47 w A1 l1.length l1) (hc1 : l1.length ≤ c1) (h : spec_SplitGroup.f k l0_0 l1 a2 = some (r1,r2)) :
  Calls Try.prog 26 #[.agg #[.slice A0_0 l0_0.length c0_0],.slice A1 l1.length c1,.int .i64 a2] w fun e w'=>∃ v0_ v1_ : Value,e = .returned (.tuple #[v0_,v1_]) ∧ Kd.R k47 47 w' w.heap.size (fun k_=>some k_ ≠ (v1_ : Value).ownBlock) v0_ r1 ∧ Kd.R k47 47 w' w.heap.size (fun k_=>some k_ ≠ (v0_ : Value).ownBlock) v1_ r2 ∧ Below w.heap.size w w':=by
 have hu25:=Try.underlying25
 have HR0_0:=a0_ hr0_0
 have HC0_0:=a0_ hc0_0
 clear hr0_0 hc0_0
 have HR1:=a0_ hr1
 have HC1:=a0_ hc1
 clear hr1 hc1
 have HB:=a0_ (Below.refl w.heap.size w)
 have H : ((spec_validGroup.f l0_0 l1).bind fun t2=>(if t2 = true then ((spec_hasClass.f l0_0 a2).bind fun t3=>(if t3 = true then ((spec_split.f k l0_0 l1 a2).bind fun bt4=>(some (bt4.1,bt4.2))) else (some (([] : List (S47)),([] : List (S47)))))) else (some (([] : List (S47)),([] : List (S47)))))) = some (r1,r2):=h
 clear h
 replace H:=Option.bind_eq_some_iff.mp H
 obtain ⟨t2,A40,H⟩:=H
 try dsimp only at H
 have A4:=a0_ A40
 clear A40
 by_cases c5 : t2 = true
 ·subst c5
  have H1 : ((spec_hasClass.f l0_0 a2).bind fun t3=>(if t3 = true then ((spec_split.f k l0_0 l1 a2).bind fun bt4=>(some (bt4.1,bt4.2))) else (some (([] : List (S47)),([] : List (S47)))))) = some (r1,r2):=by rw [if_pos rfl] at H;exact H
  clear H
  have H:=H1
  clear H1
  replace H:=Option.bind_eq_some_iff.mp H
  obtain ⟨t3,A60,H⟩:=H
  try dsimp only at H
  have A6:=a0_ A60
  clear A60
  by_cases c7 : t3 = true
  ·subst c7
   have H1 : ((spec_split.f k l0_0 l1 a2).bind fun bt4=>(some (bt4.1,bt4.2))) = some (r1,r2):=by rw [if_pos rfl] at H;exact H
   clear H
   have H:=H1
   clear H1
   replace H:=Option.bind_eq_some_iff.mp H
   obtain ⟨⟨t4,t7⟩,A80,H⟩:=H
   replace H : (some (t4,t7)) = some (r1,r2):=H
   have A8:=a0_ A80
   clear A80
   simp only [Option.some.injEq,Prod.mk.injEq] at H
   obtain ⟨rfl,rfl⟩:=H
   go_enter Try.func26,Try.ntmps26
   go_wp2_with (first | ((with_reducible refine gate_dst (N:=3) rfl ?_);refine box_event ?hg (N:=3) ?hd (cs:=#[.slice A0_0 l0_0.length c0_0]) (t:=25) ?hr ?_;(case hd=>rfl);(case hg=>rfl);(case hr=>first | (go_simp;done) | (go_simp;rfl));intro gb1 hg w9 hbox hb;have BK1:=a0_ (hbox);have GW1:=a0_ ((by rw [hg];exact (below_size hb_) : w.heap.size ≤ gb1));have GE1:=a0_ ((by rw [hg];exact (below_size hb_) : w.heap.size ≤ gb1));replace HB:=a0_ (below_step hb_ hb);clear hb hbox hg;have hcz10_0 : w9.cell? ⟨gb1,0,none⟩ = some (.slice A0_0 l0_0.length c0_0):=(blk_cell BK1.out 0).trans rfl;have hfz10_0:=blk_frozen BK1.out 0) | ((with_reducible refine gate_callee (f:=40) rfl ?_);refine goesL_ (some 10) rfl rfl Try.func40 (by kernel_rfl) rfl #[.agg #[.slice A0_0 l0_0.length c0_0],.slice A1 l1.length c1] rfl lm_ ?_;(with_reducible refine (spec_validGroup.calls _ _ l0_0 _ _ l1 true _ ?side1 ?side2 ?side3 ?side4 A4.out).mono ?_);(case side1=>exact cc_ (Kd.C_below HR0_0.out HB.out));(case side2=>exact HC0_0.out);(case side3=>exact cc_ (Kd.C_below HR1.out HB.out));(case side4=>exact HC1.out);rintro e w11 ⟨rfl,hb⟩;refine ⟨_,rfl,?_⟩;replace BK1:=kb_ BK1 hb;replace HB:=a0_ (below_step hb_ hb);(try clear hb);have hcz12_0 : w11.cell? ⟨gb1,0,none⟩ = some (.slice A0_0 l0_0.length c0_0):=(blk_cell BK1.out 0).trans rfl;have hfz12_0:=blk_frozen BK1.out 0) | (go_at_call 48;(with_reducible refine (spec_hasClass.calls _ _ l0_0 a2 true _ ?side1 ?side2 A6.out).mono ?_);(case side1=>exact cc_ (Kd.C_below HR0_0.out HB.out));(case side2=>exact HC0_0.out);rintro e w13 ⟨rfl,hb⟩;replace BK1:=kb_ BK1 hb;replace HB:=a0_ (below_step hb_ hb);(try clear hb);have hcz14_0 : w13.cell? ⟨gb1,0,none⟩ = some (.slice A0_0 l0_0.length c0_0):=(blk_cell BK1.out 0).trans rfl;have hfz14_0:=blk_frozen BK1.out 0) | ((with_reducible refine gate_callee (f:=49) rfl ?_);refine goesL_ (some 21) rfl rfl Try.func49 (by kernel_rfl) rfl #[.agg #[.slice A0_0 l0_0.length c0_0],.slice A1 l1.length c1,.int .i64 a2] rfl lm_ ?_;(with_reducible refine (spec_split.calls k _ _ l0_0 _ _ l1 a2 t4 t7 _ ?side1 ?side2 ?side3 ?side4 A8.out).mono ?_);(case side1=>exact cc_ (Kd.C_below HR0_0.out HB.out));(case side2=>exact HC0_0.out);(case side3=>exact cc_ (Kd.C_below HR1.out HB.out));(case side4=>exact HC1.out);rintro e w15 ⟨v5,v8,rfl,ho0,ho1,hb⟩;refine ⟨_,rfl,?_⟩;have HO6:=a0_ (Kd.R_lower ho0 (below_size hb_));have HO9:=a0_ (Kd.R_lower ho1 (below_size hb_));replace BK1:=kb_ BK1 hb;replace HB:=a0_ (below_step hb_ hb);(try clear hb);(try clear ho0);(try clear ho1)))
   go_ret2
   exact ⟨_,_,by first | rfl | (simp [errW_none,errW_some] <;> rfl) | (simp [*,errW_none,errW_some] <;> rfl),by (with_reducible repeat (first | apply Kd.R_alloc | apply Kd.R_drewN | apply Kd.R_drew));exact HO6.out,by (with_reducible repeat (first | apply Kd.R_alloc | apply Kd.R_drewN | apply Kd.R_drew));exact HO9.out,hb_⟩
  ·replace c7:=Bool.eq_false_iff.mpr c7
   subst c7
   have H1 : (some (([] : List (S47)),([] : List (S47)))) = some (r1,r2):=by rw [if_neg (show ¬ (false = true) by decide)] at H;exact H
   clear H
   have H:=H1
   clear H1
   simp only [Option.some.injEq,Prod.mk.injEq] at H
   obtain ⟨rfl,rfl⟩:=H
   go_enter Try.func26,Try.ntmps26
   go_wp2_with (first | ((with_reducible refine gate_dst (N:=3) rfl ?_);refine box_event ?hg (N:=3) ?hd (cs:=#[.slice A0_0 l0_0.length c0_0]) (t:=25) ?hr ?_;(case hd=>rfl);(case hg=>rfl);(case hr=>first | (go_simp;done) | (go_simp;rfl));intro gb1 hg w16 hbox hb;have BK1:=a0_ (hbox);have GW1:=a0_ ((by rw [hg];exact (below_size hb_) : w.heap.size ≤ gb1));have GE1:=a0_ ((by rw [hg];exact (below_size hb_) : w.heap.size ≤ gb1));replace HB:=a0_ (below_step hb_ hb);clear hb hbox hg;have hcz17_0 : w16.cell? ⟨gb1,0,none⟩ = some (.slice A0_0 l0_0.length c0_0):=(blk_cell BK1.out 0).trans rfl;have hfz17_0:=blk_frozen BK1.out 0) | ((with_reducible refine gate_callee (f:=40) rfl ?_);refine goesL_ (some 10) rfl rfl Try.func40 (by kernel_rfl) rfl #[.agg #[.slice A0_0 l0_0.length c0_0],.slice A1 l1.length c1] rfl lm_ ?_;(with_reducible refine (spec_validGroup.calls _ _ l0_0 _ _ l1 true _ ?side1 ?side2 ?side3 ?side4 A4.out).mono ?_);(case side1=>exact cc_ (Kd.C_below HR0_0.out HB.out));(case side2=>exact HC0_0.out);(case side3=>exact cc_ (Kd.C_below HR1.out HB.out));(case side4=>exact HC1.out);rintro e w18 ⟨rfl,hb⟩;refine ⟨_,rfl,?_⟩;replace BK1:=kb_ BK1 hb;replace HB:=a0_ (below_step hb_ hb);(try clear hb);have hcz19_0 : w18.cell? ⟨gb1,0,none⟩ = some (.slice A0_0 l0_0.length c0_0):=(blk_cell BK1.out 0).trans rfl;have hfz19_0:=blk_frozen BK1.out 0) | (go_at_call 48;(with_reducible refine (spec_hasClass.calls _ _ l0_0 a2 false _ ?side1 ?side2 A6.out).mono ?_);(case side1=>exact cc_ (Kd.C_below HR0_0.out HB.out));(case side2=>exact HC0_0.out);rintro e w20 ⟨rfl,hb⟩;replace BK1:=kb_ BK1 hb;replace HB:=a0_ (below_step hb_ hb);(try clear hb);(try clear hb2);(try clear hk);(try clear hi)))
   go_ret2
   exact ⟨_,_,by first | rfl | (simp [errW_none,errW_some] <;> rfl) | (simp [*,errW_none,errW_some] <;> rfl),by first | exact Kd.R_nil _ _ _ _ _ | exact Kd.N_nil _ _ _ _ _ | exact Kd.V_nil _ _ _ _ _ | exact Kd.Q_nil _ _ _ _ _ | exact Kd.S_nil _ _ _ _ _,by first | exact Kd.R_nil _ _ _ _ _ | exact Kd.N_nil _ _ _ _ _ | exact Kd.V_nil _ _ _ _ _ | exact Kd.Q_nil _ _ _ _ _ | exact Kd.S_nil _ _ _ _ _,hb_⟩
 ·replace c5:=Bool.eq_false_iff.mpr c5
  subst c5
  have H1 : (some (([] : List (S47)),([] : List (S47)))) = some (r1,r2):=by rw [if_neg (show ¬ (false = true) by decide)] at H;exact H
  clear H
  have H:=H1
  clear H1
  simp only [Option.some.injEq,Prod.mk.injEq] at H
  obtain ⟨rfl,rfl⟩:=H
  go_enter Try.func26,Try.ntmps26
  go_wp2_with (first | ((with_reducible refine gate_dst (N:=3) rfl ?_);refine box_event ?hg (N:=3) ?hd (cs:=#[.slice A0_0 l0_0.length c0_0]) (t:=25) ?hr ?_;(case hd=>rfl);(case hg=>rfl);(case hr=>first | (go_simp;done) | (go_simp;rfl));intro gb1 hg w21 hbox hb;have BK1:=a0_ (hbox);have GW1:=a0_ ((by rw [hg];exact (below_size hb_) : w.heap.size ≤ gb1));have GE1:=a0_ ((by rw [hg];exact (below_size hb_) : w.heap.size ≤ gb1));replace HB:=a0_ (below_step hb_ hb);clear hb hbox hg;have hcz22_0 : w21.cell? ⟨gb1,0,none⟩ = some (.slice A0_0 l0_0.length c0_0):=(blk_cell BK1.out 0).trans rfl;have hfz22_0:=blk_frozen BK1.out 0) | ((with_reducible refine gate_callee (f:=40) rfl ?_);refine goesL_ (some 10) rfl rfl Try.func40 (by kernel_rfl) rfl #[.agg #[.slice A0_0 l0_0.length c0_0],.slice A1 l1.length c1] rfl lm_ ?_;(with_reducible refine (spec_validGroup.calls _ _ l0_0 _ _ l1 false _ ?side1 ?side2 ?side3 ?side4 A4.out).mono ?_);(case side1=>exact cc_ (Kd.C_below HR0_0.out HB.out));(case side2=>exact HC0_0.out);(case side3=>exact cc_ (Kd.C_below HR1.out HB.out));(case side4=>exact HC1.out);rintro e w23 ⟨rfl,hb⟩;refine ⟨_,rfl,?_⟩;replace BK1:=kb_ BK1 hb;replace HB:=a0_ (below_step hb_ hb);(try clear hb);(try clear hb2);(try clear hk);(try clear hi)))
  go_ret2
  exact ⟨_,_,by first | rfl | (simp [errW_none,errW_some] <;> rfl) | (simp [*,errW_none,errW_some] <;> rfl),by first | exact Kd.R_nil _ _ _ _ _ | exact Kd.N_nil _ _ _ _ _ | exact Kd.V_nil _ _ _ _ _ | exact Kd.Q_nil _ _ _ _ _ | exact Kd.S_nil _ _ _ _ _,by first | exact Kd.R_nil _ _ _ _ _ | exact Kd.N_nil _ _ _ _ _ | exact Kd.V_nil _ _ _ _ _ | exact Kd.Q_nil _ _ _ _ _ | exact Kd.S_nil _ _ _ _ _,hb_⟩
theorem spec_SplitGroup_ev (t : List Cls) (g : List Prt) (a : Int) (hs : smT t = true) (ht : t.length ≤ 9223372036854775807) (hl : g.length ≤ 1048576) : Ev (fun k=>spec_SplitGroup.f k t g a) (if (vG t g && hasC t a) = true then (selN t g a true g.length,selN t g a false g.length) else ([],[])):=by
 refine Ev.bind (Ev.const (show spec_validGroup.f t g = some (vG t g) by rw [spec_validGroup.f,if_pos hs])) ?_
 cases hv : vG t g with
 | false=>exact Ev.neg (by simp) (Ev.const (by simp))
 | true =>
  refine Ev.pos rfl (Ev.bind (Ev.const (spec_hasClass_ev t a ht)) ?_)
  cases hasC t a with
  | false=>exact Ev.neg (by simp) (Ev.const (by simp))
  | true =>
   obtain ⟨h1,h2,h3⟩:=vG_tree hv
   exact Ev.pos rfl (Ev.bind (spec_split_ev h1 g (fun p hp h=>(vG_leaf hv p hp h).2) (by omega) a) (Ev.const (by simp)))
end Go.Proofs.Ytfphcdbnnienhaa.P
