/- Texts under the proof of FnExactValidProgram: helper words, the functions' contracts and the plain laws. No condition. -/
import Derived.Test.YtacgehaipacehaaQFnExactValidPrograma
import Derived.Test.YtacgehaipacehaaQFnExactValidProgramc
namespace Go.Proofs.Ytacgehaipacehaa.P
open Go.RowKit Go.Proofs.YtacgehaipacehaaW.PrintWords Go.Proofs.YtacgehaipacehaaW.PrintLast Go.Proofs.YtacgehaipacehaaW.PrintMore
attribute [local go_sem] max2_int min2_int max_two min_two max_three min_three max_four min_four
set_option linter.unusedVariables false
set_option linter.unusedSimpArgs false
def spec_validProgram.l0 : Nat → List (S75) → Int → List (S125) → Option (Bool)
 | 0,_,_,_=>none
 | k + 1,x1,x5,x2000=>if x5 < (x1.length : Int) then ((spec_validLine.f k x2000 x1 x5).bind fun t2=>(if t2 = true then (spec_validProgram.l0 k x1 (wrap64 (x5 + 1)) x2000) else (some false))) else ((spec_validTree.f x2000).bind fun t3=>(if t3 = true then (some (decide ((x1.length : Int) ≤ 24))) else (some false)))
def spec_validProgram.f (k : Nat) (l0_0 : List (S125)) (l1 : List (S75)) : Option (Bool):=spec_validProgram.l0 k l1 0 l0_0
theorem spec_validProgram.mono_l : ∀ k,(∀ y0 y1 y2,LeO (spec_validProgram.l0 k y0 y1 y2) (spec_validProgram.l0 (k + 1) y0 y1 y2))
 | 0=>fun _ _ _ r h=>by simp [spec_validProgram.l0] at h
 | k + 1=>by
  have ih0:=spec_validProgram.mono_l k
  ·intro y0 y1 y2
   unfold spec_validProgram.l0
   repeat' first
   | (with_reducible exact ih0 _ _ _)
   | (with_reducible exact spec_validLine.mono _ _ _ _)
   | (with_reducible exact LeO.refl _)
   | (with_reducible exact LeO.none _)
   | (with_reducible refine LeO.ite ?_ ?_)
   | (with_reducible refine LeO.bind ?_ (fun _=>?_))
   | exact ih0 _ _ _
   | exact spec_validLine.mono _ _ _ _
   | exact LeO.none _
   | refine LeO.ite ?_ ?_
   | refine LeO.bind ?_ (fun _=>?_)
theorem spec_validProgram.mono : ∀ a0 a1 k,LeO (spec_validProgram.f k a0 a1) (spec_validProgram.f (k + 1) a0 a1):=by
 intro a0 a1 k
 have ih0:=spec_validProgram.mono_l k
 unfold spec_validProgram.f
 repeat' first
   | (with_reducible exact ih0 _ _ _)
   | (with_reducible exact spec_validLine.mono _ _ _ _)
   | (with_reducible exact LeO.refl _)
   | (with_reducible exact LeO.none _)
   | (with_reducible refine LeO.ite ?_ ?_)
   | (with_reducible refine LeO.bind ?_ (fun _=>?_))
   | exact ih0 _ _ _
   | exact spec_validLine.mono _ _ _ _
   | exact LeO.none _
   | refine LeO.ite ?_ ?_
   | refine LeO.bind ?_ (fun _=>?_)
set_option maxHeartbeats 8000000 in
set_option maxRecDepth 100000 in
theorem spec_validProgram.calls (k : Nat) (A0_0 : Option Addr) (c0_0 : Nat) (l0_0 : List (S125)) (A1 : Option Addr) (c1 : Nat) (l1 : List (S75)) (r : Bool) (w : World) (hr0_0 : Kd.C k125 w A0_0 l0_0.length l0_0) (hc0_0 : l0_0.length ≤ c0_0) (hr1 : Kd.C k75 w A1 l1.length l1) (hc1 : l1.length ≤ c1) (h : spec_validProgram.f k l0_0 l1 = some r) :
  Calls Try.prog 96 #[.agg #[.slice A0_0 l0_0.length c0_0],.slice A1 l1.length c1] w fun e w'=>e = .returned (.bool r) ∧ Below w.heap.size w w':=by
 have hu25:=Try.underlying25
 have HR0_0:=a0_ hr0_0
 have HC0_0:=a0_ hc0_0
 clear hr0_0 hc0_0
 have HR1:=a0_ hr1
 have HC1:=a0_ hc1
 clear hr1 hc1
 have HB:=a0_ (Below.refl w.heap.size w)
 have H : (spec_validProgram.l0 k l1 0 l0_0) = some r:=h
 clear h
 have H':=a0_ H
 clear H
 go_enter Try.func96,Try.ntmps96
 go_wp2_with (first | ((with_reducible refine gate_dst (N:=2) rfl ?_);(try (refine gate_guard (by rfl) ?_;dsimp only));refine box_event ?hg (N:=2) ?hd (cs:=#[.slice A0_0 l0_0.length c0_0]) (t:=25) ?hr ?_;(case hd=>rfl);(case hg=>rfl);(case hr=>first | (go_simp;done) | (go_simp;rfl));intro gb1 hg w3 hbox hb;have BK1:=a0_ (hbox);have GW1:=a0_ ((by rw [hg];exact (below_size hbw_) : w.heap.size ≤ gb1));have GE1:=a0_ ((by rw [hg];exact (below_size hbw_) : w.heap.size ≤ gb1));replace HB:=a0_ (below_step hbw_ hb);clear hb hbox hg))
 go_loopg [5] k (fun kq v5 w'=>∃ (x5_1 : Int),v5 = .int .i64 x5_1 ∧ Aside0 (spec_validProgram.l0 kq l1 x5_1 l0_0 = some r) ∧ Aside0 (kq ≤ k) ∧ Aside0 (w'.heap[gb1]? = some (.cells #[(.slice A0_0 l0_0.length c0_0)] 25 (0,0))) ∧ Aside0 (Below w.heap.size w w'))
 case atStart=>exact ⟨(0),(by first | rfl | (simp;done) | (simp [*];done)),H',⟨Nat.le_refl _⟩,⟨by (with_reducible repeat (first | refine blk_drewN ?_ _ | refine blk_drew ?_ | refine blk_alloc ?_ _));exact BK1.out⟩,⟨hbw_⟩⟩
 case round =>
  clear H'
  try clear c1
  try clear p2
  obtain ⟨x5_1,rfl,HA,HK1,BK1,HB⟩:=hrel
  cases gk with
  | zero=>exact absurd HA.out (by simp [spec_validProgram.l0])
  | succ k1 =>
   have H:=HA.out
   clear HA
   simp only [spec_validProgram.l0] at H
   by_cases c4 : x5_1 < (l1.length : Int)
   ·rw [if_pos c4] at H
    have c4b0 : decide (x5_1 < (l1.length : Int)) = true:=decide_eq_true c4
    clear c4
    replace H:=Option.bind_eq_some_iff.mp H
    obtain ⟨t2,A50,H⟩:=H
    try dsimp only at H
    have A5:=a0_ A50
    clear A50
    by_cases c6 : t2 = true
    ·subst c6
     have H1 : (spec_validProgram.l0 k1 l1 (wrap64 (x5_1 + 1)) l0_0) = some r:=by rw [if_pos rfl] at H;exact H
     clear H
     have H:=H1
     clear H1
     have H':=a0_ H
     clear H
     have hcz7_0 : wr.cell? ⟨gb1,0,none⟩ = some (.slice A0_0 l0_0.length c0_0):=(blk_cell BK1.out 0).trans rfl
     have hfz7_0:=blk_frozen BK1.out 0
     go_wp2_with (first | ((with_reducible refine gate_callee (f:=139) rfl ?_);refine goesL_ (some 15) rfl rfl Try.func139 (by kernel_rfl) rfl #[.agg #[.slice A0_0 l0_0.length c0_0],.slice A1 l1.length c1,.int .i64 x5_1] rfl lm_ ?_;(with_reducible refine (spec_validLine.calls k1 _ _ l0_0 _ _ l1 x5_1 true _ ?side1 ?side2 ?side3 ?side4 A5.out).mono ?_);(case side1=>exact cc_ (Kd.C_below HR0_0.out HB.out));(case side2=>exact HC0_0.out);(case side3=>exact cc_ (Kd.C_below HR1.out HB.out));(case side4=>exact HC1.out);rintro e w8 ⟨rfl,hb⟩;refine ⟨_,rfl,?_⟩;replace BK1:=kb_ BK1 hb;replace HB:=a0_ (below_step hbw_ hb);(try clear hb);(try clear hb2);(try clear hk);(try clear hi)))
     go_roundg k1
     case measure=>have:=HK1.out;omega
     case rel=>exact ⟨(wrap64 (x5_1 + 1)),(by first | rfl | (simp;done) | (simp [*];done)),H',⟨by have:=HK1.out;omega⟩,⟨by (with_reducible repeat (first | refine blk_drewN ?_ _ | refine blk_drew ?_ | refine blk_alloc ?_ _));exact BK1.out⟩,⟨hbw_⟩⟩
    ·replace c6:=Bool.eq_false_iff.mpr c6
     subst c6
     have H1 : (some false) = some r:=by rw [if_neg (show ¬ (false = true) by decide)] at H;exact H
     clear H
     have H:=H1
     clear H1
     obtain rfl:=Option.some.inj H
     have hcz9_0 : wr.cell? ⟨gb1,0,none⟩ = some (.slice A0_0 l0_0.length c0_0):=(blk_cell BK1.out 0).trans rfl
     have hfz9_0:=blk_frozen BK1.out 0
     go_wp2_with (first | ((with_reducible refine gate_callee (f:=139) rfl ?_);refine goesL_ (some 15) rfl rfl Try.func139 (by kernel_rfl) rfl #[.agg #[.slice A0_0 l0_0.length c0_0],.slice A1 l1.length c1,.int .i64 x5_1] rfl lm_ ?_;(with_reducible refine (spec_validLine.calls k1 _ _ l0_0 _ _ l1 x5_1 false _ ?side1 ?side2 ?side3 ?side4 A5.out).mono ?_);(case side1=>exact cc_ (Kd.C_below HR0_0.out HB.out));(case side2=>exact HC0_0.out);(case side3=>exact cc_ (Kd.C_below HR1.out HB.out));(case side4=>exact HC1.out);rintro e w10 ⟨rfl,hb⟩;refine ⟨_,rfl,?_⟩;replace BK1:=kb_ BK1 hb;replace HB:=a0_ (below_step hbw_ hb);(try clear hb);(try clear hb2);(try clear hk);(try clear hi)))
     go_ret
     exact ⟨by first | rfl | (simp [errW_none,errW_some] <;> rfl) | (simp [*,errW_none,errW_some] <;> rfl),hbw_⟩
   ·rw [if_neg c4] at H
    have c4b0 : decide (x5_1 < (l1.length : Int)) = false:=decide_eq_false c4
    clear c4
    replace H:=Option.bind_eq_some_iff.mp H
    obtain ⟨t3,A110,H⟩:=H
    try dsimp only at H
    have A11:=a0_ A110
    clear A110
    by_cases c12 : t3 = true
    ·subst c12
     have H1 : (some (decide ((l1.length : Int) ≤ 24))) = some r:=by rw [if_pos rfl] at H;exact H
     clear H
     have H:=H1
     clear H1
     obtain rfl:=Option.some.inj H
     have hcz13_0 : wr.cell? ⟨gb1,0,none⟩ = some (.slice A0_0 l0_0.length c0_0):=(blk_cell BK1.out 0).trans rfl
     have hfz13_0:=blk_frozen BK1.out 0
     go_wp2_with (first | ((with_reducible refine gate_callee (f:=107) rfl ?_);refine goesL_ (some 18) rfl rfl Try.func107 (by kernel_rfl) rfl #[.agg #[.slice A0_0 l0_0.length c0_0]] rfl lm_ ?_;(with_reducible refine (spec_validTree.calls _ _ l0_0 true _ ?side1 ?side2 A11.out).mono ?_);(case side1=>exact cc_ (Kd.C_below HR0_0.out HB.out));(case side2=>exact HC0_0.out);rintro e w14 ⟨rfl,hb⟩;refine ⟨_,rfl,?_⟩;replace BK1:=kb_ BK1 hb;replace HB:=a0_ (below_step hbw_ hb);(try clear hb);(try clear hb2);(try clear hk);(try clear hi)))
     go_ret
     exact ⟨by first | rfl | (simp [errW_none,errW_some] <;> rfl) | (simp [*,errW_none,errW_some] <;> rfl),hbw_⟩
    ·replace c12:=Bool.eq_false_iff.mpr c12
     subst c12
     have H1 : (some false) = some r:=by rw [if_neg (show ¬ (false = true) by decide)] at H;exact H
     clear H
     have H:=H1
     clear H1
     obtain rfl:=Option.some.inj H
     have hcz15_0 : wr.cell? ⟨gb1,0,none⟩ = some (.slice A0_0 l0_0.length c0_0):=(blk_cell BK1.out 0).trans rfl
     have hfz15_0:=blk_frozen BK1.out 0
     go_wp2_with (first | ((with_reducible refine gate_callee (f:=107) rfl ?_);refine goesL_ (some 18) rfl rfl Try.func107 (by kernel_rfl) rfl #[.agg #[.slice A0_0 l0_0.length c0_0]] rfl lm_ ?_;(with_reducible refine (spec_validTree.calls _ _ l0_0 false _ ?side1 ?side2 A11.out).mono ?_);(case side1=>exact cc_ (Kd.C_below HR0_0.out HB.out));(case side2=>exact HC0_0.out);rintro e w16 ⟨rfl,hb⟩;refine ⟨_,rfl,?_⟩;replace BK1:=kb_ BK1 hb;replace HB:=a0_ (below_step hbw_ hb);(try clear hb);(try clear hb2);(try clear hk);(try clear hi)))
     go_ret
     exact ⟨by first | rfl | (simp [errW_none,errW_some] <;> rfl) | (simp [*,errW_none,errW_some] <;> rfl),hbw_⟩
end Go.Proofs.Ytacgehaipacehaa.P
namespace Go.Proofs.Ytacgehaipacehaa.P
open Go.RowKit Go.Proofs.YtacgehaipacehaaW.PrintWords Go.Proofs.YtacgehaipacehaaW.PrintLast Go.Proofs.YtacgehaipacehaaW.PrintMore
attribute [local go_sem] max2_int min2_int max_two min_two max_three min_three max_four min_four
set_option linter.unusedVariables false
set_option linter.unusedSimpArgs false
def spec_ValidProgram.f (k : Nat) (l0_0 : List (S125)) (l1 : List (S75)) : Option (Bool):=(spec_validProgram.f k l0_0 l1).bind fun t2=>(some t2)
theorem spec_ValidProgram.mono : ∀ a0 a1 k,LeO (spec_ValidProgram.f k a0 a1) (spec_ValidProgram.f (k + 1) a0 a1):=by
 intro a0 a1 k
 unfold spec_ValidProgram.f
 repeat' first
   | (with_reducible exact spec_validProgram.mono _ _ _)
   | (with_reducible exact LeO.refl _)
   | (with_reducible exact LeO.none _)
   | (with_reducible refine LeO.ite ?_ ?_)
   | (with_reducible refine LeO.bind ?_ (fun _=>?_))
   | exact spec_validProgram.mono _ _ _
   | exact LeO.none _
   | refine LeO.ite ?_ ?_
   | refine LeO.bind ?_ (fun _=>?_)
set_option maxHeartbeats 8000000 in
set_option maxRecDepth 100000 in
theorem spec_ValidProgram.calls (k : Nat) (A0_0 : Option Addr) (c0_0 : Nat) (l0_0 : List (S125)) (A1 : Option Addr) (c1 : Nat) (l1 : List (S75)) (r : Bool) (w : World) (hr0_0 : Kd.C k125 w A0_0 l0_0.length l0_0) (hc0_0 : l0_0.length ≤ c0_0) (hr1 : Kd.C k75 w A1 l1.length l1) (hc1 : l1.length ≤ c1) (h : spec_ValidProgram.f k l0_0 l1 = some r) :
  Calls Try.prog 43 #[.agg #[.slice A0_0 l0_0.length c0_0],.slice A1 l1.length c1] w fun e w'=>e = .returned (.bool r) ∧ Below w.heap.size w w':=by
 have hu25:=Try.underlying25
 have HR0_0:=a0_ hr0_0
 have HC0_0:=a0_ hc0_0
 clear hr0_0 hc0_0
 have HR1:=a0_ hr1
 have HC1:=a0_ hc1
 clear hr1 hc1
 have HB:=a0_ (Below.refl w.heap.size w)
 have H : ((spec_validProgram.f k l0_0 l1).bind fun t2=>(some t2)) = some r:=h
 clear h
 replace H:=Option.bind_eq_some_iff.mp H
 obtain ⟨t2,A30,H⟩:=H
 replace H : (some t2) = some r:=H
 have A3:=a0_ A30
 clear A30
 obtain rfl:=Option.some.inj H
 go_enter Try.func43,Try.ntmps43
 go_wp2_with (first | ((with_reducible refine gate_dst (N:=2) rfl ?_);refine box_event ?hg (N:=2) ?hd (cs:=#[.slice A0_0 l0_0.length c0_0]) (t:=25) ?hr ?_;(case hd=>rfl);(case hg=>rfl);(case hr=>first | (go_simp;done) | (go_simp;rfl));intro gb1 hg w4 hbox hb;have BK1:=a0_ (hbox);have GW1:=a0_ ((by rw [hg];exact (below_size hbw_) : w.heap.size ≤ gb1));have GE1:=a0_ ((by rw [hg];exact (below_size hbw_) : w.heap.size ≤ gb1));replace HB:=a0_ (below_step hbw_ hb);clear hb hbox hg;have hcz5_0 : w4.cell? ⟨gb1,0,none⟩ = some (.slice A0_0 l0_0.length c0_0):=(blk_cell BK1.out 0).trans rfl;have hfz5_0:=blk_frozen BK1.out 0) | ((with_reducible refine gate_callee (f:=96) rfl ?_);refine goesL_ (some 7) rfl rfl Try.func96 (by kernel_rfl) rfl #[.agg #[.slice A0_0 l0_0.length c0_0],.slice A1 l1.length c1] rfl lm_ ?_;(with_reducible refine (spec_validProgram.calls k _ _ l0_0 _ _ l1 t2 _ ?side1 ?side2 ?side3 ?side4 A3.out).mono ?_);(case side1=>exact cc_ (Kd.C_below HR0_0.out HB.out));(case side2=>exact HC0_0.out);(case side3=>exact cc_ (Kd.C_below HR1.out HB.out));(case side4=>exact HC1.out);rintro e w6 ⟨rfl,hb⟩;refine ⟨_,rfl,?_⟩;replace BK1:=kb_ BK1 hb;replace HB:=a0_ (below_step hbw_ hb);(try clear hb);(try clear hb2);(try clear hk);(try clear hi)))
 go_ret
 exact ⟨by first | rfl | (simp [errW_none,errW_some] <;> rfl) | (simp [*,errW_none,errW_some] <;> rfl),hbw_⟩
theorem spec_ValidProgram_ev (t : List Cls) (l : List S75) (hs : smT t = true) (ht : t.length ≤ 9223372036854775807) (hl : l.length ≤ 1099511627776) : ∃ b,Ev (fun k=>spec_ValidProgram.f k t l) b ∧ (b = true ↔ vP t l):=by
 have hl0 : Aside0 (l.length ≤ 1099511627776):=⟨hl⟩
 clear hl
 have hv : spec_validTree.f t = some (vT t):=by rw [spec_validTree.f,if_pos hs]
 have key : ∀ d i,i + d = l.length → (∀ j,j < i → lnA t l j) → ∃ b,Ev (fun k=>spec_validProgram.l0 k l (i : Int) t) b ∧ (b = true ↔ (∀ j,i ≤ j → j < l.length → lnS t l j) ∧ vT t = true ∧ l.length ≤ 24):=by
  intro d
  induction d with
  | zero =>
   intro i hi hA
   have e1 : ∀ j,i ≤ j → j < l.length → lnS t l j:=fun j h1 h2=>by omega
   cases hvt : vT t with
   | true =>
    rw [hvt] at hv
    refine ⟨decide ((l.length : Int) ≤ 24),Ev.succ ?_,?_⟩
    ·simp only [spec_validProgram.l0]
     exact Ev.neg (by omega) (Ev.bind (Ev.const hv) (Ev.pos rfl (Ev.const rfl)))
    ·rw [decide_eq_true_iff]
     exact ⟨fun h=>⟨e1,rfl,by omega⟩,fun h=>by have:=h.2.2;omega⟩
   | false =>
    rw [hvt] at hv
    refine ⟨false,Ev.succ ?_,by simp⟩
    simp only [spec_validProgram.l0]
    exact Ev.neg (by omega) (Ev.bind (Ev.const hv) (Ev.neg (by simp) (Ev.const rfl)))
  | succ d ih =>
   intro i hi hA
   have hlt : i < l.length:=by omega
   have hw : Aside0 (wrap64 ((i : Int) + 1) = ((i + 1 : Nat) : Int)):=⟨wrap_natS hlt hl0.out⟩
   obtain ⟨b,hb,hbi⟩:=spec_validLine_ev ht hl0 hlt hA
   cases b with
   | true =>
    have hn:=hbi.1 rfl
    obtain ⟨b2,hb2,hb2i⟩:=ih (i + 1) (by omega) (fun j hj=>by
     by_cases e : j = i
     ·rw [e];exact hn.1
     ·exact hA j (by omega))
    refine ⟨b2,Ev.succ ?_,hb2i.trans ⟨fun h=>⟨fun j hj hj2=>?_,h.2⟩,fun h=>⟨fun j hj hj2=>h.1 j (by omega) hj2,h.2⟩⟩⟩
    ·simp only [spec_validProgram.l0,hw.out]
     exact Ev.pos (by omega) (Ev.bind hb (Ev.pos rfl hb2))
    ·by_cases e : j = i
     ·rw [e];exact hn
     ·exact h.1 j (by omega) hj2
   | false =>
    refine ⟨false,Ev.succ ?_,fun h=>by simp at h,fun h=>hbi.2 (h.1 i (Nat.le_refl _) hlt)⟩
    simp only [spec_validProgram.l0]
    exact Ev.pos (by omega) (Ev.bind hb (Ev.neg (by simp) (Ev.const rfl)))
 obtain ⟨b,hb,hbi⟩:=key l.length 0 (by omega) (fun j hj=>by omega)
 refine ⟨b,?_,hbi.trans ⟨fun h=>?_,fun h=>?_⟩⟩
 ·unfold spec_ValidProgram.f
  refine Ev.bind (x:=b) ?_ (Ev.const rfl)
  unfold spec_validProgram.f
  exact hb
 ·refine ⟨h.2.1,h.2.2,fun j hj=>(h.1 j (Nat.zero_le _) hj).1,fun hp hk=>?_,fun j hj=>(h.1 j (Nat.zero_le _) hj).2.2⟩
  have hlast:=(h.1 (l.length - 1) (Nat.zero_le _) (by omega)).2.1 (by omega)
  obtain ⟨n,hn⟩ : ∃ n,l.length = n + 1:=⟨l.length - 1,by omega⟩
  rw [hn,pk] at hk
  rw [hn,Nat.add_sub_cancel] at hlast
  exact hlast hk
 ·refine ⟨fun j _ hj=>⟨h.2.2.1 j hj,fun e hk=>?_,h.2.2.2.2 j hj⟩,h.1,h.2.1⟩
  have:=h.2.2.2.1 (by omega)
  rw [← e,pk] at this
  exact this hk
end Go.Proofs.Ytacgehaipacehaa.P
namespace Go.Proofs.Ytacgehaipacehaa.P
open Go.RowKit Go.Proofs.YtacgehaipacehaaW.PrintWords Go.Proofs.YtacgehaipacehaaW.PrintLast Go.Proofs.YtacgehaipacehaaW.PrintMore
attribute [local go_sem] max2_int min2_int max_two min_two max_three min_three max_four min_four
set_option linter.unusedVariables false
set_option linter.unusedSimpArgs false
def toLine (x : S129) : S75:=⟨x.f0,x.f1,x.f2,x.f3⟩
end Go.Proofs.Ytacgehaipacehaa.P
namespace Go.Proofs.Ytacgehaipacehaa.P
open Go.RowKit Go.Proofs.YtacgehaipacehaaW.PrintWords Go.Proofs.YtacgehaipacehaaW.PrintLast Go.Proofs.YtacgehaipacehaaW.PrintMore
attribute [local go_sem] max2_int min2_int max_two min_two max_three min_three max_four min_four
set_option linter.unusedVariables false
set_option linter.unusedSimpArgs false
def laws_toLine.f (a0_0 : Int) (a0_1 : Int) (a0_2 : Int) (a0_3 : Int) : Option (Int × Int × Int × Int):=some (a0_0,a0_1,a0_2,a0_3)
set_option maxHeartbeats 8000000 in
set_option maxRecDepth 100000 in
theorem laws_toLine.calls (a0_0 : Int) (a0_1 : Int) (a0_2 : Int) (a0_3 : Int) (r1 : Int) (r2 : Int) (r3 : Int) (r4 : Int) (w : World) (h : laws_toLine.f a0_0 a0_1 a0_2 a0_3 = some (r1,r2,r3,r4)) :
  Calls Try.prog 97 #[.agg #[.int .i64 a0_0,.int .i64 a0_1,.int .i64 a0_2,.int .i64 a0_3]] w fun e w'=>e = .returned (.agg #[.int .i64 r1,.int .i64 r2,.int .i64 r3,.int .i64 r4]) ∧ Below w.heap.size w w':=by
 have hu129:=Try.underlying129
 have hu75:=Try.underlying75
 have HB:=a0_ (Below.refl w.heap.size w)
 have H : (some (a0_0,a0_1,a0_2,a0_3)) = some (r1,r2,r3,r4):=h
 clear h
 simp only [Option.some.injEq,Prod.mk.injEq] at H
 obtain ⟨rfl,rfl,rfl,rfl⟩:=H
 go_enter Try.func97,Try.ntmps97
 go_wp2_with (first | ((with_reducible refine gate_dst (N:=1) rfl ?_);refine box_event ?hg (N:=1) ?hd (cs:=#[.int .i64 a0_0,.int .i64 a0_1,.int .i64 a0_2,.int .i64 a0_3]) (t:=129) ?hr ?_;(case hd=>rfl);(case hg=>rfl);(case hr=>first | (go_simp;done) | (go_simp;rfl));intro gb1 hg w2 hbox hb;have BK1:=a0_ (hbox);have GW1:=a0_ ((by rw [hg];exact (below_size hbw_) : w.heap.size ≤ gb1));have GE1:=a0_ ((by rw [hg];exact (below_size hbw_) : w.heap.size ≤ gb1));replace HB:=a0_ (below_step hbw_ hb);clear hb hbox hg) | ((with_reducible refine gate_dst (N:=2) rfl ?_);refine box_event ?hg (N:=2) ?hd (cs:=#[.int .i64 0,.int .i64 0,.int .i64 0,.int .i64 0]) (t:=75) ?hr ?_;(case hd=>rfl);(case hg=>rfl);(case hr=>first | (go_simp;done) | (go_simp;rfl));intro gb2 hg w3 hbox hb;have n0_:=kb_ BK1 hb;have n1_:=a0_ (below_step hbw_ hb);have n2_:=a0_ (hbox);have n3_:=a0_ ((by rw [hg];exact (below_size hbw_) : w.heap.size ≤ gb2));have n4_:=a0_ ((by rw [hg];exact (below_size hbw_) : w.heap.size ≤ gb2));have n5_:=a0_ ((by rw [hg];exact Nat.ne_of_lt (blk_lt (bb_ BK1.out)) : gb1 ≠ gb2));have n6_:=a0_ ((by rw [hg];exact Nat.ne_of_gt (blk_lt (bb_ BK1.out)) : gb2 ≠ gb1));clear BK1 HB;have BK1:=n0_;have HB:=n1_;have BK2:=n2_;have GW2:=n3_;have GE2:=n4_;have NB1_2:=n5_;have NB2_1:=n6_;clear n0_ n1_ n2_ n3_ n4_ n5_ n6_;clear hb hbox hg) | ((with_reducible refine gate_dst (N:=3) rfl ?_);refine box_event ?hg (N:=3) ?hd (cs:=#[.int .i64 0,.int .i64 0,.int .i64 0,.int .i64 0]) (t:=75) ?hr ?_;(case hd=>rfl);(case hg=>rfl);(case hr=>first | (go_simp;done) | (go_simp;rfl));intro gb3 hg w4 hbox hb;have n0_:=kb_ BK1 hb;have n1_:=kb_ BK2 hb;have n2_:=a0_ (below_step hbw_ hb);have n3_:=a0_ (hbox);have n4_:=a0_ ((by rw [hg];exact (below_size hbw_) : w.heap.size ≤ gb3));have n5_:=a0_ ((by rw [hg];exact (below_size hbw_) : w.heap.size ≤ gb3));have n6_:=a0_ ((by rw [hg];exact Nat.ne_of_lt (blk_lt (bb_ BK1.out)) : gb1 ≠ gb3));have n7_:=a0_ ((by rw [hg];exact Nat.ne_of_gt (blk_lt (bb_ BK1.out)) : gb3 ≠ gb1));have n8_:=a0_ ((by rw [hg];exact Nat.ne_of_lt (blk_lt (bb_ BK2.out)) : gb2 ≠ gb3));have n9_:=a0_ ((by rw [hg];exact Nat.ne_of_gt (blk_lt (bb_ BK2.out)) : gb3 ≠ gb2));clear BK1 BK2 HB;have BK1:=n0_;have BK2:=n1_;have HB:=n2_;have BK3:=n3_;have GW3:=n4_;have GE3:=n5_;have NB1_3:=n6_;have NB3_1:=n7_;have NB2_3:=n8_;have NB3_2:=n9_;clear n0_ n1_ n2_ n3_ n4_ n5_ n6_ n7_ n8_ n9_;clear hb hbox hg;have hnb5:=NB1_2.out;have hnc5:=NB2_1.out;have hnb6:=NB1_3.out;have hnc6:=NB3_1.out;have hcz7_0 : w4.cell? ⟨gb1,0,none⟩ = some (.int .i64 a0_0):=(blk_cell BK1.out 0).trans rfl;have hcz7_1 : w4.cell? ⟨gb1,1,none⟩ = some (.int .i64 a0_1):=(blk_cell BK1.out 1).trans rfl;have hcz7_2 : w4.cell? ⟨gb1,2,none⟩ = some (.int .i64 a0_2):=(blk_cell BK1.out 2).trans rfl;have hcz7_3 : w4.cell? ⟨gb1,3,none⟩ = some (.int .i64 a0_3):=(blk_cell BK1.out 3).trans rfl;have hfz7_0:=blk_frozen BK1.out 0;have hfz7_1:=blk_frozen BK1.out 1;have hfz7_2:=blk_frozen BK1.out 2;have hfz7_3:=blk_frozen BK1.out 3;have hnb8:=NB3_2.out;have hnc8:=NB2_3.out;have hcz9_0 : w4.cell? ⟨gb3,0,none⟩ = some (.int .i64 0):=(blk_cell BK3.out 0).trans rfl;have hcz9_1 : w4.cell? ⟨gb3,1,none⟩ = some (.int .i64 0):=(blk_cell BK3.out 1).trans rfl;have hcz9_2 : w4.cell? ⟨gb3,2,none⟩ = some (.int .i64 0):=(blk_cell BK3.out 2).trans rfl;have hcz9_3 : w4.cell? ⟨gb3,3,none⟩ = some (.int .i64 0):=(blk_cell BK3.out 3).trans rfl;have hfz9_0:=blk_frozen BK3.out 0;have hfz9_1:=blk_frozen BK3.out 1;have hfz9_2:=blk_frozen BK3.out 2;have hfz9_3:=blk_frozen BK3.out 3;have hcz10_0 : w4.cell? ⟨gb2,0,none⟩ = some (.int .i64 0):=(blk_cell BK2.out 0).trans rfl;have hcz10_1 : w4.cell? ⟨gb2,1,none⟩ = some (.int .i64 0):=(blk_cell BK2.out 1).trans rfl;have hcz10_2 : w4.cell? ⟨gb2,2,none⟩ = some (.int .i64 0):=(blk_cell BK2.out 2).trans rfl;have hcz10_3 : w4.cell? ⟨gb2,3,none⟩ = some (.int .i64 0):=(blk_cell BK2.out 3).trans rfl;have hfz10_0:=blk_frozen BK2.out 0;have hfz10_1:=blk_frozen BK2.out 1;have hfz10_2:=blk_frozen BK2.out 2;have hfz10_3:=blk_frozen BK2.out 3))
 refine bodyPost_ret (results_cell_row rfl _ _ gb2 75 #[.int .i64 a0_0,.int .i64 a0_1,.int .i64 a0_2,.int .i64 a0_3] (0,0) _ rfl (by (with_reducible repeat (first | refine blk_drewN ?_ _ | refine blk_drew ?_ | refine blk_alloc ?_ _));refine blk_put (cs:=#[.int .i64 a0_0,.int .i64 a0_1,.int .i64 a0_2,.int .i64 0]) ?_ 3 _ rfl;(with_reducible repeat (first | refine blk_drewN ?_ _ | refine blk_drew ?_ | refine blk_alloc ?_ _));refine blk_put (cs:=#[.int .i64 a0_0,.int .i64 a0_1,.int .i64 0,.int .i64 0]) ?_ 2 _ rfl;(with_reducible repeat (first | refine blk_drewN ?_ _ | refine blk_drew ?_ | refine blk_alloc ?_ _));refine blk_put (cs:=#[.int .i64 a0_0,.int .i64 0,.int .i64 0,.int .i64 0]) ?_ 1 _ rfl;(with_reducible repeat (first | refine blk_drewN ?_ _ | refine blk_drew ?_ | refine blk_alloc ?_ _));refine blk_put (cs:=#[.int .i64 0,.int .i64 0,.int .i64 0,.int .i64 0]) ?_ 0 _ rfl;(with_reducible repeat (first | refine blk_drewN ?_ _ | refine blk_drew ?_ | refine blk_alloc ?_ _));refine blk_far ?_ NB2_3.out _;(with_reducible repeat (first | refine blk_drewN ?_ _ | refine blk_drew ?_ | refine blk_alloc ?_ _));refine blk_far ?_ NB2_3.out _;(with_reducible repeat (first | refine blk_drewN ?_ _ | refine blk_drew ?_ | refine blk_alloc ?_ _));refine blk_far ?_ NB2_3.out _;(with_reducible repeat (first | refine blk_drewN ?_ _ | refine blk_drew ?_ | refine blk_alloc ?_ _));refine blk_far ?_ NB2_3.out _;(with_reducible repeat (first | refine blk_drewN ?_ _ | refine blk_drew ?_ | refine blk_alloc ?_ _));exact BK2.out) Try.underlying75 rfl (by kernel_rfl)) rfl ?_
 exact ⟨by first | rfl | (simp [errW_none,errW_some] <;> rfl) | (simp [*,errW_none,errW_some] <;> rfl),hbw_⟩
end Go.Proofs.Ytacgehaipacehaa.P
namespace Go.Proofs.Ytacgehaipacehaa.P
open Go.RowKit Go.Proofs.YtacgehaipacehaaW.PrintWords Go.Proofs.YtacgehaipacehaaW.PrintLast Go.Proofs.YtacgehaipacehaaW.PrintMore
attribute [local go_sem] max2_int min2_int max_two min_two max_three min_three max_four min_four
set_option linter.unusedVariables false
set_option linter.unusedSimpArgs false
def laws_toLineS.l0 : Nat → List (S129) → List (S75) → Int → Option ((List (S75)))
 | 0,_,_,_=>none
 | k + 1,x0,x3,x4=>if x4 < (x0.length : Int) then (if 0 ≤ x4 then ((laws_toLine.f ((rd_T129 x0 x4).f0) ((rd_T129 x0 x4).f1) ((rd_T129 x0 x4).f2) ((rd_T129 x0 x4).f3)).bind fun bt5=>(if x4 < (x3.length : Int) then (laws_toLineS.l0 k x0 (x3.set (x4 : Int).toNat (⟨bt5.1,bt5.2.1,bt5.2.2.1,bt5.2.2.2⟩ : S75)) (wrap64 (x4 + 1))) else (none))) else (none)) else (some x3)
def laws_toLineS.f (k : Nat) (l0 : List (S129)) : Option ((List (S75))):=if 0 ≤ (l0.length : Int) then (if ((l0.length : Int) : Int).toNat ≤ 8796093022208 then (laws_toLineS.l0 k l0 (List.replicate ((l0.length : Int) : Int).toNat z75) 0) else (none)) else (none)
theorem laws_toLineS.mono_l : ∀ k,(∀ y0 y1 y2,LeO (laws_toLineS.l0 k y0 y1 y2) (laws_toLineS.l0 (k + 1) y0 y1 y2))
 | 0=>fun _ _ _ r h=>by simp [laws_toLineS.l0] at h
 | k + 1=>by
  have ih0:=laws_toLineS.mono_l k
  ·intro y0 y1 y2
   unfold laws_toLineS.l0
   repeat' first
   | (with_reducible exact ih0 _ _ _)
   | (with_reducible exact LeO.refl _)
   | (with_reducible exact LeO.none _)
   | (with_reducible refine LeO.ite ?_ ?_)
   | (with_reducible refine LeO.bind ?_ (fun _=>?_))
   | exact ih0 _ _ _
   | exact LeO.none _
   | refine LeO.ite ?_ ?_
   | refine LeO.bind ?_ (fun _=>?_)
theorem laws_toLineS.mono : ∀ a0 k,LeO (laws_toLineS.f k a0) (laws_toLineS.f (k + 1) a0):=by
 intro a0 k
 have ih0:=laws_toLineS.mono_l k
 unfold laws_toLineS.f
 repeat' first
   | (with_reducible exact ih0 _ _ _)
   | (with_reducible exact LeO.refl _)
   | (with_reducible exact LeO.none _)
   | (with_reducible refine LeO.ite ?_ ?_)
   | (with_reducible refine LeO.bind ?_ (fun _=>?_))
   | exact ih0 _ _ _
   | exact LeO.none _
   | refine LeO.ite ?_ ?_
   | refine LeO.bind ?_ (fun _=>?_)
set_option maxHeartbeats 8000000 in
set_option maxRecDepth 100000 in
theorem laws_toLineS.calls (k : Nat) (A0 : Option Addr) (c0 : Nat) (l0 : List (S129)) (r : List (S75)) (w : World) (hr0 : Kd.C k129 w A0 l0.length l0) (hc0 : l0.length ≤ c0) (h : laws_toLineS.f k l0 = some r) :
  Calls Try.prog 44 #[.slice A0 l0.length c0] w fun e w'=>∃ v0_ : Value,e = .returned (v0_) ∧ Kd.R k75 75 w' w.heap.size (fun _=>True) v0_ r ∧ Below w.heap.size w w':=by
 have hu129:=Try.underlying129
 have hu75:=Try.underlying75
 have HR0:=a0_ hr0
 have HC0:=a0_ hc0
 clear hr0 hc0
 have HB:=a0_ (Below.refl w.heap.size w)
 have H : (if 0 ≤ (l0.length : Int) then (if ((l0.length : Int) : Int).toNat ≤ 8796093022208 then (laws_toLineS.l0 k l0 (List.replicate ((l0.length : Int) : Int).toNat z75) 0) else (none)) else (none)) = some r:=h
 clear h
 by_cases c2 : 0 ≤ (l0.length : Int)
 ·rw [if_pos c2] at H
  have c2b0:=eq_true c2
  have c2b1 : decide (0 ≤ (l0.length : Int)) = true:=decide_eq_true c2
  clear c2
  by_cases c3 : ((l0.length : Int) : Int).toNat ≤ 8796093022208
  ·rw [if_pos c3] at H
   have c3b0:=eq_true c3
   have c3b1 : decide (((l0.length : Int) : Int).toNat ≤ 8796093022208) = true:=decide_eq_true c3
   clear c3
   obtain ⟨y1,hy1⟩ : ∃ y_ : List (S75),y_ = (List.replicate ((l0.length : Int) : Int).toNat z75):=⟨_,rfl⟩
   replace H : (laws_toLineS.l0 k l0 y1 0) = some r:=by first | (rw [hy1];with_reducible exact H) | (have H2_:=(Option.bind_some _ _).symm.trans H;rw [hy1];with_reducible exact H2_) | (have H2_:=(Option.bind_some _ _).symm.trans H;with_reducible exact H2_) | with_reducible exact H | (rw [hy1];exact H) | exact H
   have Ny1:=a0_ hy1
   clear hy1
   have H':=a0_ H
   clear H
   go_enter Try.func44,Try.ntmps44
   go_wp2_with (first | ((with_reducible refine gate_dst (N:=7) rfl ?_);refine Kd.R_make k75 _ 75 rfl (N:=7) rfl 68 _ _ rfl (l0.length : Int) rfl rfl Try.underlying68 (.agg #[(.int .i64 0),(.int .i64 0),(.int .i64 0),(.int .i64 0)]) 32 info75 rfl (by decide) (by omega) z75 (ok:=fun _=>True) (okp:=fun _=>True) (k75_mkM _ _ _ z75 ) (fun _ hk=>hk) trivial (of_decide_eq_true (by first | (with_reducible assumption) | assumption)) (Nat.le_trans (Nat.mul_le_mul_right _ (of_decide_eq_true (by first | (with_reducible assumption) | assumption) : (l0.length : Int).toNat ≤ 8796093022208)) (by omega)) (Below.refl _ _) (Nat.le_refl _) ?_;intro v2 w4 ho5 hb hg_ hnew_;clear hg_ hnew_;(first | rw [← Ny1.out] at ho5 | (simp only [Int.reduceToNat] at ho5;rw [← Ny1.out] at ho5));have HO3:=a0_ (Kd.R_lower ho5 (below_size hbw_));replace HB:=a0_ (below_step hbw_ hb);clear hb ho5))
   go_loopg [4] k (fun kq v4 w'=>∃ (x3_1 : List (S75)) (x4_1 : Int),v4 = .int .i64 x4_1 ∧ Aside0 (laws_toLineS.l0 kq l0 x3_1 x4_1 = some r) ∧ Aside0 (kq ≤ k) ∧ Aside0 (Kd.R k75 75 w' w.heap.size (fun _=>True) v2 x3_1) ∧ Aside0 (Below w.heap.size w w'))
   case atStart=>exact ⟨(y1),(0),(by first | rfl | (simp;done) | (simp [*];done)),H',⟨Nat.le_refl _⟩,⟨by (with_reducible repeat (first | apply Kd.R_alloc | apply Kd.R_drewN | apply Kd.R_drew));exact HO3.out⟩,⟨hbw_⟩⟩
   case round =>
    clear H'
    try clear c2
    try clear c2b0
    try clear c2b1
    try clear p2
    try clear c3
    try clear c3b0
    try clear c3b1
    try clear c4
    obtain ⟨x3_1,x4_1,rfl,HA,HK1,HO_3,HB⟩:=hrel
    cases gk with
    | zero=>exact absurd HA.out (by simp [laws_toLineS.l0])
    | succ k1 =>
     have H:=HA.out
     clear HA
     simp only [laws_toLineS.l0] at H
     by_cases c6 : x4_1 < (l0.length : Int)
     ·rw [if_pos c6] at H
      have c6b0 : decide (x4_1 < (l0.length : Int)) = true:=decide_eq_true c6
      clear c6
      by_cases c7 : 0 ≤ x4_1
      ·rw [if_pos c7] at H
       have c7b0 : decide (0 ≤ x4_1) = true:=decide_eq_true c7
       clear c7
       replace H:=Option.bind_eq_some_iff.mp H
       obtain ⟨⟨t5,t6,t7,t8⟩,A80,H⟩:=H
       try dsimp only at H
       have A8:=a0_ A80
       clear A80
       by_cases c9 : x4_1 < (x3_1.length : Int)
       ·rw [if_pos c9] at H
        have c9b0 : decide (x4_1 < (x3_1.length : Int)) = true:=decide_eq_true c9
        clear c9
        obtain ⟨y9,hy9⟩ : ∃ y_ : List (S75),y_ = (x3_1.set (x4_1 : Int).toNat (⟨t5,t6,t7,t8⟩ : S75)):=⟨_,rfl⟩
        replace H : (laws_toLineS.l0 k1 l0 y9 (wrap64 (x4_1 + 1))) = some r:=by first | (rw [hy9];with_reducible exact H) | (have H2_:=(Option.bind_some _ _).symm.trans H;rw [hy9];with_reducible exact H2_) | (have H2_:=(Option.bind_some _ _).symm.trans H;with_reducible exact H2_) | with_reducible exact H | (rw [hy9];exact H) | exact H
        have Ny9:=a0_ hy9
        clear hy9
        have H':=a0_ H
        clear H
        have p4 : 0 ≤ (x4_1 : Int):=of_decide_eq_true (by first | (with_reducible assumption) | assumption)
        have q4 : x4_1 < (l0.length : Int):=of_decide_eq_true (by first | (with_reducible assumption) | assumption)
        obtain ⟨ad4,e4,hx4_0,hx4_1,hx4_2,hx4_3⟩:=at_T129 HR0.out x4_1 p4 q4
        cases e4
        replace hx4_0:=(HB.out.cell (World.block_lt_of_cell? w _ hx4_0)).trans hx4_0
        replace hx4_1:=(HB.out.cell (World.block_lt_of_cell? w _ hx4_1)).trans hx4_1
        replace hx4_2:=(HB.out.cell (World.block_lt_of_cell? w _ hx4_2)).trans hx4_2
        replace hx4_3:=(HB.out.cell (World.block_lt_of_cell? w _ hx4_3)).trans hx4_3
        replace p4:=eq_true p4
        replace q4:=eq_true q4
        go_wp2_with (first | ((with_reducible refine gate_callee (f:=97) rfl ?_);refine goesL_ (some 20) rfl rfl Try.func97 (by kernel_rfl) rfl #[.agg #[.int .i64 ((rd_T129 l0 x4_1).f0),.int .i64 ((rd_T129 l0 x4_1).f1),.int .i64 ((rd_T129 l0 x4_1).f2),.int .i64 ((rd_T129 l0 x4_1).f3)]] rfl lm_ ?_;(with_reducible refine (laws_toLine.calls ((rd_T129 l0 x4_1).f0) ((rd_T129 l0 x4_1).f1) ((rd_T129 l0 x4_1).f2) ((rd_T129 l0 x4_1).f3) t5 t6 t7 t8 _ A8.out).mono ?_);rintro e w11 ⟨rfl,hb⟩;refine ⟨_,rfl,?_⟩;replace HO_3:=rb_ HO_3 hb;replace HB:=a0_ (below_step hbw_ hb);(try clear hb);have p10 : 0 ≤ (x4_1 : Int):=of_decide_eq_true (by first | (with_reducible assumption) | assumption);have q10 : (x4_1 : Int) < ((x3_1.length : Int) : Int):=of_decide_eq_true (by first | (with_reducible assumption) | assumption);obtain ⟨go10,co10,eo10,gb10,gl10,cl10,HG10⟩:=Kd.R_form HO_3.out (by omega);(first | cases eo10 | (injection eo10 with ea_ en_ ec_;(first | subst ea_ | (injection ea_ with ea_;subst ea_));subst ec_;clear en_));have GB10:=a0_ gb10;have GG10:=a0_ HG10;clear gb10 gl10 HG10;obtain ⟨ce10,hcl10,hM10,hcc10,hfr10⟩:=Kd.R_elem HO_3.out z75 (x4_1 : Int) p10 q10;obtain rfl:=k75_openM hM10;have hx10_0 : w11.cell? ⟨go10,(x4_1 : Int).toNat * 4,none⟩ = some (.int .i64 ((rd_T75 x3_1 x4_1).f0)):=hcc10 0 _ rfl;have hx10_1 : w11.cell? ⟨go10,(x4_1 : Int).toNat * 4 + 1,none⟩ = some (.int .i64 ((rd_T75 x3_1 x4_1).f1)):=hcc10 1 _ rfl;have hx10_2 : w11.cell? ⟨go10,(x4_1 : Int).toNat * 4 + 2,none⟩ = some (.int .i64 ((rd_T75 x3_1 x4_1).f2)):=hcc10 2 _ rfl;have hx10_3 : w11.cell? ⟨go10,(x4_1 : Int).toNat * 4 + 3,none⟩ = some (.int .i64 ((rd_T75 x3_1 x4_1).f3)):=hcc10 3 _ rfl;have hf10_0 : w11.frozen? ⟨go10,(x4_1 : Int).toNat * 4,none⟩ = false:=hfr10 0;have hf10_1 : w11.frozen? ⟨go10,(x4_1 : Int).toNat * 4 + 1,none⟩ = false:=hfr10 1;have hf10_2 : w11.frozen? ⟨go10,(x4_1 : Int).toNat * 4 + 2,none⟩ = false:=hfr10 2;have hf10_3 : w11.frozen? ⟨go10,(x4_1 : Int).toNat * 4 + 3,none⟩ = false:=hfr10 3;clear hcl10 hcc10 hfr10 hM10;replace p10:=eq_true p10;replace q10:=eq_true q10;have HX12:=a0_ (show Kd.R k75 75 w11 w.heap.size (fun _=>True) (.slice (some ⟨go10,0,none⟩) x3_1.length co10) x3_1 from (rr_ HO_3.out));obtain ⟨ce12,hcl12,hM12,hcc12,hfr12⟩:=Kd.R_elem HX12.out z75 (x4_1 : Int) (of_decide_eq_true (by first | (with_reducible assumption) | assumption)) (by have h_ : (x4_1 : Int) < ((x3_1.length : Int) : Int):=of_decide_eq_true (by first | (with_reducible assumption) | assumption);first | exact h_ | (have e_:=(Kd.R_reads' HO_3.out).1;omega) | simpa using h_);obtain rfl:=k75_openM hM12;have HP12:=Kd.R_seg HX12.out (x4_1 : Int) (of_decide_eq_true (by first | (with_reducible assumption) | assumption)) (by have h_ : (x4_1 : Int) < ((x3_1.length : Int) : Int):=of_decide_eq_true (by first | (with_reducible assumption) | assumption);first | exact h_ | (have e_:=(Kd.R_reads' HO_3.out).1;omega) | simpa using h_) (seg:=[.int .i64 t5,.int .i64 t6,.int .i64 t7,.int .i64 t8]) (j:=0) hcl12 hcc12 (show 4 ≤ 4 from by decide) (x':=(⟨t5,t6,t7,t8⟩ : S75)) (k75_mkM _ _ _ (⟨t5,t6,t7,t8⟩ : S75) ) (fun _ hk=>hk);have hx12_0:=hcc12 0 _ rfl;(try simp only [show (k75).sz = 4 from rfl,Nat.mul_one,Nat.add_zero] at hx12_0);have hf12_0:=hfr12 0;(try simp only [show (k75).sz = 4 from rfl,Nat.mul_one,Nat.add_zero] at hf12_0);have hx12_1:=hcc12 1 _ rfl;(try simp only [show (k75).sz = 4 from rfl,Nat.mul_one,Nat.add_zero] at hx12_1);have hf12_1:=hfr12 1;(try simp only [show (k75).sz = 4 from rfl,Nat.mul_one,Nat.add_zero] at hf12_1);have hx12_2:=hcc12 2 _ rfl;(try simp only [show (k75).sz = 4 from rfl,Nat.mul_one,Nat.add_zero] at hx12_2);have hf12_2:=hfr12 2;(try simp only [show (k75).sz = 4 from rfl,Nat.mul_one,Nat.add_zero] at hf12_2);have hx12_3:=hcc12 3 _ rfl;(try simp only [show (k75).sz = 4 from rfl,Nat.mul_one,Nat.add_zero] at hx12_3);have hf12_3:=hfr12 3;(try simp only [show (k75).sz = 4 from rfl,Nat.mul_one,Nat.add_zero] at hf12_3);clear hcl12 hcc12 hfr12 hM12) | ((with_reducible refine gate_store (t:=75) (p:=21) rfl ?_);refine store_event (t:=75) (p:=21) (v:=?vo_w13) (w1:=((((w11.setCell ⟨go10,(x4_1 : Int).toNat * 4,none⟩ (.int .i64 t5)).setCell ⟨go10,(x4_1 : Int).toNat * 4 + 1,none⟩ (.int .i64 t6)).setCell ⟨go10,(x4_1 : Int).toNat * 4 + 2,none⟩ (.int .i64 t7)).setCell ⟨go10,(x4_1 : Int).toNat * 4 + 3,none⟩ (.int .i64 t8))) ?hg ?ho ?hn ?hr ?_;(case ho=>rfl);(case hg=>rfl);(case hn=>rfl);(case hr=>first | (go_simp;done) | (go_simp;rfl));intro w13 hw;have hg : w11.grownBy w13 (some go10):=(by rw [hw];exact HP12.2);have hp_ : Kd.R k75 75 w13 w.heap.size (fun _=>True) (.slice (some ⟨go10,0,none⟩) x3_1.length co10) y9:=(by rw [hw,Ny9.out];exact HP12.1);clear HP12;replace HO_3:=a0_ (hp_);replace HB:=a0_ ((by rw [hw];exact below_set (below_set (below_set (below_set (HB.out) GB10.out) GB10.out) GB10.out) GB10.out : Below w.heap.size w w13));clear hg hw hp_))
        go_roundg k1
        case measure=>have:=HK1.out;omega
        case rel=>exact ⟨(y9),(wrap64 (x4_1 + 1)),(by first | rfl | (simp;done) | (simp [*];done)),H',⟨by have:=HK1.out;omega⟩,⟨by (with_reducible repeat (first | apply Kd.R_alloc | apply Kd.R_drewN | apply Kd.R_drew));exact HO_3.out⟩,⟨hbw_⟩⟩
       ·rw [if_neg c9] at H
        exact absurd H (by simp)
      ·rw [if_neg c7] at H
       exact absurd H (by simp)
     ·rw [if_neg c6] at H
      have c6b0 : decide (x4_1 < (l0.length : Int)) = false:=decide_eq_false c6
      clear c6
      obtain rfl:=Option.some.inj H
      go_wp2
      go_ret
      exact ⟨_,by first | rfl | (simp [errW_none,errW_some] <;> rfl) | (simp [*,errW_none,errW_some] <;> rfl),by (with_reducible repeat (first | apply Kd.R_alloc | apply Kd.R_drewN | apply Kd.R_drew));exact HO_3.out,hbw_⟩
  ·rw [if_neg c3] at H
   exact absurd H (by simp)
 ·rw [if_neg c2] at H
  exact absurd H (by simp)
theorem laws_toLineS_ev (t : List S129) (ht : t.length ≤ 1048576) : Ev (fun k=>laws_toLineS.f k t) (t.map toLine):=by
 have h:=st_loop (fun k acc i=>laws_toLineS.l0 k t acc i) t.length (fun i=>((t.take i).map toLine) ++ List.replicate (t.length - i) z75) (t.map toLine) (by
  intro k i hi
  simp only [laws_toLineS.l0,laws_toLine.f,Option.bind_some]
  rw [if_pos (by omega),if_pos (by omega),if_pos (by rw [fill_len _ _ _ _ (by omega)];omega),wrap_succ (i:=(i : Int)) (n:=t.length) (by omega) (by omega) (by omega)]
  have:=fill_at t toLine z129 z75 i hi
  rw [show ((i : Int) : Int).toNat = i by omega]
  rw [show (⟨(rd_T129 t (i : Int)).f0,(rd_T129 t (i : Int)).f1,(rd_T129 t (i : Int)).f2,(rd_T129 t (i : Int)).f3⟩ : S75) = toLine (t.getD i z129) from by simp [toLine,rd_T129],this]
  rfl) (by
  intro k
  simp only [laws_toLineS.l0]
  rw [if_neg (by omega)]
  simp)
 refine Ev.of_mono (laws_toLineS.mono t) (K:=t.length + 1) ?_
 unfold laws_toLineS.f
 rw [if_pos (by omega),if_pos (by omega)]
 simpa using h
end Go.Proofs.Ytacgehaipacehaa.P
namespace Go.Proofs.Ytacgehaipacehaa.P
open Go.RowKit Go.Proofs.YtacgehaipacehaaW.PrintWords Go.Proofs.YtacgehaipacehaaW.PrintLast Go.Proofs.YtacgehaipacehaaW.PrintMore
attribute [local go_sem] max2_int min2_int max_two min_two max_three min_three max_four min_four
set_option linter.unusedVariables false
set_option linter.unusedSimpArgs false
def impl_within.f (a0 : Int) (a1 : Int) (a2 : Int) : Option (Bool):=if a0 ≥ a1 then (some (decide (a0 ≤ a2))) else (some false)
set_option maxHeartbeats 8000000 in
set_option maxRecDepth 100000 in
theorem impl_within.calls (a0 : Int) (a1 : Int) (a2 : Int) (r : Bool) (w : World) (h : impl_within.f a0 a1 a2 = some r) :
  Calls Try.prog 75 #[.int .i64 a0,.int .i64 a1,.int .i64 a2] w fun e w'=>e = .returned (.bool r) ∧ Drawn0 w w':=by
 have H : (if a0 ≥ a1 then (some (decide (a0 ≤ a2))) else (some false)) = some r:=h
 clear h
 by_cases c4 : a0 ≥ a1
 ·rw [if_pos c4] at H
  have c4b0 : decide (a1 ≤ a0) = true:=decide_eq_true c4
  clear c4
  obtain rfl:=Option.some.inj H
  go_enter Try.func75,Try.ntmps75
  go_wp2
  go_ret
  exact ⟨by first | rfl | (simp;done) | (simp [*];done),by repeat (first | exact Drawn0.refl _ | apply Drawn0.step)⟩
 ·rw [if_neg c4] at H
  have c4b0 : decide (a1 ≤ a0) = false:=decide_eq_false c4
  clear c4
  obtain rfl:=Option.some.inj H
  go_enter Try.func75,Try.ntmps75
  go_wp2
  go_ret
  exact ⟨by first | rfl | (simp;done) | (simp [*];done),by repeat (first | exact Drawn0.refl _ | apply Drawn0.step)⟩
theorem impl_within_ev (a b c : Int) : impl_within.f a b c = some (decide (b ≤ a) && decide (a ≤ c)):=by
 unfold impl_within.f
 by_cases h : a ≥ b
 ·rw [if_pos h,decide_eq_true (show b ≤ a from h),Bool.true_and]
 ·rw [if_neg h,decide_eq_false (show ¬ b ≤ a from h),Bool.false_and]
end Go.Proofs.Ytacgehaipacehaa.P
namespace Go.Proofs.Ytacgehaipacehaa.P
open Go.RowKit Go.Proofs.YtacgehaipacehaaW.PrintWords Go.Proofs.YtacgehaipacehaaW.PrintLast Go.Proofs.YtacgehaipacehaaW.PrintMore
attribute [local go_sem] max2_int min2_int max_two min_two max_three min_three max_four min_four
set_option linter.unusedVariables false
set_option linter.unusedSimpArgs false
set_option maxHeartbeats 2000000 in
theorem slices_IndexFunc_Class.callsF (A : Option Addr) (c : Nat) (l : List S125) (g : Nat) (lb : Array Value) (p : S125 → Bool) (w : World) (eg : ∀ args w,(callFunc g args).run Try.prog w = .ok (.enter g args) w)
  (hr : Kd.C k125 w A l.length l) (hc : l.length ≤ c) (hp : ∀ x,x ∈ l → ∀ W,Below w.heap.size w W → Calls Try.prog g (#[.agg #[.string x.f0,.int .i64 x.f1]] ++ lb) W fun e w'=>e = .returned (.bool (p x)) ∧ Below W.heap.size W w') :
  Calls Try.prog 137 #[.slice A l.length c,.func (.func g) #[] lb] w fun e w'=>e = .returned (.int .i64 (idxP p l)) ∧ Below w.heap.size w w':=by
 have HR:=a0_ hr
 have HP:=a0_ hp
 have hmax : l.length ≤ 9223372036854775807:=hr.2.1
 clear hr hp hc
 go_enter Try.func137,Try.ntmps137
 go_wp2
 go_loopg [5,8] l.length (fun gg _ s8 wr=>∃ kk : Nat,kk ≤ l.length ∧ l.length - kk ≤ gg ∧ s8 = .int .i64 kk ∧ Aside0 (Below w.heap.size w wr) ∧ Aside0 (∀ j (hj : j < l.length),j < kk → p l[j] = false))
 case atStart=>exact ⟨0,Nat.zero_le _,by omega,rfl,⟨Below.refl _ w⟩,⟨fun j _ hj=>absurd hj (Nat.not_lt_zero _)⟩⟩
 case round =>
  obtain ⟨kk,hkk,hg,rfl,BW,HA⟩:=hrel
  by_cases hlt : kk < l.length
  ·have hltz : (kk : Int) < (l.length : Int):=by omega
   obtain ⟨ad,ea,hx0,hx1⟩:=at_T125 HR.out (kk : Int) (by omega) (by omega)
   cases ea
   have hrd : rd_T125 l (kk : Int) = l[kk]:=by simp [rd_T125,hlt]
   rw [hrd] at hx0 hx1
   rw [Int.toNat_natCast] at hx0 hx1
   replace hx0:=(BW.out.cell (World.block_lt_of_cell? w _ hx0)).trans hx0
   replace hx1:=(BW.out.cell (World.block_lt_of_cell? w _ hx1)).trans hx1
   have hcall:=HP.out l[kk] (List.getElem_mem hlt) wr BW.out
   clear hrd
   generalize hy : l[kk] = y at hx0 hx1 hcall
   have B:=a0_ hy
   clear hy
   cases hq : p y with
   | true =>
    rw [hq] at hcall
    go_wp2_with (go_at_fn g;refine hcall.mono ?_;rintro e w' ⟨rfl,hb'⟩)
    go_ret
    refine ⟨?_,below_step BW.out hb'⟩
    rw [idxP_hit p l kk hlt (by rw [B.out];exact hq) HA.out];rfl
   | false =>
    rw [hq] at hcall
    go_wp2_with (go_at_fn g;refine hcall.mono ?_;rintro e w' ⟨rfl,hb'⟩)
    go_roundg (l.length - (kk + 1))
    case measure=>omega
    case rel =>
     refine ⟨kk + 1,by omega,by omega,by go_num,⟨below_step BW.out hb'⟩,⟨fun j hj hjk=>?_⟩⟩
     by_cases e : j = kk
     ·subst e
      rw [B.out];exact hq
     ·exact HA.out j hj (by omega)
  ·have hltz : ¬ (kk : Int) < (l.length : Int):=by omega
   have : kk = l.length:=by omega
   subst this
   go_wp2
   go_ret
   refine ⟨?_,BW.out⟩
   rw [idxP_miss p l (fun j hj=>HA.out j hj hj)];rfl
end Go.Proofs.Ytacgehaipacehaa.P
namespace Go.Proofs.Ytacgehaipacehaa.P
open Go.RowKit Go.Proofs.YtacgehaipacehaaW.PrintWords Go.Proofs.YtacgehaipacehaaW.PrintLast Go.Proofs.YtacgehaipacehaaW.PrintMore
attribute [local go_sem] max2_int min2_int max_two min_two max_three min_three max_four min_four
set_option linter.unusedVariables false
set_option linter.unusedSimpArgs false
theorem impl_Tree_named_1.callsF (B : Nat) (nm : ByteArray) (x : S125) (w : World) (hB : w.heap[B]? = some (.cells #[.string nm] 9 (0,0))) :
  Calls Try.prog 138 #[.agg #[.string x.f0,.int .i64 x.f1],.pointer (some ⟨B,0,none⟩)] w fun e w'=>e = .returned (.bool (x.f0.toList == nm.toList)) ∧ Below w.heap.size w w':=by
 have hc : w.cell? ⟨B,0,none⟩ = some (.string nm):=(blk_cell hB 0).trans rfl
 have hlt : B < w.heap.size:=(Array.getElem?_eq_some_iff.1 hB).1
 have hne : B ≠ w.heap.size:=by omega
 clear hB
 go_enter Try.func138,Try.ntmps138
 go_wp2
 all_goals (go_ret;exact ⟨by simp_all,(Below.refl _ w).alloc (Nat.le_refl _) _⟩)
end Go.Proofs.Ytacgehaipacehaa.P
namespace Go.Proofs.Ytacgehaipacehaa.P
open Go.RowKit Go.Proofs.YtacgehaipacehaaW.PrintWords Go.Proofs.YtacgehaipacehaaW.PrintLast Go.Proofs.YtacgehaipacehaaW.PrintMore
attribute [local go_sem] max2_int min2_int max_two min_two max_three min_three max_four min_four
set_option linter.unusedVariables false
set_option linter.unusedSimpArgs false
def impl_Tree_named.f (l0_0 : List (S125)) (a1 : ByteArray) : Option Int:=some (idxP (fun x : S125=>x.f0.toList == a1.toList) l0_0)
set_option maxHeartbeats 2000000 in
theorem impl_Tree_named.calls (A0_0 : Option Addr) (c0_0 : Nat) (l0_0 : List (S125)) (a1 : ByteArray) (r : Int) (w : World) (hr0_0 : Kd.C k125 w A0_0 l0_0.length l0_0) (hc0_0 : l0_0.length ≤ c0_0) (h : impl_Tree_named.f l0_0 a1 = some r) :
  Calls Try.prog 92 #[.agg #[.slice A0_0 l0_0.length c0_0],.string a1] w fun e w'=>e = .returned (.int .i64 r) ∧ Below w.heap.size w w':=by
 obtain rfl:=Option.some.inj h
 clear h
 have hu31:=Try.underlying25
 have eg : ∀ args w,(callFunc 138 args).run Try.prog w = .ok (.enter 138 args) w:=enters_of Try.func138 (by kernel_rfl) rfl
 have hcon:=fun (W : World) (hb : Below w.heap.size w W) (hB : W.heap[w.heap.size + 1]? = some (.cells #[.string a1] 9 (0,0)))=>slices_IndexFunc_Class.callsF A0_0 c0_0 l0_0 138 #[.pointer (some ⟨w.heap.size + 1,0,none⟩)] (fun x=>x.f0.toList == a1.toList) W eg (Kd.C_below hr0_0 hb) hc0_0 (fun x _ W' hW=>by
  have:=impl_Tree_named_1.callsF (w.heap.size + 1) a1 x W' (blk_keptB hB hW)
  simpa using this)
 clear hr0_0 hc0_0
 generalize idxP (fun x : S125=>x.f0.toList == a1.toList) l0_0 = r at hcon ⊢
 have HC:=a0_ hcon
 clear hcon
 go_enter Try.func92,Try.ntmps92
 go_wp2_with (go_at_call 137;refine (HC.out _ ?hb ?hB).mono ?_;(case hb=>exact below2 w _ _);(case hB=>exact heap_new2 w _ _);rintro e w' ⟨rfl,hb'⟩)
 go_ret
 exact ⟨rfl,(below2 w _ _).trans (hb'.mono (by simp;omega))⟩
end Go.Proofs.Ytacgehaipacehaa.P
namespace Go.Proofs.Ytacgehaipacehaa.P
open Go.RowKit Go.Proofs.YtacgehaipacehaaW.PrintWords Go.Proofs.YtacgehaipacehaaW.PrintLast Go.Proofs.YtacgehaipacehaaW.PrintMore
attribute [local go_sem] max2_int min2_int max_two min_two max_three min_three max_four min_four
set_option linter.unusedVariables false
set_option linter.unusedSimpArgs false
def impl_nameOk.l0 : Nat → ByteArray → Int → Int → Option (Bool)
 | 0,_,_,_=>none
 | k + 1,x0,x5,x6=>if x6 < x5 then (if 0 ≤ x6 then (if x6 < (x0.size : Int) then (if (bt x0 x6) < 97 then (some false) else (if (bt x0 x6) > 122 then (some false) else (impl_nameOk.l0 k x0 x5 (wrap64 (x6 + 1))))) else (none)) else (none)) else ((impl_within.f (x0.size : Int) 1 6).bind fun t1=>(some t1))
def impl_nameOk.f (k : Nat) (a0 : ByteArray) : Option (Bool):=impl_nameOk.l0 k a0 (a0.size : Int) 0
theorem impl_nameOk.mono_l : ∀ k,(∀ y0 y1 y2,LeO (impl_nameOk.l0 k y0 y1 y2) (impl_nameOk.l0 (k + 1) y0 y1 y2))
 | 0=>fun _ _ _ r h=>by simp [impl_nameOk.l0] at h
 | k + 1=>by
  have ih0:=impl_nameOk.mono_l k
  ·intro y0 y1 y2
   unfold impl_nameOk.l0
   repeat' first
   | (with_reducible exact ih0 _ _ _)
   | (with_reducible exact LeO.refl _)
   | (with_reducible exact LeO.none _)
   | (with_reducible refine LeO.ite ?_ ?_)
   | (with_reducible refine LeO.bind ?_ (fun _=>?_))
   | exact ih0 _ _ _
   | exact LeO.none _
   | refine LeO.ite ?_ ?_
   | refine LeO.bind ?_ (fun _=>?_)
theorem impl_nameOk.mono : ∀ a0 k,LeO (impl_nameOk.f k a0) (impl_nameOk.f (k + 1) a0):=by
 intro a0 k
 have ih0:=impl_nameOk.mono_l k
 unfold impl_nameOk.f
 repeat' first
   | (with_reducible exact ih0 _ _ _)
   | (with_reducible exact LeO.refl _)
   | (with_reducible exact LeO.none _)
   | (with_reducible refine LeO.ite ?_ ?_)
   | (with_reducible refine LeO.bind ?_ (fun _=>?_))
   | exact ih0 _ _ _
   | exact LeO.none _
   | refine LeO.ite ?_ ?_
   | refine LeO.bind ?_ (fun _=>?_)
set_option maxHeartbeats 8000000 in
set_option maxRecDepth 100000 in
theorem impl_nameOk.calls (k : Nat) (a0 : ByteArray) (r : Bool) (w : World) (h : impl_nameOk.f k a0 = some r) :
  Calls Try.prog 112 #[.string a0] w fun e w'=>e = .returned (.bool r) ∧ Drawn0 w w':=by
 have H : (impl_nameOk.l0 k a0 (a0.size : Int) 0) = some r:=h
 clear h
 have H':=a0_ H
 clear H
 go_enter Try.func112,Try.ntmps112
 go_wp2
 go_loopg [6] k (fun kq v6 w'=>∃ (x6_1 : Int),v6 = .int .i64 x6_1 ∧ Aside0 (impl_nameOk.l0 kq a0 (a0.size : Int) x6_1 = some r) ∧ Aside0 (kq ≤ k) ∧ Drawn0 w w')
 case atStart=>exact ⟨(0),(by first | rfl | (simp;done) | (simp [*];done)),H',⟨Nat.le_refl _⟩,by repeat (first | exact Drawn0.refl _ | apply Drawn0.step)⟩
 case round =>
  clear H'
  try clear c1
  obtain ⟨x6_1,rfl,HA,HK1,⟨m1,rfl⟩⟩:=hrel
  cases gk with
  | zero=>exact absurd HA.out (by simp [impl_nameOk.l0])
  | succ k1 =>
   have H:=HA.out
   clear HA
   simp only [impl_nameOk.l0] at H
   by_cases c2 : x6_1 < (a0.size : Int)
   ·rw [if_pos c2] at H
    have c2b0 : decide (x6_1 < (a0.size : Int)) = true:=decide_eq_true c2
    clear c2
    by_cases c3 : 0 ≤ x6_1
    ·rw [if_pos c3] at H
     have c3b0 : decide (0 ≤ x6_1) = true:=decide_eq_true c3
     clear c3
     by_cases c4 : x6_1 < (a0.size : Int)
     ·rw [if_pos c4] at H
      have c4b0 : decide (x6_1 < (a0.size : Int)) = true:=decide_eq_true c4
      clear c4
      by_cases c6 : (bt a0 x6_1) < 97
      ·rw [if_pos c6] at H
       have c6b0 : decide ((bt a0 x6_1) < 97) = true:=decide_eq_true c6
       clear c6
       obtain rfl:=Option.some.inj H
       have p5 : 0 ≤ (x6_1 : Int):=of_decide_eq_true (by first | (with_reducible assumption) | assumption)
       have q5 : x6_1 < (a0.size : Int):=of_decide_eq_true (by first | (with_reducible assumption) | assumption)
       have hx5:=bt_at a0 x6_1
       replace p5:=eq_true p5
       replace q5:=eq_true q5
       go_wp2
       go_ret
       exact ⟨by first | rfl | (simp;done) | (simp [*];done),by repeat (first | exact Drawn0.refl _ | apply Drawn0.step)⟩
      ·rw [if_neg c6] at H
       have c6b0 : decide ((bt a0 x6_1) < 97) = false:=decide_eq_false c6
       clear c6
       by_cases c8 : (bt a0 x6_1) > 122
       ·rw [if_pos c8] at H
        have c8b0 : decide (122 < (bt a0 x6_1)) = true:=decide_eq_true c8
        clear c8
        obtain rfl:=Option.some.inj H
        have p5 : 0 ≤ (x6_1 : Int):=of_decide_eq_true (by first | (with_reducible assumption) | assumption)
        have q5 : x6_1 < (a0.size : Int):=of_decide_eq_true (by first | (with_reducible assumption) | assumption)
        have hx5:=bt_at a0 x6_1
        replace p5:=eq_true p5
        replace q5:=eq_true q5
        have p7 : 0 ≤ (x6_1 : Int):=of_decide_eq_true (by first | (with_reducible assumption) | assumption)
        have q7 : x6_1 < (a0.size : Int):=of_decide_eq_true (by first | (with_reducible assumption) | assumption)
        have hx7:=bt_at a0 x6_1
        replace p7:=eq_true p7
        replace q7:=eq_true q7
        go_wp2
        go_ret
        exact ⟨by first | rfl | (simp;done) | (simp [*];done),by repeat (first | exact Drawn0.refl _ | apply Drawn0.step)⟩
       ·rw [if_neg c8] at H
        have c8b0 : decide (122 < (bt a0 x6_1)) = false:=decide_eq_false c8
        clear c8
        have H':=a0_ H
        clear H
        have p5 : 0 ≤ (x6_1 : Int):=of_decide_eq_true (by first | (with_reducible assumption) | assumption)
        have q5 : x6_1 < (a0.size : Int):=of_decide_eq_true (by first | (with_reducible assumption) | assumption)
        have hx5:=bt_at a0 x6_1
        replace p5:=eq_true p5
        replace q5:=eq_true q5
        have p7 : 0 ≤ (x6_1 : Int):=of_decide_eq_true (by first | (with_reducible assumption) | assumption)
        have q7 : x6_1 < (a0.size : Int):=of_decide_eq_true (by first | (with_reducible assumption) | assumption)
        have hx7:=bt_at a0 x6_1
        replace p7:=eq_true p7
        replace q7:=eq_true q7
        go_wp2
        go_roundg k1
        case measure=>have:=HK1.out;omega
        case rel=>exact ⟨(wrap64 (x6_1 + 1)),(by first | rfl | (simp;done) | (simp [*];done)),H',⟨by have:=HK1.out;omega⟩,by repeat (first | exact Drawn0.refl _ | apply Drawn0.step)⟩
     ·rw [if_neg c4] at H
      exact absurd H (by simp)
    ·rw [if_neg c3] at H
     exact absurd H (by simp)
   ·rw [if_neg c2] at H
    have c2b0 : decide (x6_1 < (a0.size : Int)) = false:=decide_eq_false c2
    clear c2
    replace H:=Option.bind_eq_some_iff.mp H
    obtain ⟨t1,A90,H⟩:=H
    replace H : (some t1) = some r:=H
    have A9:=a0_ A90
    clear A90
    obtain rfl:=Option.some.inj H
    go_wp2_with (first | ((with_reducible refine gate_callee (f:=75) rfl ?_);refine goesL_ (some 22) rfl rfl Try.func75 (by kernel_rfl) rfl #[.int .i64 (a0.size : Int),.int .i64 1,.int .i64 6] rfl lm_ ?_;(with_reducible refine (impl_within.calls (a0.size : Int) 1 6 t1 _ A9.out).mono ?_);rintro e w' ⟨rfl,⟨nd,rfl⟩⟩;refine ⟨_,rfl,?_⟩))
    go_ret
    exact ⟨by first | rfl | (simp;done) | (simp [*];done),by repeat (first | exact Drawn0.refl _ | apply Drawn0.step)⟩
theorem impl_nameOk_l0 (s : ByteArray) (hs : s.size ≤ 9223372036854775807) (d : Nat) : ∀ (k : Nat) (i : Nat),i ≤ s.size → s.size - i = d → d < k → impl_nameOk.l0 k s (s.size : Int) (i : Int) = some ((s.data.toList.drop i).all (fun c=>decide (97 ≤ c.toNat) && decide (c.toNat ≤ 122)) && (decide (1 ≤ s.size) && decide (s.size ≤ 6))):=by
 induction d with
 | zero =>
  intro k i hi hd hk
  obtain ⟨k,rfl⟩ : ∃ m,k = m + 1:=⟨k - 1,by omega⟩
  simp only [impl_nameOk.l0]
  rw [if_neg (by omega)]
  have : s.data.toList.drop i = []:=by
   apply List.drop_eq_nil_of_le
   have : s.data.toList.length = s.size:=toL_len s
   omega
  rw [this]
  simp only [impl_within.f,List.all_nil,Bool.true_and]
  by_cases h1 : 1 ≤ s.size
  ·rw [if_pos (show (s.size : Int) ≥ 1 by omega)]
   by_cases h2 : s.size ≤ 6
   ·simp [h1,h2];omega
   ·simp [h2];omega
  ·rw [if_neg (show ¬ (s.size : Int) ≥ 1 by omega)];simp [h1]
 | succ d ih =>
  intro k i hi hd hk
  obtain ⟨k,rfl⟩ : ∃ m,k = m + 1:=⟨k - 1,by omega⟩
  have hlt : i < s.size:=by omega
  have hl : s.data.toList.length = s.size:=toL_len s
  simp only [impl_nameOk.l0]
  rw [if_pos (show (i : Int) < (s.size : Int) by omega),if_pos (show (0 : Int) ≤ (i : Int) by omega),if_pos (show (i : Int) < (s.size : Int) by omega),bt_getElem s i hlt]
  have hd2 : s.data.toList.drop i = s[i] :: s.data.toList.drop (i + 1):=by
   rw [List.drop_eq_getElem_cons (by omega)]
   congr 1
  rw [hd2,List.all_cons]
  by_cases h1 : (s[i].toNat : Int) < 97
  ·rw [if_pos h1];have : ¬ 97 ≤ s[i].toNat:=by omega
   simp [this]
  ·rw [if_neg h1]
   by_cases h2 : (s[i].toNat : Int) > 122
   ·rw [if_pos h2];have : ¬ s[i].toNat ≤ 122:=by omega
    simp [this]
   ·rw [if_neg h2,wrap_succ (n:=s.size) (by omega) (by omega) (by omega)]
    have:=ih k (i + 1) (by omega) (by omega) (by omega)
    rw [show ((i : Int) + 1) = ((i + 1 : Nat) : Int) by omega,this]
    have a : 97 ≤ s[i].toNat:=by omega
    have b : s[i].toNat ≤ 122:=by omega
    simp [a,b]
theorem impl_nameOk_ev (s : ByteArray) (hs : s.size ≤ 9223372036854775807) : impl_nameOk.f (s.size + 1) s = some (okName s):=by
 unfold impl_nameOk.f okName
 have:=impl_nameOk_l0 s hs s.size (s.size + 1) 0 (by omega) (by omega) (by omega)
 simpa using this
end Go.Proofs.Ytacgehaipacehaa.P
namespace Go.Proofs.Ytacgehaipacehaa.P
open Go.RowKit Go.Proofs.YtacgehaipacehaaW.PrintWords Go.Proofs.YtacgehaipacehaaW.PrintLast Go.Proofs.YtacgehaipacehaaW.PrintMore
attribute [local go_sem] max2_int min2_int max_two min_two max_three min_three max_four min_four
set_option linter.unusedVariables false
set_option linter.unusedSimpArgs false
def impl_ValidTree.f (l0_0 : List (S125)) : Option Bool:=if smT l0_0 = true then some (vT l0_0) else none
set_option maxHeartbeats 4000000 in
set_option maxRecDepth 100000 in
theorem impl_ValidTree.calls (A0_0 : Option Addr) (c0_0 : Nat) (l0_0 : List (S125)) (r : Bool) (w : World) (hr0_0 : Kd.C k125 w A0_0 l0_0.length l0_0) (hc0_0 : l0_0.length ≤ c0_0) (h : impl_ValidTree.f l0_0 = some r) :
  Calls Try.prog 54 #[.agg #[.slice A0_0 l0_0.length c0_0]] w fun e w'=>e = .returned (.bool r) ∧ Below w.heap.size w w':=by
 have hu31:=Try.underlying25
 have hsm : smT l0_0 = true:=by
  apply Classical.byContradiction
  intro hn
  rw [impl_ValidTree.f,if_neg hn] at h
  cases h
 rw [impl_ValidTree.f,if_pos hsm] at h
 have HRr:=a0_ (Option.some.inj h)
 have HSM:=a0_ hsm
 have HR:=a0_ hr0_0
 have hmax : l0_0.length ≤ 9223372036854775807:=hr0_0.2.1
 clear h hsm hr0_0
 go_enter Try.func54,Try.ntmps54
 go_wp2
 go_loopg [8] l0_0.length (fun gg s8 wr=>∃ kk : Nat,kk ≤ l0_0.length ∧ l0_0.length - kk ≤ gg ∧ s8 = .int .i64 kk ∧ Aside0 (Below w.heap.size w wr) ∧ Aside0 (wr.heap[w.heap.size]? = some (.cells #[.slice A0_0 l0_0.length c0_0] 25 (0,0))) ∧ Aside0 (∀ j,j < kk → okCls l0_0 j (l0_0.getD j z125) = true))
 case atStart=>exact ⟨0,Nat.zero_le _,by omega,rfl,⟨below1 w _⟩,⟨heap_new1 w _⟩,⟨fun j hj=>absurd hj (Nat.not_lt_zero _)⟩⟩
 case round =>
  obtain ⟨kk,hkk,hg,rfl,BW,BK,HA⟩:=hrel
  have hcz : wr.cell? ⟨w.heap.size,0,none⟩ = some (.slice A0_0 l0_0.length c0_0):=(blk_cell BK.out 0).trans rfl
  by_cases hlt : kk < l0_0.length
  ·have hltz : (kk : Int) < (l0_0.length : Int):=by omega
   obtain ⟨ad,ea,hx0,hx1⟩:=at_T125 HR.out (kk : Int) (by omega) (by omega)
   cases ea
   have hrd : rd_T125 l0_0 (kk : Int) = l0_0[kk]:=by simp [rd_T125,hlt]
   rw [hrd] at hx0 hx1
   rw [Int.toNat_natCast] at hx0 hx1
   replace hx0:=(BW.out.cell (World.block_lt_of_cell? w _ hx0)).trans hx0
   replace hx1:=(BW.out.cell (World.block_lt_of_cell? w _ hx1)).trans hx1
   clear hrd
   generalize hy : l0_0[kk] = y at hx0 hx1
   have B:=a0_ hy
   clear hy
   go_upto_region 4 with (fail)
   have hW1:=a0_ (below_alloc BW.out (.cells #[.string y.f0,.int .i64 y.f1] 125))
   have hW2:=a0_ (blk_alloc BK.out (.cells #[.string y.f0,.int .i64 y.f1] 125))
   have hW3:=(blk_cell hW2.out 0).trans rfl
   have hW4:=(blk_cell (heap_new1 wr (.cells #[.string y.f0,.int .i64 y.f1] 125)) 0).trans rfl
   have hW5:=(blk_cell (heap_new1 wr (.cells #[.string y.f0,.int .i64 y.f1] 125)) 1).trans rfl
   clear hcz hx0 hx1 BW BK
   generalize wr.alloc (.cells #[.string y.f0,.int .i64 y.f1] 125) = W1 at hW1 hW2 hW3 hW4 hW5 ⊢
   generalize wr.heap.size = gb at hW4 hW5 ⊢
   have hy1 : y.f0.size ≤ 9223372036854775806:=by rw [← B.out];exact smT_at HSM.out kk hlt
   have A1:=a0_ (impl_nameOk_ev y.f0 (by omega))
   have hcn0:=fun (W : World) (hW : Below w.heap.size w W)=>impl_Tree_named.calls (some ad) c0_0 l0_0 y.f0 (named l0_0 y.f0) W (Kd.C_below HR.out hW) hc0_0 rfl
   have hok : okCls l0_0 kk (l0_0.getD kk z125) = okCls l0_0 kk y:=by
    rw [← B.out];simp [List.getD,hlt]
   have hdef : okCls l0_0 kk y = (okName y.f0 && (decide (named l0_0 y.f0 = (kk : Int)) && (if kk = 0 then decide (y.f1 = -1) else decide (0 ≤ y.f1) && decide (y.f1 ≤ (kk : Int) - 1)))):=rfl
   generalize named l0_0 y.f0 = nn at hcn0 hdef
   have HCN:=a0_ hcn0
   have HOK:=a0_ hok
   have HDF:=a0_ hdef
   clear hcn0 hok hdef hy1
   go_cut [45] (fun v45 wc=>v45 = .bool (!okCls l0_0 kk y) ∧ Aside0 (Below w.heap.size w wc) ∧ Aside0 (wc.heap[w.heap.size]? = some (.cells #[.slice (some ad) l0_0.length c0_0] 25 (0,0))))
   case first =>
    have hw1 : IntKind.i64.wrap ((kk : Int) - 1) = (kk : Int) - 1:=by rw [IntKind.wrap_i64];omega
    have A2:=a0_ (show impl_within.f y.f1 0 ((kk : Int) - 1) = some (decide (0 ≤ y.f1) && decide (y.f1 ≤ (kk : Int) - 1)) by
     unfold impl_within.f
     by_cases h0 : 0 ≤ y.f1
     ·rw [if_pos h0];simp [h0]
     ·rw [if_neg h0];simp [h0])
    cases hb1 : okName y.f0 with
    | false =>
     rw [hb1] at A1
     have BV : okCls l0_0 kk y = false:=by rw [HDF.out,hb1];rfl
     clear HDF HOK
     go_wp2_with (first
     | (go_at_call 112;(with_reducible refine (impl_nameOk.calls _ y.f0 _ _ A1.out).mono ?_);rintro e w' ⟨rfl,hd⟩;have hb:=drawn_below hd;replace hW3:=pw_cell_below hb hW3;replace hW4:=pw_cell_below hb hW4;replace hW5:=pw_cell_below hb hW5;replace hW1:=a0_ (below_step hW1.out hb);replace hW2:=a0_ (blk_keptB hW2.out hb);clear hb hd)
     | (go_at_call 92;(with_reducible refine (HCN.out _ hW1.out).mono ?_);rintro e w' ⟨rfl,hb⟩;replace hW3:=pw_cell_below hb hW3;replace hW4:=pw_cell_below hb hW4;replace hW5:=pw_cell_below hb hW5;replace hW1:=a0_ (below_step hW1.out hb);replace hW2:=a0_ (blk_keptB hW2.out hb);clear hb)
     | (go_at_call 75;(with_reducible refine (impl_within.calls y.f1 0 ((kk : Int) - 1) _ _ A2.out).mono ?_);rintro e w' ⟨rfl,hd⟩;have hb:=drawn_below hd;replace hW3:=pw_cell_below hb hW3;replace hW4:=pw_cell_below hb hW4;replace hW5:=pw_cell_below hb hW5;replace hW1:=a0_ (below_step hW1.out hb);replace hW2:=a0_ (blk_keptB hW2.out hb);clear hb hd))
     go_meet
     case rel=>exact ⟨by (rw [BV]);first | rfl | (simp [*];done),⟨hW1.out⟩,⟨hW2.out⟩⟩
    | true =>
     rw [hb1] at A1
     by_cases hb2 : nn ≠ (kk : Int)
     ·have BV : okCls l0_0 kk y = false:=by rw [HDF.out,hb1,decide_eq_false hb2];rfl
      have d2 : (nn != (kk : Int)) = true:=bne_iff_ne.2 hb2
      have d2' : (nn == (kk : Int)) = false:=beq_eq_false_iff_ne.2 hb2
      clear HDF HOK hb2
      go_wp2_with (first
     | (go_at_call 112;(with_reducible refine (impl_nameOk.calls _ y.f0 _ _ A1.out).mono ?_);rintro e w' ⟨rfl,hd⟩;have hb:=drawn_below hd;replace hW3:=pw_cell_below hb hW3;replace hW4:=pw_cell_below hb hW4;replace hW5:=pw_cell_below hb hW5;replace hW1:=a0_ (below_step hW1.out hb);replace hW2:=a0_ (blk_keptB hW2.out hb);clear hb hd)
     | (go_at_call 92;(with_reducible refine (HCN.out _ hW1.out).mono ?_);rintro e w' ⟨rfl,hb⟩;replace hW3:=pw_cell_below hb hW3;replace hW4:=pw_cell_below hb hW4;replace hW5:=pw_cell_below hb hW5;replace hW1:=a0_ (below_step hW1.out hb);replace hW2:=a0_ (blk_keptB hW2.out hb);clear hb)
     | (go_at_call 75;(with_reducible refine (impl_within.calls y.f1 0 ((kk : Int) - 1) _ _ A2.out).mono ?_);rintro e w' ⟨rfl,hd⟩;have hb:=drawn_below hd;replace hW3:=pw_cell_below hb hW3;replace hW4:=pw_cell_below hb hW4;replace hW5:=pw_cell_below hb hW5;replace hW1:=a0_ (below_step hW1.out hb);replace hW2:=a0_ (blk_keptB hW2.out hb);clear hb hd))
      go_meet
      case rel=>exact ⟨by (rw [BV]);first | rfl | (simp [*];done),⟨hW1.out⟩,⟨hW2.out⟩⟩
     ·have hnm : nn = (kk : Int):=Classical.byContradiction fun hn=>hb2 hn
      have d2 : (nn != (kk : Int)) = false:=bne_eq_false_iff_eq.2 hnm
      have d2' : (nn == (kk : Int)) = true:=beq_iff_eq.2 hnm
      have BV0 : okCls l0_0 kk y = (if kk = 0 then decide (y.f1 = -1) else decide (0 ≤ y.f1) && decide (y.f1 ≤ (kk : Int) - 1)):=by rw [HDF.out,hb1,decide_eq_true hnm];rfl
      clear HDF HOK hb2 hnm
      by_cases hk0 : kk = 0
      ·have BV : okCls l0_0 kk y = decide (y.f1 = -1):=by rw [BV0,if_pos hk0]
       have e0 : ((kk : Int) == 0) = true:=beq_iff_eq.2 (by omega)
       have e1 : decide (0 < (kk : Int)) = false:=decide_eq_false (by omega)
       have e1n : decide (0 < kk) = false:=decide_eq_false (by omega)
       clear BV0
       by_cases hp : y.f1 = -1
       ·have e2 : (y.f1 != -1) = false:=by rw [hp];rfl
        have e3 : (y.f1 == -1) = true:=by rw [hp];rfl
        rw [decide_eq_true hp] at BV
        clear hp hk0
        go_wp2_with (first
     | (go_at_call 112;(with_reducible refine (impl_nameOk.calls _ y.f0 _ _ A1.out).mono ?_);rintro e w' ⟨rfl,hd⟩;have hb:=drawn_below hd;replace hW3:=pw_cell_below hb hW3;replace hW4:=pw_cell_below hb hW4;replace hW5:=pw_cell_below hb hW5;replace hW1:=a0_ (below_step hW1.out hb);replace hW2:=a0_ (blk_keptB hW2.out hb);clear hb hd)
     | (go_at_call 92;(with_reducible refine (HCN.out _ hW1.out).mono ?_);rintro e w' ⟨rfl,hb⟩;replace hW3:=pw_cell_below hb hW3;replace hW4:=pw_cell_below hb hW4;replace hW5:=pw_cell_below hb hW5;replace hW1:=a0_ (below_step hW1.out hb);replace hW2:=a0_ (blk_keptB hW2.out hb);clear hb)
     | (go_at_call 75;(with_reducible refine (impl_within.calls y.f1 0 ((kk : Int) - 1) _ _ A2.out).mono ?_);rintro e w' ⟨rfl,hd⟩;have hb:=drawn_below hd;replace hW3:=pw_cell_below hb hW3;replace hW4:=pw_cell_below hb hW4;replace hW5:=pw_cell_below hb hW5;replace hW1:=a0_ (below_step hW1.out hb);replace hW2:=a0_ (blk_keptB hW2.out hb);clear hb hd))
        go_meet
        case rel=>exact ⟨by (rw [BV]);first | rfl | (simp [*];done),⟨hW1.out⟩,⟨hW2.out⟩⟩
       ·have e2 : (y.f1 != -1) = true:=bne_iff_ne.2 hp
        have e3 : (y.f1 == -1) = false:=beq_eq_false_iff_ne.2 hp
        rw [decide_eq_false hp] at BV
        clear hp hk0
        go_wp2_with (first
     | (go_at_call 112;(with_reducible refine (impl_nameOk.calls _ y.f0 _ _ A1.out).mono ?_);rintro e w' ⟨rfl,hd⟩;have hb:=drawn_below hd;replace hW3:=pw_cell_below hb hW3;replace hW4:=pw_cell_below hb hW4;replace hW5:=pw_cell_below hb hW5;replace hW1:=a0_ (below_step hW1.out hb);replace hW2:=a0_ (blk_keptB hW2.out hb);clear hb hd)
     | (go_at_call 92;(with_reducible refine (HCN.out _ hW1.out).mono ?_);rintro e w' ⟨rfl,hb⟩;replace hW3:=pw_cell_below hb hW3;replace hW4:=pw_cell_below hb hW4;replace hW5:=pw_cell_below hb hW5;replace hW1:=a0_ (below_step hW1.out hb);replace hW2:=a0_ (blk_keptB hW2.out hb);clear hb)
     | (go_at_call 75;(with_reducible refine (impl_within.calls y.f1 0 ((kk : Int) - 1) _ _ A2.out).mono ?_);rintro e w' ⟨rfl,hd⟩;have hb:=drawn_below hd;replace hW3:=pw_cell_below hb hW3;replace hW4:=pw_cell_below hb hW4;replace hW5:=pw_cell_below hb hW5;replace hW1:=a0_ (below_step hW1.out hb);replace hW2:=a0_ (blk_keptB hW2.out hb);clear hb hd))
        go_meet
        case rel=>exact ⟨by (rw [BV]);first | rfl | (simp [*];done),⟨hW1.out⟩,⟨hW2.out⟩⟩
      ·have BV : okCls l0_0 kk y = (decide (0 ≤ y.f1) && decide (y.f1 ≤ (kk : Int) - 1)):=by rw [BV0,if_neg hk0]
       have e0 : ((kk : Int) == 0) = false:=beq_eq_false_iff_ne.2 (by omega)
       have e1 : decide (0 < (kk : Int)) = true:=decide_eq_true (by omega)
       have e1n : decide (0 < kk) = true:=decide_eq_true (by omega)
       rw [← BV] at A2
       clear BV BV0 hk0
       cases BV : okCls l0_0 kk y with
       | false =>
        rw [BV] at A2
        go_wp2_with (first
     | (go_at_call 112;(with_reducible refine (impl_nameOk.calls _ y.f0 _ _ A1.out).mono ?_);rintro e w' ⟨rfl,hd⟩;have hb:=drawn_below hd;replace hW3:=pw_cell_below hb hW3;replace hW4:=pw_cell_below hb hW4;replace hW5:=pw_cell_below hb hW5;replace hW1:=a0_ (below_step hW1.out hb);replace hW2:=a0_ (blk_keptB hW2.out hb);clear hb hd)
     | (go_at_call 92;(with_reducible refine (HCN.out _ hW1.out).mono ?_);rintro e w' ⟨rfl,hb⟩;replace hW3:=pw_cell_below hb hW3;replace hW4:=pw_cell_below hb hW4;replace hW5:=pw_cell_below hb hW5;replace hW1:=a0_ (below_step hW1.out hb);replace hW2:=a0_ (blk_keptB hW2.out hb);clear hb)
     | (go_at_call 75;(with_reducible refine (impl_within.calls y.f1 0 ((kk : Int) - 1) _ _ A2.out).mono ?_);rintro e w' ⟨rfl,hd⟩;have hb:=drawn_below hd;replace hW3:=pw_cell_below hb hW3;replace hW4:=pw_cell_below hb hW4;replace hW5:=pw_cell_below hb hW5;replace hW1:=a0_ (below_step hW1.out hb);replace hW2:=a0_ (blk_keptB hW2.out hb);clear hb hd))
        go_meet
        case rel=>exact ⟨by (rw [BV]);first | rfl | (simp [*];done),⟨hW1.out⟩,⟨hW2.out⟩⟩
       | true =>
        rw [BV] at A2
        go_wp2_with (first
     | (go_at_call 112;(with_reducible refine (impl_nameOk.calls _ y.f0 _ _ A1.out).mono ?_);rintro e w' ⟨rfl,hd⟩;have hb:=drawn_below hd;replace hW3:=pw_cell_below hb hW3;replace hW4:=pw_cell_below hb hW4;replace hW5:=pw_cell_below hb hW5;replace hW1:=a0_ (below_step hW1.out hb);replace hW2:=a0_ (blk_keptB hW2.out hb);clear hb hd)
     | (go_at_call 92;(with_reducible refine (HCN.out _ hW1.out).mono ?_);rintro e w' ⟨rfl,hb⟩;replace hW3:=pw_cell_below hb hW3;replace hW4:=pw_cell_below hb hW4;replace hW5:=pw_cell_below hb hW5;replace hW1:=a0_ (below_step hW1.out hb);replace hW2:=a0_ (blk_keptB hW2.out hb);clear hb)
     | (go_at_call 75;(with_reducible refine (impl_within.calls y.f1 0 ((kk : Int) - 1) _ _ A2.out).mono ?_);rintro e w' ⟨rfl,hd⟩;have hb:=drawn_below hd;replace hW3:=pw_cell_below hb hW3;replace hW4:=pw_cell_below hb hW4;replace hW5:=pw_cell_below hb hW5;replace hW1:=a0_ (below_step hW1.out hb);replace hW2:=a0_ (blk_keptB hW2.out hb);clear hb hd))
        go_meet
        case rel=>exact ⟨by (rw [BV]);first | rfl | (simp [*];done),⟨hW1.out⟩,⟨hW2.out⟩⟩
   case rest =>
    obtain ⟨rfl,hW,hK⟩:=hcut
    have hb:=HOK.out
    cases BV : okCls l0_0 kk y with
    | false =>
     go_wp2
     go_ret
     refine ⟨?_,hW.out⟩
     rw [← HRr.out]
     have : vT l0_0 = false:=by
      cases hv : vT l0_0 with
      | false=>rfl
      | true=>have:=vT_at hv kk hlt;rw [HOK.out,BV] at this;cases this
     rw [this];rfl
    | true =>
     go_wp2
     go_roundg (l0_0.length - (kk + 1))
     case measure=>omega
     case rel =>
      refine ⟨kk + 1,by omega,by omega,by go_num,⟨hW.out⟩,⟨hK.out⟩,⟨fun j hj=>?_⟩⟩
      by_cases e : j = kk
      ·subst e;rw [HOK.out,BV]
      ·exact HA.out j (by omega)
  ·have hltz : ¬ (kk : Int) < (l0_0.length : Int):=by omega
   have : kk = l0_0.length:=by omega
   subst this
   have A3:=a0_ (show impl_within.f (l0_0.length : Int) 1 8 = some (vT l0_0) by
    have hall : (List.range l0_0.length).all (fun i=>okCls l0_0 i (l0_0.getD i z125)) = true:=by
     rw [List.all_eq_true];intro i hi;exact HA.out i (by simpa using hi)
    unfold impl_within.f vT
    rw [hall]
    by_cases h1 : (1 : Int) ≤ l0_0.length
    ·rw [if_pos h1]
     have h1' : 1 ≤ l0_0.length:=by omega
     by_cases h8 : l0_0.length ≤ 8
     ·simp [h1',h8];omega
     ·simp [h8];omega
    ·rw [if_neg h1]
     have h1' : ¬ 1 ≤ l0_0.length:=by omega
     simp [h1'])
   rw [HRr.out] at A3
   go_wp2_with (go_at_call 75;(with_reducible refine (impl_within.calls (l0_0.length : Int) 1 8 _ _ A3.out).mono ?_);rintro e w' ⟨rfl,⟨nd,rfl⟩⟩)
   go_ret
   exact ⟨rfl,pw_below_drewN BW.out _⟩
end Go.Proofs.Ytacgehaipacehaa.P
namespace Go.Proofs.Ytacgehaipacehaa.P
open Go.RowKit Go.Proofs.YtacgehaipacehaaW.PrintWords Go.Proofs.YtacgehaipacehaaW.PrintLast Go.Proofs.YtacgehaipacehaaW.PrintMore
attribute [local go_sem] max2_int min2_int max_two min_two max_three min_three max_four min_four
set_option linter.unusedVariables false
set_option linter.unusedSimpArgs false
def impl_Tree_has.f (l0_0 : List (S125)) (a1 : Int) : Option (Bool):=(impl_within.f a1 0 (wrap64 ((l0_0.length : Int) - 1))).bind fun t2=>(some t2)
set_option maxHeartbeats 8000000 in
set_option maxRecDepth 100000 in
theorem impl_Tree_has.calls (A0_0 : Option Addr) (c0_0 : Nat) (l0_0 : List (S125)) (a1 : Int) (r : Bool) (w : World) (hr0_0 : Kd.C k125 w A0_0 l0_0.length l0_0) (hc0_0 : l0_0.length ≤ c0_0) (h : impl_Tree_has.f l0_0 a1 = some r) :
  Calls Try.prog 63 #[.agg #[.slice A0_0 l0_0.length c0_0],.int .i64 a1] w fun e w'=>e = .returned (.bool r) ∧ Below w.heap.size w w':=by
 have hu25:=Try.underlying25
 have HR0_0:=a0_ hr0_0
 have HC0_0:=a0_ hc0_0
 clear hr0_0 hc0_0
 have HB:=a0_ (Below.refl w.heap.size w)
 have H : ((impl_within.f a1 0 (wrap64 ((l0_0.length : Int) - 1))).bind fun t2=>(some t2)) = some r:=h
 clear h
 replace H:=Option.bind_eq_some_iff.mp H
 obtain ⟨t2,A30,H⟩:=H
 replace H : (some t2) = some r:=H
 have A3:=a0_ A30
 clear A30
 obtain rfl:=Option.some.inj H
 go_enter Try.func63,Try.ntmps63
 go_wp2_with (first | ((with_reducible refine gate_dst (N:=2) rfl ?_);refine box_event ?hg (N:=2) ?hd (cs:=#[.slice A0_0 l0_0.length c0_0]) (t:=25) ?hr ?_;(case hd=>rfl);(case hg=>rfl);(case hr=>first | (go_simp;done) | (go_simp;rfl));intro gb1 hg w4 hbox hb;have BK1:=a0_ (hbox);have GW1:=a0_ ((by rw [hg];exact (below_size hbw_) : w.heap.size ≤ gb1));have GE1:=a0_ ((by rw [hg];exact (below_size hbw_) : w.heap.size ≤ gb1));replace HB:=a0_ (below_step hbw_ hb);clear hb hbox hg;have hcz5_0 : w4.cell? ⟨gb1,0,none⟩ = some (.slice A0_0 l0_0.length c0_0):=(blk_cell BK1.out 0).trans rfl;have hfz5_0:=blk_frozen BK1.out 0) | ((with_reducible refine gate_callee (f:=75) rfl ?_);refine goesL_ (some 10) rfl rfl Try.func75 (by kernel_rfl) rfl #[.int .i64 a1,.int .i64 0,.int .i64 (wrap64 ((l0_0.length : Int) - 1))] rfl lm_ ?_;(with_reducible refine (impl_within.calls a1 0 (wrap64 ((l0_0.length : Int) - 1)) t2 _ A3.out).mono ?_);rintro e w' ⟨rfl,⟨nd,rfl⟩⟩;refine ⟨_,rfl,?_⟩))
 go_ret
 exact ⟨by first | rfl | (simp [errW_none,errW_some] <;> rfl) | (simp [*,errW_none,errW_some] <;> rfl),hbw_⟩
theorem impl_Tree_has_ev (t : List Cls) (a : Int) (hl : t.length ≤ 9223372036854775807) : impl_Tree_has.f t a = some (hasC t a):=by
 unfold impl_Tree_has.f impl_within.f hasC
 rw [wrap_pred (by omega) (by omega)]
 by_cases h0 : a ≥ 0
 ·rw [if_pos h0]
  have h0' : 0 ≤ a:=h0
  simp only [Option.bind_some,Option.some.injEq,decide_eq_true h0',Bool.true_and]
  by_cases h1 : a < (t.length : Int)
  ·rw [decide_eq_true h1,decide_eq_true (by omega)]
  ·rw [decide_eq_false h1,decide_eq_false (by omega)]
 ·rw [if_neg h0]
  have h0' : ¬ 0 ≤ a:=h0
  simp [decide_eq_false h0']
end Go.Proofs.Ytacgehaipacehaa.P
namespace Go.Proofs.Ytacgehaipacehaa.P
open Go.RowKit Go.Proofs.YtacgehaipacehaaW.PrintWords Go.Proofs.YtacgehaipacehaaW.PrintLast Go.Proofs.YtacgehaipacehaaW.PrintMore
attribute [local go_sem] max2_int min2_int max_two min_two max_three min_three max_four min_four
set_option linter.unusedVariables false
set_option linter.unusedSimpArgs false
def impl_codeOk.f (a0 : Int) : Option (Bool):=(impl_within.f a0 0 99).bind fun t1=>(some t1)
set_option maxHeartbeats 8000000 in
set_option maxRecDepth 100000 in
theorem impl_codeOk.calls (a0 : Int) (r : Bool) (w : World) (h : impl_codeOk.f a0 = some r) :
  Calls Try.prog 140 #[.int .i64 a0] w fun e w'=>e = .returned (.bool r) ∧ Drawn0 w w':=by
 have H : ((impl_within.f a0 0 99).bind fun t1=>(some t1)) = some r:=h
 clear h
 replace H:=Option.bind_eq_some_iff.mp H
 obtain ⟨t1,A20,H⟩:=H
 replace H : (some t1) = some r:=H
 have A2:=a0_ A20
 clear A20
 obtain rfl:=Option.some.inj H
 go_enter Try.func140,Try.ntmps140
 go_wp2_with (first | ((with_reducible refine gate_callee (f:=75) rfl ?_);refine goesL_ (some 4) rfl rfl Try.func75 (by kernel_rfl) rfl #[.int .i64 a0,.int .i64 0,.int .i64 99] rfl lm_ ?_;(with_reducible refine (impl_within.calls a0 0 99 t1 _ A2.out).mono ?_);rintro e w' ⟨rfl,⟨nd,rfl⟩⟩;refine ⟨_,rfl,?_⟩))
 go_ret
 exact ⟨by first | rfl | (simp;done) | (simp [*];done),by repeat (first | exact Drawn0.refl _ | apply Drawn0.step)⟩
theorem impl_codeOk_ev (a : Int) : impl_codeOk.f a = some (decide (0 ≤ a) && decide (a ≤ 99)):=by
 unfold impl_codeOk.f
 rw [impl_within_ev]
 rfl
end Go.Proofs.Ytacgehaipacehaa.P
namespace Go.Proofs.Ytacgehaipacehaa.P
open Go.RowKit Go.Proofs.YtacgehaipacehaaW.PrintWords Go.Proofs.YtacgehaipacehaaW.PrintLast Go.Proofs.YtacgehaipacehaaW.PrintMore
attribute [local go_sem] max2_int min2_int max_two min_two max_three min_three max_four min_four
set_option linter.unusedVariables false
set_option linter.unusedSimpArgs false
def impl_Line_argued.j0 : Nat → Int → Bool → Int → Int → Int → Int → List (S125) → Option (Bool)
 | 0,_,_,_,_,_,_,_=>none
 | k + 1,x6,x7,x2000,x2001,x2002,x2003,x3000=>if x7 = true then ((impl_codeOk.f x2002).bind fun t3=>(if t3 = true then (some (x2003 == 0)) else (some false))) else (if x6 = 2 then ((impl_Tree_has.f x3000 x2002).bind fun t4=>(if t4 = true then ((impl_codeOk.f x2003).bind fun t5=>(some t5)) else (some false))) else (if x6 = 8 then ((impl_Tree_has.f x3000 x2002).bind fun t6=>(if t6 = true then (some (x2003 == 0)) else (some false))) else (if x6 = 11 then ((impl_within.f x2002 0 9).bind fun t7=>(if t7 = true then ((impl_within.f x2003 0 1).bind fun t8=>(some t8)) else (some false))) else (if x6 = 12 then ((impl_within.f x2002 0 3).bind fun t9=>(if t9 = true then (some (x2003 == 0)) else (some false))) else ((impl_within.f x2001 0 12).bind fun t10=>(if t10 = true then (if x2002 = 0 then (some (x2003 == 0)) else (some false)) else (some false)))))))
def impl_Line_argued.f (k : Nat) (a0_0 : Int) (a0_1 : Int) (a0_2 : Int) (a0_3 : Int) (l1_0 : List (S125)) : Option (Bool):=if a0_1 = 1 then (impl_Line_argued.j0 k a0_1 (a0_1 == 1) a0_0 a0_1 a0_2 a0_3 l1_0) else (impl_Line_argued.j0 k a0_1 (a0_1 == 4) a0_0 a0_1 a0_2 a0_3 l1_0)
theorem impl_Line_argued.mono_l : ∀ k,(∀ y0 y1 y2 y3 y4 y5 y6,LeO (impl_Line_argued.j0 k y0 y1 y2 y3 y4 y5 y6) (impl_Line_argued.j0 (k + 1) y0 y1 y2 y3 y4 y5 y6))
 | 0=>fun _ _ _ _ _ _ _ r h=>by simp [impl_Line_argued.j0] at h
 | k + 1=>by
  have ih0:=impl_Line_argued.mono_l k
  ·intro y0 y1 y2 y3 y4 y5 y6
   unfold impl_Line_argued.j0
   repeat' first
   | (with_reducible exact ih0 _ _ _ _ _ _ _)
   | (with_reducible exact LeO.refl _)
   | (with_reducible exact LeO.none _)
   | (with_reducible refine LeO.ite ?_ ?_)
   | (with_reducible refine LeO.bind ?_ (fun _=>?_))
   | exact ih0 _ _ _ _ _ _ _
   | exact LeO.none _
   | refine LeO.ite ?_ ?_
   | refine LeO.bind ?_ (fun _=>?_)
theorem impl_Line_argued.mono : ∀ a0 a1 a2 a3 a4 k,LeO (impl_Line_argued.f k a0 a1 a2 a3 a4) (impl_Line_argued.f (k + 1) a0 a1 a2 a3 a4):=by
 intro a0 a1 a2 a3 a4 k
 have ih0:=impl_Line_argued.mono_l k
 unfold impl_Line_argued.f
 repeat' first
   | (with_reducible exact ih0 _ _ _ _ _ _ _)
   | (with_reducible exact LeO.refl _)
   | (with_reducible exact LeO.none _)
   | (with_reducible refine LeO.ite ?_ ?_)
   | (with_reducible refine LeO.bind ?_ (fun _=>?_))
   | exact ih0 _ _ _ _ _ _ _
   | exact LeO.none _
   | refine LeO.ite ?_ ?_
   | refine LeO.bind ?_ (fun _=>?_)
set_option maxHeartbeats 8000000 in
set_option maxRecDepth 100000 in
theorem impl_Line_argued.calls (k : Nat) (a0_0 : Int) (a0_1 : Int) (a0_2 : Int) (a0_3 : Int) (A1_0 : Option Addr) (c1_0 : Nat) (l1_0 : List (S125)) (r : Bool) (w : World) (hr1_0 : Kd.C k125 w A1_0 l1_0.length l1_0) (hc1_0 : l1_0.length ≤ c1_0) (h : impl_Line_argued.f k a0_0 a0_1 a0_2 a0_3 l1_0 = some r) :
  Calls Try.prog 98 #[.agg #[.int .i64 a0_0,.int .i64 a0_1,.int .i64 a0_2,.int .i64 a0_3],.agg #[.slice A1_0 l1_0.length c1_0]] w fun e w'=>e = .returned (.bool r) ∧ Below w.heap.size w w':=by
 have hu75:=Try.underlying75
 have hu25:=Try.underlying25
 have HR1_0:=a0_ hr1_0
 have HC1_0:=a0_ hc1_0
 clear hr1_0 hc1_0
 have HB:=a0_ (Below.refl w.heap.size w)
 have H : (if a0_1 = 1 then (impl_Line_argued.j0 k a0_1 (a0_1 == 1) a0_0 a0_1 a0_2 a0_3 l1_0) else (impl_Line_argued.j0 k a0_1 (a0_1 == 4) a0_0 a0_1 a0_2 a0_3 l1_0)) = some r:=h
 clear h
 have HC3:=a0_ H
 clear H
 go_enter Try.func98,Try.ntmps98
 go_upto_if 7 with (first | ((with_reducible refine gate_dst (N:=2) rfl ?_);refine box_event ?hg (N:=2) ?hd (cs:=#[.int .i64 a0_0,.int .i64 a0_1,.int .i64 a0_2,.int .i64 a0_3]) (t:=75) ?hr ?_;(case hd=>rfl);(case hg=>rfl);(case hr=>first | (go_simp;done) | (go_simp;rfl));intro gb1 hg w4 hbox hb;have BK1:=a0_ (hbox);have GW1:=a0_ ((by rw [hg];exact (below_size hbw_) : w.heap.size ≤ gb1));have GE1:=a0_ ((by rw [hg];exact (below_size hbw_) : w.heap.size ≤ gb1));replace HB:=a0_ (below_step hbw_ hb);clear hb hbox hg) | ((with_reducible refine gate_dst (N:=3) rfl ?_);refine box_event ?hg (N:=3) ?hd (cs:=#[.slice A1_0 l1_0.length c1_0]) (t:=25) ?hr ?_;(case hd=>rfl);(case hg=>rfl);(case hr=>first | (go_simp;done) | (go_simp;rfl));intro gb2 hg w5 hbox hb;have n0_:=kb_ BK1 hb;have n1_:=a0_ (below_step hbw_ hb);have n2_:=a0_ (hbox);have n3_:=a0_ ((by rw [hg];exact (below_size hbw_) : w.heap.size ≤ gb2));have n4_:=a0_ ((by rw [hg];exact (below_size hbw_) : w.heap.size ≤ gb2));have n5_:=a0_ ((by rw [hg];exact Nat.ne_of_lt (blk_lt (bb_ BK1.out)) : gb1 ≠ gb2));have n6_:=a0_ ((by rw [hg];exact Nat.ne_of_gt (blk_lt (bb_ BK1.out)) : gb2 ≠ gb1));clear BK1 HB;have BK1:=n0_;have HB:=n1_;have BK2:=n2_;have GW2:=n3_;have GE2:=n4_;have NB1_2:=n5_;have NB2_1:=n6_;clear n0_ n1_ n2_ n3_ n4_ n5_ n6_;clear hb hbox hg;have hnb6:=NB1_2.out;have hnc6:=NB2_1.out;have hcz7_0 : w5.cell? ⟨gb1,0,none⟩ = some (.int .i64 a0_0):=(blk_cell BK1.out 0).trans rfl;have hcz7_1 : w5.cell? ⟨gb1,1,none⟩ = some (.int .i64 a0_1):=(blk_cell BK1.out 1).trans rfl;have hcz7_2 : w5.cell? ⟨gb1,2,none⟩ = some (.int .i64 a0_2):=(blk_cell BK1.out 2).trans rfl;have hcz7_3 : w5.cell? ⟨gb1,3,none⟩ = some (.int .i64 a0_3):=(blk_cell BK1.out 3).trans rfl;have hfz7_0:=blk_frozen BK1.out 0;have hfz7_1:=blk_frozen BK1.out 1;have hfz7_2:=blk_frozen BK1.out 2;have hfz7_3:=blk_frozen BK1.out 3))
 (try simp only [Act.put,s1_,s2_,s3_])
 go_cut [7] (fun v7 wc=>∃ (kq : Nat) (x7_2 : Bool),v7 = .bool x7_2 ∧ Aside0 (impl_Line_argued.j0 kq a0_1 x7_2 a0_0 a0_1 a0_2 a0_3 l1_0 = some r) ∧ Aside0 (kq ≤ k) ∧ Aside0 (wc.heap[gb1]? = some (.cells #[.int .i64 a0_0,.int .i64 a0_1,.int .i64 a0_2,.int .i64 a0_3] 75 (0,0))) ∧ Aside0 (wc.heap[gb2]? = some (.cells #[(.slice A1_0 l1_0.length c1_0)] 25 (0,0))) ∧ Aside0 (Below w.heap.size w wc))
 case first =>
  have H:=HC3.out
  clear HC3
  by_cases c8 : a0_1 = 1
  ·rw [if_pos c8] at H
   have c8b0 : (a0_1 == 1) = true:=beq_iff_eq.mpr c8
   have c8b1 : (a0_1 != 1) = false:=bne_eq_false_iff_eq.mpr c8
   clear c8
   (first | rw [c8b0] | (simp only [i64_w,i32_w];rw [c8b0]) | skip)
   have H':=a0_ H
   clear H
   go_wp2
   go_meet
   case rel=>exact ⟨_,((a0_1 == 1)),(by first | rfl | (simp;done) | (simp [*];done)),H',⟨by first | omega | exact Nat.le_refl _⟩,⟨by (with_reducible repeat (first | refine blk_drewN ?_ _ | refine blk_drew ?_ | refine blk_alloc ?_ _));exact BK1.out⟩,⟨by (with_reducible repeat (first | refine blk_drewN ?_ _ | refine blk_drew ?_ | refine blk_alloc ?_ _));exact BK2.out⟩,⟨hbw_⟩⟩
  ·rw [if_neg c8] at H
   have c8b0 : (a0_1 == 1) = false:=beq_eq_false_iff_ne.mpr c8
   have c8b1 : (a0_1 != 1) = true:=bne_iff_ne.mpr c8
   (first | rw [c8b0] | (simp only [i64_w,i32_w];rw [c8b0]) | skip)
   have H':=a0_ H
   clear H
   go_wp2
   go_meet
   case rel=>exact ⟨_,((a0_1 == 4)),(by first | rfl | (simp;done) | (simp [*];done)),H',⟨by first | omega | exact Nat.le_refl _⟩,⟨by (with_reducible repeat (first | refine blk_drewN ?_ _ | refine blk_drew ?_ | refine blk_alloc ?_ _));exact BK1.out⟩,⟨by (with_reducible repeat (first | refine blk_drewN ?_ _ | refine blk_drew ?_ | refine blk_alloc ?_ _));exact BK2.out⟩,⟨hbw_⟩⟩
 case rest =>
  clear HC3
  try clear c1
  try clear p2
  try clear c6
  try clear c8
  try clear c8b0
  try clear c8b1
  try clear hcz7_0
  try clear hcz7_1
  try clear hcz7_2
  try clear hcz7_3
  try clear hfz7_0
  try clear hfz7_1
  try clear hfz7_2
  try clear hfz7_3
  obtain ⟨kq,x7_2,rfl,HA,HJ2,BK1,BK2,HB⟩:=hcut
  cases kq with
  | zero=>exact absurd HA.out (by simp [impl_Line_argued.j0])
  | succ kj2 =>
   have H:=HA.out
   clear HA
   simp only [impl_Line_argued.j0] at H
   by_cases c9 : x7_2 = true
   ·subst c9
    have H1 : ((impl_codeOk.f a0_2).bind fun t3=>(if t3 = true then (some (a0_3 == 0)) else (some false))) = some r:=by rw [if_pos rfl] at H;exact H
    clear H
    have H:=H1
    clear H1
    replace H:=Option.bind_eq_some_iff.mp H
    obtain ⟨t3,A100,H⟩:=H
    try dsimp only at H
    have A10:=a0_ A100
    clear A100
    by_cases c11 : t3 = true
    ·subst c11
     have H1 : (some (a0_3 == 0)) = some r:=by rw [if_pos rfl] at H;exact H
     clear H
     have H:=H1
     clear H1
     obtain rfl:=Option.some.inj H
     have hnb12:=NB1_2.out
     have hnc12:=NB2_1.out
     have hcz13_0 : wc.cell? ⟨gb1,0,none⟩ = some (.int .i64 a0_0):=(blk_cell BK1.out 0).trans rfl
     have hcz13_1 : wc.cell? ⟨gb1,1,none⟩ = some (.int .i64 a0_1):=(blk_cell BK1.out 1).trans rfl
     have hcz13_2 : wc.cell? ⟨gb1,2,none⟩ = some (.int .i64 a0_2):=(blk_cell BK1.out 2).trans rfl
     have hcz13_3 : wc.cell? ⟨gb1,3,none⟩ = some (.int .i64 a0_3):=(blk_cell BK1.out 3).trans rfl
     have hfz13_0:=blk_frozen BK1.out 0
     have hfz13_1:=blk_frozen BK1.out 1
     have hfz13_2:=blk_frozen BK1.out 2
     have hfz13_3:=blk_frozen BK1.out 3
     go_wp2_with (first | ((with_reducible refine gate_callee (f:=140) rfl ?_);refine goesL_ (some 12) rfl rfl Try.func140 (by kernel_rfl) rfl #[.int .i64 a0_2] rfl lm_ ?_;(with_reducible refine (impl_codeOk.calls a0_2 true _ A10.out).mono ?_);rintro e w' ⟨rfl,⟨nd,rfl⟩⟩;refine ⟨_,rfl,?_⟩))
     go_ret
     exact ⟨by first | rfl | (simp [errW_none,errW_some] <;> rfl) | (simp [*,errW_none,errW_some] <;> rfl),hbw_⟩
    ·replace c11:=Bool.eq_false_iff.mpr c11
     subst c11
     have H1 : (some false) = some r:=by rw [if_neg (show ¬ (false = true) by decide)] at H;exact H
     clear H
     have H:=H1
     clear H1
     obtain rfl:=Option.some.inj H
     have hnb14:=NB1_2.out
     have hnc14:=NB2_1.out
     have hcz15_0 : wc.cell? ⟨gb1,0,none⟩ = some (.int .i64 a0_0):=(blk_cell BK1.out 0).trans rfl
     have hcz15_1 : wc.cell? ⟨gb1,1,none⟩ = some (.int .i64 a0_1):=(blk_cell BK1.out 1).trans rfl
     have hcz15_2 : wc.cell? ⟨gb1,2,none⟩ = some (.int .i64 a0_2):=(blk_cell BK1.out 2).trans rfl
     have hcz15_3 : wc.cell? ⟨gb1,3,none⟩ = some (.int .i64 a0_3):=(blk_cell BK1.out 3).trans rfl
     have hfz15_0:=blk_frozen BK1.out 0
     have hfz15_1:=blk_frozen BK1.out 1
     have hfz15_2:=blk_frozen BK1.out 2
     have hfz15_3:=blk_frozen BK1.out 3
     go_wp2_with (first | ((with_reducible refine gate_callee (f:=140) rfl ?_);refine goesL_ (some 12) rfl rfl Try.func140 (by kernel_rfl) rfl #[.int .i64 a0_2] rfl lm_ ?_;(with_reducible refine (impl_codeOk.calls a0_2 false _ A10.out).mono ?_);rintro e w' ⟨rfl,⟨nd,rfl⟩⟩;refine ⟨_,rfl,?_⟩))
     go_ret
     exact ⟨by first | rfl | (simp [errW_none,errW_some] <;> rfl) | (simp [*,errW_none,errW_some] <;> rfl),hbw_⟩
   ·replace c9:=Bool.eq_false_iff.mpr c9
    subst c9
    have H1 : (if a0_1 = 2 then ((impl_Tree_has.f l1_0 a0_2).bind fun t4=>(if t4 = true then ((impl_codeOk.f a0_3).bind fun t5=>(some t5)) else (some false))) else (if a0_1 = 8 then ((impl_Tree_has.f l1_0 a0_2).bind fun t6=>(if t6 = true then (some (a0_3 == 0)) else (some false))) else (if a0_1 = 11 then ((impl_within.f a0_2 0 9).bind fun t7=>(if t7 = true then ((impl_within.f a0_3 0 1).bind fun t8=>(some t8)) else (some false))) else (if a0_1 = 12 then ((impl_within.f a0_2 0 3).bind fun t9=>(if t9 = true then (some (a0_3 == 0)) else (some false))) else ((impl_within.f a0_1 0 12).bind fun t10=>(if t10 = true then (if a0_2 = 0 then (some (a0_3 == 0)) else (some false)) else (some false))))))) = some r:=by rw [if_neg (show ¬ (false = true) by decide)] at H;exact H
    clear H
    have H:=H1
    clear H1
    by_cases c16 : a0_1 = 2
    ·rw [if_pos c16] at H
     have c16b0 : (a0_1 == 2) = true:=beq_iff_eq.mpr c16
     have c16b1 : (a0_1 != 2) = false:=bne_eq_false_iff_eq.mpr c16
     clear c16
     replace H:=Option.bind_eq_some_iff.mp H
     obtain ⟨t4,A170,H⟩:=H
     try dsimp only at H
     have A17:=a0_ A170
     clear A170
     by_cases c18 : t4 = true
     ·subst c18
      have H1 : ((impl_codeOk.f a0_3).bind fun t5=>(some t5)) = some r:=by rw [if_pos rfl] at H;exact H
      clear H
      have H:=H1
      clear H1
      replace H:=Option.bind_eq_some_iff.mp H
      obtain ⟨t5,A190,H⟩:=H
      replace H : (some t5) = some r:=H
      have A19:=a0_ A190
      clear A190
      obtain rfl:=Option.some.inj H
      have hnb20:=NB2_1.out
      have hnc20:=NB1_2.out
      have hcz21_0 : wc.cell? ⟨gb2,0,none⟩ = some (.slice A1_0 l1_0.length c1_0):=(blk_cell BK2.out 0).trans rfl
      have hfz21_0:=blk_frozen BK2.out 0
      have hcz22_0 : wc.cell? ⟨gb1,0,none⟩ = some (.int .i64 a0_0):=(blk_cell BK1.out 0).trans rfl
      have hcz22_1 : wc.cell? ⟨gb1,1,none⟩ = some (.int .i64 a0_1):=(blk_cell BK1.out 1).trans rfl
      have hcz22_2 : wc.cell? ⟨gb1,2,none⟩ = some (.int .i64 a0_2):=(blk_cell BK1.out 2).trans rfl
      have hcz22_3 : wc.cell? ⟨gb1,3,none⟩ = some (.int .i64 a0_3):=(blk_cell BK1.out 3).trans rfl
      have hfz22_0:=blk_frozen BK1.out 0
      have hfz22_1:=blk_frozen BK1.out 1
      have hfz22_2:=blk_frozen BK1.out 2
      have hfz22_3:=blk_frozen BK1.out 3
      go_wp2_with (first | ((with_reducible refine gate_callee (f:=63) rfl ?_);refine goesL_ (some 23) rfl rfl Try.func63 (by kernel_rfl) rfl #[.agg #[.slice A1_0 l1_0.length c1_0],.int .i64 a0_2] rfl lm_ ?_;(with_reducible refine (impl_Tree_has.calls _ _ l1_0 a0_2 true _ ?side1 ?side2 A17.out).mono ?_);(case side1=>exact cc_ (Kd.C_below HR1_0.out HB.out));(case side2=>exact HC1_0.out);rintro e w23 ⟨rfl,hb⟩;refine ⟨_,rfl,?_⟩;replace BK1:=kb_ BK1 hb;replace BK2:=kb_ BK2 hb;replace HB:=a0_ (below_step hbw_ hb);(try clear hb);have hcz24_0 : w23.cell? ⟨gb1,0,none⟩ = some (.int .i64 a0_0):=(blk_cell BK1.out 0).trans rfl;have hcz24_1 : w23.cell? ⟨gb1,1,none⟩ = some (.int .i64 a0_1):=(blk_cell BK1.out 1).trans rfl;have hcz24_2 : w23.cell? ⟨gb1,2,none⟩ = some (.int .i64 a0_2):=(blk_cell BK1.out 2).trans rfl;have hcz24_3 : w23.cell? ⟨gb1,3,none⟩ = some (.int .i64 a0_3):=(blk_cell BK1.out 3).trans rfl;have hfz24_0:=blk_frozen BK1.out 0;have hfz24_1:=blk_frozen BK1.out 1;have hfz24_2:=blk_frozen BK1.out 2;have hfz24_3:=blk_frozen BK1.out 3) | (go_at_call 140;(with_reducible refine (impl_codeOk.calls a0_3 t5 _ A19.out).mono ?_);rintro e w' ⟨rfl,⟨nd,rfl⟩⟩))
      go_ret
      exact ⟨by first | rfl | (simp [errW_none,errW_some] <;> rfl) | (simp [*,errW_none,errW_some] <;> rfl),hbw_⟩
     ·replace c18:=Bool.eq_false_iff.mpr c18
      subst c18
      have H1 : (some false) = some r:=by rw [if_neg (show ¬ (false = true) by decide)] at H;exact H
      clear H
      have H:=H1
      clear H1
      obtain rfl:=Option.some.inj H
      have hnb25:=NB2_1.out
      have hnc25:=NB1_2.out
      have hcz26_0 : wc.cell? ⟨gb2,0,none⟩ = some (.slice A1_0 l1_0.length c1_0):=(blk_cell BK2.out 0).trans rfl
      have hfz26_0:=blk_frozen BK2.out 0
      have hcz27_0 : wc.cell? ⟨gb1,0,none⟩ = some (.int .i64 a0_0):=(blk_cell BK1.out 0).trans rfl
      have hcz27_1 : wc.cell? ⟨gb1,1,none⟩ = some (.int .i64 a0_1):=(blk_cell BK1.out 1).trans rfl
      have hcz27_2 : wc.cell? ⟨gb1,2,none⟩ = some (.int .i64 a0_2):=(blk_cell BK1.out 2).trans rfl
      have hcz27_3 : wc.cell? ⟨gb1,3,none⟩ = some (.int .i64 a0_3):=(blk_cell BK1.out 3).trans rfl
      have hfz27_0:=blk_frozen BK1.out 0
      have hfz27_1:=blk_frozen BK1.out 1
      have hfz27_2:=blk_frozen BK1.out 2
      have hfz27_3:=blk_frozen BK1.out 3
      go_wp2_with (first | ((with_reducible refine gate_callee (f:=63) rfl ?_);refine goesL_ (some 23) rfl rfl Try.func63 (by kernel_rfl) rfl #[.agg #[.slice A1_0 l1_0.length c1_0],.int .i64 a0_2] rfl lm_ ?_;(with_reducible refine (impl_Tree_has.calls _ _ l1_0 a0_2 false _ ?side1 ?side2 A17.out).mono ?_);(case side1=>exact cc_ (Kd.C_below HR1_0.out HB.out));(case side2=>exact HC1_0.out);rintro e w28 ⟨rfl,hb⟩;refine ⟨_,rfl,?_⟩;replace BK1:=kb_ BK1 hb;replace BK2:=kb_ BK2 hb;replace HB:=a0_ (below_step hbw_ hb);(try clear hb);(try clear hb2);(try clear hk);(try clear hi)))
      go_ret
      exact ⟨by first | rfl | (simp [errW_none,errW_some] <;> rfl) | (simp [*,errW_none,errW_some] <;> rfl),hbw_⟩
    ·rw [if_neg c16] at H
     have c16b0 : (a0_1 == 2) = false:=beq_eq_false_iff_ne.mpr c16
     have c16b1 : (a0_1 != 2) = true:=bne_iff_ne.mpr c16
     by_cases c29 : a0_1 = 8
     ·rw [if_pos c29] at H
      have c29b0 : (a0_1 == 8) = true:=beq_iff_eq.mpr c29
      have c29b1 : (a0_1 != 8) = false:=bne_eq_false_iff_eq.mpr c29
      clear c29
      replace H:=Option.bind_eq_some_iff.mp H
      obtain ⟨t6,A300,H⟩:=H
      try dsimp only at H
      have A30:=a0_ A300
      clear A300
      by_cases c31 : t6 = true
      ·subst c31
       have H1 : (some (a0_3 == 0)) = some r:=by rw [if_pos rfl] at H;exact H
       clear H
       have H:=H1
       clear H1
       obtain rfl:=Option.some.inj H
       have hnb32:=NB2_1.out
       have hnc32:=NB1_2.out
       have hcz33_0 : wc.cell? ⟨gb2,0,none⟩ = some (.slice A1_0 l1_0.length c1_0):=(blk_cell BK2.out 0).trans rfl
       have hfz33_0:=blk_frozen BK2.out 0
       have hcz34_0 : wc.cell? ⟨gb1,0,none⟩ = some (.int .i64 a0_0):=(blk_cell BK1.out 0).trans rfl
       have hcz34_1 : wc.cell? ⟨gb1,1,none⟩ = some (.int .i64 a0_1):=(blk_cell BK1.out 1).trans rfl
       have hcz34_2 : wc.cell? ⟨gb1,2,none⟩ = some (.int .i64 a0_2):=(blk_cell BK1.out 2).trans rfl
       have hcz34_3 : wc.cell? ⟨gb1,3,none⟩ = some (.int .i64 a0_3):=(blk_cell BK1.out 3).trans rfl
       have hfz34_0:=blk_frozen BK1.out 0
       have hfz34_1:=blk_frozen BK1.out 1
       have hfz34_2:=blk_frozen BK1.out 2
       have hfz34_3:=blk_frozen BK1.out 3
       go_wp2_with (first | ((with_reducible refine gate_callee (f:=63) rfl ?_);refine goesL_ (some 34) rfl rfl Try.func63 (by kernel_rfl) rfl #[.agg #[.slice A1_0 l1_0.length c1_0],.int .i64 a0_2] rfl lm_ ?_;(with_reducible refine (impl_Tree_has.calls _ _ l1_0 a0_2 true _ ?side1 ?side2 A30.out).mono ?_);(case side1=>exact cc_ (Kd.C_below HR1_0.out HB.out));(case side2=>exact HC1_0.out);rintro e w35 ⟨rfl,hb⟩;refine ⟨_,rfl,?_⟩;replace BK1:=kb_ BK1 hb;replace BK2:=kb_ BK2 hb;replace HB:=a0_ (below_step hbw_ hb);(try clear hb);have hcz36_0 : w35.cell? ⟨gb1,0,none⟩ = some (.int .i64 a0_0):=(blk_cell BK1.out 0).trans rfl;have hcz36_1 : w35.cell? ⟨gb1,1,none⟩ = some (.int .i64 a0_1):=(blk_cell BK1.out 1).trans rfl;have hcz36_2 : w35.cell? ⟨gb1,2,none⟩ = some (.int .i64 a0_2):=(blk_cell BK1.out 2).trans rfl;have hcz36_3 : w35.cell? ⟨gb1,3,none⟩ = some (.int .i64 a0_3):=(blk_cell BK1.out 3).trans rfl;have hfz36_0:=blk_frozen BK1.out 0;have hfz36_1:=blk_frozen BK1.out 1;have hfz36_2:=blk_frozen BK1.out 2;have hfz36_3:=blk_frozen BK1.out 3))
       go_ret
       exact ⟨by first | rfl | (simp [errW_none,errW_some] <;> rfl) | (simp [*,errW_none,errW_some] <;> rfl),hbw_⟩
      ·replace c31:=Bool.eq_false_iff.mpr c31
       subst c31
       have H1 : (some false) = some r:=by rw [if_neg (show ¬ (false = true) by decide)] at H;exact H
       clear H
       have H:=H1
       clear H1
       obtain rfl:=Option.some.inj H
       have hnb37:=NB2_1.out
       have hnc37:=NB1_2.out
       have hcz38_0 : wc.cell? ⟨gb2,0,none⟩ = some (.slice A1_0 l1_0.length c1_0):=(blk_cell BK2.out 0).trans rfl
       have hfz38_0:=blk_frozen BK2.out 0
       have hcz39_0 : wc.cell? ⟨gb1,0,none⟩ = some (.int .i64 a0_0):=(blk_cell BK1.out 0).trans rfl
       have hcz39_1 : wc.cell? ⟨gb1,1,none⟩ = some (.int .i64 a0_1):=(blk_cell BK1.out 1).trans rfl
       have hcz39_2 : wc.cell? ⟨gb1,2,none⟩ = some (.int .i64 a0_2):=(blk_cell BK1.out 2).trans rfl
       have hcz39_3 : wc.cell? ⟨gb1,3,none⟩ = some (.int .i64 a0_3):=(blk_cell BK1.out 3).trans rfl
       have hfz39_0:=blk_frozen BK1.out 0
       have hfz39_1:=blk_frozen BK1.out 1
       have hfz39_2:=blk_frozen BK1.out 2
       have hfz39_3:=blk_frozen BK1.out 3
       go_wp2_with (first | ((with_reducible refine gate_callee (f:=63) rfl ?_);refine goesL_ (some 34) rfl rfl Try.func63 (by kernel_rfl) rfl #[.agg #[.slice A1_0 l1_0.length c1_0],.int .i64 a0_2] rfl lm_ ?_;(with_reducible refine (impl_Tree_has.calls _ _ l1_0 a0_2 false _ ?side1 ?side2 A30.out).mono ?_);(case side1=>exact cc_ (Kd.C_below HR1_0.out HB.out));(case side2=>exact HC1_0.out);rintro e w40 ⟨rfl,hb⟩;refine ⟨_,rfl,?_⟩;replace BK1:=kb_ BK1 hb;replace BK2:=kb_ BK2 hb;replace HB:=a0_ (below_step hbw_ hb);(try clear hb);(try clear hb2);(try clear hk);(try clear hi)))
       go_ret
       exact ⟨by first | rfl | (simp [errW_none,errW_some] <;> rfl) | (simp [*,errW_none,errW_some] <;> rfl),hbw_⟩
     ·rw [if_neg c29] at H
      have c29b0 : (a0_1 == 8) = false:=beq_eq_false_iff_ne.mpr c29
      have c29b1 : (a0_1 != 8) = true:=bne_iff_ne.mpr c29
      by_cases c41 : a0_1 = 11
      ·rw [if_pos c41] at H
       have c41b0 : (a0_1 == 11) = true:=beq_iff_eq.mpr c41
       have c41b1 : (a0_1 != 11) = false:=bne_eq_false_iff_eq.mpr c41
       clear c41
       replace H:=Option.bind_eq_some_iff.mp H
       obtain ⟨t7,A420,H⟩:=H
       try dsimp only at H
       have A42:=a0_ A420
       clear A420
       by_cases c43 : t7 = true
       ·subst c43
        have H1 : ((impl_within.f a0_3 0 1).bind fun t8=>(some t8)) = some r:=by rw [if_pos rfl] at H;exact H
        clear H
        have H:=H1
        clear H1
        replace H:=Option.bind_eq_some_iff.mp H
        obtain ⟨t8,A440,H⟩:=H
        replace H : (some t8) = some r:=H
        have A44:=a0_ A440
        clear A440
        obtain rfl:=Option.some.inj H
        have hnb45:=NB1_2.out
        have hnc45:=NB2_1.out
        have hcz46_0 : wc.cell? ⟨gb1,0,none⟩ = some (.int .i64 a0_0):=(blk_cell BK1.out 0).trans rfl
        have hcz46_1 : wc.cell? ⟨gb1,1,none⟩ = some (.int .i64 a0_1):=(blk_cell BK1.out 1).trans rfl
        have hcz46_2 : wc.cell? ⟨gb1,2,none⟩ = some (.int .i64 a0_2):=(blk_cell BK1.out 2).trans rfl
        have hcz46_3 : wc.cell? ⟨gb1,3,none⟩ = some (.int .i64 a0_3):=(blk_cell BK1.out 3).trans rfl
        have hfz46_0:=blk_frozen BK1.out 0
        have hfz46_1:=blk_frozen BK1.out 1
        have hfz46_2:=blk_frozen BK1.out 2
        have hfz46_3:=blk_frozen BK1.out 3
        go_wp2_with (first | ((with_reducible refine gate_callee (f:=75) rfl ?_);refine goesL_ (some 44) rfl rfl Try.func75 (by kernel_rfl) rfl #[.int .i64 a0_2,.int .i64 0,.int .i64 9] rfl lm_ ?_;(with_reducible refine (impl_within.calls a0_2 0 9 true _ A42.out).mono ?_);rintro e w' ⟨rfl,⟨nd,rfl⟩⟩;refine ⟨_,rfl,?_⟩) | (go_at_call 75;(with_reducible refine (impl_within.calls a0_3 0 1 t8 _ A44.out).mono ?_);rintro e w' ⟨rfl,⟨nd,rfl⟩⟩))
        go_ret
        exact ⟨by first | rfl | (simp [errW_none,errW_some] <;> rfl) | (simp [*,errW_none,errW_some] <;> rfl),hbw_⟩
       ·replace c43:=Bool.eq_false_iff.mpr c43
        subst c43
        have H1 : (some false) = some r:=by rw [if_neg (show ¬ (false = true) by decide)] at H;exact H
        clear H
        have H:=H1
        clear H1
        obtain rfl:=Option.some.inj H
        have hnb47:=NB1_2.out
        have hnc47:=NB2_1.out
        have hcz48_0 : wc.cell? ⟨gb1,0,none⟩ = some (.int .i64 a0_0):=(blk_cell BK1.out 0).trans rfl
        have hcz48_1 : wc.cell? ⟨gb1,1,none⟩ = some (.int .i64 a0_1):=(blk_cell BK1.out 1).trans rfl
        have hcz48_2 : wc.cell? ⟨gb1,2,none⟩ = some (.int .i64 a0_2):=(blk_cell BK1.out 2).trans rfl
        have hcz48_3 : wc.cell? ⟨gb1,3,none⟩ = some (.int .i64 a0_3):=(blk_cell BK1.out 3).trans rfl
        have hfz48_0:=blk_frozen BK1.out 0
        have hfz48_1:=blk_frozen BK1.out 1
        have hfz48_2:=blk_frozen BK1.out 2
        have hfz48_3:=blk_frozen BK1.out 3
        go_wp2_with (first | ((with_reducible refine gate_callee (f:=75) rfl ?_);refine goesL_ (some 44) rfl rfl Try.func75 (by kernel_rfl) rfl #[.int .i64 a0_2,.int .i64 0,.int .i64 9] rfl lm_ ?_;(with_reducible refine (impl_within.calls a0_2 0 9 false _ A42.out).mono ?_);rintro e w' ⟨rfl,⟨nd,rfl⟩⟩;refine ⟨_,rfl,?_⟩))
        go_ret
        exact ⟨by first | rfl | (simp [errW_none,errW_some] <;> rfl) | (simp [*,errW_none,errW_some] <;> rfl),hbw_⟩
      ·rw [if_neg c41] at H
       have c41b0 : (a0_1 == 11) = false:=beq_eq_false_iff_ne.mpr c41
       have c41b1 : (a0_1 != 11) = true:=bne_iff_ne.mpr c41
       by_cases c49 : a0_1 = 12
       ·rw [if_pos c49] at H
        have c49b0 : (a0_1 == 12) = true:=beq_iff_eq.mpr c49
        have c49b1 : (a0_1 != 12) = false:=bne_eq_false_iff_eq.mpr c49
        clear c49
        replace H:=Option.bind_eq_some_iff.mp H
        obtain ⟨t9,A500,H⟩:=H
        try dsimp only at H
        have A50:=a0_ A500
        clear A500
        by_cases c51 : t9 = true
        ·subst c51
         have H1 : (some (a0_3 == 0)) = some r:=by rw [if_pos rfl] at H;exact H
         clear H
         have H:=H1
         clear H1
         obtain rfl:=Option.some.inj H
         have hnb52:=NB1_2.out
         have hnc52:=NB2_1.out
         have hcz53_0 : wc.cell? ⟨gb1,0,none⟩ = some (.int .i64 a0_0):=(blk_cell BK1.out 0).trans rfl
         have hcz53_1 : wc.cell? ⟨gb1,1,none⟩ = some (.int .i64 a0_1):=(blk_cell BK1.out 1).trans rfl
         have hcz53_2 : wc.cell? ⟨gb1,2,none⟩ = some (.int .i64 a0_2):=(blk_cell BK1.out 2).trans rfl
         have hcz53_3 : wc.cell? ⟨gb1,3,none⟩ = some (.int .i64 a0_3):=(blk_cell BK1.out 3).trans rfl
         have hfz53_0:=blk_frozen BK1.out 0
         have hfz53_1:=blk_frozen BK1.out 1
         have hfz53_2:=blk_frozen BK1.out 2
         have hfz53_3:=blk_frozen BK1.out 3
         go_wp2_with (first | ((with_reducible refine gate_callee (f:=75) rfl ?_);refine goesL_ (some 54) rfl rfl Try.func75 (by kernel_rfl) rfl #[.int .i64 a0_2,.int .i64 0,.int .i64 3] rfl lm_ ?_;(with_reducible refine (impl_within.calls a0_2 0 3 true _ A50.out).mono ?_);rintro e w' ⟨rfl,⟨nd,rfl⟩⟩;refine ⟨_,rfl,?_⟩))
         go_ret
         exact ⟨by first | rfl | (simp [errW_none,errW_some] <;> rfl) | (simp [*,errW_none,errW_some] <;> rfl),hbw_⟩
        ·replace c51:=Bool.eq_false_iff.mpr c51
         subst c51
         have H1 : (some false) = some r:=by rw [if_neg (show ¬ (false = true) by decide)] at H;exact H
         clear H
         have H:=H1
         clear H1
         obtain rfl:=Option.some.inj H
         have hnb54:=NB1_2.out
         have hnc54:=NB2_1.out
         have hcz55_0 : wc.cell? ⟨gb1,0,none⟩ = some (.int .i64 a0_0):=(blk_cell BK1.out 0).trans rfl
         have hcz55_1 : wc.cell? ⟨gb1,1,none⟩ = some (.int .i64 a0_1):=(blk_cell BK1.out 1).trans rfl
         have hcz55_2 : wc.cell? ⟨gb1,2,none⟩ = some (.int .i64 a0_2):=(blk_cell BK1.out 2).trans rfl
         have hcz55_3 : wc.cell? ⟨gb1,3,none⟩ = some (.int .i64 a0_3):=(blk_cell BK1.out 3).trans rfl
         have hfz55_0:=blk_frozen BK1.out 0
         have hfz55_1:=blk_frozen BK1.out 1
         have hfz55_2:=blk_frozen BK1.out 2
         have hfz55_3:=blk_frozen BK1.out 3
         go_wp2_with (first | ((with_reducible refine gate_callee (f:=75) rfl ?_);refine goesL_ (some 54) rfl rfl Try.func75 (by kernel_rfl) rfl #[.int .i64 a0_2,.int .i64 0,.int .i64 3] rfl lm_ ?_;(with_reducible refine (impl_within.calls a0_2 0 3 false _ A50.out).mono ?_);rintro e w' ⟨rfl,⟨nd,rfl⟩⟩;refine ⟨_,rfl,?_⟩))
         go_ret
         exact ⟨by first | rfl | (simp [errW_none,errW_some] <;> rfl) | (simp [*,errW_none,errW_some] <;> rfl),hbw_⟩
       ·rw [if_neg c49] at H
        have c49b0 : (a0_1 == 12) = false:=beq_eq_false_iff_ne.mpr c49
        have c49b1 : (a0_1 != 12) = true:=bne_iff_ne.mpr c49
        replace H:=Option.bind_eq_some_iff.mp H
        obtain ⟨t10,A560,H⟩:=H
        try dsimp only at H
        have A56:=a0_ A560
        clear A560
        by_cases c57 : t10 = true
        ·subst c57
         have H1 : (if a0_2 = 0 then (some (a0_3 == 0)) else (some false)) = some r:=by rw [if_pos rfl] at H;exact H
         clear H
         have H:=H1
         clear H1
         by_cases c58 : a0_2 = 0
         ·rw [if_pos c58] at H
          have c58b0 : (a0_2 == 0) = true:=beq_iff_eq.mpr c58
          have c58b1 : (a0_2 != 0) = false:=bne_eq_false_iff_eq.mpr c58
          clear c58
          obtain rfl:=Option.some.inj H
          have hnb59:=NB1_2.out
          have hnc59:=NB2_1.out
          have hcz60_0 : wc.cell? ⟨gb1,0,none⟩ = some (.int .i64 a0_0):=(blk_cell BK1.out 0).trans rfl
          have hcz60_1 : wc.cell? ⟨gb1,1,none⟩ = some (.int .i64 a0_1):=(blk_cell BK1.out 1).trans rfl
          have hcz60_2 : wc.cell? ⟨gb1,2,none⟩ = some (.int .i64 a0_2):=(blk_cell BK1.out 2).trans rfl
          have hcz60_3 : wc.cell? ⟨gb1,3,none⟩ = some (.int .i64 a0_3):=(blk_cell BK1.out 3).trans rfl
          have hfz60_0:=blk_frozen BK1.out 0
          have hfz60_1:=blk_frozen BK1.out 1
          have hfz60_2:=blk_frozen BK1.out 2
          have hfz60_3:=blk_frozen BK1.out 3
          go_wp2_with (first | ((with_reducible refine gate_callee (f:=75) rfl ?_);refine goesL_ (some 62) rfl rfl Try.func75 (by kernel_rfl) rfl #[.int .i64 a0_1,.int .i64 0,.int .i64 12] rfl lm_ ?_;(with_reducible refine (impl_within.calls a0_1 0 12 true _ A56.out).mono ?_);rintro e w' ⟨rfl,⟨nd,rfl⟩⟩;refine ⟨_,rfl,?_⟩))
          go_ret
          exact ⟨by first | rfl | (simp [errW_none,errW_some] <;> rfl) | (simp [*,errW_none,errW_some] <;> rfl),hbw_⟩
         ·rw [if_neg c58] at H
          have c58b0 : (a0_2 == 0) = false:=beq_eq_false_iff_ne.mpr c58
          have c58b1 : (a0_2 != 0) = true:=bne_iff_ne.mpr c58
          obtain rfl:=Option.some.inj H
          have hnb61:=NB1_2.out
          have hnc61:=NB2_1.out
          have hcz62_0 : wc.cell? ⟨gb1,0,none⟩ = some (.int .i64 a0_0):=(blk_cell BK1.out 0).trans rfl
          have hcz62_1 : wc.cell? ⟨gb1,1,none⟩ = some (.int .i64 a0_1):=(blk_cell BK1.out 1).trans rfl
          have hcz62_2 : wc.cell? ⟨gb1,2,none⟩ = some (.int .i64 a0_2):=(blk_cell BK1.out 2).trans rfl
          have hcz62_3 : wc.cell? ⟨gb1,3,none⟩ = some (.int .i64 a0_3):=(blk_cell BK1.out 3).trans rfl
          have hfz62_0:=blk_frozen BK1.out 0
          have hfz62_1:=blk_frozen BK1.out 1
          have hfz62_2:=blk_frozen BK1.out 2
          have hfz62_3:=blk_frozen BK1.out 3
          go_wp2_with (first | ((with_reducible refine gate_callee (f:=75) rfl ?_);refine goesL_ (some 62) rfl rfl Try.func75 (by kernel_rfl) rfl #[.int .i64 a0_1,.int .i64 0,.int .i64 12] rfl lm_ ?_;(with_reducible refine (impl_within.calls a0_1 0 12 true _ A56.out).mono ?_);rintro e w' ⟨rfl,⟨nd,rfl⟩⟩;refine ⟨_,rfl,?_⟩))
          go_ret
          exact ⟨by first | rfl | (simp [errW_none,errW_some] <;> rfl) | (simp [*,errW_none,errW_some] <;> rfl),hbw_⟩
        ·replace c57:=Bool.eq_false_iff.mpr c57
         subst c57
         have H1 : (some false) = some r:=by rw [if_neg (show ¬ (false = true) by decide)] at H;exact H
         clear H
         have H:=H1
         clear H1
         obtain rfl:=Option.some.inj H
         have hnb63:=NB1_2.out
         have hnc63:=NB2_1.out
         have hcz64_0 : wc.cell? ⟨gb1,0,none⟩ = some (.int .i64 a0_0):=(blk_cell BK1.out 0).trans rfl
         have hcz64_1 : wc.cell? ⟨gb1,1,none⟩ = some (.int .i64 a0_1):=(blk_cell BK1.out 1).trans rfl
         have hcz64_2 : wc.cell? ⟨gb1,2,none⟩ = some (.int .i64 a0_2):=(blk_cell BK1.out 2).trans rfl
         have hcz64_3 : wc.cell? ⟨gb1,3,none⟩ = some (.int .i64 a0_3):=(blk_cell BK1.out 3).trans rfl
         have hfz64_0:=blk_frozen BK1.out 0
         have hfz64_1:=blk_frozen BK1.out 1
         have hfz64_2:=blk_frozen BK1.out 2
         have hfz64_3:=blk_frozen BK1.out 3
         go_wp2_with (first | ((with_reducible refine gate_callee (f:=75) rfl ?_);refine goesL_ (some 62) rfl rfl Try.func75 (by kernel_rfl) rfl #[.int .i64 a0_1,.int .i64 0,.int .i64 12] rfl lm_ ?_;(with_reducible refine (impl_within.calls a0_1 0 12 false _ A56.out).mono ?_);rintro e w' ⟨rfl,⟨nd,rfl⟩⟩;refine ⟨_,rfl,?_⟩))
         go_ret
         exact ⟨by first | rfl | (simp [errW_none,errW_some] <;> rfl) | (simp [*,errW_none,errW_some] <;> rfl),hbw_⟩
theorem impl_Line_argued_ev (t : List Cls) (x : S75) (ht : t.length ≤ 9223372036854775807) : Ev (fun k=>impl_Line_argued.f k x.f0 x.f1 x.f2 x.f3 t) (numOk t x):=by
 have j0 : Ev (fun k=>impl_Line_argued.j0 k x.f1 (decide (x.f1 = 1 ∨ x.f1 = 4)) x.f0 x.f1 x.f2 x.f3 t) (numOk t x):=by
  refine Ev.succ ?_
  simp only [impl_Line_argued.j0]
  by_cases h0 : x.f1 = 1 ∨ x.f1 = 4
  ·rw [show numOk t x = (decide (0 ≤ x.f2) && decide (x.f2 ≤ 99) && (x.f3 == 0)) by rw [numOk,if_pos h0]]
   refine Ev.pos (by simp [h0]) (Ev.bind (Ev.const (impl_codeOk_ev _)) ?_)
   cases hb : (decide (0 ≤ x.f2) && decide (x.f2 ≤ 99))
   ·exact Ev.neg (by simp) (Ev.const (by simp))
   ·exact Ev.pos rfl (Ev.const (by simp))
  refine Ev.neg (by simp [h0]) ?_
  by_cases h1 : x.f1 = 2
  ·rw [show numOk t x = (hasC t x.f2 && (decide (0 ≤ x.f3) && decide (x.f3 ≤ 99))) by rw [numOk,if_neg h0,if_pos h1]]
   refine Ev.pos (by simp [h1]) (Ev.bind (Ev.const (impl_Tree_has_ev t _ ht)) ?_)
   cases hb : hasC t x.f2
   ·exact Ev.neg (by simp) (Ev.const (by simp))
   ·exact Ev.pos rfl (Ev.bind (Ev.const (impl_codeOk_ev _)) (Ev.const (by simp)))
  refine Ev.neg (by simp [h1]) ?_
  by_cases h2 : x.f1 = 8
  ·rw [show numOk t x = (hasC t x.f2 && (x.f3 == 0)) by rw [numOk,if_neg h0,if_neg h1,if_pos h2]]
   refine Ev.pos (by simp [h2]) (Ev.bind (Ev.const (impl_Tree_has_ev t _ ht)) ?_)
   cases hb : hasC t x.f2
   ·exact Ev.neg (by simp) (Ev.const (by simp))
   ·exact Ev.pos rfl (Ev.const (by simp))
  refine Ev.neg (by simp [h2]) ?_
  by_cases h3 : x.f1 = 11
  ·rw [show numOk t x = ((decide (0 ≤ x.f2) && decide (x.f2 ≤ 9)) && (decide (0 ≤ x.f3) && decide (x.f3 ≤ 1))) by rw [numOk,if_neg h0,if_neg h1,if_neg h2,if_pos h3]]
   refine Ev.pos (by simp [h3]) (Ev.bind (Ev.const (impl_within_ev _ _ _)) ?_)
   cases hb : (decide (0 ≤ x.f2) && decide (x.f2 ≤ 9))
   ·exact Ev.neg (by simp) (Ev.const (by simp))
   ·exact Ev.pos rfl (Ev.bind (Ev.const (impl_within_ev _ _ _)) (Ev.const (by simp)))
  refine Ev.neg (by simp [h3]) ?_
  by_cases h4 : x.f1 = 12
  ·rw [show numOk t x = ((decide (0 ≤ x.f2) && decide (x.f2 ≤ 3)) && (x.f3 == 0)) by rw [numOk,if_neg h0,if_neg h1,if_neg h2,if_neg h3,if_pos h4]]
   refine Ev.pos (by simp [h4]) (Ev.bind (Ev.const (impl_within_ev _ _ _)) ?_)
   cases hb : (decide (0 ≤ x.f2) && decide (x.f2 ≤ 3))
   ·exact Ev.neg (by simp) (Ev.const (by simp))
   ·exact Ev.pos rfl (Ev.const (by simp))
  refine Ev.neg (by simp [h4]) ?_
  rw [show numOk t x = ((decide (0 ≤ x.f1) && decide (x.f1 ≤ 10)) && ((x.f2 == 0) && (x.f3 == 0))) by rw [numOk,if_neg h0,if_neg h1,if_neg h2,if_neg h3,if_neg h4]]
  refine Ev.bind (Ev.const (impl_within_ev _ _ _)) ?_
  rw [show decide (x.f1 ≤ 12) = decide (x.f1 ≤ 10) from decide_eq_decide.2 (by omega)]
  cases hb : (decide (0 ≤ x.f1) && decide (x.f1 ≤ 10))
  ·exact Ev.neg (by simp) (Ev.const (by simp))
  ·refine Ev.pos rfl ?_
   by_cases h6 : x.f2 = 0
   ·exact Ev.pos h6 (Ev.const (by simp [h6]))
   ·exact Ev.neg h6 (Ev.const (by simp [h6]))
 unfold impl_Line_argued.f
 by_cases h1 : x.f1 = 1
 ·refine Ev.pos h1 ?_
  rw [show decide (x.f1 = 1 ∨ x.f1 = 4) = (x.f1 == 1) by simp [h1]] at j0
  exact j0
 ·refine Ev.neg h1 ?_
  rw [show decide (x.f1 = 1 ∨ x.f1 = 4) = (x.f1 == 4) by by_cases h4 : x.f1 = 4 <;> simp [h1,h4]] at j0
  exact j0
end Go.Proofs.Ytacgehaipacehaa.P
namespace Go.Proofs.Ytacgehaipacehaa.P
open Go.RowKit Go.Proofs.YtacgehaipacehaaW.PrintWords Go.Proofs.YtacgehaipacehaaW.PrintLast Go.Proofs.YtacgehaipacehaaW.PrintMore
attribute [local go_sem] max2_int min2_int max_two min_two max_three min_three max_four min_four
set_option linter.unusedVariables false
set_option linter.unusedSimpArgs false
def impl_Line_opens.f (a0_0 : Int) (a0_1 : Int) (a0_2 : Int) (a0_3 : Int) : Option (Bool):=(impl_within.f a0_1 7 12).bind fun t2=>(some t2)
set_option maxHeartbeats 8000000 in
set_option maxRecDepth 100000 in
theorem impl_Line_opens.calls (a0_0 : Int) (a0_1 : Int) (a0_2 : Int) (a0_3 : Int) (r : Bool) (w : World) (h : impl_Line_opens.f a0_0 a0_1 a0_2 a0_3 = some r) :
  Calls Try.prog 99 #[.agg #[.int .i64 a0_0,.int .i64 a0_1,.int .i64 a0_2,.int .i64 a0_3]] w fun e w'=>e = .returned (.bool r) ∧ Below w.heap.size w w':=by
 have hu75:=Try.underlying75
 have HB:=a0_ (Below.refl w.heap.size w)
 have H : ((impl_within.f a0_1 7 12).bind fun t2=>(some t2)) = some r:=h
 clear h
 replace H:=Option.bind_eq_some_iff.mp H
 obtain ⟨t2,A20,H⟩:=H
 replace H : (some t2) = some r:=H
 have A2:=a0_ A20
 clear A20
 obtain rfl:=Option.some.inj H
 go_enter Try.func99,Try.ntmps99
 go_wp2_with (first | ((with_reducible refine gate_dst (N:=1) rfl ?_);refine box_event ?hg (N:=1) ?hd (cs:=#[.int .i64 a0_0,.int .i64 a0_1,.int .i64 a0_2,.int .i64 a0_3]) (t:=75) ?hr ?_;(case hd=>rfl);(case hg=>rfl);(case hr=>first | (go_simp;done) | (go_simp;rfl));intro gb1 hg w3 hbox hb;have BK1:=a0_ (hbox);have GW1:=a0_ ((by rw [hg];exact (below_size hbw_) : w.heap.size ≤ gb1));have GE1:=a0_ ((by rw [hg];exact (below_size hbw_) : w.heap.size ≤ gb1));replace HB:=a0_ (below_step hbw_ hb);clear hb hbox hg;have hcz4_0 : w3.cell? ⟨gb1,0,none⟩ = some (.int .i64 a0_0):=(blk_cell BK1.out 0).trans rfl;have hcz4_1 : w3.cell? ⟨gb1,1,none⟩ = some (.int .i64 a0_1):=(blk_cell BK1.out 1).trans rfl;have hcz4_2 : w3.cell? ⟨gb1,2,none⟩ = some (.int .i64 a0_2):=(blk_cell BK1.out 2).trans rfl;have hcz4_3 : w3.cell? ⟨gb1,3,none⟩ = some (.int .i64 a0_3):=(blk_cell BK1.out 3).trans rfl;have hfz4_0:=blk_frozen BK1.out 0;have hfz4_1:=blk_frozen BK1.out 1;have hfz4_2:=blk_frozen BK1.out 2;have hfz4_3:=blk_frozen BK1.out 3) | ((with_reducible refine gate_callee (f:=75) rfl ?_);refine goesL_ (some 5) rfl rfl Try.func75 (by kernel_rfl) rfl #[.int .i64 a0_1,.int .i64 7,.int .i64 12] rfl lm_ ?_;(with_reducible refine (impl_within.calls a0_1 7 12 t2 _ A2.out).mono ?_);rintro e w' ⟨rfl,⟨nd,rfl⟩⟩;refine ⟨_,rfl,?_⟩))
 go_ret
 exact ⟨by first | rfl | (simp [errW_none,errW_some] <;> rfl) | (simp [*,errW_none,errW_some] <;> rfl),hbw_⟩
theorem impl_Line_opens_ev (a b c d : Int) : impl_Line_opens.f a b c d = some (decide (7 ≤ b) && decide (b ≤ 12)):=by
 unfold impl_Line_opens.f
 rw [impl_within_ev]
 rfl
end Go.Proofs.Ytacgehaipacehaa.P
namespace Go.Proofs.Ytacgehaipacehaa.P
open Go.RowKit Go.Proofs.YtacgehaipacehaaW.PrintWords Go.Proofs.YtacgehaipacehaaW.PrintLast Go.Proofs.YtacgehaipacehaaW.PrintMore
attribute [local go_sem] max2_int min2_int max_two min_two max_three min_three max_four min_four
set_option linter.unusedVariables false
set_option linter.unusedSimpArgs false
def impl_endOf.l0 : Nat → List (S75) → Int → Int → Option (Int)
 | 0,_,_,_=>none
 | k + 1,x0,x1,x5=>if x5 < (x0.length : Int) then (if 0 ≤ x5 then (if 0 ≤ x1 then (if x1 < (x0.length : Int) then (if ((rd_T75 x0 x5).f0) > ((rd_T75 x0 x1).f0) then (impl_endOf.l0 k x0 x1 (wrap64 (x5 + 1))) else (some x5)) else (none)) else (none)) else (none)) else (some x5)
def impl_endOf.f (k : Nat) (l0 : List (S75)) (a1 : Int) : Option (Int):=impl_endOf.l0 k l0 a1 (wrap64 (a1 + 1))
theorem impl_endOf.mono_l : ∀ k,(∀ y0 y1 y2,LeO (impl_endOf.l0 k y0 y1 y2) (impl_endOf.l0 (k + 1) y0 y1 y2))
 | 0=>fun _ _ _ r h=>by simp [impl_endOf.l0] at h
 | k + 1=>by
  have ih0:=impl_endOf.mono_l k
  ·intro y0 y1 y2
   unfold impl_endOf.l0
   repeat' first
   | (with_reducible exact ih0 _ _ _)
   | (with_reducible exact LeO.refl _)
   | (with_reducible exact LeO.none _)
   | (with_reducible refine LeO.ite ?_ ?_)
   | (with_reducible refine LeO.bind ?_ (fun _=>?_))
   | exact ih0 _ _ _
   | exact LeO.none _
   | refine LeO.ite ?_ ?_
   | refine LeO.bind ?_ (fun _=>?_)
theorem impl_endOf.mono : ∀ a0 a1 k,LeO (impl_endOf.f k a0 a1) (impl_endOf.f (k + 1) a0 a1):=by
 intro a0 a1 k
 have ih0:=impl_endOf.mono_l k
 unfold impl_endOf.f
 repeat' first
   | (with_reducible exact ih0 _ _ _)
   | (with_reducible exact LeO.refl _)
   | (with_reducible exact LeO.none _)
   | (with_reducible refine LeO.ite ?_ ?_)
   | (with_reducible refine LeO.bind ?_ (fun _=>?_))
   | exact ih0 _ _ _
   | exact LeO.none _
   | refine LeO.ite ?_ ?_
   | refine LeO.bind ?_ (fun _=>?_)
set_option maxHeartbeats 8000000 in
set_option maxRecDepth 100000 in
theorem impl_endOf.calls (k : Nat) (A0 : Option Addr) (c0 : Nat) (l0 : List (S75)) (a1 : Int) (r : Int) (w : World) (hr0 : Kd.C k75 w A0 l0.length l0) (hc0 : l0.length ≤ c0) (h : impl_endOf.f k l0 a1 = some r) :
  Calls Try.prog 144 #[.slice A0 l0.length c0,.int .i64 a1] w fun e w'=>e = .returned (.int .i64 r) ∧ Drawn0 w w':=by
 have HR0:=a0_ hr0
 have HC0:=a0_ hc0
 clear hr0 hc0
 have H : (impl_endOf.l0 k l0 a1 (wrap64 (a1 + 1))) = some r:=h
 clear h
 have H':=a0_ H
 clear H
 go_enter Try.func144,Try.ntmps144
 go_wp2
 repeat (go_quiet (fail);try go_wp2)
 go_loopg [5] k (fun kq v5 w'=>∃ (x5_1 : Int),v5 = .int .i64 x5_1 ∧ Aside0 (impl_endOf.l0 kq l0 a1 x5_1 = some r) ∧ Aside0 (kq ≤ k) ∧ Drawn0 w w')
 case atStart=>exact ⟨(wrap64 (a1 + 1)),(by first | rfl | (simp;done) | (simp [*];done)),H',⟨Nat.le_refl _⟩,by repeat (first | exact Drawn0.refl _ | apply Drawn0.step)⟩
 case round =>
  clear H'
  try clear c1
  try clear p2
  obtain ⟨x5_1,rfl,HA,HK1,⟨m1,rfl⟩⟩:=hrel
  cases gk with
  | zero=>exact absurd HA.out (by simp [impl_endOf.l0])
  | succ k1 =>
   have H:=HA.out
   clear HA
   simp only [impl_endOf.l0] at H
   by_cases c3 : x5_1 < (l0.length : Int)
   ·rw [if_pos c3] at H
    have c3b0 : decide (x5_1 < (l0.length : Int)) = true:=decide_eq_true c3
    clear c3
    by_cases c4 : 0 ≤ x5_1
    ·rw [if_pos c4] at H
     have c4b0 : decide (0 ≤ x5_1) = true:=decide_eq_true c4
     clear c4
     by_cases c5 : 0 ≤ a1
     ·rw [if_pos c5] at H
      have c5b0 : decide (0 ≤ a1) = true:=decide_eq_true c5
      clear c5
      by_cases c6 : a1 < (l0.length : Int)
      ·rw [if_pos c6] at H
       have c6b0 : decide (a1 < (l0.length : Int)) = true:=decide_eq_true c6
       clear c6
       by_cases c7 : ((rd_T75 l0 x5_1).f0) > ((rd_T75 l0 a1).f0)
       ·rw [if_pos c7] at H
        have c7b0 : decide (((rd_T75 l0 a1).f0) < ((rd_T75 l0 x5_1).f0)) = true:=decide_eq_true c7
        clear c7
        have H':=a0_ H
        clear H
        have p1 : 0 ≤ (x5_1 : Int):=of_decide_eq_true (by first | (with_reducible assumption) | assumption)
        have q1 : x5_1 < (l0.length : Int):=of_decide_eq_true (by first | (with_reducible assumption) | assumption)
        obtain ⟨ad1,e1,hx1_0,hx1_1,hx1_2,hx1_3⟩:=at_T75 HR0.out x5_1 p1 q1
        cases e1
        replace p1:=eq_true p1
        replace q1:=eq_true q1
        have p2 : 0 ≤ (a1 : Int):=of_decide_eq_true (by first | (with_reducible assumption) | assumption)
        have q2 : a1 < (l0.length : Int):=of_decide_eq_true (by first | (with_reducible assumption) | assumption)
        obtain ⟨ad2,e2,hx2_0,hx2_1,hx2_2,hx2_3⟩:=at_T75 HR0.out a1 p2 q2
        obtain rfl : ad1 = ad2:=(by injection e2)
        replace p2:=eq_true p2
        replace q2:=eq_true q2
        go_wp2
        repeat (go_quiet (fail);try go_wp2)
        go_roundg k1
        case measure=>have:=HK1.out;omega
        case rel=>exact ⟨(wrap64 (x5_1 + 1)),(by first | rfl | (simp;done) | (simp [*];done)),H',⟨by have:=HK1.out;omega⟩,by repeat (first | exact Drawn0.refl _ | apply Drawn0.step)⟩
       ·rw [if_neg c7] at H
        have c7b0 : decide (((rd_T75 l0 a1).f0) < ((rd_T75 l0 x5_1).f0)) = false:=decide_eq_false c7
        clear c7
        obtain rfl:=Option.some.inj H
        have p1 : 0 ≤ (x5_1 : Int):=of_decide_eq_true (by first | (with_reducible assumption) | assumption)
        have q1 : x5_1 < (l0.length : Int):=of_decide_eq_true (by first | (with_reducible assumption) | assumption)
        obtain ⟨ad1,e1,hx1_0,hx1_1,hx1_2,hx1_3⟩:=at_T75 HR0.out x5_1 p1 q1
        cases e1
        replace p1:=eq_true p1
        replace q1:=eq_true q1
        have p2 : 0 ≤ (a1 : Int):=of_decide_eq_true (by first | (with_reducible assumption) | assumption)
        have q2 : a1 < (l0.length : Int):=of_decide_eq_true (by first | (with_reducible assumption) | assumption)
        obtain ⟨ad2,e2,hx2_0,hx2_1,hx2_2,hx2_3⟩:=at_T75 HR0.out a1 p2 q2
        obtain rfl : ad1 = ad2:=(by injection e2)
        replace p2:=eq_true p2
        replace q2:=eq_true q2
        go_wp2
        repeat (go_quiet (fail);try go_wp2)
        go_ret
        exact ⟨by first | rfl | (simp;done) | (simp [*];done),by repeat (first | exact Drawn0.refl _ | apply Drawn0.step)⟩
      ·rw [if_neg c6] at H
       exact absurd H (by simp)
     ·rw [if_neg c5] at H
      exact absurd H (by simp)
    ·rw [if_neg c4] at H
     exact absurd H (by simp)
   ·rw [if_neg c3] at H
    have c3b0 : decide (x5_1 < (l0.length : Int)) = false:=decide_eq_false c3
    clear c3
    obtain rfl:=Option.some.inj H
    go_wp2
    repeat (go_quiet (fail);try go_wp2)
    go_ret
    exact ⟨by first | rfl | (simp;done) | (simp [*];done),by repeat (first | exact Drawn0.refl _ | apply Drawn0.step)⟩
theorem rd_ld_ (l : List S75) (j : Nat) : (rd_T75 l (j : Int)).f0 = ld l j:=rfl
theorem rd_lk_ (l : List S75) (j : Nat) : (rd_T75 l (j : Int)).f1 = lk l j:=rfl
theorem wrap_nat_ {i n : Nat} (h : i < n) (hn : n ≤ 1099511627776) : wrap64 ((i : Int) + 1) = ((i + 1 : Nat) : Int):=by
 rw [wrap_succ (i:=(i : Int)) (n:=n) (by omega) (by omega) (by omega)]
 rfl
theorem impl_endOf_ev (l : List S75) (i : Nat) (hi : i < l.length) (hl : l.length ≤ 1099511627776) : Ev (fun k=>impl_endOf.f k l (i : Int)) ((endN l i : Nat) : Int):=by
 have key : ∀ d j,j + d = endN l i → i < j → Ev (fun k=>impl_endOf.l0 k l (i : Int) (j : Int)) ((endN l i : Nat) : Int):=by
  intro d
  induction d with
  | zero =>
   intro j hj hij
   obtain rfl : j = endN l i:=by omega
   refine Ev.succ ?_
   simp only [impl_endOf.l0,rd_ld_]
   by_cases hn : endN l i < l.length
   ·have:=endN_at hi hn
    exact Ev.pos (by omega) (Ev.pos (by omega) (Ev.pos (by omega) (Ev.pos (by omega) (Ev.neg (by omega) (Ev.const rfl)))))
   ·exact Ev.neg (by omega) (Ev.const rfl)
  | succ d ih =>
   intro j hj hij
   have hle:=endN_le hi
   have hin:=endN_in (l:=l) (i:=i) (j:=j) hij (by omega)
   refine Ev.succ ?_
   simp only [impl_endOf.l0,rd_ld_]
   rw [wrap_nat_ (n:=l.length) (by omega) hl]
   exact Ev.pos (by omega) (Ev.pos (by omega) (Ev.pos (by omega) (Ev.pos (by omega) (Ev.pos (by omega) (ih (j + 1) (by omega) (by omega))))))
 have hg:=endN_gt l i
 unfold impl_endOf.f
 rw [wrap_nat_ hi hl]
 exact key (endN l i - (i + 1)) (i + 1) (by omega) (by omega)
end Go.Proofs.Ytacgehaipacehaa.P
namespace Go.Proofs.Ytacgehaipacehaa.P
open Go.RowKit Go.Proofs.YtacgehaipacehaaW.PrintWords Go.Proofs.YtacgehaipacehaaW.PrintLast Go.Proofs.YtacgehaipacehaaW.PrintMore
attribute [local go_sem] max2_int min2_int max_two min_two max_three min_three max_four min_four
set_option linter.unusedVariables false
set_option linter.unusedSimpArgs false
def impl_siblings.l0 : Nat → List (S75) → Int → List Int → Int → Option (List Int)
 | 0,_,_,_,_=>none
 | k + 1,x0,x2,x7,x8=>if x8 < x2 then (if x7.length < 17592186044416 then ((impl_endOf.f k x0 x8).bind fun t7=>(impl_siblings.l0 k x0 x2 (x7 ++ [x8]) t7)) else (none)) else (some x7)
def impl_siblings.f (k : Nat) (l0 : List (S75)) (a1 : Int) (a2 : Int) : Option (List Int):=impl_siblings.l0 k l0 a2 (([] : List Int)) a1
theorem impl_siblings.mono_l : ∀ k,(∀ y0 y1 y2 y3,LeO (impl_siblings.l0 k y0 y1 y2 y3) (impl_siblings.l0 (k + 1) y0 y1 y2 y3))
 | 0=>fun _ _ _ _ r h=>by simp [impl_siblings.l0] at h
 | k + 1=>by
  have ih0:=impl_siblings.mono_l k
  ·intro y0 y1 y2 y3
   unfold impl_siblings.l0
   repeat' first
   | (with_reducible exact ih0 _ _ _ _)
   | (with_reducible exact impl_endOf.mono _ _ _)
   | (with_reducible exact LeO.refl _)
   | (with_reducible exact LeO.none _)
   | (with_reducible refine LeO.ite ?_ ?_)
   | (with_reducible refine LeO.bind ?_ (fun _=>?_))
   | exact ih0 _ _ _ _
   | exact impl_endOf.mono _ _ _
   | exact LeO.none _
   | refine LeO.ite ?_ ?_
   | refine LeO.bind ?_ (fun _=>?_)
theorem impl_siblings.mono : ∀ a0 a1 a2 k,LeO (impl_siblings.f k a0 a1 a2) (impl_siblings.f (k + 1) a0 a1 a2):=by
 intro a0 a1 a2 k
 have ih0:=impl_siblings.mono_l k
 unfold impl_siblings.f
 repeat' first
   | (with_reducible exact ih0 _ _ _ _)
   | (with_reducible exact impl_endOf.mono _ _ _)
   | (with_reducible exact LeO.refl _)
   | (with_reducible exact LeO.none _)
   | (with_reducible refine LeO.ite ?_ ?_)
   | (with_reducible refine LeO.bind ?_ (fun _=>?_))
   | exact ih0 _ _ _ _
   | exact impl_endOf.mono _ _ _
   | exact LeO.none _
   | refine LeO.ite ?_ ?_
   | refine LeO.bind ?_ (fun _=>?_)
set_option maxHeartbeats 8000000 in
set_option maxRecDepth 100000 in
theorem impl_siblings.calls (k : Nat) (A0 : Option Addr) (c0 : Nat) (l0 : List (S75)) (a1 : Int) (a2 : Int) (r : List Int) (w : World) (hr0 : Kd.C k75 w A0 l0.length l0) (hc0 : l0.length ≤ c0) (h : impl_siblings.f k l0 a1 a2 = some r) :
  Calls Try.prog 141 #[.slice A0 l0.length c0,.int .i64 a1,.int .i64 a2] w fun e w'=>∃ v0_ : Value,e = .returned (v0_) ∧ Kd.R (Kd.int .i64) 3 w' w.heap.size (fun _=>True) v0_ r ∧ Below w.heap.size w w':=by
 have HR0:=a0_ hr0
 have HC0:=a0_ hc0
 clear hr0 hc0
 have HB:=a0_ (Below.refl w.heap.size w)
 have H : (impl_siblings.l0 k l0 a2 (([] : List Int)) a1) = some r:=h
 clear h
 obtain ⟨y1,hy1⟩ : ∃ y_ : List Int,y_ = (([] : List Int)):=⟨_,rfl⟩
 replace H : (impl_siblings.l0 k l0 a2 y1 a1) = some r:=by first | (rw [hy1];with_reducible exact H) | (have H2_:=(Option.bind_some _ _).symm.trans H;rw [hy1];with_reducible exact H2_) | (have H2_:=(Option.bind_some _ _).symm.trans H;with_reducible exact H2_) | with_reducible exact H | (rw [hy1];exact H) | exact H
 have Ny1:=a0_ hy1
 clear hy1
 have H':=a0_ H
 clear H
 go_enter Try.func141,Try.ntmps141
 go_wp2_with (first | ((with_reducible refine gate_dst (N:=9) rfl ?_);refine Kd.R_lit (Kd.int .i64) _ 3 ?hg (N:=9) ?hd (xs:=([] : List Int)) (inner:=[]) (ok:=fun _=>True) (okp:=fun _=>True) ?hr ?hp (fun _ hk=>hk) trivial (Below.refl _ _) (Nat.le_refl _) (by simp) ?_;(case hd=>rfl);(case hg=>rfl);(case hr=>first | (go_simp;done) | (go_simp;rfl));(case hp=>exact (Reps.none _ _));intro v2 w4 ho5 hb hg_ hnew_;clear hg_ hnew_;(first | rw [← Ny1.out] at ho5 | (simp only [Int.reduceToNat] at ho5;rw [← Ny1.out] at ho5));have HO3:=a0_ (Kd.R_lower ho5 (below_size hbw_));replace HB:=a0_ (below_step hbw_ hb);clear hb ho5))
 go_loopg [7,8] k (fun kq v7 v8 w'=>∃ (x7_1 : List Int) (x8_1 : Int),v8 = .int .i64 x8_1 ∧ Aside0 (impl_siblings.l0 kq l0 a2 x7_1 x8_1 = some r) ∧ Aside0 (kq ≤ k) ∧ Aside0 (Kd.R (Kd.int .i64) 3 w' w.heap.size (fun _=>True) v7 x7_1) ∧ Aside0 (Below w.heap.size w w'))
 case atStart=>exact ⟨(y1),(a1),(by first | rfl | (simp;done) | (simp [*];done)),H',⟨Nat.le_refl _⟩,⟨by (with_reducible repeat (first | apply Kd.R_alloc | apply Kd.R_drewN | apply Kd.R_drew));exact HO3.out⟩,⟨hbw_⟩⟩
 case round =>
  clear H'
  try clear c1
  try clear p2
  obtain ⟨x7_1,x8_1,rfl,HA,HK1,HO_7,HB⟩:=hrel
  cases gk with
  | zero=>exact absurd HA.out (by simp [impl_siblings.l0])
  | succ k1 =>
   have H:=HA.out
   clear HA
   simp only [impl_siblings.l0] at H
   by_cases c6 : x8_1 < a2
   ·rw [if_pos c6] at H
    have c6b0 : decide (x8_1 < a2) = true:=decide_eq_true c6
    clear c6
    by_cases c7 : x7_1.length < 17592186044416
    ·rw [if_pos c7] at H
     have LMc7:=a0_ c7
     clear c7
     obtain ⟨y4,hy4⟩ : ∃ y_ : List Int,y_ = (x7_1 ++ [x8_1]):=⟨_,rfl⟩
     replace H : ((impl_endOf.f k1 l0 x8_1).bind fun t7=>(impl_siblings.l0 k1 l0 a2 y4 t7)) = some r:=by first | (rw [hy4];with_reducible exact H) | (have H2_:=(Option.bind_some _ _).symm.trans H;rw [hy4];with_reducible exact H2_) | (have H2_:=(Option.bind_some _ _).symm.trans H;with_reducible exact H2_) | with_reducible exact H | (rw [hy4];exact H) | exact H
     have Ny4:=a0_ hy4
     clear hy4
     replace H:=Option.bind_eq_some_iff.mp H
     obtain ⟨t7,A80,H⟩:=H
     replace H : (impl_siblings.l0 k1 l0 a2 y4 t7) = some r:=H
     have A8:=a0_ A80
     clear A80
     have H':=a0_ H
     clear H
     go_wp2_with (first | ((with_reducible refine gate_builtin (b:=.append) (xs:=#[.tmp 17,.tmp 19]) rfl ?_);at_builtin;refine Kd.R_append (Kd.int .i64) (w0:=w) w.heap.size rfl (.tmp 17) (.tmp 19) 26 3 (.int .i64 0) 8 rfl Try.underlying26 info3 rfl (by decide) (by omega) u7 x7_1 x8_1 [.int .i64 x8_1] (fun _=>True) (fun _=>False) rfl rfl ?aP (fun _ hk=>hk.elim) ?aF ?aO ?aB ?aS ?aL ?_;(case aP=>exact rfl);(case aB=>exact hbw_);(case aF=>exact (fun _ _=>trivial));(case aO=>exact (rr_ HO_7.out));(case aS=>exact (below_size hbw_));(case aL=>have:=LMc7.out;omega);intro v5 w9 ho hb hg hat;rw [← Ny4.out] at ho;have HO6:=a0_ (ho);replace HB:=a0_ (hb);clear HO_7;clear ho hb hg hat) | ((with_reducible refine gate_callee (f:=144) rfl ?_);refine goesL_ (some 16) rfl rfl Try.func144 (by kernel_rfl) rfl #[.slice A0 l0.length c0,.int .i64 x8_1] rfl lm_ ?_;(with_reducible refine (impl_endOf.calls k1 _ _ l0 x8_1 t7 _ ?side1 ?side2 A8.out).mono ?_);(case side1=>exact cc_ (Kd.C_below HR0.out HB.out));(case side2=>exact HC0.out);rintro e w' ⟨rfl,⟨nd,rfl⟩⟩;refine ⟨_,rfl,?_⟩))
     go_roundg k1
     case measure=>have:=HK1.out;omega
     case rel=>exact ⟨(y4),(t7),(by first | rfl | (simp;done) | (simp [*];done)),H',⟨by have:=HK1.out;omega⟩,⟨by (with_reducible repeat (first | apply Kd.R_alloc | apply Kd.R_drewN | apply Kd.R_drew));exact HO6.out⟩,⟨hbw_⟩⟩
    ·rw [if_neg c7] at H
     exact absurd H (by simp)
   ·rw [if_neg c6] at H
    have c6b0 : decide (x8_1 < a2) = false:=decide_eq_false c6
    clear c6
    obtain rfl:=Option.some.inj H
    go_wp2
    go_ret
    exact ⟨_,by first | rfl | (simp [errW_none,errW_some] <;> rfl) | (simp [*,errW_none,errW_some] <;> rfl),by (with_reducible repeat (first | apply Kd.R_alloc | apply Kd.R_drewN | apply Kd.R_drew));exact HO_7.out,hbw_⟩
theorem impl_siblings_ev (l : List S75) (a t : Nat) (ht : t ≤ l.length) (hl : l.length ≤ 1099511627776) : Ev (fun k=>impl_siblings.f k l (a : Int) (t : Int)) (nI (sib l t a)):=by
 have key : ∀ f (i : Nat) (acc : List Int),t - i ≤ f → acc.length ≤ i → Ev (fun k=>impl_siblings.l0 k l (t : Int) acc (i : Int)) (acc ++ nI (sibN l t f i)):=by
  intro f
  induction f with
  | zero =>
   intro i acc h1 h2
   refine Ev.succ ?_
   simp only [impl_siblings.l0]
   exact Ev.neg (by omega) (Ev.const (by simp [nI,sibN]))
  | succ f ih =>
   intro i acc h1 h2
   have hg:=endN_gt l i
   rw [sibN]
   refine Ev.succ ?_
   simp only [impl_siblings.l0]
   by_cases hi : i < t
   ·rw [if_pos hi]
    have:=ih (endN l i) (acc ++ [(i : Int)]) (by omega) (by rw [List.length_append];simp;omega)
    refine Ev.pos (by omega) (Ev.pos (by omega) (Ev.bind (impl_endOf_ev l _ (by omega) hl) ?_))
    simpa [nI] using this
   ·rw [if_neg hi]
    exact Ev.neg (by omega) (Ev.const (by simp [nI]))
 exact key (t - a) a [] (Nat.le_refl _) (by simp)
end Go.Proofs.Ytacgehaipacehaa.P
namespace Go.Proofs.Ytacgehaipacehaa.P
open Go.RowKit Go.Proofs.YtacgehaipacehaaW.PrintWords Go.Proofs.YtacgehaipacehaaW.PrintLast Go.Proofs.YtacgehaipacehaaW.PrintMore
attribute [local go_sem] max2_int min2_int max_two min_two max_three min_three max_four min_four
set_option linter.unusedVariables false
set_option linter.unusedSimpArgs false
def impl_tryFrom.l0 : Nat → List (S75) → Int → List Int → Int → Option (List Int)
 | 0,_,_,_,_=>none
 | k + 1,x0,x1,x5,x6=>if x6 < (x0.length : Int) then (if 0 ≤ x6 then (if 0 ≤ x1 then (if x1 < (x0.length : Int) then (if ((rd_T75 x0 x6).f0) = ((rd_T75 x0 x1).f0) then ((impl_within.f ((rd_T75 x0 x6).f1) 8 10).bind fun t8=>(if t8 = true then (if x5.length < 17592186044416 then ((impl_endOf.f k x0 x6).bind fun t12=>(impl_tryFrom.l0 k x0 x1 (x5 ++ [x6]) t12)) else (none)) else (some x5))) else (some x5)) else (none)) else (none)) else (none)) else (some x5)
def impl_tryFrom.f (k : Nat) (l0 : List (S75)) (a1 : Int) : Option (List Int):=(impl_endOf.f k l0 a1).bind fun t4=>(impl_tryFrom.l0 k l0 a1 (([a1] : List Int)) t4)
theorem impl_tryFrom.mono_l : ∀ k,(∀ y0 y1 y2 y3,LeO (impl_tryFrom.l0 k y0 y1 y2 y3) (impl_tryFrom.l0 (k + 1) y0 y1 y2 y3))
 | 0=>fun _ _ _ _ r h=>by simp [impl_tryFrom.l0] at h
 | k + 1=>by
  have ih0:=impl_tryFrom.mono_l k
  ·intro y0 y1 y2 y3
   unfold impl_tryFrom.l0
   repeat' first
   | (with_reducible exact ih0 _ _ _ _)
   | (with_reducible exact impl_endOf.mono _ _ _)
   | (with_reducible exact LeO.refl _)
   | (with_reducible exact LeO.none _)
   | (with_reducible refine LeO.ite ?_ ?_)
   | (with_reducible refine LeO.bind ?_ (fun _=>?_))
   | exact ih0 _ _ _ _
   | exact impl_endOf.mono _ _ _
   | exact LeO.none _
   | refine LeO.ite ?_ ?_
   | refine LeO.bind ?_ (fun _=>?_)
theorem impl_tryFrom.mono : ∀ a0 a1 k,LeO (impl_tryFrom.f k a0 a1) (impl_tryFrom.f (k + 1) a0 a1):=by
 intro a0 a1 k
 have ih0:=impl_tryFrom.mono_l k
 unfold impl_tryFrom.f
 repeat' first
   | (with_reducible exact ih0 _ _ _ _)
   | (with_reducible exact impl_endOf.mono _ _ _)
   | (with_reducible exact LeO.refl _)
   | (with_reducible exact LeO.none _)
   | (with_reducible refine LeO.ite ?_ ?_)
   | (with_reducible refine LeO.bind ?_ (fun _=>?_))
   | exact ih0 _ _ _ _
   | exact impl_endOf.mono _ _ _
   | exact LeO.none _
   | refine LeO.ite ?_ ?_
   | refine LeO.bind ?_ (fun _=>?_)
set_option maxHeartbeats 8000000 in
set_option maxRecDepth 100000 in
theorem impl_tryFrom.calls (k : Nat) (A0 : Option Addr) (c0 : Nat) (l0 : List (S75)) (a1 : Int) (r : List Int) (w : World) (hr0 : Kd.C k75 w A0 l0.length l0) (hc0 : l0.length ≤ c0) (h : impl_tryFrom.f k l0 a1 = some r) :
  Calls Try.prog 142 #[.slice A0 l0.length c0,.int .i64 a1] w fun e w'=>∃ v0_ : Value,e = .returned (v0_) ∧ Kd.R (Kd.int .i64) 3 w' w.heap.size (fun _=>True) v0_ r ∧ Below w.heap.size w w':=by
 have HR0:=a0_ hr0
 have HC0:=a0_ hc0
 clear hr0 hc0
 have HB:=a0_ (Below.refl w.heap.size w)
 have H : ((impl_endOf.f k l0 a1).bind fun t4=>(impl_tryFrom.l0 k l0 a1 (([a1] : List Int)) t4)) = some r:=h
 clear h
 obtain ⟨y1,hy1⟩ : ∃ y_ : List Int,y_ = (([a1] : List Int)):=⟨_,rfl⟩
 replace H : ((impl_endOf.f k l0 a1).bind fun t4=>(impl_tryFrom.l0 k l0 a1 y1 t4)) = some r:=by first | (rw [hy1];with_reducible exact H) | (have H2_:=(Option.bind_some _ _).symm.trans H;rw [hy1];with_reducible exact H2_) | (have H2_:=(Option.bind_some _ _).symm.trans H;with_reducible exact H2_) | with_reducible exact H | (rw [hy1];exact H) | exact H
 have Ny1:=a0_ hy1
 clear hy1
 replace H:=Option.bind_eq_some_iff.mp H
 obtain ⟨t4,A30,H⟩:=H
 replace H : (impl_tryFrom.l0 k l0 a1 y1 t4) = some r:=H
 have A3:=a0_ A30
 clear A30
 have H':=a0_ H
 clear H
 go_enter Try.func142,Try.ntmps142
 go_wp2_with (first | ((with_reducible refine gate_dst (N:=8) rfl ?_);refine Kd.R_lit (Kd.int .i64) _ 3 ?hg (N:=8) ?hd (xs:=([a1] : List Int)) (inner:=[.int .i64 a1]) (ok:=fun _=>True) (okp:=fun _=>True) ?hr ?hp (fun _ hk=>hk) trivial (Below.refl _ _) (Nat.le_refl _) (by simp) ?_;(case hd=>rfl);(case hg=>rfl);(case hr=>first | (go_simp;done) | (go_simp;rfl));(case hp=>exact (Reps.one (show Kd.M (Kd.int .i64) _ _ _ a1 [.int .i64 a1] from rfl) (Reps.none _ _)));intro v2 w4 ho5 hb hg_ hnew_;clear hg_ hnew_;(first | rw [← Ny1.out] at ho5 | (simp only [Int.reduceToNat] at ho5;rw [← Ny1.out] at ho5));have HO3:=a0_ (Kd.R_lower ho5 (below_size hbw_));replace HB:=a0_ (below_step hbw_ hb);clear hb ho5) | (go_at_call 144;(with_reducible refine (impl_endOf.calls k _ _ l0 a1 t4 _ ?side1 ?side2 A3.out).mono ?_);(case side1=>exact cc_ (Kd.C_below HR0.out HB.out));(case side2=>exact HC0.out);rintro e w' ⟨rfl,⟨nd,rfl⟩⟩;(try first | exact ⟨rfl,_,World.drewN_drewN _ _ _⟩ | exact ⟨rfl,_,Eq.trans (World.drewN_drewN _ _ _) (congrArg (World.drewN _) (Nat.add_assoc _ _ _))⟩)))
 repeat (go_quiet (first | ((with_reducible refine gate_dst (N:=8) rfl ?_);refine Kd.R_lit (Kd.int .i64) _ 3 ?hg (N:=8) ?hd (xs:=([a1] : List Int)) (inner:=[.int .i64 a1]) (ok:=fun _=>True) (okp:=fun _=>True) ?hr ?hp (fun _ hk=>hk) trivial (Below.refl _ _) (Nat.le_refl _) (by simp) ?_;(case hd=>rfl);(case hg=>rfl);(case hr=>first | (go_simp;done) | (go_simp;rfl));(case hp=>exact (Reps.one (show Kd.M (Kd.int .i64) _ _ _ a1 [.int .i64 a1] from rfl) (Reps.none _ _)));intro v2 w4 ho5 hb hg_ hnew_;clear hg_ hnew_;(first | rw [← Ny1.out] at ho5 | (simp only [Int.reduceToNat] at ho5;rw [← Ny1.out] at ho5));have HO3:=a0_ (Kd.R_lower ho5 (below_size hbw_));replace HB:=a0_ (below_step hbw_ hb);clear hb ho5) | (go_at_call 144;(with_reducible refine (impl_endOf.calls k _ _ l0 a1 t4 _ ?side1 ?side2 A3.out).mono ?_);(case side1=>exact cc_ (Kd.C_below HR0.out HB.out));(case side2=>exact HC0.out);rintro e w' ⟨rfl,⟨nd,rfl⟩⟩;(try first | exact ⟨rfl,_,World.drewN_drewN _ _ _⟩ | exact ⟨rfl,_,Eq.trans (World.drewN_drewN _ _ _) (congrArg (World.drewN _) (Nat.add_assoc _ _ _))⟩)));try go_wp2_with (first | ((with_reducible refine gate_dst (N:=8) rfl ?_);refine Kd.R_lit (Kd.int .i64) _ 3 ?hg (N:=8) ?hd (xs:=([a1] : List Int)) (inner:=[.int .i64 a1]) (ok:=fun _=>True) (okp:=fun _=>True) ?hr ?hp (fun _ hk=>hk) trivial (Below.refl _ _) (Nat.le_refl _) (by simp) ?_;(case hd=>rfl);(case hg=>rfl);(case hr=>first | (go_simp;done) | (go_simp;rfl));(case hp=>exact (Reps.one (show Kd.M (Kd.int .i64) _ _ _ a1 [.int .i64 a1] from rfl) (Reps.none _ _)));intro v2 w4 ho5 hb hg_ hnew_;clear hg_ hnew_;(first | rw [← Ny1.out] at ho5 | (simp only [Int.reduceToNat] at ho5;rw [← Ny1.out] at ho5));have HO3:=a0_ (Kd.R_lower ho5 (below_size hbw_));replace HB:=a0_ (below_step hbw_ hb);clear hb ho5) | (go_at_call 144;(with_reducible refine (impl_endOf.calls k _ _ l0 a1 t4 _ ?side1 ?side2 A3.out).mono ?_);(case side1=>exact cc_ (Kd.C_below HR0.out HB.out));(case side2=>exact HC0.out);rintro e w' ⟨rfl,⟨nd,rfl⟩⟩;(try first | exact ⟨rfl,_,World.drewN_drewN _ _ _⟩ | exact ⟨rfl,_,Eq.trans (World.drewN_drewN _ _ _) (congrArg (World.drewN _) (Nat.add_assoc _ _ _))⟩))))
 go_loopg [5,6] k (fun kq v5 v6 w'=>∃ (x5_1 : List Int) (x6_1 : Int),v6 = .int .i64 x6_1 ∧ Aside0 (impl_tryFrom.l0 kq l0 a1 x5_1 x6_1 = some r) ∧ Aside0 (kq ≤ k) ∧ Aside0 (Kd.R (Kd.int .i64) 3 w' w.heap.size (fun _=>True) v5 x5_1) ∧ Aside0 (Below w.heap.size w w'))
 case atStart=>exact ⟨(y1),(t4),(by first | rfl | (simp;done) | (simp [*];done)),H',⟨Nat.le_refl _⟩,⟨by (with_reducible repeat (first | apply Kd.R_alloc | apply Kd.R_drewN | apply Kd.R_drew));exact HO3.out⟩,⟨hbw_⟩⟩
 case round =>
  clear H'
  try clear c1
  try clear p2
  obtain ⟨x5_1,x6_1,rfl,HA,HK1,HO_5,HB⟩:=hrel
  cases gk with
  | zero=>exact absurd HA.out (by simp [impl_tryFrom.l0])
  | succ k1 =>
   have H:=HA.out
   clear HA
   simp only [impl_tryFrom.l0] at H
   by_cases c6 : x6_1 < (l0.length : Int)
   ·rw [if_pos c6] at H
    have c6b0 : decide (x6_1 < (l0.length : Int)) = true:=decide_eq_true c6
    clear c6
    by_cases c7 : 0 ≤ x6_1
    ·rw [if_pos c7] at H
     have c7b0 : decide (0 ≤ x6_1) = true:=decide_eq_true c7
     clear c7
     by_cases c8 : 0 ≤ a1
     ·rw [if_pos c8] at H
      have c8b0 : decide (0 ≤ a1) = true:=decide_eq_true c8
      clear c8
      by_cases c9 : a1 < (l0.length : Int)
      ·rw [if_pos c9] at H
       have c9b0 : decide (a1 < (l0.length : Int)) = true:=decide_eq_true c9
       clear c9
       by_cases c10 : ((rd_T75 l0 x6_1).f0) = ((rd_T75 l0 a1).f0)
       ·rw [if_pos c10] at H
        have c10b0 : (((rd_T75 l0 x6_1).f0) == ((rd_T75 l0 a1).f0)) = true:=beq_iff_eq.mpr c10
        have c10b1 : (((rd_T75 l0 x6_1).f0) != ((rd_T75 l0 a1).f0)) = false:=bne_eq_false_iff_eq.mpr c10
        clear c10
        replace H:=Option.bind_eq_some_iff.mp H
        obtain ⟨t8,A110,H⟩:=H
        try dsimp only at H
        have A11:=a0_ A110
        clear A110
        by_cases c12 : t8 = true
        ·subst c12
         have H1 : (if x5_1.length < 17592186044416 then ((impl_endOf.f k1 l0 x6_1).bind fun t12=>(impl_tryFrom.l0 k1 l0 a1 (x5_1 ++ [x6_1]) t12)) else (none)) = some r:=by rw [if_pos rfl] at H;exact H
         clear H
         have H:=H1
         clear H1
         by_cases c13 : x5_1.length < 17592186044416
         ·rw [if_pos c13] at H
          have LMc13:=a0_ c13
          clear c13
          obtain ⟨y9,hy9⟩ : ∃ y_ : List Int,y_ = (x5_1 ++ [x6_1]):=⟨_,rfl⟩
          replace H : ((impl_endOf.f k1 l0 x6_1).bind fun t12=>(impl_tryFrom.l0 k1 l0 a1 y9 t12)) = some r:=by first | (rw [hy9];with_reducible exact H) | (have H2_:=(Option.bind_some _ _).symm.trans H;rw [hy9];with_reducible exact H2_) | (have H2_:=(Option.bind_some _ _).symm.trans H;with_reducible exact H2_) | with_reducible exact H | (rw [hy9];exact H) | exact H
          have Ny9:=a0_ hy9
          clear hy9
          replace H:=Option.bind_eq_some_iff.mp H
          obtain ⟨t12,A140,H⟩:=H
          replace H : (impl_tryFrom.l0 k1 l0 a1 y9 t12) = some r:=H
          have A14:=a0_ A140
          clear A140
          have H':=a0_ H
          clear H
          have p5 : 0 ≤ (x6_1 : Int):=of_decide_eq_true (by first | (with_reducible assumption) | assumption)
          have q5 : x6_1 < (l0.length : Int):=of_decide_eq_true (by first | (with_reducible assumption) | assumption)
          obtain ⟨ad5,e5,hx5_0,hx5_1,hx5_2,hx5_3⟩:=at_T75 HR0.out x6_1 p5 q5
          cases e5
          replace hx5_0:=(HB.out.cell (World.block_lt_of_cell? w _ hx5_0)).trans hx5_0
          replace hx5_1:=(HB.out.cell (World.block_lt_of_cell? w _ hx5_1)).trans hx5_1
          replace hx5_2:=(HB.out.cell (World.block_lt_of_cell? w _ hx5_2)).trans hx5_2
          replace hx5_3:=(HB.out.cell (World.block_lt_of_cell? w _ hx5_3)).trans hx5_3
          replace p5:=eq_true p5
          replace q5:=eq_true q5
          have p6 : 0 ≤ (a1 : Int):=of_decide_eq_true (by first | (with_reducible assumption) | assumption)
          have q6 : a1 < (l0.length : Int):=of_decide_eq_true (by first | (with_reducible assumption) | assumption)
          obtain ⟨ad6,e6,hx6_0,hx6_1,hx6_2,hx6_3⟩:=at_T75 HR0.out a1 p6 q6
          obtain rfl : ad5 = ad6:=(by injection e6)
          replace hx6_0:=(HB.out.cell (World.block_lt_of_cell? w _ hx6_0)).trans hx6_0
          replace hx6_1:=(HB.out.cell (World.block_lt_of_cell? w _ hx6_1)).trans hx6_1
          replace hx6_2:=(HB.out.cell (World.block_lt_of_cell? w _ hx6_2)).trans hx6_2
          replace hx6_3:=(HB.out.cell (World.block_lt_of_cell? w _ hx6_3)).trans hx6_3
          replace p6:=eq_true p6
          replace q6:=eq_true q6
          have p7 : 0 ≤ (x6_1 : Int):=of_decide_eq_true (by first | (with_reducible assumption) | assumption)
          have q7 : x6_1 < (l0.length : Int):=of_decide_eq_true (by first | (with_reducible assumption) | assumption)
          obtain ⟨ad7,e7,hx7_0,hx7_1,hx7_2,hx7_3⟩:=at_T75 HR0.out x6_1 p7 q7
          obtain rfl : ad5 = ad7:=(by injection e7)
          replace hx7_0:=(HB.out.cell (World.block_lt_of_cell? w _ hx7_0)).trans hx7_0
          replace hx7_1:=(HB.out.cell (World.block_lt_of_cell? w _ hx7_1)).trans hx7_1
          replace hx7_2:=(HB.out.cell (World.block_lt_of_cell? w _ hx7_2)).trans hx7_2
          replace hx7_3:=(HB.out.cell (World.block_lt_of_cell? w _ hx7_3)).trans hx7_3
          replace p7:=eq_true p7
          replace q7:=eq_true q7
          go_wp2_with (first | (go_at_call 75;(with_reducible refine (impl_within.calls ((rd_T75 l0 x6_1).f1) 8 10 true _ A11.out).mono ?_);rintro e w' ⟨rfl,⟨nd,rfl⟩⟩;(try first | exact ⟨rfl,_,World.drewN_drewN _ _ _⟩ | exact ⟨rfl,_,Eq.trans (World.drewN_drewN _ _ _) (congrArg (World.drewN _) (Nat.add_assoc _ _ _))⟩)) | ((with_reducible refine gate_builtin (b:=.append) (xs:=#[.tmp 40,.tmp 42]) rfl ?_);at_builtin;refine Kd.R_append (Kd.int .i64) (w0:=w) w.heap.size rfl (.tmp 40) (.tmp 42) 26 3 (.int .i64 0) 8 rfl Try.underlying26 info3 rfl (by decide) (by omega) u5 x5_1 x6_1 [.int .i64 x6_1] (fun _=>True) (fun _=>False) rfl rfl ?aP (fun _ hk=>hk.elim) ?aF ?aO ?aB ?aS ?aL ?_;(case aP=>exact rfl);(case aB=>exact hbw_);(case aF=>exact (fun _ _=>trivial));(case aO=>exact (rr_ HO_5.out));(case aS=>exact (below_size hbw_));(case aL=>have:=LMc13.out;omega);intro v10 w15 ho hb hg hat;rw [← Ny9.out] at ho;have HO11:=a0_ (ho);replace HB:=a0_ (hb);clear HO_5;clear ho hb hg hat) | (go_at_call 144;(with_reducible refine (impl_endOf.calls k1 _ _ l0 x6_1 t12 _ ?side1 ?side2 A14.out).mono ?_);(case side1=>exact cc_ (Kd.C_below HR0.out HB.out));(case side2=>exact HC0.out);rintro e w' ⟨rfl,⟨nd,rfl⟩⟩;(try first | exact ⟨rfl,_,World.drewN_drewN _ _ _⟩ | exact ⟨rfl,_,Eq.trans (World.drewN_drewN _ _ _) (congrArg (World.drewN _) (Nat.add_assoc _ _ _))⟩)))
          repeat (go_quiet (first | (go_at_call 75;(with_reducible refine (impl_within.calls ((rd_T75 l0 x6_1).f1) 8 10 true _ A11.out).mono ?_);rintro e w' ⟨rfl,⟨nd,rfl⟩⟩;(try first | exact ⟨rfl,_,World.drewN_drewN _ _ _⟩ | exact ⟨rfl,_,Eq.trans (World.drewN_drewN _ _ _) (congrArg (World.drewN _) (Nat.add_assoc _ _ _))⟩)) | ((with_reducible refine gate_builtin (b:=.append) (xs:=#[.tmp 40,.tmp 42]) rfl ?_);at_builtin;refine Kd.R_append (Kd.int .i64) (w0:=w) w.heap.size rfl (.tmp 40) (.tmp 42) 26 3 (.int .i64 0) 8 rfl Try.underlying26 info3 rfl (by decide) (by omega) u5 x5_1 x6_1 [.int .i64 x6_1] (fun _=>True) (fun _=>False) rfl rfl ?aP (fun _ hk=>hk.elim) ?aF ?aO ?aB ?aS ?aL ?_;(case aP=>exact rfl);(case aB=>exact hbw_);(case aF=>exact (fun _ _=>trivial));(case aO=>exact (rr_ HO_5.out));(case aS=>exact (below_size hbw_));(case aL=>have:=LMc13.out;omega);intro v10 w15 ho hb hg hat;rw [← Ny9.out] at ho;have HO11:=a0_ (ho);replace HB:=a0_ (hb);clear HO_5;clear ho hb hg hat) | (go_at_call 144;(with_reducible refine (impl_endOf.calls k1 _ _ l0 x6_1 t12 _ ?side1 ?side2 A14.out).mono ?_);(case side1=>exact cc_ (Kd.C_below HR0.out HB.out));(case side2=>exact HC0.out);rintro e w' ⟨rfl,⟨nd,rfl⟩⟩;(try first | exact ⟨rfl,_,World.drewN_drewN _ _ _⟩ | exact ⟨rfl,_,Eq.trans (World.drewN_drewN _ _ _) (congrArg (World.drewN _) (Nat.add_assoc _ _ _))⟩)));try go_wp2_with (first | (go_at_call 75;(with_reducible refine (impl_within.calls ((rd_T75 l0 x6_1).f1) 8 10 true _ A11.out).mono ?_);rintro e w' ⟨rfl,⟨nd,rfl⟩⟩;(try first | exact ⟨rfl,_,World.drewN_drewN _ _ _⟩ | exact ⟨rfl,_,Eq.trans (World.drewN_drewN _ _ _) (congrArg (World.drewN _) (Nat.add_assoc _ _ _))⟩)) | ((with_reducible refine gate_builtin (b:=.append) (xs:=#[.tmp 40,.tmp 42]) rfl ?_);at_builtin;refine Kd.R_append (Kd.int .i64) (w0:=w) w.heap.size rfl (.tmp 40) (.tmp 42) 26 3 (.int .i64 0) 8 rfl Try.underlying26 info3 rfl (by decide) (by omega) u5 x5_1 x6_1 [.int .i64 x6_1] (fun _=>True) (fun _=>False) rfl rfl ?aP (fun _ hk=>hk.elim) ?aF ?aO ?aB ?aS ?aL ?_;(case aP=>exact rfl);(case aB=>exact hbw_);(case aF=>exact (fun _ _=>trivial));(case aO=>exact (rr_ HO_5.out));(case aS=>exact (below_size hbw_));(case aL=>have:=LMc13.out;omega);intro v10 w15 ho hb hg hat;rw [← Ny9.out] at ho;have HO11:=a0_ (ho);replace HB:=a0_ (hb);clear HO_5;clear ho hb hg hat) | (go_at_call 144;(with_reducible refine (impl_endOf.calls k1 _ _ l0 x6_1 t12 _ ?side1 ?side2 A14.out).mono ?_);(case side1=>exact cc_ (Kd.C_below HR0.out HB.out));(case side2=>exact HC0.out);rintro e w' ⟨rfl,⟨nd,rfl⟩⟩;(try first | exact ⟨rfl,_,World.drewN_drewN _ _ _⟩ | exact ⟨rfl,_,Eq.trans (World.drewN_drewN _ _ _) (congrArg (World.drewN _) (Nat.add_assoc _ _ _))⟩))))
          go_roundg k1
          case measure=>have:=HK1.out;omega
          case rel=>exact ⟨(y9),(t12),(by first | rfl | (simp;done) | (simp [*];done)),H',⟨by have:=HK1.out;omega⟩,⟨by (with_reducible repeat (first | apply Kd.R_alloc | apply Kd.R_drewN | apply Kd.R_drew));exact HO11.out⟩,⟨hbw_⟩⟩
         ·rw [if_neg c13] at H
          exact absurd H (by simp)
        ·replace c12:=Bool.eq_false_iff.mpr c12
         subst c12
         have H1 : (some x5_1) = some r:=by rw [if_neg (show ¬ (false = true) by decide)] at H;exact H
         clear H
         have H:=H1
         clear H1
         obtain rfl:=Option.some.inj H
         have p5 : 0 ≤ (x6_1 : Int):=of_decide_eq_true (by first | (with_reducible assumption) | assumption)
         have q5 : x6_1 < (l0.length : Int):=of_decide_eq_true (by first | (with_reducible assumption) | assumption)
         obtain ⟨ad5,e5,hx5_0,hx5_1,hx5_2,hx5_3⟩:=at_T75 HR0.out x6_1 p5 q5
         cases e5
         replace hx5_0:=(HB.out.cell (World.block_lt_of_cell? w _ hx5_0)).trans hx5_0
         replace hx5_1:=(HB.out.cell (World.block_lt_of_cell? w _ hx5_1)).trans hx5_1
         replace hx5_2:=(HB.out.cell (World.block_lt_of_cell? w _ hx5_2)).trans hx5_2
         replace hx5_3:=(HB.out.cell (World.block_lt_of_cell? w _ hx5_3)).trans hx5_3
         replace p5:=eq_true p5
         replace q5:=eq_true q5
         have p6 : 0 ≤ (a1 : Int):=of_decide_eq_true (by first | (with_reducible assumption) | assumption)
         have q6 : a1 < (l0.length : Int):=of_decide_eq_true (by first | (with_reducible assumption) | assumption)
         obtain ⟨ad6,e6,hx6_0,hx6_1,hx6_2,hx6_3⟩:=at_T75 HR0.out a1 p6 q6
         obtain rfl : ad5 = ad6:=(by injection e6)
         replace hx6_0:=(HB.out.cell (World.block_lt_of_cell? w _ hx6_0)).trans hx6_0
         replace hx6_1:=(HB.out.cell (World.block_lt_of_cell? w _ hx6_1)).trans hx6_1
         replace hx6_2:=(HB.out.cell (World.block_lt_of_cell? w _ hx6_2)).trans hx6_2
         replace hx6_3:=(HB.out.cell (World.block_lt_of_cell? w _ hx6_3)).trans hx6_3
         replace p6:=eq_true p6
         replace q6:=eq_true q6
         have p7 : 0 ≤ (x6_1 : Int):=of_decide_eq_true (by first | (with_reducible assumption) | assumption)
         have q7 : x6_1 < (l0.length : Int):=of_decide_eq_true (by first | (with_reducible assumption) | assumption)
         obtain ⟨ad7,e7,hx7_0,hx7_1,hx7_2,hx7_3⟩:=at_T75 HR0.out x6_1 p7 q7
         obtain rfl : ad5 = ad7:=(by injection e7)
         replace hx7_0:=(HB.out.cell (World.block_lt_of_cell? w _ hx7_0)).trans hx7_0
         replace hx7_1:=(HB.out.cell (World.block_lt_of_cell? w _ hx7_1)).trans hx7_1
         replace hx7_2:=(HB.out.cell (World.block_lt_of_cell? w _ hx7_2)).trans hx7_2
         replace hx7_3:=(HB.out.cell (World.block_lt_of_cell? w _ hx7_3)).trans hx7_3
         replace p7:=eq_true p7
         replace q7:=eq_true q7
         go_wp2_with (first | (go_at_call 75;(with_reducible refine (impl_within.calls ((rd_T75 l0 x6_1).f1) 8 10 false _ A11.out).mono ?_);rintro e w' ⟨rfl,⟨nd,rfl⟩⟩;(try first | exact ⟨rfl,_,World.drewN_drewN _ _ _⟩ | exact ⟨rfl,_,Eq.trans (World.drewN_drewN _ _ _) (congrArg (World.drewN _) (Nat.add_assoc _ _ _))⟩)))
         repeat (go_quiet (first | (go_at_call 75;(with_reducible refine (impl_within.calls ((rd_T75 l0 x6_1).f1) 8 10 false _ A11.out).mono ?_);rintro e w' ⟨rfl,⟨nd,rfl⟩⟩;(try first | exact ⟨rfl,_,World.drewN_drewN _ _ _⟩ | exact ⟨rfl,_,Eq.trans (World.drewN_drewN _ _ _) (congrArg (World.drewN _) (Nat.add_assoc _ _ _))⟩)));try go_wp2_with (first | (go_at_call 75;(with_reducible refine (impl_within.calls ((rd_T75 l0 x6_1).f1) 8 10 false _ A11.out).mono ?_);rintro e w' ⟨rfl,⟨nd,rfl⟩⟩;(try first | exact ⟨rfl,_,World.drewN_drewN _ _ _⟩ | exact ⟨rfl,_,Eq.trans (World.drewN_drewN _ _ _) (congrArg (World.drewN _) (Nat.add_assoc _ _ _))⟩))))
         go_ret
         exact ⟨_,by first | rfl | (simp [errW_none,errW_some] <;> rfl) | (simp [*,errW_none,errW_some] <;> rfl),by (with_reducible repeat (first | apply Kd.R_alloc | apply Kd.R_drewN | apply Kd.R_drew));exact HO_5.out,hbw_⟩
       ·rw [if_neg c10] at H
        have c10b0 : (((rd_T75 l0 x6_1).f0) == ((rd_T75 l0 a1).f0)) = false:=beq_eq_false_iff_ne.mpr c10
        have c10b1 : (((rd_T75 l0 x6_1).f0) != ((rd_T75 l0 a1).f0)) = true:=bne_iff_ne.mpr c10
        obtain rfl:=Option.some.inj H
        have p5 : 0 ≤ (x6_1 : Int):=of_decide_eq_true (by first | (with_reducible assumption) | assumption)
        have q5 : x6_1 < (l0.length : Int):=of_decide_eq_true (by first | (with_reducible assumption) | assumption)
        obtain ⟨ad5,e5,hx5_0,hx5_1,hx5_2,hx5_3⟩:=at_T75 HR0.out x6_1 p5 q5
        cases e5
        replace hx5_0:=(HB.out.cell (World.block_lt_of_cell? w _ hx5_0)).trans hx5_0
        replace hx5_1:=(HB.out.cell (World.block_lt_of_cell? w _ hx5_1)).trans hx5_1
        replace hx5_2:=(HB.out.cell (World.block_lt_of_cell? w _ hx5_2)).trans hx5_2
        replace hx5_3:=(HB.out.cell (World.block_lt_of_cell? w _ hx5_3)).trans hx5_3
        replace p5:=eq_true p5
        replace q5:=eq_true q5
        have p6 : 0 ≤ (a1 : Int):=of_decide_eq_true (by first | (with_reducible assumption) | assumption)
        have q6 : a1 < (l0.length : Int):=of_decide_eq_true (by first | (with_reducible assumption) | assumption)
        obtain ⟨ad6,e6,hx6_0,hx6_1,hx6_2,hx6_3⟩:=at_T75 HR0.out a1 p6 q6
        obtain rfl : ad5 = ad6:=(by injection e6)
        replace hx6_0:=(HB.out.cell (World.block_lt_of_cell? w _ hx6_0)).trans hx6_0
        replace hx6_1:=(HB.out.cell (World.block_lt_of_cell? w _ hx6_1)).trans hx6_1
        replace hx6_2:=(HB.out.cell (World.block_lt_of_cell? w _ hx6_2)).trans hx6_2
        replace hx6_3:=(HB.out.cell (World.block_lt_of_cell? w _ hx6_3)).trans hx6_3
        replace p6:=eq_true p6
        replace q6:=eq_true q6
        go_wp2
        repeat (go_quiet (fail);try go_wp2)
        go_ret
        exact ⟨_,by first | rfl | (simp [errW_none,errW_some] <;> rfl) | (simp [*,errW_none,errW_some] <;> rfl),by (with_reducible repeat (first | apply Kd.R_alloc | apply Kd.R_drewN | apply Kd.R_drew));exact HO_5.out,hbw_⟩
      ·rw [if_neg c9] at H
       exact absurd H (by simp)
     ·rw [if_neg c8] at H
      exact absurd H (by simp)
    ·rw [if_neg c7] at H
     exact absurd H (by simp)
   ·rw [if_neg c6] at H
    have c6b0 : decide (x6_1 < (l0.length : Int)) = false:=decide_eq_false c6
    clear c6
    obtain rfl:=Option.some.inj H
    go_wp2
    repeat (go_quiet (fail);try go_wp2)
    go_ret
    exact ⟨_,by first | rfl | (simp [errW_none,errW_some] <;> rfl) | (simp [*,errW_none,errW_some] <;> rfl),by (with_reducible repeat (first | apply Kd.R_alloc | apply Kd.R_drewN | apply Kd.R_drew));exact HO_5.out,hbw_⟩
theorem impl_tryFrom_ev (l : List S75) (i : Nat) (hi : i < l.length) (hl : l.length ≤ 1099511627776) : Ev (fun k=>impl_tryFrom.f k l (i : Int)) (nI (i :: chR l l.length i)):=by
 have key : ∀ f (c : Nat) (acc : List Int),l.length - c ≤ f → c < l.length → ld l c = ld l i → acc.length ≤ c + 1 → Ev (fun k=>impl_tryFrom.l0 k l (i : Int) acc ((endN l c : Nat) : Int)) (acc ++ nI (chR l f c)):=by
  intro f
  induction f with
  | zero=>intro c acc h1 h2;omega
  | succ f ih =>
   intro c acc h1 h2 h3 h4
   have hg:=endN_gt l c
   have hle:=endN_le h2
   rw [chR]
   refine Ev.succ ?_
   simp only [impl_tryFrom.l0,rd_ld_,rd_lk_]
   by_cases he : endN l c < l.length
   ·refine Ev.pos (by omega) (Ev.pos (by omega) (Ev.pos (by omega) (Ev.pos (by omega) ?_)))
    by_cases hd : ld l (endN l c) = ld l c
    ·refine Ev.pos (by omega) (Ev.bind (Ev.const (impl_within_ev _ _ _)) ?_)
     by_cases hk : 8 ≤ lk l (endN l c) ∧ lk l (endN l c) ≤ 10
     ·rw [if_pos ⟨he,hd,hk⟩]
      have:=ih (endN l c) (acc ++ [((endN l c : Nat) : Int)]) (by omega) he (by omega) (by rw [List.length_append];simp;omega)
      refine Ev.pos (by simp [hk]) (Ev.pos (by omega) (Ev.bind (impl_endOf_ev l _ he hl) ?_))
      simpa [nI] using this
     ·rw [if_neg (fun h=>hk h.2.2)]
      refine Ev.neg (fun h=>hk ?_) (Ev.const (by simp [nI]))
      simpa using h
    ·rw [if_neg (fun h=>hd h.2.1)]
     exact Ev.neg (by omega) (Ev.const (by simp [nI]))
   ·rw [if_neg (fun h=>he h.1)]
    exact Ev.neg (by omega) (Ev.const (by simp [nI]))
 unfold impl_tryFrom.f
 refine Ev.bind (impl_endOf_ev l i hi hl) ?_
 exact key l.length i [(i : Int)] (by omega) hi rfl (by simp)
end Go.Proofs.Ytacgehaipacehaa.P
namespace Go.Proofs.Ytacgehaipacehaa.P
open Go.RowKit Go.Proofs.YtacgehaipacehaaW.PrintWords Go.Proofs.YtacgehaipacehaaW.PrintLast Go.Proofs.YtacgehaipacehaaW.PrintMore
attribute [local go_sem] max2_int min2_int max_two min_two max_three min_three max_four min_four
set_option linter.unusedVariables false
set_option linter.unusedSimpArgs false
mutual
def impl_tryOk.l0 : Nat → List (S75) → List Int → Int → Int → List Int → Int → Int → Option (Bool)
 | 0,_,_,_,_,_,_,_=>none
 | k + 1,x0,x1,x5,x6,x11,x12,x13=>if x13 < x12 then (if 0 ≤ x13 then (if x13 < (x11.length : Int) then (if 0 ≤ (rd x11 x13) then (if (rd x11 x13) < (x0.length : Int) then (if ((rd_T75 x0 (rd x11 x13)).f1) = 8 then (impl_tryOk.j1 k x0 x1 x5 x6 ((rd_T75 x0 (rd x11 x13)).f1) x11 x12 x13 (decide (x6 ≤ 8))) else (impl_tryOk.j1 k x0 x1 x5 x6 ((rd_T75 x0 (rd x11 x13)).f1) x11 x12 x13 false)) else (none)) else (none)) else (none)) else (none)) else (if (x1.length : Int) > 1 then (some (decide (x5 ≤ 6))) else (some false))
def impl_tryOk.j1 : Nat → List (S75) → List Int → Int → Int → Int → List Int → Int → Int → Bool → Option (Bool)
 | 0,_,_,_,_,_,_,_,_,_=>none
 | k + 1,x0,x1,x5,x6,x9,x11,x12,x13,x22=>if x22 = true then (impl_tryOk.l0 k x0 x1 (wrap64 (x5 + 1)) x9 x11 x12 (wrap64 (x13 + 1))) else (if x9 = 9 then (impl_tryOk.j2 k x0 x1 x5 x6 x9 x11 x12 x13 (x6 == 8)) else (impl_tryOk.j2 k x0 x1 x5 x6 x9 x11 x12 x13 false))
def impl_tryOk.j2 : Nat → List (S75) → List Int → Int → Int → Int → List Int → Int → Int → Bool → Option (Bool)
 | 0,_,_,_,_,_,_,_,_,_=>none
 | k + 1,x0,x1,x5,x6,x9,x11,x12,x13,x31=>if x31 = true then (impl_tryOk.l0 k x0 x1 x5 x9 x11 x12 (wrap64 (x13 + 1))) else (if x9 = 10 then (if x6 < 10 then (impl_tryOk.l0 k x0 x1 x5 x9 x11 x12 (wrap64 (x13 + 1))) else (some false)) else (some false))
end
def impl_tryOk.f (k : Nat) (l0 : List (S75)) (l1 : List Int) : Option (Bool):=if 1 ≤ (l1.length : Int) then (impl_tryOk.l0 k l0 l1 0 7 (l1.drop 1) ((l1.drop 1).length : Int) 0) else (none)
theorem impl_tryOk.mono_l : ∀ k,(∀ y0 y1 y2 y3 y4 y5 y6,LeO (impl_tryOk.l0 k y0 y1 y2 y3 y4 y5 y6) (impl_tryOk.l0 (k + 1) y0 y1 y2 y3 y4 y5 y6)) ∧ (∀ y0 y1 y2 y3 y4 y5 y6 y7 y8,LeO (impl_tryOk.j1 k y0 y1 y2 y3 y4 y5 y6 y7 y8) (impl_tryOk.j1 (k + 1) y0 y1 y2 y3 y4 y5 y6 y7 y8)) ∧ (∀ y0 y1 y2 y3 y4 y5 y6 y7 y8,LeO (impl_tryOk.j2 k y0 y1 y2 y3 y4 y5 y6 y7 y8) (impl_tryOk.j2 (k + 1) y0 y1 y2 y3 y4 y5 y6 y7 y8))
 | 0=>⟨fun _ _ _ _ _ _ _ r h=>by simp [impl_tryOk.l0] at h,fun _ _ _ _ _ _ _ _ _ r h=>by simp [impl_tryOk.j1] at h,fun _ _ _ _ _ _ _ _ _ r h=>by simp [impl_tryOk.j2] at h⟩
 | k + 1=>by
  obtain ⟨ih0,ih1,ih2⟩:=impl_tryOk.mono_l k
  refine ⟨?_,?_,?_⟩
  ·intro y0 y1 y2 y3 y4 y5 y6
   unfold impl_tryOk.l0
   repeat' first
   | (with_reducible exact ih0 _ _ _ _ _ _ _)
   | (with_reducible exact ih1 _ _ _ _ _ _ _ _ _)
   | (with_reducible exact ih2 _ _ _ _ _ _ _ _ _)
   | (with_reducible exact LeO.refl _)
   | (with_reducible exact LeO.none _)
   | (with_reducible refine LeO.ite ?_ ?_)
   | (with_reducible refine LeO.bind ?_ (fun _=>?_))
   | exact ih0 _ _ _ _ _ _ _
   | exact ih1 _ _ _ _ _ _ _ _ _
   | exact ih2 _ _ _ _ _ _ _ _ _
   | exact LeO.none _
   | refine LeO.ite ?_ ?_
   | refine LeO.bind ?_ (fun _=>?_)
  ·intro y0 y1 y2 y3 y4 y5 y6 y7 y8
   unfold impl_tryOk.j1
   repeat' first
   | (with_reducible exact ih0 _ _ _ _ _ _ _)
   | (with_reducible exact ih1 _ _ _ _ _ _ _ _ _)
   | (with_reducible exact ih2 _ _ _ _ _ _ _ _ _)
   | (with_reducible exact LeO.refl _)
   | (with_reducible exact LeO.none _)
   | (with_reducible refine LeO.ite ?_ ?_)
   | (with_reducible refine LeO.bind ?_ (fun _=>?_))
   | exact ih0 _ _ _ _ _ _ _
   | exact ih1 _ _ _ _ _ _ _ _ _
   | exact ih2 _ _ _ _ _ _ _ _ _
   | exact LeO.none _
   | refine LeO.ite ?_ ?_
   | refine LeO.bind ?_ (fun _=>?_)
  ·intro y0 y1 y2 y3 y4 y5 y6 y7 y8
   unfold impl_tryOk.j2
   repeat' first
   | (with_reducible exact ih0 _ _ _ _ _ _ _)
   | (with_reducible exact ih1 _ _ _ _ _ _ _ _ _)
   | (with_reducible exact ih2 _ _ _ _ _ _ _ _ _)
   | (with_reducible exact LeO.refl _)
   | (with_reducible exact LeO.none _)
   | (with_reducible refine LeO.ite ?_ ?_)
   | (with_reducible refine LeO.bind ?_ (fun _=>?_))
   | exact ih0 _ _ _ _ _ _ _
   | exact ih1 _ _ _ _ _ _ _ _ _
   | exact ih2 _ _ _ _ _ _ _ _ _
   | exact LeO.none _
   | refine LeO.ite ?_ ?_
   | refine LeO.bind ?_ (fun _=>?_)
theorem impl_tryOk.mono : ∀ a0 a1 k,LeO (impl_tryOk.f k a0 a1) (impl_tryOk.f (k + 1) a0 a1):=by
 intro a0 a1 k
 obtain ⟨ih0,ih1,ih2⟩:=impl_tryOk.mono_l k
 unfold impl_tryOk.f
 repeat' first
   | (with_reducible exact ih0 _ _ _ _ _ _ _)
   | (with_reducible exact ih1 _ _ _ _ _ _ _ _ _)
   | (with_reducible exact ih2 _ _ _ _ _ _ _ _ _)
   | (with_reducible exact LeO.refl _)
   | (with_reducible exact LeO.none _)
   | (with_reducible refine LeO.ite ?_ ?_)
   | (with_reducible refine LeO.bind ?_ (fun _=>?_))
   | exact ih0 _ _ _ _ _ _ _
   | exact ih1 _ _ _ _ _ _ _ _ _
   | exact ih2 _ _ _ _ _ _ _ _ _
   | exact LeO.none _
   | refine LeO.ite ?_ ?_
   | refine LeO.bind ?_ (fun _=>?_)
set_option maxHeartbeats 8000000 in
set_option maxRecDepth 100000 in
theorem impl_tryOk.calls (k : Nat) (A0 : Option Addr) (c0 : Nat) (l0 : List (S75)) (A1 : Option Addr) (c1 : Nat) (l1 : List Int) (r : Bool) (w : World) (hr0 : Kd.C k75 w A0 l0.length l0) (hc0 : l0.length ≤ c0) (hr1 : Kd.C (Kd.int .i64) w A1 l1.length l1) (hc1 : l1.length ≤ c1) (h : impl_tryOk.f k l0 l1 = some r) :
  Calls Try.prog 143 #[.slice A0 l0.length c0,.slice A1 l1.length c1] w fun e w'=>e = .returned (.bool r) ∧ Drawn0 w w':=by
 have HR0:=a0_ hr0
 have HC0:=a0_ hc0
 clear hr0 hc0
 have HR1:=a0_ hr1
 have HC1:=a0_ hc1
 clear hr1 hc1
 have H : (if 1 ≤ (l1.length : Int) then (impl_tryOk.l0 k l0 l1 0 7 (l1.drop 1) ((l1.drop 1).length : Int) 0) else (none)) = some r:=h
 clear h
 by_cases c3 : 1 ≤ (l1.length : Int)
 ·rw [if_pos c3] at H
  have c3b0:=eq_true c3
  have c3b1 : decide (1 ≤ (l1.length : Int)) = true:=decide_eq_true c3
  clear c3
  have H':=a0_ H
  clear H
  obtain ⟨i04,hi04,_,hsz4,_⟩:=info_parts info3
  obtain ⟨A4,hcut4,hA4,hC4⟩:=print_drop_of (P:=Try.prog) (Value.int .i64) 0 26 3 .i64 Try.underlying26 hi04 hsz4 A1 c1 l1 1 (by omega) (of_decide_eq_true (by first | (with_reducible assumption) | assumption)) HC1.out
  have HR1:=a0_ (Kd.C_of_reads (h1:=fun _=>rfl) (hA4 _ (Kd.reads_of_C HR1.out)))
  have HC1:=a0_ hC4
  clear hA4 hC4 hi04 hsz4
  have e1_ : List.drop (Int.toNat 1) l1 = l1.drop 1:=rfl
  simp only [e1_] at HR1 HC1 hcut4
  generalize l1.drop 1 = l2 at HR1 HC1 hcut4 H'
  go_enter Try.func143,Try.ntmps143
  go_wp2
  go_loopg [5,6,13] k (fun kq v5 v6 v13 w'=>∃ (x5_1 : Int) (x6_1 : Int) (x13_1 : Int),v5 = .int .i64 x5_1 ∧ v6 = .int .i64 x6_1 ∧ v13 = .int .i64 x13_1 ∧ Aside0 (impl_tryOk.l0 kq l0 l1 x5_1 x6_1 l2 (l2.length : Int) x13_1 = some r) ∧ Aside0 (kq ≤ k) ∧ Drawn0 w w')
  case atStart=>exact ⟨(0),(7),(0),(by first | rfl | (simp;done) | (simp [*];done)),(by first | rfl | (simp;done) | (simp [*];done)),(by first | rfl | (simp;done) | (simp [*];done)),H',⟨Nat.le_refl _⟩,by repeat (first | exact Drawn0.refl _ | apply Drawn0.step)⟩
  case round =>
   clear H'
   try clear c1
   try clear p2
   try clear c3
   try clear c3b0
   try clear c3b1
   obtain ⟨x5_1,x6_1,x13_1,rfl,rfl,rfl,HA,HK1,⟨m1,rfl⟩⟩:=hrel
   cases gk with
   | zero=>exact absurd HA.out (by simp [impl_tryOk.l0])
   | succ k1 =>
    have H:=HA.out
    clear HA
    simp only [impl_tryOk.l0] at H
    by_cases c5 : x13_1 < (l2.length : Int)
    ·rw [if_pos c5] at H
     have c5b0 : decide (x13_1 < (l2.length : Int)) = true:=decide_eq_true c5
     clear c5
     by_cases c6 : 0 ≤ x13_1
     ·rw [if_pos c6] at H
      have c6b0 : decide (0 ≤ x13_1) = true:=decide_eq_true c6
      clear c6
      by_cases c7 : x13_1 < (l2.length : Int)
      ·rw [if_pos c7] at H
       have c7b0 : decide (x13_1 < (l2.length : Int)) = true:=decide_eq_true c7
       clear c7
       by_cases c8 : 0 ≤ (rd l2 x13_1)
       ·rw [if_pos c8] at H
        have c8b0 : decide (0 ≤ (rd l2 x13_1)) = true:=decide_eq_true c8
        clear c8
        by_cases c9 : (rd l2 x13_1) < (l0.length : Int)
        ·rw [if_pos c9] at H
         have c9b0 : decide ((rd l2 x13_1) < (l0.length : Int)) = true:=decide_eq_true c9
         clear c9
         have HC10:=a0_ H
         clear H
         have p2 : 0 ≤ (x13_1 : Int):=of_decide_eq_true (by first | (with_reducible assumption) | assumption)
         have q2 : x13_1 < (l2.length : Int):=of_decide_eq_true (by first | (with_reducible assumption) | assumption)
         obtain ⟨ad2,e2,hx2_0⟩:=Kd.at_int HR1.out x13_1 p2 q2
         cases e2
         replace p2:=eq_true p2
         replace q2:=eq_true q2
         have p3 : 0 ≤ ((rd l2 x13_1) : Int):=of_decide_eq_true (by first | (with_reducible assumption) | assumption)
         have q3 : (rd l2 x13_1) < (l0.length : Int):=of_decide_eq_true (by first | (with_reducible assumption) | assumption)
         obtain ⟨ad3,e3,hx3_0,hx3_1,hx3_2,hx3_3⟩:=at_T75 HR0.out (rd l2 x13_1) p3 q3
         cases e3
         replace p3:=eq_true p3
         replace q3:=eq_true q3
         go_upto_region 7 with (fail)
         go_cut [22] (fun v22 wc=>∃ (kq : Nat) (x22_9 : Bool),v22 = .bool x22_9 ∧ Aside0 (impl_tryOk.j1 kq l0 l1 x5_1 x6_1 ((rd_T75 l0 (rd l2 x13_1)).f1) l2 (l2.length : Int) x13_1 x22_9 = some r) ∧ Aside0 (kq ≤ k1) ∧ Drawn0 w wc)
         case first =>
          have H:=HC10.out
          clear HC10
          by_cases c11 : ((rd_T75 l0 (rd l2 x13_1)).f1) = 8
          ·rw [if_pos c11] at H
           have c11b0 : (((rd_T75 l0 (rd l2 x13_1)).f1) == 8) = true:=beq_iff_eq.mpr c11
           have c11b1 : (((rd_T75 l0 (rd l2 x13_1)).f1) != 8) = false:=bne_eq_false_iff_eq.mpr c11
           clear c11
           (first | rw [c11b0] | (simp only [i64_w,i32_w];rw [c11b0]) | skip)
           have H':=a0_ H
           clear H
           go_wp2
           go_meet
           case rel=>exact ⟨_,(decide (x6_1 ≤ 8)),(by first | rfl | (simp;done) | (simp [*];done)),H',⟨by have:=HK1.out;first | omega | exact Nat.le_refl _⟩,by repeat (first | exact Drawn0.refl _ | apply Drawn0.step)⟩
          ·rw [if_neg c11] at H
           have c11b0 : (((rd_T75 l0 (rd l2 x13_1)).f1) == 8) = false:=beq_eq_false_iff_ne.mpr c11
           have c11b1 : (((rd_T75 l0 (rd l2 x13_1)).f1) != 8) = true:=bne_iff_ne.mpr c11
           (first | rw [c11b0] | (simp only [i64_w,i32_w];rw [c11b0]) | skip)
           have H':=a0_ H
           clear H
           go_wp2
           go_meet
           case rel=>exact ⟨_,(false),(by first | rfl | (simp;done) | (simp [*];done)),H',⟨by have:=HK1.out;first | omega | exact Nat.le_refl _⟩,by repeat (first | exact Drawn0.refl _ | apply Drawn0.step)⟩
         case rest =>
          clear HC10
          try clear c1
          try clear p2
          try clear q2
          try clear hx2
          try clear c3
          try clear c3b0
          try clear c3b1
          try clear p3
          try clear q3
          try clear hx3
          try clear c5
          try clear c5b0
          try clear c6
          try clear c6b0
          try clear c7
          try clear c7b0
          try clear c8
          try clear c8b0
          try clear c9
          try clear c9b0
          try clear c11
          try clear c11b0
          try clear c11b1
          try clear hx2_0
          try clear hx3_0
          try clear hx3_1
          try clear hx3_2
          try clear hx3_3
          try clear p2
          try clear p3
          try clear q2
          try clear q3
          obtain ⟨kq,x22_9,rfl,HA,HJ9,⟨mc9,rfl⟩⟩:=hcut
          cases kq with
          | zero=>exact absurd HA.out (by simp [impl_tryOk.j1])
          | succ kj9 =>
           have H:=HA.out
           clear HA
           simp only [impl_tryOk.j1] at H
           by_cases c12 : x22_9 = true
           ·subst c12
            have H1 : (impl_tryOk.l0 kj9 l0 l1 (wrap64 (x5_1 + 1)) ((rd_T75 l0 (rd l2 x13_1)).f1) l2 (l2.length : Int) (wrap64 (x13_1 + 1))) = some r:=by rw [if_pos rfl] at H;exact H
            clear H
            have H:=H1
            clear H1
            have H':=a0_ H
            clear H
            go_wp2
            go_roundg kj9
            case measure=>have:=HK1.out;have:=HJ9.out;omega
            case rel=>exact ⟨(wrap64 (x5_1 + 1)),(((rd_T75 l0 (rd l2 x13_1)).f1)),(wrap64 (x13_1 + 1)),(by first | rfl | (simp;done) | (simp [*];done)),(by first | rfl | (simp;done) | (simp [*];done)),(by first | rfl | (simp;done) | (simp [*];done)),H',⟨by have:=HK1.out;have:=HJ9.out;omega⟩,by repeat (first | exact Drawn0.refl _ | apply Drawn0.step)⟩
           ·replace c12:=Bool.eq_false_iff.mpr c12
            subst c12
            have H1 : (if ((rd_T75 l0 (rd l2 x13_1)).f1) = 9 then (impl_tryOk.j2 kj9 l0 l1 x5_1 x6_1 ((rd_T75 l0 (rd l2 x13_1)).f1) l2 (l2.length : Int) x13_1 (x6_1 == 8)) else (impl_tryOk.j2 kj9 l0 l1 x5_1 x6_1 ((rd_T75 l0 (rd l2 x13_1)).f1) l2 (l2.length : Int) x13_1 false)) = some r:=by rw [if_neg (show ¬ (false = true) by decide)] at H;exact H
            clear H
            have H:=H1
            clear H1
            have HC13:=a0_ H
            clear H
            go_upto_region 9 with (fail)
            go_cut [31] (fun v31 wc=>∃ (kq : Nat) (x31_12 : Bool),v31 = .bool x31_12 ∧ Aside0 (impl_tryOk.j2 kq l0 l1 x5_1 x6_1 ((rd_T75 l0 (rd l2 x13_1)).f1) l2 (l2.length : Int) x13_1 x31_12 = some r) ∧ Aside0 (kq ≤ kj9) ∧ Drawn0 w wc)
            case first =>
             have H:=HC13.out
             clear HC13
             by_cases c14 : ((rd_T75 l0 (rd l2 x13_1)).f1) = 9
             ·rw [if_pos c14] at H
              have c14b0 : (((rd_T75 l0 (rd l2 x13_1)).f1) == 9) = true:=beq_iff_eq.mpr c14
              have c14b1 : (((rd_T75 l0 (rd l2 x13_1)).f1) != 9) = false:=bne_eq_false_iff_eq.mpr c14
              clear c14
              (first | rw [c14b0] | (simp only [i64_w,i32_w];rw [c14b0]) | skip)
              have H':=a0_ H
              clear H
              go_wp2
              go_meet
              case rel=>exact ⟨_,((x6_1 == 8)),(by first | rfl | (simp;done) | (simp [*];done)),H',⟨by have:=HK1.out;have:=HJ9.out;first | omega | exact Nat.le_refl _⟩,by repeat (first | exact Drawn0.refl _ | apply Drawn0.step)⟩
             ·rw [if_neg c14] at H
              have c14b0 : (((rd_T75 l0 (rd l2 x13_1)).f1) == 9) = false:=beq_eq_false_iff_ne.mpr c14
              have c14b1 : (((rd_T75 l0 (rd l2 x13_1)).f1) != 9) = true:=bne_iff_ne.mpr c14
              (first | rw [c14b0] | (simp only [i64_w,i32_w];rw [c14b0]) | skip)
              have H':=a0_ H
              clear H
              go_wp2
              go_meet
              case rel=>exact ⟨_,(false),(by first | rfl | (simp;done) | (simp [*];done)),H',⟨by have:=HK1.out;have:=HJ9.out;first | omega | exact Nat.le_refl _⟩,by repeat (first | exact Drawn0.refl _ | apply Drawn0.step)⟩
            case rest =>
             clear HC13
             try clear c1
             try clear p2
             try clear q2
             try clear hx2
             try clear c3
             try clear c3b0
             try clear c3b1
             try clear p3
             try clear q3
             try clear hx3
             try clear c5
             try clear c5b0
             try clear c6
             try clear c6b0
             try clear p6
             try clear c7
             try clear c7b0
             try clear c8
             try clear c8b0
             try clear c9
             try clear c9b0
             try clear c11
             try clear c11b0
             try clear c11b1
             try clear c12
             try clear c14
             try clear c14b0
             try clear c14b1
             try clear hx2_0
             try clear hx3_0
             try clear hx3_1
             try clear hx3_2
             try clear hx3_3
             try clear p2
             try clear p3
             try clear q2
             try clear q3
             obtain ⟨kq,x31_12,rfl,HA,HJ12,⟨mc12,rfl⟩⟩:=hcut
             cases kq with
             | zero=>exact absurd HA.out (by simp [impl_tryOk.j2])
             | succ kj12 =>
              have H:=HA.out
              clear HA
              simp only [impl_tryOk.j2] at H
              by_cases c15 : x31_12 = true
              ·subst c15
               have H1 : (impl_tryOk.l0 kj12 l0 l1 x5_1 ((rd_T75 l0 (rd l2 x13_1)).f1) l2 (l2.length : Int) (wrap64 (x13_1 + 1))) = some r:=by rw [if_pos rfl] at H;exact H
               clear H
               have H:=H1
               clear H1
               have H':=a0_ H
               clear H
               go_wp2
               go_roundg kj12
               case measure=>have:=HK1.out;have:=HJ9.out;have:=HJ12.out;omega
               case rel=>exact ⟨(x5_1),(((rd_T75 l0 (rd l2 x13_1)).f1)),(wrap64 (x13_1 + 1)),(by first | rfl | (simp;done) | (simp [*];done)),(by first | rfl | (simp;done) | (simp [*];done)),(by first | rfl | (simp;done) | (simp [*];done)),H',⟨by have:=HK1.out;have:=HJ9.out;have:=HJ12.out;omega⟩,by repeat (first | exact Drawn0.refl _ | apply Drawn0.step)⟩
              ·replace c15:=Bool.eq_false_iff.mpr c15
               subst c15
               have H1 : (if ((rd_T75 l0 (rd l2 x13_1)).f1) = 10 then (if x6_1 < 10 then (impl_tryOk.l0 kj12 l0 l1 x5_1 ((rd_T75 l0 (rd l2 x13_1)).f1) l2 (l2.length : Int) (wrap64 (x13_1 + 1))) else (some false)) else (some false)) = some r:=by rw [if_neg (show ¬ (false = true) by decide)] at H;exact H
               clear H
               have H:=H1
               clear H1
               by_cases c16 : ((rd_T75 l0 (rd l2 x13_1)).f1) = 10
               ·rw [if_pos c16] at H
                have c16b0 : (((rd_T75 l0 (rd l2 x13_1)).f1) == 10) = true:=beq_iff_eq.mpr c16
                have c16b1 : (((rd_T75 l0 (rd l2 x13_1)).f1) != 10) = false:=bne_eq_false_iff_eq.mpr c16
                clear c16
                by_cases c17 : x6_1 < 10
                ·rw [if_pos c17] at H
                 have c17b0 : decide (x6_1 < 10) = true:=decide_eq_true c17
                 clear c17
                 have H':=a0_ H
                 clear H
                 go_wp2
                 go_roundg kj12
                 case measure=>have:=HK1.out;have:=HJ9.out;have:=HJ12.out;omega
                 case rel=>exact ⟨(x5_1),(((rd_T75 l0 (rd l2 x13_1)).f1)),(wrap64 (x13_1 + 1)),(by first | rfl | (simp;done) | (simp [*];done)),(by first | rfl | (simp;done) | (simp [*];done)),(by first | rfl | (simp;done) | (simp [*];done)),H',⟨by have:=HK1.out;have:=HJ9.out;have:=HJ12.out;omega⟩,by repeat (first | exact Drawn0.refl _ | apply Drawn0.step)⟩
                ·rw [if_neg c17] at H
                 have c17b0 : decide (x6_1 < 10) = false:=decide_eq_false c17
                 clear c17
                 obtain rfl:=Option.some.inj H
                 go_wp2
                 go_ret
                 exact ⟨by first | rfl | (simp;done) | (simp [*];done),by repeat (first | exact Drawn0.refl _ | apply Drawn0.step)⟩
               ·rw [if_neg c16] at H
                have c16b0 : (((rd_T75 l0 (rd l2 x13_1)).f1) == 10) = false:=beq_eq_false_iff_ne.mpr c16
                have c16b1 : (((rd_T75 l0 (rd l2 x13_1)).f1) != 10) = true:=bne_iff_ne.mpr c16
                obtain rfl:=Option.some.inj H
                go_wp2
                go_ret
                exact ⟨by first | rfl | (simp;done) | (simp [*];done),by repeat (first | exact Drawn0.refl _ | apply Drawn0.step)⟩
        ·rw [if_neg c9] at H
         exact absurd H (by simp)
       ·rw [if_neg c8] at H
        exact absurd H (by simp)
      ·rw [if_neg c7] at H
       exact absurd H (by simp)
     ·rw [if_neg c6] at H
      exact absurd H (by simp)
    ·rw [if_neg c5] at H
     have c5b0 : decide (x13_1 < (l2.length : Int)) = false:=decide_eq_false c5
     clear c5
     by_cases c18 : (l1.length : Int) > 1
     ·rw [if_pos c18] at H
      have c18b0 : decide (1 < (l1.length : Int)) = true:=decide_eq_true c18
      have c18b1 : decide (1 < l1.length) = true:=decide_eq_true (by omega)
      clear c18
      obtain rfl:=Option.some.inj H
      go_wp2
      go_ret
      exact ⟨by first | rfl | (simp;done) | (simp [*];done),by repeat (first | exact Drawn0.refl _ | apply Drawn0.step)⟩
     ·rw [if_neg c18] at H
      have c18b0 : decide (1 < (l1.length : Int)) = false:=decide_eq_false c18
      have c18b1 : decide (1 < l1.length) = false:=decide_eq_false (by omega)
      clear c18
      obtain rfl:=Option.some.inj H
      go_wp2
      go_ret
      exact ⟨by first | rfl | (simp;done) | (simp [*];done),by repeat (first | exact Drawn0.refl _ | apply Drawn0.step)⟩
 ·rw [if_neg c3] at H
  exact absurd H (by simp)
theorem impl_tryOk_ev (l : List S75) (i : Nat) (R : List Nat) (hR : ∀ c ∈ R,c < l.length) (hl : R.length ≤ 1099511627776) : Ev (fun k=>impl_tryOk.f k l (nI (i :: R))) (decide (1 ≤ R.length) && okR l R 0 7):=by
 have key : ∀ (R2 : List Nat) (m : Nat) (ex last : Int),R2 = R.drop m → m ≤ R.length → 0 ≤ ex → ex ≤ m → Ev (fun k=>impl_tryOk.l0 k l (nI (i :: R)) ex last (nI R) ((nI R).length : Int) (m : Int)) (decide (1 ≤ R.length) && okR l R2 ex last):=by
  intro R2
  induction R2 with
  | nil =>
   intro m ex last hm hm2 h0 h1
   have : R.length ≤ m:=List.drop_eq_nil_iff.1 hm.symm
   refine Ev.succ ?_
   simp only [impl_tryOk.l0]
   refine Ev.neg (by rw [nI_len];omega) ?_
   rw [nI_len,List.length_cons]
   by_cases h1R : 1 ≤ R.length
   ·exact Ev.pos (by omega) (Ev.const (by simp [okR,h1R]))
   ·exact Ev.neg (by omega) (Ev.const (by simp [h1R]))
  | cons c R2 ih =>
   intro m ex last hm hm2 h0 h1
   obtain ⟨hlt,hc,hd⟩:=drop_cons_ hm
   have hcl : c < l.length:=hR c (List.mem_of_mem_drop (i:=m) (by rw [← hm];exact List.mem_cons_self))
   have hw : wrap64 ((m : Int) + 1) = ((m + 1 : Nat) : Int):=wrap_nat_ hlt hl
   have hw2 : wrap64 (ex + 1) = ex + 1:=wrap_in (by omega) (by omega)
   have ih1:=fun e b=>ih (m + 1) e b hd (by omega)
   refine Ev.succ ?_
   simp only [impl_tryOk.l0,rd_nI,hc,rd_lk_]
   refine Ev.pos (by rw [nI_len];omega) (Ev.pos (by omega) (Ev.pos (by rw [nI_len];omega) (Ev.pos (by omega) (Ev.pos (by omega) ?_))))
   rw [okR]
   have j2F : lk l c ≠ 10 ∨ ¬ last < 10 → Ev (fun k=>impl_tryOk.j2 k l (nI (i :: R)) ex last (lk l c) (nI R) ((nI R).length : Int) (m : Int) false) false:=by
    intro h
    refine Ev.succ ?_
    simp only [impl_tryOk.j2]
    refine Ev.neg (by simp) ?_
    by_cases h10 : lk l c = 10
    ·exact Ev.pos h10 (Ev.neg (by omega) (Ev.const rfl))
    ·exact Ev.neg h10 (Ev.const rfl)
   by_cases h8 : lk l c = 8
   ·refine Ev.pos h8 (Ev.succ ?_)
    simp only [impl_tryOk.j1]
    by_cases hla : last ≤ 8
    ·rw [if_pos ⟨h8,hla⟩,hw,hw2]
     exact Ev.pos (by simp [hla]) (ih1 (ex + 1) (lk l c) (by omega) (by omega))
    ·rw [if_neg (fun h=>hla h.2),if_neg (by omega),Bool.and_false]
     exact Ev.neg (by simp [hla]) (Ev.neg (by omega) (j2F (.inl (by omega))))
   ·refine Ev.neg h8 (Ev.succ ?_)
    simp only [impl_tryOk.j1]
    refine Ev.neg (by simp) ?_
    rw [if_neg (fun h=>h8 h.1)]
    by_cases h9 : lk l c = 9
    ·refine Ev.pos h9 ?_
     by_cases hla : last = 8
     ·rw [if_pos (.inl ⟨h9,hla⟩)]
      refine Ev.succ ?_
      simp only [impl_tryOk.j2]
      rw [hw]
      exact Ev.pos (by simp [hla]) (ih1 ex (lk l c) (by omega) (by omega))
     ·rw [if_neg (by omega),Bool.and_false,show (last == 8) = false by simp [hla]]
      exact j2F (.inl (by omega))
    ·refine Ev.neg h9 ?_
     by_cases h10 : lk l c = 10 ∧ last < 10
     ·rw [if_pos (.inr h10)]
      refine Ev.succ ?_
      simp only [impl_tryOk.j2]
      rw [hw]
      exact Ev.neg (by simp) (Ev.pos h10.1 (Ev.pos h10.2 (ih1 ex (lk l c) (by omega) (by omega))))
     ·rw [if_neg (by omega),Bool.and_false]
      exact j2F (by omega)
 unfold impl_tryOk.f
 have e : (nI (i :: R)).drop 1 = nI R:=rfl
 rw [e]
 refine Ev.pos (by rw [nI_len,List.length_cons];omega) ?_
 exact key R 0 0 7 rfl (by omega) (by omega) (by omega)
end Go.Proofs.Ytacgehaipacehaa.P
namespace Go.Proofs.Ytacgehaipacehaa.P
open Go.RowKit Go.Proofs.YtacgehaipacehaaW.PrintWords Go.Proofs.YtacgehaipacehaaW.PrintLast Go.Proofs.YtacgehaipacehaaW.PrintMore
attribute [local go_sem] max2_int min2_int max_two min_two max_three min_three max_four min_four
set_option linter.unusedVariables false
set_option linter.unusedSimpArgs false
mutual
def impl_blockOk.l0 : Nat → List (S75) → Bool → List Int → Int → Option (Bool)
 | 0,_,_,_,_=>none
 | k + 1,x0,x3,x9,x10=>if x10 < (x9.length : Int) then (if 0 ≤ x10 then (if 0 ≤ (rd x9 x10) then (if (rd x9 x10) < (x0.length : Int) then (if ((rd_T75 x0 (rd x9 x10)).f1) = 5 then (impl_blockOk.j1 k x0 x3 x9 x10 (rd x9 x10) ((rd_T75 x0 (rd x9 x10)).f1) ((rd_T75 x0 (rd x9 x10)).f1) (((rd_T75 x0 (rd x9 x10)).f1) == 5)) else (impl_blockOk.j1 k x0 x3 x9 x10 (rd x9 x10) ((rd_T75 x0 (rd x9 x10)).f1) ((rd_T75 x0 (rd x9 x10)).f1) (((rd_T75 x0 (rd x9 x10)).f1) == 6))) else (none)) else (none)) else (none)) else (some true)
def impl_blockOk.j1 : Nat → List (S75) → Bool → List Int → Int → Int → Int → Int → Bool → Option (Bool)
 | 0,_,_,_,_,_,_,_,_=>none
 | k + 1,x0,x3,x9,x10,x11,x12,x35,x36=>if x36 = true then (if x3 = true then (impl_blockOk.l0 k x0 x3 x9 (wrap64 (x10 + 1))) else (some false)) else (if x35 = 8 then (impl_blockOk.j2 k x0 x3 x9 x10 x11 x12 x35 (x35 == 8)) else (if x35 = 9 then (impl_blockOk.j2 k x0 x3 x9 x10 x11 x12 x35 (x35 == 9)) else (impl_blockOk.j2 k x0 x3 x9 x10 x11 x12 x35 (x35 == 10))))
def impl_blockOk.j2 : Nat → List (S75) → Bool → List Int → Int → Int → Int → Int → Bool → Option (Bool)
 | 0,_,_,_,_,_,_,_,_=>none
 | k + 1,x0,x3,x9,x10,x11,x12,x35,x41=>if x41 = true then (some false) else (if x35 = 7 then ((impl_tryFrom.f k x0 x11).bind fun t6=>((impl_tryOk.f k x0 t6).bind fun t9=>(if t9 = true then (impl_blockOk.l1 k x0 x3 x9 x10 t6 t6 (t6.length : Int) 0) else (some false)))) else (if x35 = 11 then (impl_blockOk.j4 k x0 x3 x9 x10 x11 x12 (x35 == 11)) else (impl_blockOk.j4 k x0 x3 x9 x10 x11 x12 (x35 == 12))))
def impl_blockOk.l1 : Nat → List (S75) → Bool → List Int → Int → List Int → List Int → Int → Int → Option (Bool)
 | 0,_,_,_,_,_,_,_,_=>none
 | k + 1,x0,x3,x9,x10,x13,x54,x55,x56=>if x56 < x55 then (if 0 ≤ x56 then (if x56 < (x54.length : Int) then ((impl_endOf.f k x0 (rd x54 x56)).bind fun t11=>((impl_blockOk.f k x0 (wrap64 ((rd x54 x56) + 1)) t11 x3).bind fun t12=>(if t12 = true then (impl_blockOk.l1 k x0 x3 x9 x10 x13 x54 x55 (wrap64 (x56 + 1))) else (some false)))) else (none)) else (none)) else (impl_blockOk.l0 k x0 x3 x9 (wrap64 ((wrap64 (x10 + (wrap64 ((x13.length : Int) - 1)))) + 1)))
def impl_blockOk.j4 : Nat → List (S75) → Bool → List Int → Int → Int → Int → Bool → Option (Bool)
 | 0,_,_,_,_,_,_,_=>none
 | k + 1,x0,x3,x9,x10,x11,x12,x75=>if x75 = true then ((impl_endOf.f k x0 x11).bind fun t13=>(if x3 = true then ((impl_blockOk.f k x0 (wrap64 (x11 + 1)) t13 true).bind fun t14=>(if t14 = true then (impl_blockOk.l0 k x0 x3 x9 (wrap64 (x10 + 1))) else (some false))) else ((impl_blockOk.f k x0 (wrap64 (x11 + 1)) t13 (x12 == 12)).bind fun t15=>(if t15 = true then (impl_blockOk.l0 k x0 x3 x9 (wrap64 (x10 + 1))) else (some false))))) else (impl_blockOk.l0 k x0 x3 x9 (wrap64 (x10 + 1)))
def impl_blockOk.f : Nat → List (S75) → Int → Int → Bool → Option (Bool)
 | 0,_,_,_,_=>none
 | k + 1,l0,a1,a2,a3=>(impl_siblings.f k l0 a1 a2).bind fun t1=>(impl_blockOk.l0 k l0 a3 t1 0)
end
theorem impl_blockOk.mono_l : ∀ k,(∀ y0 y1 y2 y3,LeO (impl_blockOk.f k y0 y1 y2 y3) (impl_blockOk.f (k + 1) y0 y1 y2 y3)) ∧ (∀ y0 y1 y2 y3,LeO (impl_blockOk.l0 k y0 y1 y2 y3) (impl_blockOk.l0 (k + 1) y0 y1 y2 y3)) ∧ (∀ y0 y1 y2 y3 y4 y5 y6 y7,LeO (impl_blockOk.j1 k y0 y1 y2 y3 y4 y5 y6 y7) (impl_blockOk.j1 (k + 1) y0 y1 y2 y3 y4 y5 y6 y7)) ∧ (∀ y0 y1 y2 y3 y4 y5 y6 y7,LeO (impl_blockOk.j2 k y0 y1 y2 y3 y4 y5 y6 y7) (impl_blockOk.j2 (k + 1) y0 y1 y2 y3 y4 y5 y6 y7)) ∧ (∀ y0 y1 y2 y3 y4 y5 y6 y7,LeO (impl_blockOk.l1 k y0 y1 y2 y3 y4 y5 y6 y7) (impl_blockOk.l1 (k + 1) y0 y1 y2 y3 y4 y5 y6 y7)) ∧ (∀ y0 y1 y2 y3 y4 y5 y6,LeO (impl_blockOk.j4 k y0 y1 y2 y3 y4 y5 y6) (impl_blockOk.j4 (k + 1) y0 y1 y2 y3 y4 y5 y6))
 | 0=>⟨fun _ _ _ _ r h=>by simp [impl_blockOk.f] at h,fun _ _ _ _ r h=>by simp [impl_blockOk.l0] at h,fun _ _ _ _ _ _ _ _ r h=>by simp [impl_blockOk.j1] at h,fun _ _ _ _ _ _ _ _ r h=>by simp [impl_blockOk.j2] at h,fun _ _ _ _ _ _ _ _ r h=>by simp [impl_blockOk.l1] at h,fun _ _ _ _ _ _ _ r h=>by simp [impl_blockOk.j4] at h⟩
 | k + 1=>by
  obtain ⟨ih0,ih1,ih2,ih3,ih4,ih5⟩:=impl_blockOk.mono_l k
  refine ⟨?_,?_,?_,?_,?_,?_⟩
  ·intro y0 y1 y2 y3
   unfold impl_blockOk.f
   repeat' first
   | (with_reducible exact ih0 _ _ _ _)
   | (with_reducible exact ih1 _ _ _ _)
   | (with_reducible exact ih2 _ _ _ _ _ _ _ _)
   | (with_reducible exact ih3 _ _ _ _ _ _ _ _)
   | (with_reducible exact ih4 _ _ _ _ _ _ _ _)
   | (with_reducible exact ih5 _ _ _ _ _ _ _)
   | (with_reducible exact impl_endOf.mono _ _ _)
   | (with_reducible exact impl_siblings.mono _ _ _ _)
   | (with_reducible exact impl_tryFrom.mono _ _ _)
   | (with_reducible exact impl_tryOk.mono _ _ _)
   | (with_reducible exact LeO.refl _)
   | (with_reducible exact LeO.none _)
   | (with_reducible refine LeO.ite ?_ ?_)
   | (with_reducible refine LeO.bind ?_ (fun _=>?_))
   | exact ih0 _ _ _ _
   | exact ih1 _ _ _ _
   | exact ih2 _ _ _ _ _ _ _ _
   | exact ih3 _ _ _ _ _ _ _ _
   | exact ih4 _ _ _ _ _ _ _ _
   | exact ih5 _ _ _ _ _ _ _
   | exact impl_endOf.mono _ _ _
   | exact impl_siblings.mono _ _ _ _
   | exact impl_tryFrom.mono _ _ _
   | exact impl_tryOk.mono _ _ _
   | exact LeO.none _
   | refine LeO.ite ?_ ?_
   | refine LeO.bind ?_ (fun _=>?_)
  ·intro y0 y1 y2 y3
   unfold impl_blockOk.l0
   repeat' first
   | (with_reducible exact ih0 _ _ _ _)
   | (with_reducible exact ih1 _ _ _ _)
   | (with_reducible exact ih2 _ _ _ _ _ _ _ _)
   | (with_reducible exact ih3 _ _ _ _ _ _ _ _)
   | (with_reducible exact ih4 _ _ _ _ _ _ _ _)
   | (with_reducible exact ih5 _ _ _ _ _ _ _)
   | (with_reducible exact impl_endOf.mono _ _ _)
   | (with_reducible exact impl_siblings.mono _ _ _ _)
   | (with_reducible exact impl_tryFrom.mono _ _ _)
   | (with_reducible exact impl_tryOk.mono _ _ _)
   | (with_reducible exact LeO.refl _)
   | (with_reducible exact LeO.none _)
   | (with_reducible refine LeO.ite ?_ ?_)
   | (with_reducible refine LeO.bind ?_ (fun _=>?_))
   | exact ih0 _ _ _ _
   | exact ih1 _ _ _ _
   | exact ih2 _ _ _ _ _ _ _ _
   | exact ih3 _ _ _ _ _ _ _ _
   | exact ih4 _ _ _ _ _ _ _ _
   | exact ih5 _ _ _ _ _ _ _
   | exact impl_endOf.mono _ _ _
   | exact impl_siblings.mono _ _ _ _
   | exact impl_tryFrom.mono _ _ _
   | exact impl_tryOk.mono _ _ _
   | exact LeO.none _
   | refine LeO.ite ?_ ?_
   | refine LeO.bind ?_ (fun _=>?_)
  ·intro y0 y1 y2 y3 y4 y5 y6 y7
   unfold impl_blockOk.j1
   repeat' first
   | (with_reducible exact ih0 _ _ _ _)
   | (with_reducible exact ih1 _ _ _ _)
   | (with_reducible exact ih2 _ _ _ _ _ _ _ _)
   | (with_reducible exact ih3 _ _ _ _ _ _ _ _)
   | (with_reducible exact ih4 _ _ _ _ _ _ _ _)
   | (with_reducible exact ih5 _ _ _ _ _ _ _)
   | (with_reducible exact impl_endOf.mono _ _ _)
   | (with_reducible exact impl_siblings.mono _ _ _ _)
   | (with_reducible exact impl_tryFrom.mono _ _ _)
   | (with_reducible exact impl_tryOk.mono _ _ _)
   | (with_reducible exact LeO.refl _)
   | (with_reducible exact LeO.none _)
   | (with_reducible refine LeO.ite ?_ ?_)
   | (with_reducible refine LeO.bind ?_ (fun _=>?_))
   | exact ih0 _ _ _ _
   | exact ih1 _ _ _ _
   | exact ih2 _ _ _ _ _ _ _ _
   | exact ih3 _ _ _ _ _ _ _ _
   | exact ih4 _ _ _ _ _ _ _ _
   | exact ih5 _ _ _ _ _ _ _
   | exact impl_endOf.mono _ _ _
   | exact impl_siblings.mono _ _ _ _
   | exact impl_tryFrom.mono _ _ _
   | exact impl_tryOk.mono _ _ _
   | exact LeO.none _
   | refine LeO.ite ?_ ?_
   | refine LeO.bind ?_ (fun _=>?_)
  ·intro y0 y1 y2 y3 y4 y5 y6 y7
   unfold impl_blockOk.j2
   repeat' first
   | (with_reducible exact ih0 _ _ _ _)
   | (with_reducible exact ih1 _ _ _ _)
   | (with_reducible exact ih2 _ _ _ _ _ _ _ _)
   | (with_reducible exact ih3 _ _ _ _ _ _ _ _)
   | (with_reducible exact ih4 _ _ _ _ _ _ _ _)
   | (with_reducible exact ih5 _ _ _ _ _ _ _)
   | (with_reducible exact impl_endOf.mono _ _ _)
   | (with_reducible exact impl_siblings.mono _ _ _ _)
   | (with_reducible exact impl_tryFrom.mono _ _ _)
   | (with_reducible exact impl_tryOk.mono _ _ _)
   | (with_reducible exact LeO.refl _)
   | (with_reducible exact LeO.none _)
   | (with_reducible refine LeO.ite ?_ ?_)
   | (with_reducible refine LeO.bind ?_ (fun _=>?_))
   | exact ih0 _ _ _ _
   | exact ih1 _ _ _ _
   | exact ih2 _ _ _ _ _ _ _ _
   | exact ih3 _ _ _ _ _ _ _ _
   | exact ih4 _ _ _ _ _ _ _ _
   | exact ih5 _ _ _ _ _ _ _
   | exact impl_endOf.mono _ _ _
   | exact impl_siblings.mono _ _ _ _
   | exact impl_tryFrom.mono _ _ _
   | exact impl_tryOk.mono _ _ _
   | exact LeO.none _
   | refine LeO.ite ?_ ?_
   | refine LeO.bind ?_ (fun _=>?_)
  ·intro y0 y1 y2 y3 y4 y5 y6 y7
   unfold impl_blockOk.l1
   repeat' first
   | (with_reducible exact ih0 _ _ _ _)
   | (with_reducible exact ih1 _ _ _ _)
   | (with_reducible exact ih2 _ _ _ _ _ _ _ _)
   | (with_reducible exact ih3 _ _ _ _ _ _ _ _)
   | (with_reducible exact ih4 _ _ _ _ _ _ _ _)
   | (with_reducible exact ih5 _ _ _ _ _ _ _)
   | (with_reducible exact impl_endOf.mono _ _ _)
   | (with_reducible exact impl_siblings.mono _ _ _ _)
   | (with_reducible exact impl_tryFrom.mono _ _ _)
   | (with_reducible exact impl_tryOk.mono _ _ _)
   | (with_reducible exact LeO.refl _)
   | (with_reducible exact LeO.none _)
   | (with_reducible refine LeO.ite ?_ ?_)
   | (with_reducible refine LeO.bind ?_ (fun _=>?_))
   | exact ih0 _ _ _ _
   | exact ih1 _ _ _ _
   | exact ih2 _ _ _ _ _ _ _ _
   | exact ih3 _ _ _ _ _ _ _ _
   | exact ih4 _ _ _ _ _ _ _ _
   | exact ih5 _ _ _ _ _ _ _
   | exact impl_endOf.mono _ _ _
   | exact impl_siblings.mono _ _ _ _
   | exact impl_tryFrom.mono _ _ _
   | exact impl_tryOk.mono _ _ _
   | exact LeO.none _
   | refine LeO.ite ?_ ?_
   | refine LeO.bind ?_ (fun _=>?_)
  ·intro y0 y1 y2 y3 y4 y5 y6
   unfold impl_blockOk.j4
   repeat' first
   | (with_reducible exact ih0 _ _ _ _)
   | (with_reducible exact ih1 _ _ _ _)
   | (with_reducible exact ih2 _ _ _ _ _ _ _ _)
   | (with_reducible exact ih3 _ _ _ _ _ _ _ _)
   | (with_reducible exact ih4 _ _ _ _ _ _ _ _)
   | (with_reducible exact ih5 _ _ _ _ _ _ _)
   | (with_reducible exact impl_endOf.mono _ _ _)
   | (with_reducible exact impl_siblings.mono _ _ _ _)
   | (with_reducible exact impl_tryFrom.mono _ _ _)
   | (with_reducible exact impl_tryOk.mono _ _ _)
   | (with_reducible exact LeO.refl _)
   | (with_reducible exact LeO.none _)
   | (with_reducible refine LeO.ite ?_ ?_)
   | (with_reducible refine LeO.bind ?_ (fun _=>?_))
   | exact ih0 _ _ _ _
   | exact ih1 _ _ _ _
   | exact ih2 _ _ _ _ _ _ _ _
   | exact ih3 _ _ _ _ _ _ _ _
   | exact ih4 _ _ _ _ _ _ _ _
   | exact ih5 _ _ _ _ _ _ _
   | exact impl_endOf.mono _ _ _
   | exact impl_siblings.mono _ _ _ _
   | exact impl_tryFrom.mono _ _ _
   | exact impl_tryOk.mono _ _ _
   | exact LeO.none _
   | refine LeO.ite ?_ ?_
   | refine LeO.bind ?_ (fun _=>?_)
theorem impl_blockOk.mono : ∀ a0 a1 a2 a3 k,LeO (impl_blockOk.f k a0 a1 a2 a3) (impl_blockOk.f (k + 1) a0 a1 a2 a3):=by
 intro a0 a1 a2 a3 k
 obtain ⟨ih0,ih1,ih2,ih3,ih4,ih5⟩:=impl_blockOk.mono_l k
 exact ih0 a0 a1 a2 a3
set_option maxHeartbeats 8000000 in
set_option maxRecDepth 100000 in
theorem impl_blockOk.calls (k : Nat) : ∀ (A0 : Option Addr) (c0 : Nat) (l0 : List (S75)) (a1 : Int) (a2 : Int) (a3 : Bool) (r : Bool) (w : World) (hr0 : Kd.C k75 w A0 l0.length l0) (hc0 : l0.length ≤ c0) (h : impl_blockOk.f k l0 a1 a2 a3 = some r),
  Calls Try.prog 100 #[.slice A0 l0.length c0,.int .i64 a1,.int .i64 a2,.bool a3] w fun e w'=>e = .returned (.bool r) ∧ Below w.heap.size w w':=by
 induction k using Nat.strongRecOn with
 | _ k ih =>
 intro A0 c0 l0 a1 a2 a3 r w hr0 hc0 h
 cases k with
 | zero=>exact absurd h (by simp [impl_blockOk.f])
 | succ k =>
 simp only [impl_blockOk.f] at h
 have HR0:=a0_ hr0
 have HC0:=a0_ hc0
 clear hr0 hc0
 have HB:=a0_ (Below.refl w.heap.size w)
 have H : ((impl_siblings.f k l0 a1 a2).bind fun t1=>(impl_blockOk.l0 k l0 a3 t1 0)) = some r:=h
 clear h
 replace H:=Option.bind_eq_some_iff.mp H
 obtain ⟨t1,A50,H⟩:=H
 replace H : (impl_blockOk.l0 k l0 a3 t1 0) = some r:=H
 have A5:=a0_ A50
 clear A50
 have H':=a0_ H
 clear H
 go_enter Try.func100,Try.ntmps100
 go_wp2_with (first | ((with_reducible refine gate_callee (f:=141) rfl ?_);refine goesL_ (some 19) rfl rfl Try.func141 (by kernel_rfl) rfl #[.slice A0 l0.length c0,.int .i64 a1,.int .i64 a2] rfl lm_ ?_;(with_reducible refine (impl_siblings.calls k _ _ l0 a1 a2 t1 _ ?side1 ?side2 A5.out).mono ?_);(case side1=>repeat (first | exact HR0.out | (with_reducible refine Kd.C_alloc ?_ _) | (with_reducible refine Kd.C_drewN ?_ _) | (with_reducible refine Kd.C_drew ?_)));(case side2=>exact HC0.out);rintro e w6 ⟨v2,rfl,ho0,hb⟩;refine ⟨_,rfl,?_⟩;have HO3:=a0_ (Kd.R_lower ho0 (below_size hbw_));replace HB:=a0_ (below_step hbw_ hb);(try clear hb);(try clear ho0)))
 go_loopg [10] k (fun kq v10 w'=>∃ (x10_1 : Int),v10 = .int .i64 x10_1 ∧ Aside0 (impl_blockOk.l0 kq l0 a3 t1 x10_1 = some r) ∧ Aside0 (kq ≤ k) ∧ Aside0 (Kd.R (Kd.int .i64) 3 w' w.heap.size (fun _=>True) v2 t1) ∧ Aside0 (Below w.heap.size w w'))
 case atStart=>exact ⟨(0),(by first | rfl | (simp;done) | (simp [*];done)),H',⟨Nat.le_refl _⟩,⟨by (with_reducible repeat (first | apply Kd.R_alloc | apply Kd.R_drewN | apply Kd.R_drew));exact HO3.out⟩,⟨hbw_⟩⟩
 case round =>
  clear H'
  try clear c1
  try clear p2
  obtain ⟨x10_1,rfl,HA,HK1,HO_9,HB⟩:=hrel
  cases gk with
  | zero=>exact absurd HA.out (by simp [impl_blockOk.l0])
  | succ k1 =>
   have H:=HA.out
   clear HA
   simp only [impl_blockOk.l0] at H
   by_cases c7 : x10_1 < (t1.length : Int)
   ·rw [if_pos c7] at H
    have c7b0 : decide (x10_1 < (t1.length : Int)) = true:=decide_eq_true c7
    clear c7
    by_cases c8 : 0 ≤ x10_1
    ·rw [if_pos c8] at H
     have c8b0 : decide (0 ≤ x10_1) = true:=decide_eq_true c8
     clear c8
     by_cases c9 : 0 ≤ (rd t1 x10_1)
     ·rw [if_pos c9] at H
      have c9b0 : decide (0 ≤ (rd t1 x10_1)) = true:=decide_eq_true c9
      clear c9
      by_cases c10 : (rd t1 x10_1) < (l0.length : Int)
      ·rw [if_pos c10] at H
       have c10b0 : decide ((rd t1 x10_1) < (l0.length : Int)) = true:=decide_eq_true c10
       clear c10
       have HC11:=a0_ H
       clear H
       obtain ⟨Ao12,co12,eo12⟩:=Kd.R_slice HO_9.out
       subst eo12
       have p4 : 0 ≤ (x10_1 : Int):=of_decide_eq_true (by first | (with_reducible assumption) | assumption)
       have q4 : x10_1 < (t1.length : Int):=of_decide_eq_true (by first | (with_reducible assumption) | assumption)
       obtain ⟨ad4,e4,hx4_0⟩:=Kd.at_int (Kd.R_reads' HO_9.out).2.2 x10_1 p4 q4
       cases e4
       replace p4:=eq_true p4
       replace q4:=eq_true q4
       have p5 : 0 ≤ ((rd t1 x10_1) : Int):=of_decide_eq_true (by first | (with_reducible assumption) | assumption)
       have q5 : (rd t1 x10_1) < (l0.length : Int):=of_decide_eq_true (by first | (with_reducible assumption) | assumption)
       obtain ⟨ad5,e5,hx5_0,hx5_1,hx5_2,hx5_3⟩:=at_T75 HR0.out (rd t1 x10_1) p5 q5
       cases e5
       replace hx5_0:=(HB.out.cell (World.block_lt_of_cell? w _ hx5_0)).trans hx5_0
       replace hx5_1:=(HB.out.cell (World.block_lt_of_cell? w _ hx5_1)).trans hx5_1
       replace hx5_2:=(HB.out.cell (World.block_lt_of_cell? w _ hx5_2)).trans hx5_2
       replace hx5_3:=(HB.out.cell (World.block_lt_of_cell? w _ hx5_3)).trans hx5_3
       replace p5:=eq_true p5
       replace q5:=eq_true q5
       go_upto_if 36 with (fail)
       go_cut [36] (fun v36 wc=>∃ (kq : Nat) (x36_10 : Bool),v36 = .bool x36_10 ∧ Aside0 (impl_blockOk.j1 kq l0 a3 t1 x10_1 (rd t1 x10_1) ((rd_T75 l0 (rd t1 x10_1)).f1) ((rd_T75 l0 (rd t1 x10_1)).f1) x36_10 = some r) ∧ Aside0 (kq ≤ k1) ∧ Aside0 (Kd.R (Kd.int .i64) 3 wc w.heap.size (fun _=>True) (.slice (some ad4) t1.length co12) t1) ∧ Aside0 (Below w.heap.size w wc))
       case first =>
        have H:=HC11.out
        clear HC11
        by_cases c13 : ((rd_T75 l0 (rd t1 x10_1)).f1) = 5
        ·rw [if_pos c13] at H
         have c13b0 : (((rd_T75 l0 (rd t1 x10_1)).f1) == 5) = true:=beq_iff_eq.mpr c13
         have c13b1 : (((rd_T75 l0 (rd t1 x10_1)).f1) != 5) = false:=bne_eq_false_iff_eq.mpr c13
         clear c13
         (first | rw [c13b0] | (simp only [i64_w,i32_w];rw [c13b0]) | skip)
         have H':=a0_ H
         clear H
         go_wp2
         go_meet
         case rel=>exact ⟨_,((((rd_T75 l0 (rd t1 x10_1)).f1) == 5)),(by first | rfl | (simp;done) | (simp [*];done)),H',⟨by have:=HK1.out;first | omega | exact Nat.le_refl _⟩,⟨by (with_reducible repeat (first | apply Kd.R_alloc | apply Kd.R_drewN | apply Kd.R_drew));exact HO_9.out⟩,⟨hbw_⟩⟩
        ·rw [if_neg c13] at H
         have c13b0 : (((rd_T75 l0 (rd t1 x10_1)).f1) == 5) = false:=beq_eq_false_iff_ne.mpr c13
         have c13b1 : (((rd_T75 l0 (rd t1 x10_1)).f1) != 5) = true:=bne_iff_ne.mpr c13
         (first | rw [c13b0] | (simp only [i64_w,i32_w];rw [c13b0]) | skip)
         have H':=a0_ H
         clear H
         go_wp2
         go_meet
         case rel=>exact ⟨_,((((rd_T75 l0 (rd t1 x10_1)).f1) == 6)),(by first | rfl | (simp;done) | (simp [*];done)),H',⟨by have:=HK1.out;first | omega | exact Nat.le_refl _⟩,⟨by (with_reducible repeat (first | apply Kd.R_alloc | apply Kd.R_drewN | apply Kd.R_drew));exact HO_9.out⟩,⟨hbw_⟩⟩
       case rest =>
        clear HC11
        try clear c1
        try clear p2
        try clear p4
        try clear q4
        try clear hx4
        try clear p5
        try clear q5
        try clear hx5
        try clear c7
        try clear c7b0
        try clear c8
        try clear c8b0
        try clear c9
        try clear c9b0
        try clear c10
        try clear c10b0
        try clear c13
        try clear c13b0
        try clear c13b1
        try clear hx4_0
        try clear hx5_0
        try clear hx5_1
        try clear hx5_2
        try clear hx5_3
        try clear p2
        try clear p4
        try clear p5
        try clear q4
        try clear q5
        obtain ⟨kq,x36_10,rfl,HA,HJ10,HO_9,HB⟩:=hcut
        cases kq with
        | zero=>exact absurd HA.out (by simp [impl_blockOk.j1])
        | succ kj10 =>
         have H:=HA.out
         clear HA
         simp only [impl_blockOk.j1] at H
         by_cases c14 : x36_10 = true
         ·subst c14
          have H1 : (if a3 = true then (impl_blockOk.l0 kj10 l0 a3 t1 (wrap64 (x10_1 + 1))) else (some false)) = some r:=by rw [if_pos rfl] at H;exact H
          clear H
          have H:=H1
          clear H1
          by_cases c15 : a3 = true
          ·subst c15
           have H1 : (impl_blockOk.l0 kj10 l0 true t1 (wrap64 (x10_1 + 1))) = some r:=by rw [if_pos rfl] at H;exact H
           clear H
           have H:=H1
           clear H1
           have H':=a0_ H
           clear H
           go_wp2
           go_roundg kj10
           case measure=>have:=HK1.out;have:=HJ10.out;omega
           case rel=>exact ⟨(wrap64 (x10_1 + 1)),(by first | rfl | (simp;done) | (simp [*];done)),H',⟨by have:=HK1.out;have:=HJ10.out;omega⟩,⟨by (with_reducible repeat (first | apply Kd.R_alloc | apply Kd.R_drewN | apply Kd.R_drew));exact HO_9.out⟩,⟨hbw_⟩⟩
          ·replace c15:=Bool.eq_false_iff.mpr c15
           subst c15
           have H1 : (some false) = some r:=by rw [if_neg (show ¬ (false = true) by decide)] at H;exact H
           clear H
           have H:=H1
           clear H1
           obtain rfl:=Option.some.inj H
           go_wp2
           go_ret
           exact ⟨by first | rfl | (simp [errW_none,errW_some] <;> rfl) | (simp [*,errW_none,errW_some] <;> rfl),hbw_⟩
         ·replace c14:=Bool.eq_false_iff.mpr c14
          subst c14
          have H1 : (if ((rd_T75 l0 (rd t1 x10_1)).f1) = 8 then (impl_blockOk.j2 kj10 l0 a3 t1 x10_1 (rd t1 x10_1) ((rd_T75 l0 (rd t1 x10_1)).f1) ((rd_T75 l0 (rd t1 x10_1)).f1) (((rd_T75 l0 (rd t1 x10_1)).f1) == 8)) else (if ((rd_T75 l0 (rd t1 x10_1)).f1) = 9 then (impl_blockOk.j2 kj10 l0 a3 t1 x10_1 (rd t1 x10_1) ((rd_T75 l0 (rd t1 x10_1)).f1) ((rd_T75 l0 (rd t1 x10_1)).f1) (((rd_T75 l0 (rd t1 x10_1)).f1) == 9)) else (impl_blockOk.j2 kj10 l0 a3 t1 x10_1 (rd t1 x10_1) ((rd_T75 l0 (rd t1 x10_1)).f1) ((rd_T75 l0 (rd t1 x10_1)).f1) (((rd_T75 l0 (rd t1 x10_1)).f1) == 10)))) = some r:=by rw [if_neg (show ¬ (false = true) by decide)] at H;exact H
          clear H
          have H:=H1
          clear H1
          have HC16:=a0_ H
          clear H
          go_upto_if 41 with (fail)
          go_cut [41] (fun v41 wc=>∃ (kq : Nat) (x41_15 : Bool),v41 = .bool x41_15 ∧ Aside0 (impl_blockOk.j2 kq l0 a3 t1 x10_1 (rd t1 x10_1) ((rd_T75 l0 (rd t1 x10_1)).f1) ((rd_T75 l0 (rd t1 x10_1)).f1) x41_15 = some r) ∧ Aside0 (kq ≤ kj10) ∧ Aside0 (Kd.R (Kd.int .i64) 3 wc w.heap.size (fun _=>True) (.slice (some ad4) t1.length co12) t1) ∧ Aside0 (Below w.heap.size w wc))
          case first =>
           have H:=HC16.out
           clear HC16
           by_cases c17 : ((rd_T75 l0 (rd t1 x10_1)).f1) = 8
           ·rw [if_pos c17] at H
            have c17b0 : (((rd_T75 l0 (rd t1 x10_1)).f1) == 8) = true:=beq_iff_eq.mpr c17
            have c17b1 : (((rd_T75 l0 (rd t1 x10_1)).f1) != 8) = false:=bne_eq_false_iff_eq.mpr c17
            clear c17
            (first | rw [c17b0] | (simp only [i64_w,i32_w];rw [c17b0]) | skip)
            have H':=a0_ H
            clear H
            go_wp2
            go_meet
            case rel=>exact ⟨_,((((rd_T75 l0 (rd t1 x10_1)).f1) == 8)),(by first | rfl | (simp;done) | (simp [*];done)),H',⟨by have:=HK1.out;have:=HJ10.out;first | omega | exact Nat.le_refl _⟩,⟨by (with_reducible repeat (first | apply Kd.R_alloc | apply Kd.R_drewN | apply Kd.R_drew));exact HO_9.out⟩,⟨hbw_⟩⟩
           ·rw [if_neg c17] at H
            have c17b0 : (((rd_T75 l0 (rd t1 x10_1)).f1) == 8) = false:=beq_eq_false_iff_ne.mpr c17
            have c17b1 : (((rd_T75 l0 (rd t1 x10_1)).f1) != 8) = true:=bne_iff_ne.mpr c17
            (first | rw [c17b0] | (simp only [i64_w,i32_w];rw [c17b0]) | skip)
            by_cases c18 : ((rd_T75 l0 (rd t1 x10_1)).f1) = 9
            ·rw [if_pos c18] at H
             have c18b0 : (((rd_T75 l0 (rd t1 x10_1)).f1) == 9) = true:=beq_iff_eq.mpr c18
             have c18b1 : (((rd_T75 l0 (rd t1 x10_1)).f1) != 9) = false:=bne_eq_false_iff_eq.mpr c18
             clear c18
             have H':=a0_ H
             clear H
             go_wp2
             go_meet
             case rel=>exact ⟨_,((((rd_T75 l0 (rd t1 x10_1)).f1) == 9)),(by first | rfl | (simp;done) | (simp [*];done)),H',⟨by have:=HK1.out;have:=HJ10.out;first | omega | exact Nat.le_refl _⟩,⟨by (with_reducible repeat (first | apply Kd.R_alloc | apply Kd.R_drewN | apply Kd.R_drew));exact HO_9.out⟩,⟨hbw_⟩⟩
            ·rw [if_neg c18] at H
             have c18b0 : (((rd_T75 l0 (rd t1 x10_1)).f1) == 9) = false:=beq_eq_false_iff_ne.mpr c18
             have c18b1 : (((rd_T75 l0 (rd t1 x10_1)).f1) != 9) = true:=bne_iff_ne.mpr c18
             have H':=a0_ H
             clear H
             go_wp2
             go_meet
             case rel=>exact ⟨_,((((rd_T75 l0 (rd t1 x10_1)).f1) == 10)),(by first | rfl | (simp;done) | (simp [*];done)),H',⟨by have:=HK1.out;have:=HJ10.out;first | omega | exact Nat.le_refl _⟩,⟨by (with_reducible repeat (first | apply Kd.R_alloc | apply Kd.R_drewN | apply Kd.R_drew));exact HO_9.out⟩,⟨hbw_⟩⟩
          case rest =>
           clear HC16
           try clear c1
           try clear p2
           try clear p4
           try clear q4
           try clear hx4
           try clear p5
           try clear q5
           try clear hx5
           try clear p6
           try clear c7
           try clear c7b0
           try clear c8
           try clear c8b0
           try clear c9
           try clear c9b0
           try clear c10
           try clear c10b0
           try clear c13
           try clear c13b0
           try clear c13b1
           try clear c14
           try clear c15
           try clear c17
           try clear c17b0
           try clear c17b1
           try clear c18
           try clear c18b0
           try clear c18b1
           try clear hx4_0
           try clear hx5_0
           try clear hx5_1
           try clear hx5_2
           try clear hx5_3
           try clear p2
           try clear p4
           try clear p5
           try clear q4
           try clear q5
           obtain ⟨kq,x41_15,rfl,HA,HJ15,HO_9,HB⟩:=hcut
           cases kq with
           | zero=>exact absurd HA.out (by simp [impl_blockOk.j2])
           | succ kj15 =>
            have H:=HA.out
            clear HA
            simp only [impl_blockOk.j2] at H
            by_cases c19 : x41_15 = true
            ·subst c19
             have H1 : (some false) = some r:=by rw [if_pos rfl] at H;exact H
             clear H
             have H:=H1
             clear H1
             obtain rfl:=Option.some.inj H
             go_wp2
             go_ret
             exact ⟨by first | rfl | (simp [errW_none,errW_some] <;> rfl) | (simp [*,errW_none,errW_some] <;> rfl),hbw_⟩
            ·replace c19:=Bool.eq_false_iff.mpr c19
             subst c19
             have H1 : (if ((rd_T75 l0 (rd t1 x10_1)).f1) = 7 then ((impl_tryFrom.f kj15 l0 (rd t1 x10_1)).bind fun t6=>((impl_tryOk.f kj15 l0 t6).bind fun t9=>(if t9 = true then (impl_blockOk.l1 kj15 l0 a3 t1 x10_1 t6 t6 (t6.length : Int) 0) else (some false)))) else (if ((rd_T75 l0 (rd t1 x10_1)).f1) = 11 then (impl_blockOk.j4 kj15 l0 a3 t1 x10_1 (rd t1 x10_1) ((rd_T75 l0 (rd t1 x10_1)).f1) (((rd_T75 l0 (rd t1 x10_1)).f1) == 11)) else (impl_blockOk.j4 kj15 l0 a3 t1 x10_1 (rd t1 x10_1) ((rd_T75 l0 (rd t1 x10_1)).f1) (((rd_T75 l0 (rd t1 x10_1)).f1) == 12)))) = some r:=by rw [if_neg (show ¬ (false = true) by decide)] at H;exact H
             clear H
             have H:=H1
             clear H1
             by_cases c20 : ((rd_T75 l0 (rd t1 x10_1)).f1) = 7
             ·rw [if_pos c20] at H
              have c20b0 : (((rd_T75 l0 (rd t1 x10_1)).f1) == 7) = true:=beq_iff_eq.mpr c20
              have c20b1 : (((rd_T75 l0 (rd t1 x10_1)).f1) != 7) = false:=bne_eq_false_iff_eq.mpr c20
              clear c20
              replace H:=Option.bind_eq_some_iff.mp H
              obtain ⟨t6,A210,H⟩:=H
              try dsimp only at H
              have A21:=a0_ A210
              clear A210
              replace H:=Option.bind_eq_some_iff.mp H
              obtain ⟨t9,A220,H⟩:=H
              try dsimp only at H
              have A22:=a0_ A220
              clear A220
              by_cases c23 : t9 = true
              ·subst c23
               have H1 : (impl_blockOk.l1 kj15 l0 a3 t1 x10_1 t6 t6 (t6.length : Int) 0) = some r:=by rw [if_pos rfl] at H;exact H
               clear H
               have H:=H1
               clear H1
               have H':=a0_ H
               clear H
               go_wp2_with (first | ((with_reducible refine gate_callee (f:=142) rfl ?_);refine goesL_ (some 49) rfl rfl Try.func142 (by kernel_rfl) rfl #[.slice (some ad5) l0.length c0,.int .i64 (rd t1 x10_1)] rfl lm_ ?_;(with_reducible refine (impl_tryFrom.calls kj15 _ _ l0 (rd t1 x10_1) t6 _ ?side1 ?side2 A21.out).mono ?_);(case side1=>exact cc_ (Kd.C_below HR0.out HB.out));(case side2=>exact HC0.out);rintro e w24 ⟨v7,rfl,ho0,hb⟩;refine ⟨_,rfl,?_⟩;have n0_:=a0_ (Kd.R_elder' (rr_ HO_9.out) (Kd.R_base ho0) hb);have n1_:=a0_ (Kd.R_lower (Kd.R_new' ho0 (Kd.R_lt (rr_ HO_9.out))) (below_size hbw_));have n2_:=a0_ (below_step hbw_ hb);clear HO_9 HB;have HO_9:=n0_;have HO8:=n1_;have HB:=n2_;clear n0_ n1_ n2_;(try clear hb);(try clear ho0);obtain ⟨Ao25,co25,eo25⟩:=Kd.R_slice HO8.out;subst eo25) | ((with_reducible refine gate_callee (f:=143) rfl ?_);refine goesL_ (some 52) rfl rfl Try.func143 (by kernel_rfl) rfl #[.slice (some ad5) l0.length c0,.slice Ao25 t6.length co25] rfl lm_ ?_;(with_reducible refine (impl_tryOk.calls kj15 _ _ l0 _ _ t6 true _ ?side1 ?side2 ?side3 ?side4 A22.out).mono ?_);(case side1=>exact cc_ (Kd.C_below HR0.out HB.out));(case side2=>exact HC0.out);(case side3=>exact cc_ (Kd.R_reads' HO8.out).2.2);(case side4=>exact (Kd.R_reads' HO8.out).2.1);rintro e w' ⟨rfl,⟨nd,rfl⟩⟩;refine ⟨_,rfl,?_⟩))
               go_loopg [56] kj15 (fun kq v56 w'=>∃ (x56_4 : Int),v56 = .int .i64 x56_4 ∧ Aside0 (impl_blockOk.l1 kq l0 a3 t1 x10_1 t6 t6 (t6.length : Int) x56_4 = some r) ∧ Aside0 (kq ≤ kj15) ∧ Aside0 (Kd.R (Kd.int .i64) 3 w' w.heap.size (fun k_=>some k_ ≠ ((.slice Ao25 t6.length co25) : Value).ownBlock ∧ some k_ ≠ ((.slice Ao25 t6.length co25) : Value).ownBlock) (.slice (some ad4) t1.length co12) t1) ∧ Aside0 (Kd.R (Kd.int .i64) 3 w' w.heap.size (fun k_=>some k_ ≠ ((.slice (some ad4) t1.length co12) : Value).ownBlock) (.slice Ao25 t6.length co25) t6) ∧ Aside0 (Kd.R (Kd.int .i64) 3 w' w.heap.size (fun k_=>some k_ ≠ ((.slice (some ad4) t1.length co12) : Value).ownBlock) (.slice Ao25 t6.length co25) t6) ∧ Aside0 (Below w.heap.size w w'))
               case atStart=>exact ⟨(0),(by first | rfl | (simp;done) | (simp [*];done)),H',⟨Nat.le_refl _⟩,⟨by (with_reducible repeat (first | apply Kd.R_alloc | apply Kd.R_drewN | apply Kd.R_drew));exact Kd.R_mono HO_9.out (fun _ hk=>⟨hk.2,hk.2⟩)⟩,⟨by (with_reducible repeat (first | apply Kd.R_alloc | apply Kd.R_drewN | apply Kd.R_drew));exact Kd.R_mono HO8.out (fun _ hk=>hk.2)⟩,⟨by (with_reducible repeat (first | apply Kd.R_alloc | apply Kd.R_drewN | apply Kd.R_drew));exact Kd.R_mono HO8.out (fun _ hk=>hk.2)⟩,⟨hbw_⟩⟩
               case round =>
                clear H'
                try clear c1
                try clear c2
                try clear p2
                try clear p4
                try clear q4
                try clear hx4
                try clear p5
                try clear q5
                try clear hx5
                try clear p6
                try clear c7
                try clear c7b0
                try clear c8
                try clear c8b0
                try clear c9
                try clear c9b0
                try clear c10
                try clear c10b0
                try clear c13
                try clear c13b0
                try clear c13b1
                try clear c14
                try clear c15
                try clear c17
                try clear c17b0
                try clear c17b1
                try clear c18
                try clear c18b0
                try clear c18b1
                try clear c19
                try clear c20
                try clear c20b0
                try clear c20b1
                try clear c23
                try clear hx4_0
                try clear hx5_0
                try clear hx5_1
                try clear hx5_2
                try clear hx5_3
                try clear p2
                try clear p4
                try clear p5
                try clear p6
                try clear q4
                try clear q5
                obtain ⟨x56_4,rfl,HA,HK4,HO_9,HO_13,HO_54,HB⟩:=hrel
                cases gk with
                | zero=>exact absurd HA.out (by simp [impl_blockOk.l1])
                | succ k4 =>
                 have H:=HA.out
                 clear HA
                 simp only [impl_blockOk.l1] at H
                 by_cases c26 : x56_4 < (t6.length : Int)
                 ·rw [if_pos c26] at H
                  have c26b0 : decide (x56_4 < (t6.length : Int)) = true:=decide_eq_true c26
                  clear c26
                  by_cases c27 : 0 ≤ x56_4
                  ·rw [if_pos c27] at H
                   have c27b0 : decide (0 ≤ x56_4) = true:=decide_eq_true c27
                   clear c27
                   by_cases c28 : x56_4 < (t6.length : Int)
                   ·rw [if_pos c28] at H
                    have c28b0 : decide (x56_4 < (t6.length : Int)) = true:=decide_eq_true c28
                    clear c28
                    replace H:=Option.bind_eq_some_iff.mp H
                    obtain ⟨t11,A290,H⟩:=H
                    try dsimp only at H
                    have A29:=a0_ A290
                    clear A290
                    replace H:=Option.bind_eq_some_iff.mp H
                    obtain ⟨t12,A300,H⟩:=H
                    try dsimp only at H
                    have A30:=a0_ A300
                    clear A300
                    by_cases c31 : t12 = true
                    ·subst c31
                     have H1 : (impl_blockOk.l1 k4 l0 a3 t1 x10_1 t6 t6 (t6.length : Int) (wrap64 (x56_4 + 1))) = some r:=by rw [if_pos rfl] at H;exact H
                     clear H
                     have H:=H1
                     clear H1
                     have H':=a0_ H
                     clear H
                     have p10 : 0 ≤ (x56_4 : Int):=of_decide_eq_true (by first | (with_reducible assumption) | assumption)
                     have q10 : x56_4 < (t6.length : Int):=of_decide_eq_true (by first | (with_reducible assumption) | assumption)
                     obtain ⟨ad10,e10,hx10_0⟩:=Kd.at_int (Kd.R_reads' HO_54.out).2.2 x56_4 p10 q10
                     cases e10
                     replace p10:=eq_true p10
                     replace q10:=eq_true q10
                     go_wp2_with (first | ((with_reducible refine gate_callee (f:=144) rfl ?_);refine goesL_ (some 65) rfl rfl Try.func144 (by kernel_rfl) rfl #[.slice (some ad5) l0.length c0,.int .i64 (rd t6 x56_4)] rfl lm_ ?_;(with_reducible refine (impl_endOf.calls k4 _ _ l0 (rd t6 x56_4) t11 _ ?side1 ?side2 A29.out).mono ?_);(case side1=>exact cc_ (Kd.C_below HR0.out HB.out));(case side2=>exact HC0.out);rintro e w' ⟨rfl,⟨nd,rfl⟩⟩;refine ⟨_,rfl,?_⟩) | ((with_reducible refine gate_callee (f:=100) rfl ?_);refine goesL_ (some 67) rfl rfl Try.func100 (by kernel_rfl) rfl #[.slice (some ad5) l0.length c0,.int .i64 (wrap64 ((rd t6 x56_4) + 1)),.int .i64 t11,.bool a3] rfl lm_ ?_;(with_reducible refine (ih k4 (by have:=HK1.out;have:=HJ10.out;have:=HJ15.out;have:=HK4.out;omega) _ _ l0 (wrap64 ((rd t6 x56_4) + 1)) t11 a3 true _ ?side1 ?side2 A30.out).mono ?_);(case side1=>repeat (first | exact (Kd.C_below HR0.out hbw_) | (with_reducible refine Kd.C_alloc ?_ _) | (with_reducible refine Kd.C_drewN ?_ _) | (with_reducible refine Kd.C_drew ?_)));(case side2=>exact HC0.out);rintro e w32 ⟨rfl,hb⟩;refine ⟨_,rfl,?_⟩;replace HO_9:=rb_ HO_9 hb;replace HO_13:=rb_ HO_13 hb;replace HO_54:=rb_ HO_54 hb;replace HB:=a0_ (below_step hbw_ hb);(try clear hb);(try clear hb2);(try clear hk);(try clear hi)))
                     go_roundg k4
                     case measure=>have:=HK1.out;have:=HJ10.out;have:=HJ15.out;have:=HK4.out;omega
                     case rel=>exact ⟨(wrap64 (x56_4 + 1)),(by first | rfl | (simp;done) | (simp [*];done)),H',⟨by have:=HK1.out;have:=HJ10.out;have:=HJ15.out;have:=HK4.out;omega⟩,⟨by (with_reducible repeat (first | apply Kd.R_alloc | apply Kd.R_drewN | apply Kd.R_drew));exact HO_9.out⟩,⟨by (with_reducible repeat (first | apply Kd.R_alloc | apply Kd.R_drewN | apply Kd.R_drew));exact HO_13.out⟩,⟨by (with_reducible repeat (first | apply Kd.R_alloc | apply Kd.R_drewN | apply Kd.R_drew));exact HO_54.out⟩,⟨hbw_⟩⟩
                    ·replace c31:=Bool.eq_false_iff.mpr c31
                     subst c31
                     have H1 : (some false) = some r:=by rw [if_neg (show ¬ (false = true) by decide)] at H;exact H
                     clear H
                     have H:=H1
                     clear H1
                     obtain rfl:=Option.some.inj H
                     have p10 : 0 ≤ (x56_4 : Int):=of_decide_eq_true (by first | (with_reducible assumption) | assumption)
                     have q10 : x56_4 < (t6.length : Int):=of_decide_eq_true (by first | (with_reducible assumption) | assumption)
                     obtain ⟨ad10,e10,hx10_0⟩:=Kd.at_int (Kd.R_reads' HO_54.out).2.2 x56_4 p10 q10
                     cases e10
                     replace p10:=eq_true p10
                     replace q10:=eq_true q10
                     go_wp2_with (first | ((with_reducible refine gate_callee (f:=144) rfl ?_);refine goesL_ (some 65) rfl rfl Try.func144 (by kernel_rfl) rfl #[.slice (some ad5) l0.length c0,.int .i64 (rd t6 x56_4)] rfl lm_ ?_;(with_reducible refine (impl_endOf.calls k4 _ _ l0 (rd t6 x56_4) t11 _ ?side1 ?side2 A29.out).mono ?_);(case side1=>exact cc_ (Kd.C_below HR0.out HB.out));(case side2=>exact HC0.out);rintro e w' ⟨rfl,⟨nd,rfl⟩⟩;refine ⟨_,rfl,?_⟩) | ((with_reducible refine gate_callee (f:=100) rfl ?_);refine goesL_ (some 67) rfl rfl Try.func100 (by kernel_rfl) rfl #[.slice (some ad5) l0.length c0,.int .i64 (wrap64 ((rd t6 x56_4) + 1)),.int .i64 t11,.bool a3] rfl lm_ ?_;(with_reducible refine (ih k4 (by have:=HK1.out;have:=HJ10.out;have:=HJ15.out;have:=HK4.out;omega) _ _ l0 (wrap64 ((rd t6 x56_4) + 1)) t11 a3 false _ ?side1 ?side2 A30.out).mono ?_);(case side1=>repeat (first | exact (Kd.C_below HR0.out hbw_) | (with_reducible refine Kd.C_alloc ?_ _) | (with_reducible refine Kd.C_drewN ?_ _) | (with_reducible refine Kd.C_drew ?_)));(case side2=>exact HC0.out);rintro e w33 ⟨rfl,hb⟩;refine ⟨_,rfl,?_⟩;replace HO_9:=rb_ HO_9 hb;replace HO_13:=rb_ HO_13 hb;replace HO_54:=rb_ HO_54 hb;replace HB:=a0_ (below_step hbw_ hb);(try clear hb);(try clear hb2);(try clear hk);(try clear hi)))
                     go_ret
                     exact ⟨by first | rfl | (simp [errW_none,errW_some] <;> rfl) | (simp [*,errW_none,errW_some] <;> rfl),hbw_⟩
                   ·rw [if_neg c28] at H
                    exact absurd H (by simp)
                  ·rw [if_neg c27] at H
                   exact absurd H (by simp)
                 ·rw [if_neg c26] at H
                  have c26b0 : decide (x56_4 < (t6.length : Int)) = false:=decide_eq_false c26
                  clear c26
                  have H':=a0_ H
                  clear H
                  go_wp2
                  go_roundg k4
                  case measure=>have:=HK1.out;have:=HJ10.out;have:=HJ15.out;have:=HK4.out;omega
                  case rel=>exact ⟨(wrap64 ((wrap64 (x10_1 + (wrap64 ((t6.length : Int) - 1)))) + 1)),(by first | rfl | (simp;done) | (simp [*];done)),H',⟨by have:=HK1.out;have:=HJ10.out;have:=HJ15.out;have:=HK4.out;omega⟩,⟨by (with_reducible repeat (first | apply Kd.R_alloc | apply Kd.R_drewN | apply Kd.R_drew));exact Kd.R_mono HO_9.out (fun _ hk=>trivial)⟩,⟨hbw_⟩⟩
              ·replace c23:=Bool.eq_false_iff.mpr c23
               subst c23
               have H1 : (some false) = some r:=by rw [if_neg (show ¬ (false = true) by decide)] at H;exact H
               clear H
               have H:=H1
               clear H1
               obtain rfl:=Option.some.inj H
               go_wp2_with (first | ((with_reducible refine gate_callee (f:=142) rfl ?_);refine goesL_ (some 49) rfl rfl Try.func142 (by kernel_rfl) rfl #[.slice (some ad5) l0.length c0,.int .i64 (rd t1 x10_1)] rfl lm_ ?_;(with_reducible refine (impl_tryFrom.calls kj15 _ _ l0 (rd t1 x10_1) t6 _ ?side1 ?side2 A21.out).mono ?_);(case side1=>exact cc_ (Kd.C_below HR0.out HB.out));(case side2=>exact HC0.out);rintro e w34 ⟨v7,rfl,ho0,hb⟩;refine ⟨_,rfl,?_⟩;have n0_:=a0_ (Kd.R_elder' (rr_ HO_9.out) (Kd.R_base ho0) hb);have n1_:=a0_ (Kd.R_lower (Kd.R_new' ho0 (Kd.R_lt (rr_ HO_9.out))) (below_size hbw_));have n2_:=a0_ (below_step hbw_ hb);clear HO_9 HB;have HO_9:=n0_;have HO8:=n1_;have HB:=n2_;clear n0_ n1_ n2_;(try clear hb);(try clear ho0);obtain ⟨Ao35,co35,eo35⟩:=Kd.R_slice HO8.out;subst eo35) | ((with_reducible refine gate_callee (f:=143) rfl ?_);refine goesL_ (some 52) rfl rfl Try.func143 (by kernel_rfl) rfl #[.slice (some ad5) l0.length c0,.slice Ao35 t6.length co35] rfl lm_ ?_;(with_reducible refine (impl_tryOk.calls kj15 _ _ l0 _ _ t6 false _ ?side1 ?side2 ?side3 ?side4 A22.out).mono ?_);(case side1=>exact cc_ (Kd.C_below HR0.out HB.out));(case side2=>exact HC0.out);(case side3=>exact cc_ (Kd.R_reads' HO8.out).2.2);(case side4=>exact (Kd.R_reads' HO8.out).2.1);rintro e w' ⟨rfl,⟨nd,rfl⟩⟩;refine ⟨_,rfl,?_⟩))
               go_ret
               exact ⟨by first | rfl | (simp [errW_none,errW_some] <;> rfl) | (simp [*,errW_none,errW_some] <;> rfl),hbw_⟩
             ·rw [if_neg c20] at H
              have c20b0 : (((rd_T75 l0 (rd t1 x10_1)).f1) == 7) = false:=beq_eq_false_iff_ne.mpr c20
              have c20b1 : (((rd_T75 l0 (rd t1 x10_1)).f1) != 7) = true:=bne_iff_ne.mpr c20
              have HC36:=a0_ H
              clear H
              go_upto_if 75 with (fail)
              go_cut [75] (fun v75 wc=>∃ (kq : Nat) (x75_35 : Bool),v75 = .bool x75_35 ∧ Aside0 (impl_blockOk.j4 kq l0 a3 t1 x10_1 (rd t1 x10_1) ((rd_T75 l0 (rd t1 x10_1)).f1) x75_35 = some r) ∧ Aside0 (kq ≤ kj15) ∧ Aside0 (Kd.R (Kd.int .i64) 3 wc w.heap.size (fun _=>True) (.slice (some ad4) t1.length co12) t1) ∧ Aside0 (Below w.heap.size w wc))
              case first =>
               have H:=HC36.out
               clear HC36
               by_cases c37 : ((rd_T75 l0 (rd t1 x10_1)).f1) = 11
               ·rw [if_pos c37] at H
                have c37b0 : (((rd_T75 l0 (rd t1 x10_1)).f1) == 11) = true:=beq_iff_eq.mpr c37
                have c37b1 : (((rd_T75 l0 (rd t1 x10_1)).f1) != 11) = false:=bne_eq_false_iff_eq.mpr c37
                clear c37
                (first | rw [c37b0] | (simp only [i64_w,i32_w];rw [c37b0]) | skip)
                have H':=a0_ H
                clear H
                go_wp2
                go_meet
                case rel=>exact ⟨_,((((rd_T75 l0 (rd t1 x10_1)).f1) == 11)),(by first | rfl | (simp;done) | (simp [*];done)),H',⟨by have:=HK1.out;have:=HJ10.out;have:=HJ15.out;first | omega | exact Nat.le_refl _⟩,⟨by (with_reducible repeat (first | apply Kd.R_alloc | apply Kd.R_drewN | apply Kd.R_drew));exact HO_9.out⟩,⟨hbw_⟩⟩
               ·rw [if_neg c37] at H
                have c37b0 : (((rd_T75 l0 (rd t1 x10_1)).f1) == 11) = false:=beq_eq_false_iff_ne.mpr c37
                have c37b1 : (((rd_T75 l0 (rd t1 x10_1)).f1) != 11) = true:=bne_iff_ne.mpr c37
                (first | rw [c37b0] | (simp only [i64_w,i32_w];rw [c37b0]) | skip)
                have H':=a0_ H
                clear H
                go_wp2
                go_meet
                case rel=>exact ⟨_,((((rd_T75 l0 (rd t1 x10_1)).f1) == 12)),(by first | rfl | (simp;done) | (simp [*];done)),H',⟨by have:=HK1.out;have:=HJ10.out;have:=HJ15.out;first | omega | exact Nat.le_refl _⟩,⟨by (with_reducible repeat (first | apply Kd.R_alloc | apply Kd.R_drewN | apply Kd.R_drew));exact HO_9.out⟩,⟨hbw_⟩⟩
              case rest =>
               clear HC36
               try clear c1
               try clear p1
               try clear q1
               try clear hx1
               try clear c2
               try clear p2
               try clear c3
               try clear p4
               try clear q4
               try clear hx4
               try clear p5
               try clear q5
               try clear hx5
               try clear p6
               try clear c7
               try clear c7b0
               try clear c8
               try clear c8b0
               try clear c9
               try clear c9b0
               try clear c10
               try clear c10b0
               try clear p10
               try clear q10
               try clear hx10
               try clear c13
               try clear c13b0
               try clear c13b1
               try clear c14
               try clear c15
               try clear c17
               try clear c17b0
               try clear c17b1
               try clear c18
               try clear c18b0
               try clear c18b1
               try clear c19
               try clear c20
               try clear c20b0
               try clear c20b1
               try clear c23
               try clear c26
               try clear c26b0
               try clear c27
               try clear c27b0
               try clear c28
               try clear c28b0
               try clear c31
               try clear c37
               try clear c37b0
               try clear c37b1
               try clear hx10_0
               try clear hx4_0
               try clear hx5_0
               try clear hx5_1
               try clear hx5_2
               try clear hx5_3
               try clear p10
               try clear p2
               try clear p4
               try clear p5
               try clear p6
               try clear q10
               try clear q4
               try clear q5
               obtain ⟨kq,x75_35,rfl,HA,HJ35,HO_9,HB⟩:=hcut
               cases kq with
               | zero=>exact absurd HA.out (by simp [impl_blockOk.j4])
               | succ kj35 =>
                have H:=HA.out
                clear HA
                simp only [impl_blockOk.j4] at H
                by_cases c38 : x75_35 = true
                ·subst c38
                 have H1 : ((impl_endOf.f kj35 l0 (rd t1 x10_1)).bind fun t13=>(if a3 = true then ((impl_blockOk.f kj35 l0 (wrap64 ((rd t1 x10_1) + 1)) t13 true).bind fun t14=>(if t14 = true then (impl_blockOk.l0 kj35 l0 a3 t1 (wrap64 (x10_1 + 1))) else (some false))) else ((impl_blockOk.f kj35 l0 (wrap64 ((rd t1 x10_1) + 1)) t13 (((rd_T75 l0 (rd t1 x10_1)).f1) == 12)).bind fun t15=>(if t15 = true then (impl_blockOk.l0 kj35 l0 a3 t1 (wrap64 (x10_1 + 1))) else (some false))))) = some r:=by rw [if_pos rfl] at H;exact H
                 clear H
                 have H:=H1
                 clear H1
                 replace H:=Option.bind_eq_some_iff.mp H
                 obtain ⟨t13,A390,H⟩:=H
                 try dsimp only at H
                 have A39:=a0_ A390
                 clear A390
                 by_cases c40 : a3 = true
                 ·subst c40
                  have H1 : ((impl_blockOk.f kj35 l0 (wrap64 ((rd t1 x10_1) + 1)) t13 true).bind fun t14=>(if t14 = true then (impl_blockOk.l0 kj35 l0 true t1 (wrap64 (x10_1 + 1))) else (some false))) = some r:=by rw [if_pos rfl] at H;exact H
                  clear H
                  have H:=H1
                  clear H1
                  replace H:=Option.bind_eq_some_iff.mp H
                  obtain ⟨t14,A410,H⟩:=H
                  try dsimp only at H
                  have A41:=a0_ A410
                  clear A410
                  by_cases c42 : t14 = true
                  ·subst c42
                   have H1 : (impl_blockOk.l0 kj35 l0 true t1 (wrap64 (x10_1 + 1))) = some r:=by rw [if_pos rfl] at H;exact H
                   clear H
                   have H:=H1
                   clear H1
                   have H':=a0_ H
                   clear H
                   go_wp2_with (first | ((with_reducible refine gate_callee (f:=144) rfl ?_);refine goesL_ (some 83) rfl rfl Try.func144 (by kernel_rfl) rfl #[.slice (some ad5) l0.length c0,.int .i64 (rd t1 x10_1)] rfl lm_ ?_;(with_reducible refine (impl_endOf.calls kj35 _ _ l0 (rd t1 x10_1) t13 _ ?side1 ?side2 A39.out).mono ?_);(case side1=>exact cc_ (Kd.C_below HR0.out HB.out));(case side2=>exact HC0.out);rintro e w' ⟨rfl,⟨nd,rfl⟩⟩;refine ⟨_,rfl,?_⟩) | ((with_reducible refine gate_callee (f:=100) rfl ?_);refine goesL_ (some 89) rfl rfl Try.func100 (by kernel_rfl) rfl #[.slice (some ad5) l0.length c0,.int .i64 (wrap64 ((rd t1 x10_1) + 1)),.int .i64 t13,.bool true] rfl lm_ ?_;(with_reducible refine (ih kj35 (by have:=HK1.out;have:=HJ10.out;have:=HJ15.out;have:=HJ35.out;omega) _ _ l0 (wrap64 ((rd t1 x10_1) + 1)) t13 true true _ ?side1 ?side2 A41.out).mono ?_);(case side1=>repeat (first | exact (Kd.C_below HR0.out hbw_) | (with_reducible refine Kd.C_alloc ?_ _) | (with_reducible refine Kd.C_drewN ?_ _) | (with_reducible refine Kd.C_drew ?_)));(case side2=>exact HC0.out);rintro e w43 ⟨rfl,hb⟩;refine ⟨_,rfl,?_⟩;replace HO_9:=rb_ HO_9 hb;replace HB:=a0_ (below_step hbw_ hb);(try clear hb);(try clear hb2);(try clear hk);(try clear hi)))
                   go_roundg kj35
                   case measure=>have:=HK1.out;have:=HJ10.out;have:=HJ15.out;have:=HJ35.out;omega
                   case rel=>exact ⟨(wrap64 (x10_1 + 1)),(by first | rfl | (simp;done) | (simp [*];done)),H',⟨by have:=HK1.out;have:=HJ10.out;have:=HJ15.out;have:=HJ35.out;omega⟩,⟨by (with_reducible repeat (first | apply Kd.R_alloc | apply Kd.R_drewN | apply Kd.R_drew));exact HO_9.out⟩,⟨hbw_⟩⟩
                  ·replace c42:=Bool.eq_false_iff.mpr c42
                   subst c42
                   have H1 : (some false) = some r:=by rw [if_neg (show ¬ (false = true) by decide)] at H;exact H
                   clear H
                   have H:=H1
                   clear H1
                   obtain rfl:=Option.some.inj H
                   go_wp2_with (first | ((with_reducible refine gate_callee (f:=144) rfl ?_);refine goesL_ (some 83) rfl rfl Try.func144 (by kernel_rfl) rfl #[.slice (some ad5) l0.length c0,.int .i64 (rd t1 x10_1)] rfl lm_ ?_;(with_reducible refine (impl_endOf.calls kj35 _ _ l0 (rd t1 x10_1) t13 _ ?side1 ?side2 A39.out).mono ?_);(case side1=>exact cc_ (Kd.C_below HR0.out HB.out));(case side2=>exact HC0.out);rintro e w' ⟨rfl,⟨nd,rfl⟩⟩;refine ⟨_,rfl,?_⟩) | ((with_reducible refine gate_callee (f:=100) rfl ?_);refine goesL_ (some 89) rfl rfl Try.func100 (by kernel_rfl) rfl #[.slice (some ad5) l0.length c0,.int .i64 (wrap64 ((rd t1 x10_1) + 1)),.int .i64 t13,.bool true] rfl lm_ ?_;(with_reducible refine (ih kj35 (by have:=HK1.out;have:=HJ10.out;have:=HJ15.out;have:=HJ35.out;omega) _ _ l0 (wrap64 ((rd t1 x10_1) + 1)) t13 true false _ ?side1 ?side2 A41.out).mono ?_);(case side1=>repeat (first | exact (Kd.C_below HR0.out hbw_) | (with_reducible refine Kd.C_alloc ?_ _) | (with_reducible refine Kd.C_drewN ?_ _) | (with_reducible refine Kd.C_drew ?_)));(case side2=>exact HC0.out);rintro e w44 ⟨rfl,hb⟩;refine ⟨_,rfl,?_⟩;replace HO_9:=rb_ HO_9 hb;replace HB:=a0_ (below_step hbw_ hb);(try clear hb);(try clear hb2);(try clear hk);(try clear hi)))
                   go_ret
                   exact ⟨by first | rfl | (simp [errW_none,errW_some] <;> rfl) | (simp [*,errW_none,errW_some] <;> rfl),hbw_⟩
                 ·replace c40:=Bool.eq_false_iff.mpr c40
                  subst c40
                  have H1 : ((impl_blockOk.f kj35 l0 (wrap64 ((rd t1 x10_1) + 1)) t13 (((rd_T75 l0 (rd t1 x10_1)).f1) == 12)).bind fun t15=>(if t15 = true then (impl_blockOk.l0 kj35 l0 false t1 (wrap64 (x10_1 + 1))) else (some false))) = some r:=by rw [if_neg (show ¬ (false = true) by decide)] at H;exact H
                  clear H
                  have H:=H1
                  clear H1
                  replace H:=Option.bind_eq_some_iff.mp H
                  obtain ⟨t15,A450,H⟩:=H
                  try dsimp only at H
                  have A45:=a0_ A450
                  clear A450
                  by_cases c46 : t15 = true
                  ·subst c46
                   have H1 : (impl_blockOk.l0 kj35 l0 false t1 (wrap64 (x10_1 + 1))) = some r:=by rw [if_pos rfl] at H;exact H
                   clear H
                   have H:=H1
                   clear H1
                   have H':=a0_ H
                   clear H
                   go_wp2_with (first | ((with_reducible refine gate_callee (f:=144) rfl ?_);refine goesL_ (some 83) rfl rfl Try.func144 (by kernel_rfl) rfl #[.slice (some ad5) l0.length c0,.int .i64 (rd t1 x10_1)] rfl lm_ ?_;(with_reducible refine (impl_endOf.calls kj35 _ _ l0 (rd t1 x10_1) t13 _ ?side1 ?side2 A39.out).mono ?_);(case side1=>exact cc_ (Kd.C_below HR0.out HB.out));(case side2=>exact HC0.out);rintro e w' ⟨rfl,⟨nd,rfl⟩⟩;refine ⟨_,rfl,?_⟩) | ((with_reducible refine gate_callee (f:=100) rfl ?_);refine goesL_ (some 89) rfl rfl Try.func100 (by kernel_rfl) rfl #[.slice (some ad5) l0.length c0,.int .i64 (wrap64 ((rd t1 x10_1) + 1)),.int .i64 t13,.bool (((rd_T75 l0 (rd t1 x10_1)).f1) == 12)] rfl lm_ ?_;(with_reducible refine (ih kj35 (by have:=HK1.out;have:=HJ10.out;have:=HJ15.out;have:=HJ35.out;omega) _ _ l0 (wrap64 ((rd t1 x10_1) + 1)) t13 (((rd_T75 l0 (rd t1 x10_1)).f1) == 12) true _ ?side1 ?side2 A45.out).mono ?_);(case side1=>repeat (first | exact (Kd.C_below HR0.out hbw_) | (with_reducible refine Kd.C_alloc ?_ _) | (with_reducible refine Kd.C_drewN ?_ _) | (with_reducible refine Kd.C_drew ?_)));(case side2=>exact HC0.out);rintro e w47 ⟨rfl,hb⟩;refine ⟨_,rfl,?_⟩;replace HO_9:=rb_ HO_9 hb;replace HB:=a0_ (below_step hbw_ hb);(try clear hb);(try clear hb2);(try clear hk);(try clear hi)))
                   go_roundg kj35
                   case measure=>have:=HK1.out;have:=HJ10.out;have:=HJ15.out;have:=HJ35.out;omega
                   case rel=>exact ⟨(wrap64 (x10_1 + 1)),(by first | rfl | (simp;done) | (simp [*];done)),H',⟨by have:=HK1.out;have:=HJ10.out;have:=HJ15.out;have:=HJ35.out;omega⟩,⟨by (with_reducible repeat (first | apply Kd.R_alloc | apply Kd.R_drewN | apply Kd.R_drew));exact HO_9.out⟩,⟨hbw_⟩⟩
                  ·replace c46:=Bool.eq_false_iff.mpr c46
                   subst c46
                   have H1 : (some false) = some r:=by rw [if_neg (show ¬ (false = true) by decide)] at H;exact H
                   clear H
                   have H:=H1
                   clear H1
                   obtain rfl:=Option.some.inj H
                   go_wp2_with (first | ((with_reducible refine gate_callee (f:=144) rfl ?_);refine goesL_ (some 83) rfl rfl Try.func144 (by kernel_rfl) rfl #[.slice (some ad5) l0.length c0,.int .i64 (rd t1 x10_1)] rfl lm_ ?_;(with_reducible refine (impl_endOf.calls kj35 _ _ l0 (rd t1 x10_1) t13 _ ?side1 ?side2 A39.out).mono ?_);(case side1=>exact cc_ (Kd.C_below HR0.out HB.out));(case side2=>exact HC0.out);rintro e w' ⟨rfl,⟨nd,rfl⟩⟩;refine ⟨_,rfl,?_⟩) | ((with_reducible refine gate_callee (f:=100) rfl ?_);refine goesL_ (some 89) rfl rfl Try.func100 (by kernel_rfl) rfl #[.slice (some ad5) l0.length c0,.int .i64 (wrap64 ((rd t1 x10_1) + 1)),.int .i64 t13,.bool (((rd_T75 l0 (rd t1 x10_1)).f1) == 12)] rfl lm_ ?_;(with_reducible refine (ih kj35 (by have:=HK1.out;have:=HJ10.out;have:=HJ15.out;have:=HJ35.out;omega) _ _ l0 (wrap64 ((rd t1 x10_1) + 1)) t13 (((rd_T75 l0 (rd t1 x10_1)).f1) == 12) false _ ?side1 ?side2 A45.out).mono ?_);(case side1=>repeat (first | exact (Kd.C_below HR0.out hbw_) | (with_reducible refine Kd.C_alloc ?_ _) | (with_reducible refine Kd.C_drewN ?_ _) | (with_reducible refine Kd.C_drew ?_)));(case side2=>exact HC0.out);rintro e w48 ⟨rfl,hb⟩;refine ⟨_,rfl,?_⟩;replace HO_9:=rb_ HO_9 hb;replace HB:=a0_ (below_step hbw_ hb);(try clear hb);(try clear hb2);(try clear hk);(try clear hi)))
                   go_ret
                   exact ⟨by first | rfl | (simp [errW_none,errW_some] <;> rfl) | (simp [*,errW_none,errW_some] <;> rfl),hbw_⟩
                ·replace c38:=Bool.eq_false_iff.mpr c38
                 subst c38
                 have H1 : (impl_blockOk.l0 kj35 l0 a3 t1 (wrap64 (x10_1 + 1))) = some r:=by rw [if_neg (show ¬ (false = true) by decide)] at H;exact H
                 clear H
                 have H:=H1
                 clear H1
                 have H':=a0_ H
                 clear H
                 go_wp2
                 go_roundg kj35
                 case measure=>have:=HK1.out;have:=HJ10.out;have:=HJ15.out;have:=HJ35.out;omega
                 case rel=>exact ⟨(wrap64 (x10_1 + 1)),(by first | rfl | (simp;done) | (simp [*];done)),H',⟨by have:=HK1.out;have:=HJ10.out;have:=HJ15.out;have:=HJ35.out;omega⟩,⟨by (with_reducible repeat (first | apply Kd.R_alloc | apply Kd.R_drewN | apply Kd.R_drew));exact HO_9.out⟩,⟨hbw_⟩⟩
      ·rw [if_neg c10] at H
       exact absurd H (by simp)
     ·rw [if_neg c9] at H
      exact absurd H (by simp)
    ·rw [if_neg c8] at H
     exact absurd H (by simp)
   ·rw [if_neg c7] at H
    have c7b0 : decide (x10_1 < (t1.length : Int)) = false:=decide_eq_false c7
    clear c7
    obtain rfl:=Option.some.inj H
    obtain ⟨Ao49,co49,eo49⟩:=Kd.R_slice HO_9.out
    subst eo49
    go_wp2
    go_ret
    exact ⟨by first | rfl | (simp [errW_none,errW_some] <;> rfl) | (simp [*,errW_none,errW_some] <;> rfl),hbw_⟩
set_option maxHeartbeats 4000000 in
theorem blk_inner {l : List S75} (hl0 : Aside0 (l.length ≤ 1099511627776)) (hS : StL l) {a t : Nat} {d : Int} {lp : Bool} (ht : t ≤ l.length) (hge : ∀ j,a ≤ j → j < t → d ≤ ld l j) (hend : t < l.length → ld l t < d) (hlp : inL l a d = lp)
  (hI : ∀ c,a ≤ c → c < t → ld l c = d → 7 ≤ lk l c → lk l c ≤ 12 → ∃ b,Ev (fun k=>impl_blockOk.f k l ((c + 1 : Nat) : Int) ((endN l c : Nat) : Int) (lp || decide (lk l c = 12))) b ∧ (b = true ↔ ∀ j,c < j → j < endN l c → lineOk l j))
  (L : List Nat) (hLl0 : Aside0 (L.length ≤ 1099511627776)) : ∀ (f i m : Nat),t - i ≤ f → a ≤ i → i ≤ t → (i < t → ld l i = d) → L.drop m = sib l t i → m ≤ L.length → (i < t → 8 ≤ lk l i → lk l i ≤ 10 → ¬ lineOk l i) →
  ∃ b,Ev (fun k=>impl_blockOk.l0 k l lp (nI L) (m : Int)) b ∧ (b = true ↔ ∀ j,i ≤ j → j < t → lineOk l j):=by
 intro f
 induction f using Nat.strongRecOn with
 | _ f ih =>
 intro i m h1 h2 h3 h4 h5 h6 h7
 by_cases hit : i < t
 ·have hd:=h4 hit
  have hg:=endN_gt l i
  rw [sib_pos hit] at h5
  obtain ⟨hm,hmi,hdr⟩:=drop_cons_ h5.symm
  have hw : Aside0 (wrap64 ((m : Int) + 1) = ((m + 1 : Nat) : Int)):=⟨wrap_nat_ hm hLl0.out⟩
  have hwi : Aside0 (wrap64 ((i : Int) + 1) = ((i + 1 : Nat) : Int)):=⟨wrap_nat_ (n:=l.length) (Nat.lt_of_lt_of_le hit ht) hl0.out⟩
  have het : endN l i ≤ t:=by
   refine Nat.le_of_not_lt (fun hlt=>?_)
   have:=endN_in (l:=l) (i:=i) (j:=t) hit hlt
   have:=hend (by have:=endN_le (l:=l) (i:=i) (by omega);omega)
   omega
  have hnd : endN l i < t → ld l (endN l i) = d:=fun hlt=>by
   have q1:=endN_at (l:=l) (i:=i) (by omega) (by omega)
   have q2:=hge (endN l i) (by omega) hlt
   omega
  have hhead : hdL l (endN l i) d = (i : Int):=hdL_end l d i hd
  have hLoop : inL l i d = lp:=by rw [inL_skip l d a i h2 (fun j hj hj2=>hge j hj (by omega))];exact hlp
  have next : ¬ (7 ≤ lk l i ∧ lk l i ≤ 10) → ∃ b,Ev (fun k=>impl_blockOk.l0 k l lp (nI L) ((m + 1 : Nat) : Int)) b ∧ (b = true ↔ ∀ j,endN l i ≤ j → j < t → lineOk l j):=by
   intro hk
   refine ih (t - endN l i) (by omega) (endN l i) (m + 1) (Nat.le_refl _) (by omega) het hnd hdr.symm (by omega) (fun hlt _ _ hok=>?_)
   obtain ⟨h,q1,q2,q3⟩:=hok.2.2 (by omega) (by omega)
   rw [hnd hlt,hhead] at q1
   obtain rfl : i = h:=by omega
   exact hk ⟨q2,q3⟩
  have enter : ∀ {b : Bool},Ev (fun k=>impl_blockOk.j1 k l lp (nI L) (m : Int) (i : Int) (lk l i) (lk l i) (decide (lk l i = 5 ∨ lk l i = 6))) b → Ev (fun k=>impl_blockOk.l0 k l lp (nI L) (m : Int)) b:=by
   intro b hb
   refine Ev.succ ?_
   simp only [impl_blockOk.l0,rd_nI,hmi,rd_lk_]
   refine Ev.pos (by rw [nI_len];omega) (Ev.pos (by omega) (Ev.pos (by omega) (Ev.pos (by omega) ?_)))
   by_cases h5k : lk l i = 5
   ·refine Ev.pos h5k ?_
    rw [show (decide (lk l i = 5 ∨ lk l i = 6)) = (lk l i == 5) by simp [h5k]] at hb
    exact hb
   ·refine Ev.neg h5k ?_
    rw [show (decide (lk l i = 5 ∨ lk l i = 6)) = (lk l i == 6) by by_cases h6k : lk l i = 6 <;> simp [h5k,h6k]] at hb
    exact hb
  by_cases h56 : lk l i = 5 ∨ lk l i = 6
  ·have e1:=endN_no hS (i:=i) (by omega) (by omega)
   cases hlpv : lp with
   | true =>
    obtain ⟨b,hb,hbi⟩:=next (by omega)
    rw [hlpv] at hb
    refine ⟨b,?_,?_⟩
    ·rw [← hlpv]
     refine enter ?_
     rw [hlpv]
     refine Ev.succ ?_
     simp only [impl_blockOk.j1,hw.out]
     exact Ev.pos (by simp [h56]) (Ev.pos (by simp) hb)
    ·rw [hbi]
     constructor
     ·intro h j hj hj2
      by_cases e : j = i
      ·subst e
       exact ⟨fun q=>by omega,fun _=>by rw [hd,hLoop,hlpv],fun q=>by omega⟩
      ·exact h j (by omega) hj2
     ·exact fun h j hj hj2=>h j (by omega) hj2
   | false =>
    refine ⟨false,?_,?_⟩
    ·rw [← hlpv]
     refine enter ?_
     rw [hlpv]
     refine Ev.succ ?_
     simp only [impl_blockOk.j1,hw.out]
     exact Ev.pos (by simp [h56]) (Ev.neg (by simp) (Ev.const rfl))
    ·refine ⟨fun h=>by simp at h,fun h=>?_⟩
     have:=(h i (Nat.le_refl _) hit).2.1 h56
     rw [hd,hLoop,hlpv] at this
     simp at this
  have hF56 : decide (lk l i = 5 ∨ lk l i = 6) = false:=by simpa using h56
  have enter2 : ∀ {b : Bool},Ev (fun k=>impl_blockOk.j2 k l lp (nI L) (m : Int) (i : Int) (lk l i) (lk l i) (decide (8 ≤ lk l i ∧ lk l i ≤ 10))) b → Ev (fun k=>impl_blockOk.l0 k l lp (nI L) (m : Int)) b:=by
   intro b hb
   refine enter ?_
   rw [hF56]
   refine Ev.succ ?_
   simp only [impl_blockOk.j1]
   refine Ev.neg (by simp) ?_
   by_cases h8k : lk l i = 8
   ·refine Ev.pos h8k ?_
    rw [show (decide (8 ≤ lk l i ∧ lk l i ≤ 10)) = (lk l i == 8) by rw [h8k];decide] at hb
    exact hb
   ·refine Ev.neg h8k ?_
    by_cases h9k : lk l i = 9
    ·refine Ev.pos h9k ?_
     rw [show (decide (8 ≤ lk l i ∧ lk l i ≤ 10)) = (lk l i == 9) by rw [h9k];decide] at hb
     exact hb
    ·refine Ev.neg h9k ?_
     rw [show (decide (8 ≤ lk l i ∧ lk l i ≤ 10)) = (lk l i == 10) by
      by_cases h10k : lk l i = 10
      ·rw [h10k];decide
      ·rw [beq_eq_false_iff_ne.2 h10k];exact decide_eq_false (by omega)] at hb
     exact hb
  by_cases hfo : 8 ≤ lk l i ∧ lk l i ≤ 10
  ·refine ⟨false,enter2 ?_,fun h=>by simp at h,fun h=>absurd (h i (Nat.le_refl _) hit) (h7 hit hfo.1 hfo.2)⟩
   refine Ev.succ ?_
   simp only [impl_blockOk.j2]
   exact Ev.pos (by simpa using hfo) (Ev.const rfl)
  have hFfo : decide (8 ≤ lk l i ∧ lk l i ≤ 10) = false:=decide_eq_false hfo
  by_cases h7k : lk l i = 7
  ·
   have hT:=impl_tryFrom_ev l i (by omega) hl0.out
   have hRm:=chR_mem l l.length i
   have hRl:=chR_len l l.length i
   have hO:=impl_tryOk_ev l i (chR l l.length i) (fun c hc=>(hRm c hc).1) (Nat.le_trans hRl hl0.out)
   have hchk : (decide (1 ≤ (chR l l.length i).length) && okR l (chR l l.length i) 0 7) = chOk l i:=rfl
   rw [hchk] at hO
   obtain ⟨i',q1,q2,q3,q4,q5,q6,q7⟩:=chain_walk (a:=a) ht hge hend l.length i (by omega) h2 hit hd (by omega) (by omega)
   generalize hR : chR l l.length i = R at hT hO q1 q5 q6 q7 hRl
   cases hc : chOk l i with
   | false =>
    refine ⟨false,enter2 ?_,fun h=>by simp at h,fun h=>?_⟩
    ·rw [hFfo]
     refine Ev.succ ?_
     simp only [impl_blockOk.j2]
     rw [hc] at hO
     exact Ev.neg (by simp) (Ev.pos h7k (Ev.bind hT (Ev.bind hO (Ev.neg (by simp) (Ev.const rfl)))))
    ·have:=(h i (Nat.le_refl _) hit).1 h7k
     rw [hc] at this
     simp at this
   | true =>
    have hdr2 : L.drop (m + 1 + R.length) = sib l t i':=by
     rw [← List.drop_drop,← hdr,q1,List.drop_left]
    have hml : m + 1 + R.length ≤ L.length:=by
     have e : (L.drop (m + 1)).length = (R ++ sib l t i').length:=by rw [← hdr,q1]
     rw [List.length_drop,List.length_append] at e
     omega
    obtain ⟨b0,hb0,hb0i⟩:=ih (t - i') (by omega) i' (m + 1 + R.length) (Nat.le_refl _) (by omega) q3 (fun h=>(q4 h).1) hdr2 hml (fun h q8 q10=>absurd ⟨q8,q10⟩ (q4 h).2)
    have hws : Aside0 (wrap64 (wrap64 ((m : Int) + wrap64 (((nI (i :: R)).length : Int) - 1)) + 1) = ((m + 1 + R.length : Nat) : Int)):=by
     constructor
     have hb1_:=hLl0.out
     rw [nI_len,List.length_cons,wrap_in (i:=((R.length + 1 : Nat) : Int) - 1) (by omega) (by omega),wrap_in (i:=(m : Int) + (((R.length + 1 : Nat) : Int) - 1)) (by omega) (by omega),wrap_in (by omega) (by omega)]
     omega
    have hmemT : ∀ x ∈ i :: R,a ≤ x ∧ x < t ∧ ld l x = d ∧ 7 ≤ lk l x ∧ lk l x ≤ 10:=by
     intro x hx
     rcases List.mem_cons.1 hx with rfl | hx
     ·exact ⟨h2,hit,hd,by omega,by omega⟩
     ·obtain ⟨r1,r2,r3,r4,r5,_⟩:=q5 x hx
      exact ⟨by omega,r2,r3,by omega,r5⟩
    have loop : ∀ (T2 : List Nat) (q : Nat),T2 = (i :: R).drop q → q ≤ (i :: R).length → ∃ b,Ev (fun k=>impl_blockOk.l1 k l lp (nI L) (m : Int) (nI (i :: R)) (nI (i :: R)) ((nI (i :: R)).length : Int) (q : Int)) b ∧ (b = true ↔ (∀ x ∈ T2,∀ j,x < j → j < endN l x → lineOk l j) ∧ b0 = true):=by
     intro T2
     induction T2 with
     | nil =>
      intro q hq hq2
      have : (i :: R).length ≤ q:=List.drop_eq_nil_iff.1 hq.symm
      refine ⟨b0,?_,by simp⟩
      refine Ev.succ ?_
      simp only [impl_blockOk.l1,hws.out]
      exact Ev.neg (by rw [nI_len];omega) hb0
     | cons x T2 ih2 =>
      intro q hq hq2
      obtain ⟨r1,r2,r3⟩:=drop_cons_ hq
      have hxm : x ∈ i :: R:=by
       have : x ∈ (i :: R).drop q:=by rw [← hq];exact List.mem_cons_self
       exact List.mem_of_mem_drop this
      obtain ⟨m1,m2,m3,m4,m5⟩:=hmemT x hxm
      have hxw : Aside0 (wrap64 ((x : Int) + 1) = ((x + 1 : Nat) : Int)):=⟨wrap_nat_ (n:=l.length) (Nat.lt_of_lt_of_le m2 ht) hl0.out⟩
      have hqw : Aside0 (wrap64 ((q : Int) + 1) = ((q + 1 : Nat) : Int)):=by
       constructor
       rw [List.length_cons] at r1
       have hb1_:=hl0.out
       rw [wrap_succ (i:=(q : Int)) (n:=(R.length : Int) + 1) (by omega) (by omega) (by omega)];rfl
      obtain ⟨bb,hbb,hbbi⟩:=hI x m1 m2 m3 m4 (by omega)
      rw [show decide (lk l x = 12) = false from decide_eq_false (by omega),Bool.or_false] at hbb
      obtain ⟨b2,hb2,hb2i⟩:=ih2 (q + 1) r3 (by rw [List.length_cons] at r1 ⊢;omega)
      have hen:=impl_endOf_ev l x (by omega) hl0.out
      cases hbv : bb with
      | true =>
       rw [hbv] at hbb hbbi
       refine ⟨b2,?_,?_⟩
       ·refine Ev.succ ?_
        simp only [impl_blockOk.l1,rd_nI,r2,hxw.out,hqw.out]
        exact Ev.pos (by rw [nI_len];omega) (Ev.pos (by omega) (Ev.pos (by rw [nI_len];omega) (Ev.bind hen (Ev.bind hbb (Ev.pos rfl hb2)))))
       ·rw [hb2i]
        constructor
        ·rintro ⟨s1,s2⟩
         refine ⟨fun y hy=>?_,s2⟩
         rcases List.mem_cons.1 hy with rfl | hy
         ·exact hbbi.1 rfl
         ·exact s1 y hy
        ·rintro ⟨s1,s2⟩
         exact ⟨fun y hy=>s1 y (List.mem_cons_of_mem _ hy),s2⟩
      | false =>
       rw [hbv] at hbb hbbi
       refine ⟨false,?_,?_⟩
       ·refine Ev.succ ?_
        simp only [impl_blockOk.l1,rd_nI,r2,hxw.out,hqw.out]
        exact Ev.pos (by rw [nI_len];omega) (Ev.pos (by omega) (Ev.pos (by rw [nI_len];omega) (Ev.bind hen (Ev.bind hbb (Ev.neg (by simp) (Ev.const rfl))))))
       ·refine ⟨fun h=>by simp at h,fun h=>?_⟩
        exact hbbi.2 (h.1 x List.mem_cons_self)
    obtain ⟨b,hb,hbi⟩:=loop (i :: R) 0 rfl (Nat.zero_le _)
    refine ⟨b,enter2 ?_,?_⟩
    ·rw [hFfo]
     refine Ev.succ ?_
     simp only [impl_blockOk.j2]
     rw [hc] at hO
     exact Ev.neg (by simp) (Ev.pos h7k (Ev.bind hT (Ev.bind hO (Ev.pos rfl hb))))
    ·rw [hbi,hb0i]
     constructor
     ·rintro ⟨s1,s2⟩ j hj hj2
      by_cases hj3 : j < i'
      ·rcases q7 j hj hj3 with hmem | ⟨x,hx,hx1,hx2⟩
       ·rcases List.mem_cons.1 hmem with rfl | hmem
        ·exact ⟨fun _=>hc,fun q=>by omega,fun q=>by omega⟩
        ·obtain ⟨_,_,r3,r4,r5,r6⟩:=q5 j hmem
         exact ⟨fun q=>by omega,fun q=>by omega,fun _ _=>by rw [r3];exact r6⟩
       ·exact s1 x hx j hx1 hx2
      ·exact s2 j (by omega) hj2
     ·intro h
      refine ⟨fun x hx j hj hj2=>?_,fun j hj hj2=>h j (by omega) hj2⟩
      have:=q6 x hx
      have hxi : i ≤ x:=by
       rcases List.mem_cons.1 hx with rfl | hx
       ·exact Nat.le_refl _
       ·have:=(q5 x hx).1;omega
      exact h j (by omega) (by omega)
  obtain ⟨b,hb,hbi⟩:=next (by omega)
  have enter3 : ∀ {b : Bool},Ev (fun k=>impl_blockOk.j4 k l lp (nI L) (m : Int) (i : Int) (lk l i) (decide (11 ≤ lk l i ∧ lk l i ≤ 12))) b → Ev (fun k=>impl_blockOk.l0 k l lp (nI L) (m : Int)) b:=by
   intro b hb
   refine enter2 ?_
   rw [hFfo]
   refine Ev.succ ?_
   simp only [impl_blockOk.j2]
   refine Ev.neg (by simp) (Ev.neg h7k ?_)
   by_cases h11 : lk l i = 11
   ·refine Ev.pos h11 ?_
    rw [show (decide (11 ≤ lk l i ∧ lk l i ≤ 12)) = (lk l i == 11) by rw [h11];decide] at hb
    exact hb
   ·refine Ev.neg h11 ?_
    rw [show (decide (11 ≤ lk l i ∧ lk l i ≤ 12)) = (lk l i == 12) by
     by_cases h12 : lk l i = 12
     ·rw [h12];decide
     ·rw [beq_eq_false_iff_ne.2 h12];exact decide_eq_false (by omega)] at hb
    exact hb
  have hself : lineOk l i:=⟨fun q=>absurd q h7k,fun q=>absurd q h56,fun q q'=>absurd ⟨q,q'⟩ hfo⟩
  by_cases hw12 : 11 ≤ lk l i ∧ lk l i ≤ 12
  ·obtain ⟨bb,hbb,hbbi⟩:=hI i h2 hit hd (by omega) hw12.2
   have hen:=impl_endOf_ev l i (by omega) hl0.out
   have body : ∀ {r : Bool},Ev (fun k=>if bb = true then impl_blockOk.l0 k l lp (nI L) ((m + 1 : Nat) : Int) else some false) r → Ev (fun k=>impl_blockOk.l0 k l lp (nI L) (m : Int)) r:=by
    intro r hr
    refine enter3 ?_
    rw [decide_eq_true hw12]
    refine Ev.succ ?_
    simp only [impl_blockOk.j4,hwi.out,hw.out]
    refine Ev.pos (by simp) (Ev.bind hen ?_)
    cases hlpv : lp with
    | true=>rw [hlpv,Bool.true_or] at hbb;rw [hlpv] at hr;exact Ev.pos (by simp) (Ev.bind hbb hr)
    | false =>
     rw [hlpv,Bool.false_or] at hbb
     rw [hlpv] at hr
     refine Ev.neg (by simp) (Ev.bind (x:=bb) ?_ hr)
     rw [show (lk l i == 12) = decide (lk l i = 12) from rfl]
     exact hbb
   cases hbv : bb with
   | true =>
    rw [hbv] at hbbi body
    refine ⟨b,body (Ev.pos rfl hb),?_⟩
    rw [hbi]
    constructor
    ·intro h j hj hj2
     by_cases e : j = i
     ·rw [e];exact hself
     ·by_cases e2 : j < endN l i
      ·exact hbbi.1 rfl j (by omega) e2
      ·exact h j (by omega) hj2
    ·exact fun h j hj hj2=>h j (by omega) hj2
   | false =>
    rw [hbv] at hbbi body
    refine ⟨false,body (Ev.neg (by simp) (Ev.const rfl)),fun h=>by simp at h,fun h=>?_⟩
    exact hbbi.2 (fun j hj hj2=>h j (by omega) (by omega))
  ·have e1:=endN_no hS (i:=i) (by omega) (by omega)
   refine ⟨b,enter3 ?_,?_⟩
   ·rw [decide_eq_false hw12]
    refine Ev.succ ?_
    simp only [impl_blockOk.j4,hw.out]
    exact Ev.neg (by simp) hb
   ·rw [hbi]
    constructor
    ·intro h j hj hj2
     by_cases e : j = i
     ·rw [e];exact hself
     ·exact h j (by omega) hj2
    ·exact fun h j hj hj2=>h j (by omega) hj2
 ·refine ⟨true,?_,⟨fun _ j hj hj2=>by omega,fun _=>rfl⟩⟩
  rw [sib_neg hit] at h5
  have : L.length ≤ m:=List.drop_eq_nil_iff.1 h5
  refine Ev.succ ?_
  simp only [impl_blockOk.l0]
  exact Ev.neg (by rw [nI_len];omega) (Ev.const rfl)
theorem impl_blockOk_ev {l : List S75} (hl : l.length ≤ 1099511627776) (hS : StL l) : ∀ (n a t : Nat) (d : Int) (lp : Bool),t - a ≤ n → a ≤ t → t ≤ l.length → (∀ j,a ≤ j → j < t → d ≤ ld l j) → (a < t → ld l a = d) → (t < l.length → ld l t < d) → inL l a d = lp → hdL l a d = -1 →
  ∃ b,Ev (fun k=>impl_blockOk.f k l (a : Int) (t : Int) lp) b ∧ (b = true ↔ ∀ j,a ≤ j → j < t → lineOk l j):=by
 intro n
 induction n with
 | zero =>
  intro a t d lp h1 h2 h3 h4 h5 h6 h7 h8
  obtain ⟨b,hb,hbi⟩:=blk_inner ⟨hl⟩ hS h3 h4 h6 h7 (fun c hc hc2=>by omega) (sib l t a) ⟨by unfold sib;have:=sibN_len l t (t - a) a;omega⟩ (t - a) a 0 (Nat.le_refl _) (Nat.le_refl _) h2 h5 rfl (Nat.zero_le _) (fun h=>by omega)
  refine ⟨b,Ev.succ ?_,hbi⟩
  simp only [impl_blockOk.f]
  exact Ev.bind (impl_siblings_ev l a t h3 hl) hb
 | succ n ih =>
  intro a t d lp h1 h2 h3 h4 h5 h6 h7 h8
  have hI : ∀ c,a ≤ c → c < t → ld l c = d → 7 ≤ lk l c → lk l c ≤ 12 → ∃ b,Ev (fun k=>impl_blockOk.f k l ((c + 1 : Nat) : Int) ((endN l c : Nat) : Int) (lp || decide (lk l c = 12))) b ∧ (b = true ↔ ∀ j,c < j → j < endN l c → lineOk l j):=by
   intro c hc hc2 hcd hk1 hk2
   have hg:=endN_gt l c
   have hcl : c < l.length:=Nat.lt_of_lt_of_le hc2 h3
   have hle:=endN_le (l:=l) (i:=c) hcl
   have het : endN l c ≤ t:=by
    refine Nat.le_of_not_lt (fun hlt=>?_)
    have:=endN_in (l:=l) (i:=c) (j:=t) hc2 hlt
    have:=h6 (by omega)
    omega
   obtain ⟨o1,o2⟩:=hS.op c hcl hk1 hk2
   obtain ⟨bb,hbb,hbbi⟩:=ih (c + 1) (endN l c) (d + 1) (lp || decide (lk l c = 12)) (by omega) (by omega) hle (fun j hj hj2=>by have:=endN_in (l:=l) (i:=c) (j:=j) (by omega) hj2;omega) (fun _=>by omega) (fun hlt=>by have:=endN_at (l:=l) (i:=c) hcl hlt;omega)
    (by
     have hin : inL l c d = lp:=by rw [inL_skip l d a c hc (fun j hj hj2=>h4 j hj (by omega))];exact h7
     rw [inL,if_pos (by omega)]
     by_cases h12 : lk l c = 12
     ·rw [if_pos h12];simp [h12]
     ·rw [if_neg h12,hcd,hin];simp [h12])
    (by rw [hdL,if_pos (by omega)])
   exact ⟨bb,hbb,hbbi.trans ⟨fun h j hj hj2=>h j (by omega) hj2,fun h j hj hj2=>h j (by omega) hj2⟩⟩
  have h0 : a < t → 8 ≤ lk l a → lk l a ≤ 10 → ¬ lineOk l a:=by
   intro h q1 q2 hok
   obtain ⟨x,r1,_,_⟩:=hok.2.2 q1 q2
   rw [h5 h,h8] at r1
   omega
  obtain ⟨b,hb,hbi⟩:=blk_inner ⟨hl⟩ hS h3 h4 h6 h7 hI (sib l t a) ⟨by unfold sib;have:=sibN_len l t (t - a) a;omega⟩ (t - a) a 0 (Nat.le_refl _) (Nat.le_refl _) h2 h5 rfl (Nat.zero_le _) h0
  refine ⟨b,Ev.succ ?_,hbi⟩
  simp only [impl_blockOk.f]
  exact Ev.bind (impl_siblings_ev l a t h3 hl) hb
end Go.Proofs.Ytacgehaipacehaa.P
