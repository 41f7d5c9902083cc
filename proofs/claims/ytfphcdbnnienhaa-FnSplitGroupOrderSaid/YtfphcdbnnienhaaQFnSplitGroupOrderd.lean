/- Texts under the proof of FnSplitGroupOrder: helper words, the functions' contracts and the plain laws. No condition. -/
import Derived.Test.YtfphcdbnnienhaaQFnSplitGroupOrdera
import Derived.Test.YtfphcdbnnienhaaQFnSplitGroupOrderc
namespace Go.Proofs.Ytfphcdbnnienhaa.P
open Go.RowKit Go.Proofs.YtfphcdbnnienhaaW.PrintWords Go.Proofs.YtfphcdbnnienhaaW.PrintLast Go.Proofs.YtfphcdbnnienhaaW.PrintMore
attribute [local go_sem] max2_int min2_int max_two min_two max_three min_three max_four min_four
set_option linter.unusedVariables false
set_option linter.unusedSimpArgs false
def spec_hasInt.l0 : Nat → List Int → Int → Int → Option (Bool)
 | 0,_,_,_=>none
 | k + 1,x0,x1,x5=>if x5 < (x0.length : Int) then (if 0 ≤ x5 then (if (rd x0 x5) = x1 then (some true) else (spec_hasInt.l0 k x0 x1 (wrap64 (x5 + 1)))) else (none)) else (some false)
def spec_hasInt.f (k : Nat) (l0 : List Int) (a1 : Int) : Option (Bool):=spec_hasInt.l0 k l0 a1 0
theorem spec_hasInt.mono_l : ∀ k,(∀ y0 y1 y2,LeO (spec_hasInt.l0 k y0 y1 y2) (spec_hasInt.l0 (k + 1) y0 y1 y2))
 | 0=>fun _ _ _ r h=>by simp [spec_hasInt.l0] at h
 | k + 1=>by
  have ih0:=spec_hasInt.mono_l k
  ·intro y0 y1 y2
   unfold spec_hasInt.l0
   repeat' first
   | (with_reducible exact ih0 _ _ _)
   | (with_reducible exact LeO.refl _)
   | (with_reducible exact LeO.none _)
   | (with_reducible refine LeO.ite ?_ ?_)
   | (with_reducible refine LeO.bind ?_ (fun _=>?_))
   | exact ih0 _ _ _
   | exact LeO.none _
   | refine LeO.ite ?_ ?_
   | refine LeO.bind ?_ (fun _=>?_)
theorem spec_hasInt.mono : ∀ a0 a1 k,LeO (spec_hasInt.f k a0 a1) (spec_hasInt.f (k + 1) a0 a1):=by
 intro a0 a1 k
 have ih0:=spec_hasInt.mono_l k
 unfold spec_hasInt.f
 repeat' first
   | (with_reducible exact ih0 _ _ _)
   | (with_reducible exact LeO.refl _)
   | (with_reducible exact LeO.none _)
   | (with_reducible refine LeO.ite ?_ ?_)
   | (with_reducible refine LeO.bind ?_ (fun _=>?_))
   | exact ih0 _ _ _
   | exact LeO.none _
   | refine LeO.ite ?_ ?_
   | refine LeO.bind ?_ (fun _=>?_)
set_option maxHeartbeats 8000000 in
set_option maxRecDepth 100000 in
theorem spec_hasInt.calls (k : Nat) (A0 : Option Addr) (c0 : Nat) (l0 : List Int) (a1 : Int) (r : Bool) (w : World) (hr0 : Kd.C (Kd.int .i64) w A0 l0.length l0) (hc0 : l0.length ≤ c0) (h : spec_hasInt.f k l0 a1 = some r) :
  Calls Try.prog 92 #[.slice A0 l0.length c0,.int .i64 a1] w fun e w'=>e = .returned (.bool r) ∧ Drawn0 w w':=by
 have HR0:=a0_ hr0
 have HC0:=a0_ hc0
 clear hr0 hc0
 have H : (spec_hasInt.l0 k l0 a1 0) = some r:=h
 clear h
 have H':=a0_ H
 clear H
 go_enter Try.func92,Try.ntmps92
 go_wp2
 go_loopg [5] k (fun kq v5 w'=>∃ (x5_1 : Int),v5 = .int .i64 x5_1 ∧ Aside0 (spec_hasInt.l0 kq l0 a1 x5_1 = some r) ∧ Aside0 (kq ≤ k) ∧ Drawn0 w w')
 case atStart=>exact ⟨(0),(by first | rfl | (simp;done) | (simp [*];done)),H',⟨Nat.le_refl _⟩,by repeat (first | exact Drawn0.refl _ | apply Drawn0.step)⟩
 case round =>
  clear H'
  try clear p2
  obtain ⟨x5_1,rfl,HA,HK1,⟨m1,rfl⟩⟩:=hrel
  cases gk with
  | zero=>exact absurd HA.out (by simp [spec_hasInt.l0])
  | succ k1 =>
   have H:=HA.out
   clear HA
   simp only [spec_hasInt.l0] at H
   by_cases c3 : x5_1 < (l0.length : Int)
   ·rw [if_pos c3] at H
    have c3b0 : decide (x5_1 < (l0.length : Int)) = true:=decide_eq_true c3
    clear c3
    by_cases c4 : 0 ≤ x5_1
    ·rw [if_pos c4] at H
     have c4b0 : decide (0 ≤ x5_1) = true:=decide_eq_true c4
     clear c4
     by_cases c5 : (rd l0 x5_1) = a1
     ·rw [if_pos c5] at H
      have c5b0 : ((rd l0 x5_1) == a1) = true:=beq_iff_eq.mpr c5
      have c5b1 : ((rd l0 x5_1) != a1) = false:=bne_eq_false_iff_eq.mpr c5
      clear c5
      obtain rfl:=Option.some.inj H
      have p1 : 0 ≤ (x5_1 : Int):=of_decide_eq_true (by first | (with_reducible assumption) | assumption)
      have q1 : x5_1 < (l0.length : Int):=of_decide_eq_true (by first | (with_reducible assumption) | assumption)
      obtain ⟨ad1,e1,hx1_0⟩:=Kd.at_int HR0.out x5_1 p1 q1
      cases e1
      replace p1:=eq_true p1
      replace q1:=eq_true q1
      go_wp2
      go_ret
      exact ⟨by first | rfl | (simp;done) | (simp [*];done),by repeat (first | exact Drawn0.refl _ | apply Drawn0.step)⟩
     ·rw [if_neg c5] at H
      have c5b0 : ((rd l0 x5_1) == a1) = false:=beq_eq_false_iff_ne.mpr c5
      have c5b1 : ((rd l0 x5_1) != a1) = true:=bne_iff_ne.mpr c5
      have H':=a0_ H
      clear H
      have p1 : 0 ≤ (x5_1 : Int):=of_decide_eq_true (by first | (with_reducible assumption) | assumption)
      have q1 : x5_1 < (l0.length : Int):=of_decide_eq_true (by first | (with_reducible assumption) | assumption)
      obtain ⟨ad1,e1,hx1_0⟩:=Kd.at_int HR0.out x5_1 p1 q1
      cases e1
      replace p1:=eq_true p1
      replace q1:=eq_true q1
      go_wp2
      go_roundg k1
      case measure=>have:=HK1.out;omega
      case rel=>exact ⟨(wrap64 (x5_1 + 1)),(by first | rfl | (simp;done) | (simp [*];done)),H',⟨by have:=HK1.out;omega⟩,by repeat (first | exact Drawn0.refl _ | apply Drawn0.step)⟩
    ·rw [if_neg c4] at H
     exact absurd H (by simp)
   ·rw [if_neg c3] at H
    have c3b0 : decide (x5_1 < (l0.length : Int)) = false:=decide_eq_false c3
    clear c3
    obtain rfl:=Option.some.inj H
    go_wp2
    go_ret
    exact ⟨by first | rfl | (simp;done) | (simp [*];done),by repeat (first | exact Drawn0.refl _ | apply Drawn0.step)⟩
theorem spec_hasInt_l0 (l : List Int) (x : Int) (hs : l.length ≤ 9223372036854775807) (d : Nat) : ∀ (k : Nat) (i : Nat),i ≤ l.length → l.length - i = d → d < k → spec_hasInt.l0 k l x (i : Int) = some ((l.drop i).contains x):=by
 induction d with
 | zero =>
  intro k i hi hd hk
  obtain ⟨k,rfl⟩ : ∃ m,k = m + 1:=⟨k - 1,by omega⟩
  simp only [spec_hasInt.l0]
  rw [if_neg (show ¬ (i : Int) < (l.length : Int) by omega),List.drop_eq_nil_of_le (by omega)]
  rfl
 | succ d ih =>
  intro k i hi hd hk
  obtain ⟨k,rfl⟩ : ∃ m,k = m + 1:=⟨k - 1,by omega⟩
  have hlt : i < l.length:=by omega
  simp only [spec_hasInt.l0]
  have hrd : rd l (i : Int) = l[i]:=by simp [rd,hlt]
  rw [if_pos (show (i : Int) < (l.length : Int) by omega),if_pos (show (0 : Int) ≤ (i : Int) by omega),hrd,List.drop_eq_getElem_cons hlt]
  by_cases h1 : l[i] = x
  ·rw [if_pos h1];simp [h1]
  ·rw [if_neg h1,wrap_succ (n:=l.length) (by omega) (by omega) (by omega)]
   rw [show ((i : Int) + 1) = ((i + 1 : Nat) : Int) by omega,ih k (i + 1) (by omega) (by omega) (by omega)]
   have h2 : ¬ x = l[i]:=fun e=>h1 e.symm
   rw [List.contains_cons,beq_eq_false_iff_ne.2 h2,Bool.false_or]
theorem spec_hasInt_ev (l : List Int) (x : Int) (hs : l.length ≤ 9223372036854775807) (k : Nat) (hk : l.length < k) : spec_hasInt.f k l x = some (l.contains x):=by
 have:=spec_hasInt_l0 l x hs l.length k 0 (by omega) (by omega) hk
 rw [List.drop_zero] at this
 exact this
end Go.Proofs.Ytfphcdbnnienhaa.P
namespace Go.Proofs.Ytfphcdbnnienhaa.P
open Go.RowKit Go.Proofs.YtfphcdbnnienhaaW.PrintWords Go.Proofs.YtfphcdbnnienhaaW.PrintLast Go.Proofs.YtfphcdbnnienhaaW.PrintMore
attribute [local go_sem] max2_int min2_int max_two min_two max_three min_three max_four min_four
set_option linter.unusedVariables false
set_option linter.unusedSimpArgs false
def spec_above.l0 : Nat → Int → List Int → List (S85) → Option (List Int)
 | 0,_,_,_=>none
 | k + 1,x1,x5,x2000=>if x1 ≥ 0 then (if x5.length < 17592186044416 then (if 0 ≤ x1 then (if x1 < (x2000.length : Int) then (spec_above.l0 k ((rd_T85 x2000 x1).f1) (x5 ++ [x1]) x2000) else (none)) else (none)) else (none)) else (some x5)
def spec_above.f (k : Nat) (l0_0 : List (S85)) (a1 : Int) : Option (List Int):=spec_above.l0 k a1 (([] : List Int)) l0_0
theorem spec_above.mono_l : ∀ k,(∀ y0 y1 y2,LeO (spec_above.l0 k y0 y1 y2) (spec_above.l0 (k + 1) y0 y1 y2))
 | 0=>fun _ _ _ r h=>by simp [spec_above.l0] at h
 | k + 1=>by
  have ih0:=spec_above.mono_l k
  ·intro y0 y1 y2
   unfold spec_above.l0
   repeat' first
   | (with_reducible exact ih0 _ _ _)
   | (with_reducible exact LeO.refl _)
   | (with_reducible exact LeO.none _)
   | (with_reducible refine LeO.ite ?_ ?_)
   | (with_reducible refine LeO.bind ?_ (fun _=>?_))
   | exact ih0 _ _ _
   | exact LeO.none _
   | refine LeO.ite ?_ ?_
   | refine LeO.bind ?_ (fun _=>?_)
theorem spec_above.mono : ∀ a0 a1 k,LeO (spec_above.f k a0 a1) (spec_above.f (k + 1) a0 a1):=by
 intro a0 a1 k
 have ih0:=spec_above.mono_l k
 unfold spec_above.f
 repeat' first
   | (with_reducible exact ih0 _ _ _)
   | (with_reducible exact LeO.refl _)
   | (with_reducible exact LeO.none _)
   | (with_reducible refine LeO.ite ?_ ?_)
   | (with_reducible refine LeO.bind ?_ (fun _=>?_))
   | exact ih0 _ _ _
   | exact LeO.none _
   | refine LeO.ite ?_ ?_
   | refine LeO.bind ?_ (fun _=>?_)
set_option maxHeartbeats 8000000 in
set_option maxRecDepth 100000 in
theorem spec_above.calls (k : Nat) (A0_0 : Option Addr) (c0_0 : Nat) (l0_0 : List (S85)) (a1 : Int) (r : List Int) (w : World) (hr0_0 : Kd.C k85 w A0_0 l0_0.length l0_0) (hc0_0 : l0_0.length ≤ c0_0) (h : spec_above.f k l0_0 a1 = some r) :
  Calls Try.prog 93 #[.agg #[.slice A0_0 l0_0.length c0_0],.int .i64 a1] w fun e w'=>∃ v0_ : Value,e = .returned (v0_) ∧ Kd.R (Kd.int .i64) 3 w' w.heap.size (fun _=>True) v0_ r ∧ Below w.heap.size w w':=by
 have hu25:=Try.underlying25
 have HR0_0:=a0_ hr0_0
 have HC0_0:=a0_ hc0_0
 clear hr0_0 hc0_0
 have HB:=a0_ (Below.refl w.heap.size w)
 have H : (spec_above.l0 k a1 (([] : List Int)) l0_0) = some r:=h
 clear h
 obtain ⟨y2,hy2⟩ : ∃ y_ : List Int,y_ = (([] : List Int)):=⟨_,rfl⟩
 replace H : (spec_above.l0 k a1 y2 l0_0) = some r:=by first | (rw [hy2];with_reducible exact H) | (have H2_:=(Option.bind_some _ _).symm.trans H;rw [hy2];with_reducible exact H2_) | (have H2_:=(Option.bind_some _ _).symm.trans H;with_reducible exact H2_) | with_reducible exact H | (rw [hy2];exact H) | exact H
 have Ny2:=a0_ hy2
 clear hy2
 have H':=a0_ H
 clear H
 go_enter Try.func93,Try.ntmps93
 go_wp2_with (first | ((with_reducible refine gate_dst (N:=2) rfl ?_);refine box_event ?hg (N:=2) ?hd (cs:=#[.slice A0_0 l0_0.length c0_0]) (t:=25) ?hr ?_;(case hd=>rfl);(case hg=>rfl);(case hr=>first | (go_simp;done) | (go_simp;rfl));intro gb1 hg w3 hbox hb;have BK1:=a0_ (hbox);have GW1:=a0_ ((by rw [hg];exact (below_size hb_) : w.heap.size ≤ gb1));have GE1:=a0_ ((by rw [hg];exact (below_size hb_) : w.heap.size ≤ gb1));replace HB:=a0_ (below_step hb_ hb);clear hb hbox hg) | ((with_reducible refine gate_dst (N:=6) rfl ?_);refine Kd.R_lit (Kd.int .i64) _ 3 ?hg (N:=6) ?hd (xs:=([] : List Int)) (inner:=[]) (ok:=fun _=>True) (okp:=fun _=>True) ?hr ?hp (fun _ hk=>hk) trivial (Below.refl _ _) (Nat.le_refl _) (by simp) ?_;(case hd=>rfl);(case hg=>rfl);(case hr=>first | (go_simp;done) | (go_simp;rfl));(case hp=>exact (Reps.none _ _));intro v3 w4 ho5 hb hg_ hnew_;clear hg_ hnew_;(first | rw [← Ny2.out] at ho5 | (simp only [Int.reduceToNat] at ho5;rw [← Ny2.out] at ho5));have HO4:=a0_ (Kd.R_lower ho5 (below_size hb_));replace BK1:=kb_ BK1 hb;replace HB:=a0_ (below_step hb_ hb);clear hb ho5))
 go_loopg [1,5] k (fun kq v1 v5 w'=>∃ (x1_1 : Int) (x5_1 : List Int),v1 = .int .i64 x1_1 ∧ Aside0 (spec_above.l0 kq x1_1 x5_1 l0_0 = some r) ∧ Aside0 (kq ≤ k) ∧ Aside0 (Kd.R (Kd.int .i64) 3 w' w.heap.size (fun _=>True) v5 x5_1) ∧ Aside0 (w'.heap[gb1]? = some (.cells #[(.slice A0_0 l0_0.length c0_0)] 25 (0,0))) ∧ Aside0 (Below w.heap.size w w'))
 case atStart=>exact ⟨(a1),(y2),(by first | rfl | (simp;done) | (simp [*];done)),H',⟨Nat.le_refl _⟩,⟨by (with_reducible repeat (first | apply Kd.R_alloc | apply Kd.R_drewN | apply Kd.R_drew));exact HO4.out⟩,⟨by (with_reducible repeat (first | refine blk_drewN ?_ _ | refine blk_drew ?_ | refine blk_alloc ?_ _));exact BK1.out⟩,⟨hb_⟩⟩
 case round =>
  clear H'
  try clear p2
  obtain ⟨x1_1,x5_1,rfl,HA,HK1,HO_5,BK1,HB⟩:=hrel
  cases gk with
  | zero=>exact absurd HA.out (by simp [spec_above.l0])
  | succ k1 =>
   have H:=HA.out
   clear HA
   simp only [spec_above.l0] at H
   by_cases c6 : x1_1 ≥ 0
   ·rw [if_pos c6] at H
    have c6b0 : decide (0 ≤ x1_1) = true:=decide_eq_true c6
    clear c6
    by_cases c7 : x5_1.length < 17592186044416
    ·rw [if_pos c7] at H
     have LMc7:=a0_ c7
     clear c7
     obtain ⟨y5,hy5⟩ : ∃ y_ : List Int,y_ = (x5_1 ++ [x1_1]):=⟨_,rfl⟩
     replace H : (if 0 ≤ x1_1 then (if x1_1 < (l0_0.length : Int) then (spec_above.l0 k1 ((rd_T85 l0_0 x1_1).f1) y5 l0_0) else (none)) else (none)) = some r:=by first | (rw [hy5];with_reducible exact H) | (have H2_:=(Option.bind_some _ _).symm.trans H;rw [hy5];with_reducible exact H2_) | (have H2_:=(Option.bind_some _ _).symm.trans H;with_reducible exact H2_) | with_reducible exact H | (rw [hy5];exact H) | exact H
     have Ny5:=a0_ hy5
     clear hy5
     by_cases c8 : 0 ≤ x1_1
     ·rw [if_pos c8] at H
      have c8b0 : decide (0 ≤ x1_1) = true:=decide_eq_true c8
      clear c8
      by_cases c9 : x1_1 < (l0_0.length : Int)
      ·rw [if_pos c9] at H
       have c9b0 : decide (x1_1 < (l0_0.length : Int)) = true:=decide_eq_true c9
       clear c9
       have H':=a0_ H
       clear H
       go_wp2_with (first | ((with_reducible refine gate_builtin (b:=.append) (xs:=#[.tmp 15,.tmp 17]) rfl ?_);at_builtin;refine Kd.R_append (Kd.int .i64) (w0:=w) w.heap.size rfl (.tmp 15) (.tmp 17) 49 3 (.int .i64 0) 8 rfl Try.underlying49 info3 rfl (by decide) (by omega) u5 x5_1 x1_1 [.int .i64 x1_1] (fun _=>True) (fun _=>False) rfl rfl ?aP (fun _ hk=>hk.elim) ?aF ?aO ?aB ?aS ?aL ?_;(case aP=>exact rfl);(case aB=>exact hb_);(case aF=>exact (fun _ _=>trivial));(case aO=>exact (rr_ HO_5.out));(case aS=>exact (below_size hb_));(case aL=>have:=LMc7.out;omega);intro v6 w10 ho hb hg hat;rw [← Ny5.out] at ho;replace BK1:=a0_ (blk_grown (bb_ BK1.out) hg (Kd.R_ne HO_5.out BK1.out (by decide)));have HO7:=a0_ (ho);replace HB:=a0_ (hb);clear HO_5;clear ho hb hg hat;have hcz11_0 : w10.cell? ⟨gb1,0,none⟩ = some (.slice A0_0 l0_0.length c0_0):=(blk_cell BK1.out 0).trans rfl;have hfz11_0:=blk_frozen BK1.out 0;have p8 : 0 ≤ (x1_1 : Int):=of_decide_eq_true (by first | (with_reducible assumption) | assumption);have q8 : x1_1 < (l0_0.length : Int):=of_decide_eq_true (by first | (with_reducible assumption) | assumption);obtain ⟨ad8,e8,hx8_0,hx8_1⟩:=at_T85 HR0_0.out x1_1 p8 q8;cases e8;replace hx8_0:=(HB.out.cell (World.block_lt_of_cell? w _ hx8_0)).trans hx8_0;replace hx8_1:=(HB.out.cell (World.block_lt_of_cell? w _ hx8_1)).trans hx8_1;replace p8:=eq_true p8;replace q8:=eq_true q8))
       go_roundg k1
       case measure=>have:=HK1.out;omega
       case rel=>exact ⟨((rd_T85 l0_0 x1_1).f1),(y5),(by first | rfl | (simp;done) | (simp [*];done)),H',⟨by have:=HK1.out;omega⟩,⟨by (with_reducible repeat (first | apply Kd.R_alloc | apply Kd.R_drewN | apply Kd.R_drew));exact HO7.out⟩,⟨by (with_reducible repeat (first | refine blk_drewN ?_ _ | refine blk_drew ?_ | refine blk_alloc ?_ _));exact BK1.out⟩,⟨hb_⟩⟩
      ·rw [if_neg c9] at H
       exact absurd H (by simp)
     ·rw [if_neg c8] at H
      exact absurd H (by simp)
    ·rw [if_neg c7] at H
     exact absurd H (by simp)
   ·rw [if_neg c6] at H
    have c6b0 : decide (0 ≤ x1_1) = false:=decide_eq_false c6
    clear c6
    obtain rfl:=Option.some.inj H
    go_wp2
    go_ret
    exact ⟨_,by first | rfl | (simp [errW_none,errW_some] <;> rfl) | (simp [*,errW_none,errW_some] <;> rfl),by (with_reducible repeat (first | apply Kd.R_alloc | apply Kd.R_drewN | apply Kd.R_drew));exact HO_5.out,hb_⟩
theorem spec_above_l0 {t : List Cls} (h : vT t = true) : ∀ (k : Nat) (a : Int) (acc : List Int),a < (t.length : Int) → a + 1 < (k : Int) → 0 < k → acc.length + k ≤ 1000000 → spec_above.l0 k a acc t = some (acc ++ abv t a):=by
 intro k
 induction k with
 | zero=>intro a acc _ _ h0;exact absurd h0 (Nat.lt_irrefl 0)
 | succ k ih =>
  intro a acc ha hk _ hl
  simp only [spec_above.l0]
  by_cases h0 : a ≥ 0
  ·have hp:=vT_par' h a h0 ha
   rw [if_pos h0,if_pos (show acc.length < 17592186044416 by omega),if_pos (show 0 ≤ a from h0),if_pos ha,abv_step h a h0 ha,ih _ _ (by omega) (by omega) (by omega) (by simp;omega)]
   simp
  ·rw [if_neg h0,abv_neg t a (by omega),List.append_nil]
theorem spec_above_ev {t : List Cls} (h : vT t = true) (a : Int) (ha : a < (t.length : Int)) (k : Nat) (hk : 10 ≤ k) (hk2 : k ≤ 1000000) : spec_above.f k t a = some (abv t a):=by
 have h2:=vT_len h
 have:=spec_above_l0 h k a [] ha (by omega) (by omega) (by simp;omega)
 rw [List.nil_append] at this
 exact this
end Go.Proofs.Ytfphcdbnnienhaa.P
namespace Go.Proofs.Ytfphcdbnnienhaa.P
open Go.RowKit Go.Proofs.YtfphcdbnnienhaaW.PrintWords Go.Proofs.YtfphcdbnnienhaaW.PrintLast Go.Proofs.YtfphcdbnnienhaaW.PrintMore
attribute [local go_sem] max2_int min2_int max_two min_two max_three min_three max_four min_four
set_option linter.unusedVariables false
set_option linter.unusedSimpArgs false
def spec_isA.f (k : Nat) (l0_0 : List (S85)) (a1 : Int) (a2 : Int) : Option (Bool):=(spec_above.f k l0_0 a1).bind fun t2=>((spec_hasInt.f k t2 a2).bind fun t5=>(some t5))
theorem spec_isA.mono : ∀ a0 a1 a2 k,LeO (spec_isA.f k a0 a1 a2) (spec_isA.f (k + 1) a0 a1 a2):=by
 intro a0 a1 a2 k
 unfold spec_isA.f
 repeat' first
   | (with_reducible exact spec_above.mono _ _ _)
   | (with_reducible exact spec_hasInt.mono _ _ _)
   | (with_reducible exact LeO.refl _)
   | (with_reducible exact LeO.none _)
   | (with_reducible refine LeO.ite ?_ ?_)
   | (with_reducible refine LeO.bind ?_ (fun _=>?_))
   | exact spec_above.mono _ _ _
   | exact spec_hasInt.mono _ _ _
   | exact LeO.none _
   | refine LeO.ite ?_ ?_
   | refine LeO.bind ?_ (fun _=>?_)
set_option maxHeartbeats 8000000 in
set_option maxRecDepth 100000 in
theorem spec_isA.calls (k : Nat) (A0_0 : Option Addr) (c0_0 : Nat) (l0_0 : List (S85)) (a1 : Int) (a2 : Int) (r : Bool) (w : World) (hr0_0 : Kd.C k85 w A0_0 l0_0.length l0_0) (hc0_0 : l0_0.length ≤ c0_0) (h : spec_isA.f k l0_0 a1 a2 = some r) :
  Calls Try.prog 89 #[.agg #[.slice A0_0 l0_0.length c0_0],.int .i64 a1,.int .i64 a2] w fun e w'=>e = .returned (.bool r) ∧ Below w.heap.size w w':=by
 have hu25:=Try.underlying25
 have HR0_0:=a0_ hr0_0
 have HC0_0:=a0_ hc0_0
 clear hr0_0 hc0_0
 have HB:=a0_ (Below.refl w.heap.size w)
 have H : ((spec_above.f k l0_0 a1).bind fun t2=>((spec_hasInt.f k t2 a2).bind fun t5=>(some t5))) = some r:=h
 clear h
 replace H:=Option.bind_eq_some_iff.mp H
 obtain ⟨t2,A40,H⟩:=H
 replace H : ((spec_hasInt.f k t2 a2).bind fun t5=>(some t5)) = some r:=H
 have A4:=a0_ A40
 clear A40
 replace H:=Option.bind_eq_some_iff.mp H
 obtain ⟨t5,A50,H⟩:=H
 replace H : (some t5) = some r:=H
 have A5:=a0_ A50
 clear A50
 obtain rfl:=Option.some.inj H
 go_enter Try.func89,Try.ntmps89
 go_wp2_with (first | ((with_reducible refine gate_dst (N:=3) rfl ?_);refine box_event ?hg (N:=3) ?hd (cs:=#[.slice A0_0 l0_0.length c0_0]) (t:=25) ?hr ?_;(case hd=>rfl);(case hg=>rfl);(case hr=>first | (go_simp;done) | (go_simp;rfl));intro gb1 hg w6 hbox hb;have BK1:=a0_ (hbox);have GW1:=a0_ ((by rw [hg];exact (below_size hb_) : w.heap.size ≤ gb1));have GE1:=a0_ ((by rw [hg];exact (below_size hb_) : w.heap.size ≤ gb1));replace HB:=a0_ (below_step hb_ hb);clear hb hbox hg;have hcz7_0 : w6.cell? ⟨gb1,0,none⟩ = some (.slice A0_0 l0_0.length c0_0):=(blk_cell BK1.out 0).trans rfl;have hfz7_0:=blk_frozen BK1.out 0) | ((with_reducible refine gate_callee (f:=93) rfl ?_);refine goesL_ (some 9) rfl rfl Try.func93 (by kernel_rfl) rfl #[.agg #[.slice A0_0 l0_0.length c0_0],.int .i64 a1] rfl lm_ ?_;(with_reducible refine (spec_above.calls k _ _ l0_0 a1 t2 _ ?side1 ?side2 A4.out).mono ?_);(case side1=>exact cc_ (Kd.C_below HR0_0.out HB.out));(case side2=>exact HC0_0.out);rintro e w8 ⟨v3,rfl,ho0,hb⟩;refine ⟨_,rfl,?_⟩;have HO4:=a0_ (Kd.R_lower ho0 (below_size hb_));replace BK1:=kb_ BK1 hb;replace HB:=a0_ (below_step hb_ hb);(try clear hb);(try clear ho0);obtain ⟨Ao9,co9,eo9⟩:=Kd.R_slice HO4.out;subst eo9) | ((with_reducible refine gate_callee (f:=92) rfl ?_);refine goesL_ (some 11) rfl rfl Try.func92 (by kernel_rfl) rfl #[.slice Ao9 t2.length co9,.int .i64 a2] rfl lm_ ?_;(with_reducible refine (spec_hasInt.calls k _ _ t2 a2 t5 _ ?side1 ?side2 A5.out).mono ?_);(case side1=>exact cc_ (Kd.R_reads' HO4.out).2.2);(case side2=>exact (Kd.R_reads' HO4.out).2.1);rintro e w' ⟨rfl,⟨nd,rfl⟩⟩;refine ⟨_,rfl,?_⟩))
 go_ret
 exact ⟨by first | rfl | (simp [errW_none,errW_some] <;> rfl) | (simp [*,errW_none,errW_some] <;> rfl),hb_⟩
theorem spec_isA_ev {t : List Cls} (h : vT t = true) (a b : Int) (ha : a < (t.length : Int)) (k : Nat) (hk : 10 ≤ k) (hk2 : k ≤ 1000000) : spec_isA.f k t a b = some (isA t a b):=by
 have hl:=abv_len h a ha
 unfold spec_isA.f
 rw [spec_above_ev h a ha k hk hk2]
 simp only [Option.bind_some]
 rw [spec_hasInt_ev _ _ (by omega) k (by omega)]
 rfl
theorem spec_isA_Ev {t : List Cls} (h : vT t = true) (a b : Int) (ha : a < (t.length : Int)) : Ev (fun k=>spec_isA.f k t a b) (isA t a b) :=
 Ev.of_mono (spec_isA.mono t a b) (K:=10) (spec_isA_ev h a b ha 10 (by omega) (by omega))
end Go.Proofs.Ytfphcdbnnienhaa.P
namespace Go.Proofs.Ytfphcdbnnienhaa.P
open Go.RowKit Go.Proofs.YtfphcdbnnienhaaW.PrintWords Go.Proofs.YtfphcdbnnienhaaW.PrintLast Go.Proofs.YtfphcdbnnienhaaW.PrintMore
attribute [local go_sem] max2_int min2_int max_two min_two max_three min_three max_four min_four
set_option linter.unusedVariables false
set_option linter.unusedSimpArgs false
def spec_keeps.l0 : Nat → List (S47) → Int → Int → Bool → Int → List (S85) → Option (Bool)
 | 0,_,_,_,_,_,_=>none
 | k + 1,x1,x2,x3,x4,x11,x2000=>(spec_endOf.f k x1 x2).bind fun t2=>(if x11 < t2 then (if 0 ≤ x11 then (if x11 < (x1.length : Int) then (if ((rd_T47 x1 x11).f1 = true) then (spec_keeps.l0 k x1 x2 x3 x4 (wrap64 (x11 + 1)) x2000) else ((spec_isA.f k x2000 ((rd_T47 x1 x11).f2) x3).bind fun t5=>(if (t5 == x4) = true then (some true) else (spec_keeps.l0 k x1 x2 x3 x4 (wrap64 (x11 + 1)) x2000)))) else (none)) else (none)) else (some false))
def spec_keeps.f (k : Nat) (l0_0 : List (S85)) (l1 : List (S47)) (a2 : Int) (a3 : Int) (a4 : Bool) : Option (Bool):=spec_keeps.l0 k l1 a2 a3 a4 a2 l0_0
theorem spec_keeps.mono_l : ∀ k,(∀ y0 y1 y2 y3 y4 y5,LeO (spec_keeps.l0 k y0 y1 y2 y3 y4 y5) (spec_keeps.l0 (k + 1) y0 y1 y2 y3 y4 y5))
 | 0=>fun _ _ _ _ _ _ r h=>by simp [spec_keeps.l0] at h
 | k + 1=>by
  have ih0:=spec_keeps.mono_l k
  ·intro y0 y1 y2 y3 y4 y5
   unfold spec_keeps.l0
   repeat' first
   | (with_reducible exact ih0 _ _ _ _ _ _)
   | (with_reducible exact spec_endOf.mono _ _ _)
   | (with_reducible exact spec_isA.mono _ _ _ _)
   | (with_reducible exact LeO.refl _)
   | (with_reducible exact LeO.none _)
   | (with_reducible refine LeO.ite ?_ ?_)
   | (with_reducible refine LeO.bind ?_ (fun _=>?_))
   | exact ih0 _ _ _ _ _ _
   | exact spec_endOf.mono _ _ _
   | exact spec_isA.mono _ _ _ _
   | exact LeO.none _
   | refine LeO.ite ?_ ?_
   | refine LeO.bind ?_ (fun _=>?_)
theorem spec_keeps.mono : ∀ a0 a1 a2 a3 a4 k,LeO (spec_keeps.f k a0 a1 a2 a3 a4) (spec_keeps.f (k + 1) a0 a1 a2 a3 a4):=by
 intro a0 a1 a2 a3 a4 k
 have ih0:=spec_keeps.mono_l k
 unfold spec_keeps.f
 repeat' first
   | (with_reducible exact ih0 _ _ _ _ _ _)
   | (with_reducible exact spec_endOf.mono _ _ _)
   | (with_reducible exact spec_isA.mono _ _ _ _)
   | (with_reducible exact LeO.refl _)
   | (with_reducible exact LeO.none _)
   | (with_reducible refine LeO.ite ?_ ?_)
   | (with_reducible refine LeO.bind ?_ (fun _=>?_))
   | exact ih0 _ _ _ _ _ _
   | exact spec_endOf.mono _ _ _
   | exact spec_isA.mono _ _ _ _
   | exact LeO.none _
   | refine LeO.ite ?_ ?_
   | refine LeO.bind ?_ (fun _=>?_)
def spec_keeps.T4 : Bool × List (List Nat × List Nat):=(true,[([],[]),([],[]),([0,1],[0,1]),([2],[2]),([3],[3]),([4],[4]),([5],[5]),([6],[6]),([6],[6]),([6],[6]),([8,9,6],[6,8,9]),([10,6],[6,10]),([11,6],[6,11]),([6],[6]),([7,12,13,6,6],[6,7,12,13]),([6],[6]),([14,15,6],[6,14,15]),([6,16],[6,16])])
def spec_keeps.B4 : List Nat:=[0,0,3,7,15,31,63,127,127,127,895,1919,3967,127,16383,127,65535,131071]
theorem spec_keeps.tab4 : rtab .any (opsOf Try.f75 4) = spec_keeps.T4:=by kernel_rfl
theorem spec_keeps.bits4 : waitsOk spec_keeps.T4.2 spec_keeps.B4 = true:=by kernel_rfl
set_option maxHeartbeats 8000000 in
set_option maxRecDepth 100000 in
theorem spec_keeps.calls (k : Nat) (A0_0 : Option Addr) (c0_0 : Nat) (l0_0 : List (S85)) (A1 : Option Addr) (c1 : Nat) (l1 : List (S47)) (a2 : Int) (a3 : Int) (a4 : Bool) (r : Bool) (w : World) (hr0_0 : Kd.C k85 w A0_0 l0_0.length l0_0) (hc0_0 : l0_0.length ≤ c0_0) (hr1 : Kd.C k47 w A1 l1.length l1) (hc1 : l1.length ≤ c1) (h : spec_keeps.f k l0_0 l1 a2 a3 a4 = some r) :
  Calls Try.prog 75 #[.agg #[.slice A0_0 l0_0.length c0_0],.slice A1 l1.length c1,.int .i64 a2,.int .i64 a3,.bool a4] w fun e w'=>e = .returned (.bool r) ∧ Below w.heap.size w w':=by
 have hu25:=Try.underlying25
 have HR0_0:=a0_ hr0_0
 have HC0_0:=a0_ hc0_0
 clear hr0_0 hc0_0
 have HR1:=a0_ hr1
 have HC1:=a0_ hc1
 clear hr1 hc1
 have HB:=a0_ (Below.refl w.heap.size w)
 have H : (spec_keeps.l0 k l1 a2 a3 a4 a2 l0_0) = some r:=h
 clear h
 have H':=a0_ H
 clear H
 go_enter Try.func75,Try.ntmps75
 go_wp2_with (first | ((with_reducible refine gate_dst (N:=5) rfl ?_);refine box_event ?hg (N:=5) ?hd (cs:=#[.slice A0_0 l0_0.length c0_0]) (t:=25) ?hr ?_;(case hd=>rfl);(case hg=>rfl);(case hr=>first | (go_simp;done) | (go_simp;rfl));intro gb1 hg w6 hbox hb;have BK1:=a0_ (hbox);have GW1:=a0_ ((by rw [hg];exact (below_size hb_) : w.heap.size ≤ gb1));have GE1:=a0_ ((by rw [hg];exact (below_size hb_) : w.heap.size ≤ gb1));replace HB:=a0_ (below_step hb_ hb);clear hb hbox hg))
 go_loopg [11] k (fun kq v11 w'=>∃ (x11_1 : Int),v11 = .int .i64 x11_1 ∧ Aside0 (spec_keeps.l0 kq l1 a2 a3 a4 x11_1 l0_0 = some r) ∧ Aside0 (kq ≤ k) ∧ Aside0 (w'.heap[gb1]? = some (.cells #[(.slice A0_0 l0_0.length c0_0)] 25 (0,0))) ∧ Aside0 (Below w.heap.size w w'))
 case atStart=>exact ⟨(a2),(by first | rfl | (simp;done) | (simp [*];done)),H',⟨Nat.le_refl _⟩,⟨by (with_reducible repeat (first | refine blk_drewN ?_ _ | refine blk_drew ?_ | refine blk_alloc ?_ _));exact BK1.out⟩,⟨hb_⟩⟩
 case round =>
  clear H'
  try clear c1
  try clear p2
  obtain ⟨x11_1,rfl,HA,HK1,BK1,HB⟩:=hrel
  cases gk with
  | zero=>exact absurd HA.out (by simp [spec_keeps.l0])
  | succ k1 =>
   have H:=HA.out
   clear HA
   simp only [spec_keeps.l0] at H
   replace H:=Option.bind_eq_some_iff.mp H
   obtain ⟨t2,A70,H⟩:=H
   try dsimp only at H
   have A7:=a0_ A70
   clear A70
   by_cases c8 : x11_1 < t2
   ·rw [if_pos c8] at H
    have c8b0 : decide (x11_1 < t2) = true:=decide_eq_true c8
    clear c8
    by_cases c9 : 0 ≤ x11_1
    ·rw [if_pos c9] at H
     have c9b0 : decide (0 ≤ x11_1) = true:=decide_eq_true c9
     clear c9
     by_cases c10 : x11_1 < (l1.length : Int)
     ·rw [if_pos c10] at H
      have c10b0 : decide (x11_1 < (l1.length : Int)) = true:=decide_eq_true c10
      clear c10
      obtain ⟨bq11,hbq11⟩ : ∃ b_ : Bool,b_ = ((rd_T47 l1 x11_1).f1):=⟨_,rfl⟩
      replace H : (if (bq11 = true) then (spec_keeps.l0 k1 l1 a2 a3 a4 (wrap64 (x11_1 + 1)) l0_0) else ((spec_isA.f k1 l0_0 ((rd_T47 l1 x11_1).f2) a3).bind fun t5=>(if (t5 == a4) = true then (some true) else (spec_keeps.l0 k1 l1 a2 a3 a4 (wrap64 (x11_1 + 1)) l0_0)))) = some r:=by rw [← hbq11] at H;exact H
      have Nbq11:=a0_ hbq11
      clear hbq11
      by_cases c12 : (bq11 = true)
      ·subst c12
       have H1 : (spec_keeps.l0 k1 l1 a2 a3 a4 (wrap64 (x11_1 + 1)) l0_0) = some r:=by rw [if_pos rfl] at H;exact H
       clear H
       have H:=H1
       clear H1
       have H':=a0_ H
       clear H
       try go_wp2_with (first | ((with_reducible refine gate_callee (f:=66) rfl ?_);refine goesL_ (some 16) rfl rfl Try.func66 (by kernel_rfl) rfl #[.slice A1 l1.length c1,.int .i64 a2] rfl lm_ ?_;(with_reducible refine (spec_endOf.calls k1 _ _ l1 a2 t2 _ ?side1 ?side2 A7.out).mono ?_);(case side1=>exact cc_ (Kd.C_below HR1.out HB.out));(case side2=>exact HC1.out);rintro e w' ⟨rfl,⟨nd,rfl⟩⟩;refine ⟨_,rfl,?_⟩))
       (try (rw [drewN_self wr];generalize hq_ : World.drewN wr _ = wr;have n0_ : Aside0 (wr.heap[gb1]? = some (.cells #[.slice A0_0 l0_0.length c0_0] 25 (0,0))):=⟨by rw [← hq_];exact (bb_ BK1.out)⟩;have n1_ : Aside0 (Below w.heap.size w wr):=⟨by rw [← hq_];exact hb_⟩;clear BK1 HB hq_;have BK1:=n0_;have HB:=n1_;clear n0_ n1_))
       have n0_:=a0_ (blk_drew BK1.out)
       have n1_:=a0_ (below_drew1 HB.out)
       clear BK1
       clear HB
       have BK1:=n0_
       have HB:=n1_
       clear n0_ n1_
       have p3 : 0 ≤ (x11_1 : Int):=of_decide_eq_true (by first | (with_reducible assumption) | assumption)
       have q3 : x11_1 < (l1.length : Int):=of_decide_eq_true (by first | (with_reducible assumption) | assumption)
       obtain ⟨ad3,e3,hx3_0,hx3_1,hx3_2,hx3_3⟩:=at_T47 HR1.out x11_1 p3 q3
       have hw3_3:=hx3_3
       have hw3_2:=hx3_2
       have hw3_1:=hx3_1
       have hw3_0:=hx3_0
       (try rw [← Nbq11.out] at hx3_1)
       cases e3
       replace hx3_0:=(HB.out.cell (World.block_lt_of_cell? w _ hx3_0)).trans hx3_0
       replace hx3_1:=(HB.out.cell (World.block_lt_of_cell? w _ hx3_1)).trans hx3_1
       replace hx3_2:=(HB.out.cell (World.block_lt_of_cell? w _ hx3_2)).trans hx3_2
       replace hx3_3:=(HB.out.cell (World.block_lt_of_cell? w _ hx3_3)).trans hx3_3
       replace p3:=eq_true p3
       replace q3:=eq_true q3
       refine start_ (n:=18) (S:=fun w'=>w'.cell? (ad3.add ((x11_1).toNat * 4)) = some (.int .i64 ((rd_T47 l1 x11_1).f0)) ∧ w'.cell? ⟨(ad3.add ((x11_1).toNat * 4)).block,(ad3.add ((x11_1).toNat * 4)).off + 1,none⟩ = some (.bool true) ∧ w'.cell? ⟨(ad3.add ((x11_1).toNat * 4)).block,(ad3.add ((x11_1).toNat * 4)).off + 2,none⟩ = some (.int .i64 ((rd_T47 l1 x11_1).f2)) ∧ w'.cell? ⟨(ad3.add ((x11_1).toNat * 4)).block,(ad3.add ((x11_1).toNat * 4)).off + 3,none⟩ = some (.int .i64 ((rd_T47 l1 x11_1).f3))) (ds:=[]) #[false,false,false,false,false,false,false,false,false,false,false,false,false,false,false,false,false,false] (by kernel_rfl) rfl rfl ⟨((HB.out.cell (World.block_lt_of_cell? w _ hw3_0)).trans hw3_0),((HB.out.cell (World.block_lt_of_cell? w _ hw3_1)).trans (by first | exact hw3_1 | exact hw3_1.trans (congrArg (fun z_=>some (Value.bool z_)) Nbq11.out.symm))),((HB.out.cell (World.block_lt_of_cell? w _ hw3_2)).trans hw3_2),((HB.out.cell (World.block_lt_of_cell? w _ hw3_3)).trans hw3_3)⟩ (fun hHeld=>?_);refine with_tabW spec_keeps.tab4 spec_keeps.bits4 (fun HT_ HW_=>?_)
       generalize wr.drew = w13 at BK1 HB hx3_0 hx3_1 hx3_2 hx3_3 hHeld ⊢
       refine pure_ (i:=0) (N:=some 20) (v:=?_) (a':=?_) #[true,false,false,false,false,false,false,false,false,false,false,false,false,false,false,false,false,false] rfl rfl (any_of HT_.out (by kernel_rfl)) (fun _ _ _ h=>h) (Or.inl ⟨by rfl,?_⟩) ?_ ?_
       rotate_left
       ·intro w'
        go_simp
        with_reducible rfl
       rotate_left
       ·simp only [Act.put,s1_,s2_,s3_,i64_w,i32_w]
        rfl
       refine pure_ (i:=1) (N:=some 21) (v:=?_) (a':=?_) #[true,true,false,false,false,false,false,false,false,false,false,false,false,false,false,false,false,false] rfl rfl (any_of HT_.out (by kernel_rfl)) (fun _ _ _ h=>h) (Or.inl ⟨by rfl,?_⟩) ?_ ?_
       rotate_left
       ·intro w'
        go_simp
        with_reducible rfl
       rotate_left
       ·simp only [Act.put,s1_,s2_,s3_,i64_w,i32_w]
        rfl
       refine pure_ (i:=2) (N:=some 22) (v:=?_) (a':=?_) #[true,true,true,false,false,false,false,false,false,false,false,false,false,false,false,false,false,false] rfl rfl (any_of HT_.out (by kernel_rfl)) (fun _ _ _ h=>h) (Or.inl ⟨by rfl,?_⟩) ?_ ?_
       rotate_left
       ·intro w'
        go_simp
        with_reducible rfl
       rotate_left
       ·simp only [Act.put,s1_,s2_,s3_,i64_w,i32_w]
        rfl
       refine pure_ (i:=3) (N:=some 23) (v:=?_) (a':=?_) #[true,true,true,true,false,false,false,false,false,false,false,false,false,false,false,false,false,false] rfl rfl (any_of HT_.out (by kernel_rfl)) (fun _ _ _ h=>h) (Or.inl ⟨by rfl,?_⟩) ?_ ?_
       rotate_left
       ·intro w'
        go_simp
        with_reducible rfl
       rotate_left
       ·simp only [Act.put,s1_,s2_,s3_,i64_w,i32_w]
        rfl
       refine take_ (i:=4) (N:=some 24) (v:=?_) (a':=?_) #[true,true,true,true,true,false,false,false,false,false,false,false,false,false,false,false,false,false] rfl rfl (take_ofW HT_.out HW_.out (by kernel_rfl)) (fun _ _ _ h=>h) (Or.inl ⟨by rfl,?_⟩) hHeld ?_ ?_
       rotate_left
       ·rintro w' ⟨s0,s1,s2,s3⟩
        go_simp
        with_reducible rfl
       rotate_left
       ·simp only [Act.put,s1_,s2_,s3_,i64_w,i32_w]
        rfl
       refine pure_ (i:=5) (N:=some 25) (v:=?_) (a':=?_) #[true,true,true,true,true,true,false,false,false,false,false,false,false,false,false,false,false,false] rfl rfl (any_of HT_.out (by kernel_rfl)) (fun _ _ _ h=>h) (Or.inl ⟨by rfl,?_⟩) ?_ ?_
       rotate_left
       ·intro w'
        go_simp
        with_reducible rfl
       rotate_left
       ·simp only [Act.put,s1_,s2_,s3_,i64_w,i32_w]
        rfl
       refine pure_ (i:=6) (N:=some 26) (v:=?_) (a':=?_) #[true,true,true,true,true,true,true,false,false,false,false,false,false,false,false,false,false,false] rfl rfl (any_of HT_.out (by kernel_rfl)) (fun _ _ _ h=>h) (Or.inl ⟨by rfl,?_⟩) ?_ ?_
       rotate_left
       ·intro w'
        go_simp
        with_reducible rfl
       rotate_left
       ·simp only [Act.put,s1_,s2_,s3_,i64_w,i32_w]
        rfl
       refine pure_ (i:=7) (N:=some 27) (v:=undef) (a':=?_) #[true,true,true,true,true,true,true,true,false,false,false,false,false,false,false,false,false,false] rfl rfl (any_of HT_.out (by kernel_rfl)) (fun _ _ _ h=>h) (Or.inr ⟨by rfl,rfl⟩) ?_ ?_
       rotate_left
       ·simp only [Act.put,s1_,s2_,s3_,i64_w,i32_w]
        rfl
       refine pure_ (i:=8) (N:=some 28) (v:=undef) (a':=?_) #[true,true,true,true,true,true,true,true,true,false,false,false,false,false,false,false,false,false] rfl rfl (any_of HT_.out (by kernel_rfl)) (fun _ _ _ h=>h) (Or.inr ⟨by rfl,rfl⟩) ?_ ?_
       rotate_left
       ·simp only [Act.put,s1_,s2_,s3_,i64_w,i32_w]
        rfl
       refine pure_ (i:=9) (N:=some 29) (v:=undef) (a':=?_) #[true,true,true,true,true,true,true,true,true,true,false,false,false,false,false,false,false,false] rfl rfl (any_of HT_.out (by kernel_rfl)) (fun _ _ _ h=>h) (Or.inr ⟨by rfl,rfl⟩) ?_ ?_
       rotate_left
       ·simp only [Act.put,s1_,s2_,s3_,i64_w,i32_w]
        rfl
       refine pure_ (i:=10) (N:=some 30) (v:=undef) (a':=?_) #[true,true,true,true,true,true,true,true,true,true,true,false,false,false,false,false,false,false] rfl rfl (any_of HT_.out (by kernel_rfl)) (fun _ _ _ h=>h) (Or.inr ⟨by rfl,rfl⟩) ?_ ?_
       rotate_left
       ·simp only [Act.put,s1_,s2_,s3_,i64_w,i32_w]
        rfl
       refine pure_ (i:=11) (N:=some 31) (v:=undef) (a':=?_) #[true,true,true,true,true,true,true,true,true,true,true,true,false,false,false,false,false,false] rfl rfl (any_of HT_.out (by kernel_rfl)) (fun _ _ _ h=>h) (Or.inr ⟨by rfl,rfl⟩) ?_ ?_
       rotate_left
       ·simp only [Act.put,s1_,s2_,s3_,i64_w,i32_w]
        rfl
       refine pure_ (i:=12) (N:=some 32) (v:=undef) (a':=?_) #[true,true,true,true,true,true,true,true,true,true,true,true,true,false,false,false,false,false] rfl rfl (any_of HT_.out (by kernel_rfl)) (fun _ _ _ h=>h) (Or.inr ⟨by rfl,rfl⟩) ?_ ?_
       rotate_left
       ·simp only [Act.put,s1_,s2_,s3_,i64_w,i32_w]
        rfl
       refine pure_ (i:=13) (N:=some 33) (v:=undef) (a':=?_) #[true,true,true,true,true,true,true,true,true,true,true,true,true,true,false,false,false,false] rfl rfl (any_of HT_.out (by kernel_rfl)) (fun _ _ _ h=>h) (Or.inr ⟨by rfl,rfl⟩) ?_ ?_
       rotate_left
       ·simp only [Act.put,s1_,s2_,s3_,i64_w,i32_w]
        rfl
       refine pure_ (i:=14) (N:=some 34) (v:=undef) (a':=?_) #[true,true,true,true,true,true,true,true,true,true,true,true,true,true,true,false,false,false] rfl rfl (any_of HT_.out (by kernel_rfl)) (fun _ _ _ h=>h) (Or.inr ⟨by rfl,rfl⟩) ?_ ?_
       rotate_left
       ·simp only [Act.put,s1_,s2_,s3_,i64_w,i32_w]
        rfl
       refine pure_ (i:=15) (N:=some 35) (v:=undef) (a':=?_) #[true,true,true,true,true,true,true,true,true,true,true,true,true,true,true,true,false,false] rfl rfl (any_of HT_.out (by kernel_rfl)) (fun _ _ _ h=>h) (Or.inr ⟨by rfl,rfl⟩) ?_ ?_
       rotate_left
       ·simp only [Act.put,s1_,s2_,s3_,i64_w,i32_w]
        rfl
       refine pure_ (i:=16) (N:=some 36) (v:=undef) (a':=?_) #[true,true,true,true,true,true,true,true,true,true,true,true,true,true,true,true,true,false] rfl rfl (any_of HT_.out (by kernel_rfl)) (fun _ _ _ h=>h) (Or.inr ⟨by rfl,rfl⟩) ?_ ?_
       rotate_left
       ·simp only [Act.put,s1_,s2_,s3_,i64_w,i32_w]
        rfl
       refine pure_ (i:=17) (N:=some 37) (v:=?_) (a':=?_) #[true,true,true,true,true,true,true,true,true,true,true,true,true,true,true,true,true,true] rfl rfl (any_of HT_.out (by kernel_rfl)) (fun _ _ _ h=>h) (Or.inl ⟨by rfl,?_⟩) ?_ ?_
       rotate_left
       ·intro w'
        go_simp
        with_reducible rfl
       rotate_left
       ·simp only [Act.put,s1_,s2_,s3_,i64_w,i32_w]
        rfl
       refine done_ (done_of HT_.out (by kernel_rfl)) ?_
       try go_wp2
       go_roundg k1
       case measure=>have:=HK1.out;omega
       case rel=>exact ⟨(wrap64 (x11_1 + 1)),(by first | rfl | (simp;done) | (simp [*];done)),H',⟨by have:=HK1.out;omega⟩,⟨by (with_reducible repeat (first | refine blk_drewN ?_ _ | refine blk_drew ?_ | refine blk_alloc ?_ _));exact BK1.out⟩,⟨hb_⟩⟩
      ·replace c12:=Bool.eq_false_iff.mpr c12
       subst c12
       have H1 : ((spec_isA.f k1 l0_0 ((rd_T47 l1 x11_1).f2) a3).bind fun t5=>(if (t5 == a4) = true then (some true) else (spec_keeps.l0 k1 l1 a2 a3 a4 (wrap64 (x11_1 + 1)) l0_0))) = some r:=by rw [if_neg (show ¬ (false = true) by decide)] at H;exact H
       clear H
       have H:=H1
       clear H1
       replace H:=Option.bind_eq_some_iff.mp H
       obtain ⟨t5,A140,H⟩:=H
       try dsimp only at H
       have A14:=a0_ A140
       clear A140
       by_cases c15 : (t5 == a4) = true
       ·rw [if_pos c15] at H
        have c15b0 : (t5 == a4) = true:=c15
        (try (have c15b1 : decide (t5 = a4) = true:=by simpa using c15))
        (try (have c15b2 : (t5 == a4) = true:=by simpa using c15))
        clear c15
        obtain rfl:=Option.some.inj H
        try go_wp2_with (first | ((with_reducible refine gate_callee (f:=66) rfl ?_);refine goesL_ (some 16) rfl rfl Try.func66 (by kernel_rfl) rfl #[.slice A1 l1.length c1,.int .i64 a2] rfl lm_ ?_;(with_reducible refine (spec_endOf.calls k1 _ _ l1 a2 t2 _ ?side1 ?side2 A7.out).mono ?_);(case side1=>exact cc_ (Kd.C_below HR1.out HB.out));(case side2=>exact HC1.out);rintro e w' ⟨rfl,⟨nd,rfl⟩⟩;refine ⟨_,rfl,?_⟩))
        (try (rw [drewN_self wr];generalize hq_ : World.drewN wr _ = wr;have n0_ : Aside0 (wr.heap[gb1]? = some (.cells #[.slice A0_0 l0_0.length c0_0] 25 (0,0))):=⟨by rw [← hq_];exact (bb_ BK1.out)⟩;have n1_ : Aside0 (Below w.heap.size w wr):=⟨by rw [← hq_];exact hb_⟩;clear BK1 HB hq_;have BK1:=n0_;have HB:=n1_;clear n0_ n1_))
        have n0_:=a0_ (blk_drew BK1.out)
        have n1_:=a0_ (below_drew1 HB.out)
        clear BK1
        clear HB
        have BK1:=n0_
        have HB:=n1_
        clear n0_ n1_
        have p3 : 0 ≤ (x11_1 : Int):=of_decide_eq_true (by first | (with_reducible assumption) | assumption)
        have q3 : x11_1 < (l1.length : Int):=of_decide_eq_true (by first | (with_reducible assumption) | assumption)
        obtain ⟨ad3,e3,hx3_0,hx3_1,hx3_2,hx3_3⟩:=at_T47 HR1.out x11_1 p3 q3
        have hw3_3:=hx3_3
        have hw3_2:=hx3_2
        have hw3_1:=hx3_1
        have hw3_0:=hx3_0
        (try rw [← Nbq11.out] at hx3_1)
        cases e3
        replace hx3_0:=(HB.out.cell (World.block_lt_of_cell? w _ hx3_0)).trans hx3_0
        replace hx3_1:=(HB.out.cell (World.block_lt_of_cell? w _ hx3_1)).trans hx3_1
        replace hx3_2:=(HB.out.cell (World.block_lt_of_cell? w _ hx3_2)).trans hx3_2
        replace hx3_3:=(HB.out.cell (World.block_lt_of_cell? w _ hx3_3)).trans hx3_3
        replace p3:=eq_true p3
        replace q3:=eq_true q3
        have p4 : 0 ≤ (x11_1 : Int):=of_decide_eq_true (by first | (with_reducible assumption) | assumption)
        have q4 : x11_1 < (l1.length : Int):=of_decide_eq_true (by first | (with_reducible assumption) | assumption)
        obtain ⟨ad4,e4,hx4_0,hx4_1,hx4_2,hx4_3⟩:=at_T47 HR1.out x11_1 p4 q4
        have hw4_3:=hx4_3
        have hw4_2:=hx4_2
        have hw4_1:=hx4_1
        have hw4_0:=hx4_0
        (try rw [← Nbq11.out] at hx4_1)
        obtain rfl : ad3 = ad4:=(by injection e4)
        replace hx4_0:=(HB.out.cell (World.block_lt_of_cell? w _ hx4_0)).trans hx4_0
        replace hx4_1:=(HB.out.cell (World.block_lt_of_cell? w _ hx4_1)).trans hx4_1
        replace hx4_2:=(HB.out.cell (World.block_lt_of_cell? w _ hx4_2)).trans hx4_2
        replace hx4_3:=(HB.out.cell (World.block_lt_of_cell? w _ hx4_3)).trans hx4_3
        replace p4:=eq_true p4
        replace q4:=eq_true q4
        refine start_ (n:=18) (S:=fun w'=>w'.cell? ⟨gb1,0,none⟩ = some (.slice A0_0 l0_0.length c0_0) ∧ w'.cell? (ad3.add ((x11_1).toNat * 4)) = some (.int .i64 ((rd_T47 l1 x11_1).f0)) ∧ w'.cell? ⟨(ad3.add ((x11_1).toNat * 4)).block,(ad3.add ((x11_1).toNat * 4)).off + 1,none⟩ = some (.bool false) ∧ w'.cell? ⟨(ad3.add ((x11_1).toNat * 4)).block,(ad3.add ((x11_1).toNat * 4)).off + 2,none⟩ = some (.int .i64 ((rd_T47 l1 x11_1).f2)) ∧ w'.cell? ⟨(ad3.add ((x11_1).toNat * 4)).block,(ad3.add ((x11_1).toNat * 4)).off + 3,none⟩ = some (.int .i64 ((rd_T47 l1 x11_1).f3)) ∧ w'.cell? (ad3.add ((x11_1).toNat * 4)) = some (.int .i64 ((rd_T47 l1 x11_1).f0)) ∧ w'.cell? ⟨(ad3.add ((x11_1).toNat * 4)).block,(ad3.add ((x11_1).toNat * 4)).off + 1,none⟩ = some (.bool (false)) ∧ w'.cell? ⟨(ad3.add ((x11_1).toNat * 4)).block,(ad3.add ((x11_1).toNat * 4)).off + 2,none⟩ = some (.int .i64 ((rd_T47 l1 x11_1).f2)) ∧ w'.cell? ⟨(ad3.add ((x11_1).toNat * 4)).block,(ad3.add ((x11_1).toNat * 4)).off + 3,none⟩ = some (.int .i64 ((rd_T47 l1 x11_1).f3))) (ds:=[]) #[false,false,false,false,false,false,false,false,false,false,false,false,false,false,false,false,false,false] (by kernel_rfl) rfl rfl ⟨(blk_cell BK1.out 0).trans rfl,((HB.out.cell (World.block_lt_of_cell? w _ hw3_0)).trans hw3_0),((HB.out.cell (World.block_lt_of_cell? w _ hw3_1)).trans (by first | exact hw3_1 | exact hw3_1.trans (congrArg (fun z_=>some (Value.bool z_)) Nbq11.out.symm))),((HB.out.cell (World.block_lt_of_cell? w _ hw3_2)).trans hw3_2),((HB.out.cell (World.block_lt_of_cell? w _ hw3_3)).trans hw3_3),((HB.out.cell (World.block_lt_of_cell? w _ hw4_0)).trans hw4_0),((HB.out.cell (World.block_lt_of_cell? w _ hw4_1)).trans (by first | exact hw4_1 | exact hw4_1.trans (congrArg (fun z_=>some (Value.bool z_)) Nbq11.out.symm))),((HB.out.cell (World.block_lt_of_cell? w _ hw4_2)).trans hw4_2),((HB.out.cell (World.block_lt_of_cell? w _ hw4_3)).trans hw4_3)⟩ (fun hHeld=>?_);refine with_tabW spec_keeps.tab4 spec_keeps.bits4 (fun HT_ HW_=>?_)
        generalize wr.drew = w16 at BK1 HB hx3_0 hx3_1 hx3_2 hx3_3 hx4_0 hx4_1 hx4_2 hx4_3 hHeld ⊢
        refine pure_ (i:=0) (N:=some 20) (v:=?_) (a':=?_) #[true,false,false,false,false,false,false,false,false,false,false,false,false,false,false,false,false,false] rfl rfl (any_of HT_.out (by kernel_rfl)) (fun _ _ _ h=>h) (Or.inl ⟨by rfl,?_⟩) ?_ ?_
        rotate_left
        ·intro w'
         go_simp
         with_reducible rfl
        rotate_left
        ·simp only [Act.put,s1_,s2_,s3_,i64_w,i32_w]
         rfl
        refine pure_ (i:=1) (N:=some 21) (v:=?_) (a':=?_) #[true,true,false,false,false,false,false,false,false,false,false,false,false,false,false,false,false,false] rfl rfl (any_of HT_.out (by kernel_rfl)) (fun _ _ _ h=>h) (Or.inl ⟨by rfl,?_⟩) ?_ ?_
        rotate_left
        ·intro w'
         go_simp
         with_reducible rfl
        rotate_left
        ·simp only [Act.put,s1_,s2_,s3_,i64_w,i32_w]
         rfl
        refine pure_ (i:=2) (N:=some 22) (v:=?_) (a':=?_) #[true,true,true,false,false,false,false,false,false,false,false,false,false,false,false,false,false,false] rfl rfl (any_of HT_.out (by kernel_rfl)) (fun _ _ _ h=>h) (Or.inl ⟨by rfl,?_⟩) ?_ ?_
        rotate_left
        ·intro w'
         go_simp
         with_reducible rfl
        rotate_left
        ·simp only [Act.put,s1_,s2_,s3_,i64_w,i32_w]
         rfl
        refine pure_ (i:=3) (N:=some 23) (v:=?_) (a':=?_) #[true,true,true,true,false,false,false,false,false,false,false,false,false,false,false,false,false,false] rfl rfl (any_of HT_.out (by kernel_rfl)) (fun _ _ _ h=>h) (Or.inl ⟨by rfl,?_⟩) ?_ ?_
        rotate_left
        ·intro w'
         go_simp
         with_reducible rfl
        rotate_left
        ·simp only [Act.put,s1_,s2_,s3_,i64_w,i32_w]
         rfl
        refine take_ (i:=4) (N:=some 24) (v:=?_) (a':=?_) #[true,true,true,true,true,false,false,false,false,false,false,false,false,false,false,false,false,false] rfl rfl (take_ofW HT_.out HW_.out (by kernel_rfl)) (fun _ _ _ h=>h) (Or.inl ⟨by rfl,?_⟩) hHeld ?_ ?_
        rotate_left
        ·rintro w' ⟨s0,s1,s2,s3,s4,s5,s6,s7,s8⟩
         go_simp
         with_reducible rfl
        rotate_left
        ·simp only [Act.put,s1_,s2_,s3_,i64_w,i32_w]
         rfl
        refine pure_ (i:=5) (N:=some 25) (v:=?_) (a':=?_) #[true,true,true,true,true,true,false,false,false,false,false,false,false,false,false,false,false,false] rfl rfl (any_of HT_.out (by kernel_rfl)) (fun _ _ _ h=>h) (Or.inl ⟨by rfl,?_⟩) ?_ ?_
        rotate_left
        ·intro w'
         go_simp
         with_reducible rfl
        rotate_left
        ·simp only [Act.put,s1_,s2_,s3_,i64_w,i32_w]
         rfl
        refine pure_ (i:=6) (N:=some 26) (v:=?_) (a':=?_) #[true,true,true,true,true,true,true,false,false,false,false,false,false,false,false,false,false,false] rfl rfl (any_of HT_.out (by kernel_rfl)) (fun _ _ _ h=>h) (Or.inl ⟨by rfl,?_⟩) ?_ ?_
        rotate_left
        ·intro w'
         go_simp
         with_reducible rfl
        rotate_left
        ·simp only [Act.put,s1_,s2_,s3_,i64_w,i32_w]
         rfl
        refine pure_ (i:=8) (N:=some 28) (v:=?_) (a':=?_) #[true,true,true,true,true,true,true,false,true,false,false,false,false,false,false,false,false,false] rfl rfl (any_of HT_.out (by kernel_rfl)) (fun _ _ _ h=>h) (Or.inl ⟨by rfl,?_⟩) ?_ ?_
        rotate_left
        ·intro w'
         go_simp
         with_reducible rfl
        rotate_left
        ·simp only [Act.put,s1_,s2_,s3_,i64_w,i32_w]
         rfl
        refine pure_ (i:=9) (N:=some 29) (v:=?_) (a':=?_) #[true,true,true,true,true,true,true,false,true,true,false,false,false,false,false,false,false,false] rfl rfl (any_of HT_.out (by kernel_rfl)) (fun _ _ _ h=>h) (Or.inl ⟨by rfl,?_⟩) ?_ ?_
        rotate_left
        ·intro w'
         go_simp
         with_reducible rfl
        rotate_left
        ·simp only [Act.put,s1_,s2_,s3_,i64_w,i32_w]
         rfl
        refine pure_ (i:=10) (N:=some 30) (v:=?_) (a':=?_) #[true,true,true,true,true,true,true,false,true,true,true,false,false,false,false,false,false,false] rfl rfl (any_of HT_.out (by kernel_rfl)) (fun _ _ _ h=>h) (Or.inl ⟨by rfl,?_⟩) ?_ ?_
        rotate_left
        ·intro w'
         go_simp
         with_reducible rfl
        rotate_left
        ·simp only [Act.put,s1_,s2_,s3_,i64_w,i32_w]
         rfl
        refine pure_ (i:=11) (N:=some 31) (v:=?_) (a':=?_) #[true,true,true,true,true,true,true,false,true,true,true,true,false,false,false,false,false,false] rfl rfl (any_of HT_.out (by kernel_rfl)) (fun _ _ _ h=>h) (Or.inl ⟨by rfl,?_⟩) ?_ ?_
        rotate_left
        ·intro w'
         go_simp
         with_reducible rfl
        rotate_left
        ·simp only [Act.put,s1_,s2_,s3_,i64_w,i32_w]
         rfl
        refine pure_ (i:=13) (N:=some 33) (v:=?_) (a':=?_) #[true,true,true,true,true,true,true,false,true,true,true,true,false,true,false,false,false,false] rfl rfl (any_of HT_.out (by kernel_rfl)) (fun _ _ _ h=>h) (Or.inl ⟨by rfl,?_⟩) ?_ ?_
        rotate_left
        ·intro w'
         go_simp
         with_reducible rfl
        rotate_left
        ·simp only [Act.put,s1_,s2_,s3_,i64_w,i32_w]
         rfl
        refine pure_ (i:=15) (N:=some 35) (v:=?_) (a':=?_) #[true,true,true,true,true,true,true,false,true,true,true,true,false,true,false,true,false,false] rfl rfl (any_of HT_.out (by kernel_rfl)) (fun _ _ _ h=>h) (Or.inl ⟨by rfl,?_⟩) ?_ ?_
        rotate_left
        ·intro w'
         go_simp
         with_reducible rfl
        rotate_left
        ·simp only [Act.put,s1_,s2_,s3_,i64_w,i32_w]
         rfl
        refine take_ (i:=7) (N:=some 27) (v:=?_) (a':=?_) #[true,true,true,true,true,true,true,true,true,true,true,true,false,true,false,true,false,false] rfl rfl (take_ofW HT_.out HW_.out (by kernel_rfl)) (fun _ _ _ h=>h) (Or.inl ⟨by rfl,?_⟩) hHeld ?_ ?_
        rotate_left
        ·rintro w' ⟨s0,s1,s2,s3,s4,s5,s6,s7,s8⟩
         go_simp
         with_reducible rfl
        rotate_left
        ·simp only [Act.put,s1_,s2_,s3_,i64_w,i32_w]
         rfl
        refine take_ (i:=12) (N:=some 32) (v:=?_) (a':=?_) #[true,true,true,true,true,true,true,true,true,true,true,true,true,true,false,true,false,false] rfl rfl (take_ofW HT_.out HW_.out (by kernel_rfl)) (fun _ _ _ h=>h) (Or.inl ⟨by rfl,?_⟩) hHeld ?_ ?_
        rotate_left
        ·rintro w' ⟨s0,s1,s2,s3,s4,s5,s6,s7,s8⟩
         go_simp
         with_reducible rfl
        rotate_left
        ·simp only [Act.put,s1_,s2_,s3_,i64_w,i32_w]
         rfl
        refine one_ (i:=14) (N:=some 34) #[true,true,true,true,true,true,true,true,true,true,true,true,true,true,true,true,false,false] rfl rfl (one_of HT_.out (by kernel_rfl)) (by decide) (fun K hK=>?_)
        refine goes_ Try.func89 (by kernel_rfl) rfl #[.agg #[.slice A0_0 l0_0.length c0_0],.int .i64 ((rd_T47 l1 x11_1).f2),.int .i64 a3] (by rfl) rfl rfl lm_ ?_
        with_reducible refine (spec_isA.calls k1 _ _ l0_0 ((rd_T47 l1 x11_1).f2) a3 t5 _ ?side1 ?side2 A14.out).mono ?_
        (case side1=>exact cc_ (Kd.C_below HR0_0.out HB.out))
        (case side2=>exact HC0_0.out)
        rintro e w17 ⟨rfl,hb⟩
        refine ⟨_,rfl,?_⟩
        have n0_:=kb_ BK1 hb
        have n1_:=a0_ (below_step hb_ hb)
        clear BK1
        clear HB
        have BK1:=n0_
        have HB:=n1_
        clear n0_ n1_
        (try clear hb)
        (try clear hb2)
        (try clear hk)
        (try clear hi)
        refine hK.out _ _ ⟨(blk_cell BK1.out 0).trans rfl,((HB.out.cell (World.block_lt_of_cell? w _ hw3_0)).trans hw3_0),((HB.out.cell (World.block_lt_of_cell? w _ hw3_1)).trans (by first | exact hw3_1 | exact hw3_1.trans (congrArg (fun z_=>some (Value.bool z_)) Nbq11.out.symm))),((HB.out.cell (World.block_lt_of_cell? w _ hw3_2)).trans hw3_2),((HB.out.cell (World.block_lt_of_cell? w _ hw3_3)).trans hw3_3),((HB.out.cell (World.block_lt_of_cell? w _ hw4_0)).trans hw4_0),((HB.out.cell (World.block_lt_of_cell? w _ hw4_1)).trans (by first | exact hw4_1 | exact hw4_1.trans (congrArg (fun z_=>some (Value.bool z_)) Nbq11.out.symm))),((HB.out.cell (World.block_lt_of_cell? w _ hw4_2)).trans hw4_2),((HB.out.cell (World.block_lt_of_cell? w _ hw4_3)).trans hw4_3)⟩ (fun hHeld=>?_)
        clear hK K
        refine norm_ (a':=?_) ?_ ?_
        rotate_left
        ·show Act.put _ (some 34) _ = _
         simp only [Act.put,s1_,s2_,s3_,i64_w,i32_w]
         rfl
        refine pure_ (i:=16) (N:=some 36) (v:=?_) (a':=?_) #[true,true,true,true,true,true,true,true,true,true,true,true,true,true,true,true,true,false] rfl rfl (any_of HT_.out (by kernel_rfl)) (fun _ _ _ h=>h) (Or.inl ⟨by rfl,?_⟩) ?_ ?_
        rotate_left
        ·intro w'
         go_simp
         with_reducible rfl
        rotate_left
        ·simp only [Act.put,s1_,s2_,s3_,i64_w,i32_w]
         rfl
        refine pure_ (i:=17) (N:=some 37) (v:=?_) (a':=?_) #[true,true,true,true,true,true,true,true,true,true,true,true,true,true,true,true,true,true] rfl rfl (any_of HT_.out (by kernel_rfl)) (fun _ _ _ h=>h) (Or.inl ⟨by rfl,?_⟩) ?_ ?_
        rotate_left
        ·intro w'
         go_simp
         with_reducible rfl
        rotate_left
        ·simp only [Act.put,s1_,s2_,s3_,i64_w,i32_w]
         rfl
        refine done_ (done_of HT_.out (by kernel_rfl)) ?_
        try go_wp2
        go_ret
        exact ⟨by first | rfl | (simp [errW_none,errW_some] <;> rfl) | (simp [*,errW_none,errW_some] <;> rfl),hb_⟩
       ·rw [if_neg c15] at H
        have c15b0 : (t5 == a4) = false:=by simpa using c15
        (try (have c15b1 : decide (t5 = a4) = false:=by simpa using c15))
        (try (have c15b2 : (t5 == a4) = false:=by simpa using c15))
        (try (have c15b3 : ¬ (t5 = a4):=by simpa using c15))
        clear c15
        have H':=a0_ H
        clear H
        try go_wp2_with (first | ((with_reducible refine gate_callee (f:=66) rfl ?_);refine goesL_ (some 16) rfl rfl Try.func66 (by kernel_rfl) rfl #[.slice A1 l1.length c1,.int .i64 a2] rfl lm_ ?_;(with_reducible refine (spec_endOf.calls k1 _ _ l1 a2 t2 _ ?side1 ?side2 A7.out).mono ?_);(case side1=>exact cc_ (Kd.C_below HR1.out HB.out));(case side2=>exact HC1.out);rintro e w' ⟨rfl,⟨nd,rfl⟩⟩;refine ⟨_,rfl,?_⟩))
        (try (rw [drewN_self wr];generalize hq_ : World.drewN wr _ = wr;have n0_ : Aside0 (wr.heap[gb1]? = some (.cells #[.slice A0_0 l0_0.length c0_0] 25 (0,0))):=⟨by rw [← hq_];exact (bb_ BK1.out)⟩;have n1_ : Aside0 (Below w.heap.size w wr):=⟨by rw [← hq_];exact hb_⟩;clear BK1 HB hq_;have BK1:=n0_;have HB:=n1_;clear n0_ n1_))
        have n0_:=a0_ (blk_drew BK1.out)
        have n1_:=a0_ (below_drew1 HB.out)
        clear BK1
        clear HB
        have BK1:=n0_
        have HB:=n1_
        clear n0_ n1_
        have p3 : 0 ≤ (x11_1 : Int):=of_decide_eq_true (by first | (with_reducible assumption) | assumption)
        have q3 : x11_1 < (l1.length : Int):=of_decide_eq_true (by first | (with_reducible assumption) | assumption)
        obtain ⟨ad3,e3,hx3_0,hx3_1,hx3_2,hx3_3⟩:=at_T47 HR1.out x11_1 p3 q3
        have hw3_3:=hx3_3
        have hw3_2:=hx3_2
        have hw3_1:=hx3_1
        have hw3_0:=hx3_0
        (try rw [← Nbq11.out] at hx3_1)
        cases e3
        replace hx3_0:=(HB.out.cell (World.block_lt_of_cell? w _ hx3_0)).trans hx3_0
        replace hx3_1:=(HB.out.cell (World.block_lt_of_cell? w _ hx3_1)).trans hx3_1
        replace hx3_2:=(HB.out.cell (World.block_lt_of_cell? w _ hx3_2)).trans hx3_2
        replace hx3_3:=(HB.out.cell (World.block_lt_of_cell? w _ hx3_3)).trans hx3_3
        replace p3:=eq_true p3
        replace q3:=eq_true q3
        have p4 : 0 ≤ (x11_1 : Int):=of_decide_eq_true (by first | (with_reducible assumption) | assumption)
        have q4 : x11_1 < (l1.length : Int):=of_decide_eq_true (by first | (with_reducible assumption) | assumption)
        obtain ⟨ad4,e4,hx4_0,hx4_1,hx4_2,hx4_3⟩:=at_T47 HR1.out x11_1 p4 q4
        have hw4_3:=hx4_3
        have hw4_2:=hx4_2
        have hw4_1:=hx4_1
        have hw4_0:=hx4_0
        (try rw [← Nbq11.out] at hx4_1)
        obtain rfl : ad3 = ad4:=(by injection e4)
        replace hx4_0:=(HB.out.cell (World.block_lt_of_cell? w _ hx4_0)).trans hx4_0
        replace hx4_1:=(HB.out.cell (World.block_lt_of_cell? w _ hx4_1)).trans hx4_1
        replace hx4_2:=(HB.out.cell (World.block_lt_of_cell? w _ hx4_2)).trans hx4_2
        replace hx4_3:=(HB.out.cell (World.block_lt_of_cell? w _ hx4_3)).trans hx4_3
        replace p4:=eq_true p4
        replace q4:=eq_true q4
        refine start_ (n:=18) (S:=fun w'=>w'.cell? ⟨gb1,0,none⟩ = some (.slice A0_0 l0_0.length c0_0) ∧ w'.cell? (ad3.add ((x11_1).toNat * 4)) = some (.int .i64 ((rd_T47 l1 x11_1).f0)) ∧ w'.cell? ⟨(ad3.add ((x11_1).toNat * 4)).block,(ad3.add ((x11_1).toNat * 4)).off + 1,none⟩ = some (.bool false) ∧ w'.cell? ⟨(ad3.add ((x11_1).toNat * 4)).block,(ad3.add ((x11_1).toNat * 4)).off + 2,none⟩ = some (.int .i64 ((rd_T47 l1 x11_1).f2)) ∧ w'.cell? ⟨(ad3.add ((x11_1).toNat * 4)).block,(ad3.add ((x11_1).toNat * 4)).off + 3,none⟩ = some (.int .i64 ((rd_T47 l1 x11_1).f3)) ∧ w'.cell? (ad3.add ((x11_1).toNat * 4)) = some (.int .i64 ((rd_T47 l1 x11_1).f0)) ∧ w'.cell? ⟨(ad3.add ((x11_1).toNat * 4)).block,(ad3.add ((x11_1).toNat * 4)).off + 1,none⟩ = some (.bool (false)) ∧ w'.cell? ⟨(ad3.add ((x11_1).toNat * 4)).block,(ad3.add ((x11_1).toNat * 4)).off + 2,none⟩ = some (.int .i64 ((rd_T47 l1 x11_1).f2)) ∧ w'.cell? ⟨(ad3.add ((x11_1).toNat * 4)).block,(ad3.add ((x11_1).toNat * 4)).off + 3,none⟩ = some (.int .i64 ((rd_T47 l1 x11_1).f3))) (ds:=[]) #[false,false,false,false,false,false,false,false,false,false,false,false,false,false,false,false,false,false] (by kernel_rfl) rfl rfl ⟨(blk_cell BK1.out 0).trans rfl,((HB.out.cell (World.block_lt_of_cell? w _ hw3_0)).trans hw3_0),((HB.out.cell (World.block_lt_of_cell? w _ hw3_1)).trans (by first | exact hw3_1 | exact hw3_1.trans (congrArg (fun z_=>some (Value.bool z_)) Nbq11.out.symm))),((HB.out.cell (World.block_lt_of_cell? w _ hw3_2)).trans hw3_2),((HB.out.cell (World.block_lt_of_cell? w _ hw3_3)).trans hw3_3),((HB.out.cell (World.block_lt_of_cell? w _ hw4_0)).trans hw4_0),((HB.out.cell (World.block_lt_of_cell? w _ hw4_1)).trans (by first | exact hw4_1 | exact hw4_1.trans (congrArg (fun z_=>some (Value.bool z_)) Nbq11.out.symm))),((HB.out.cell (World.block_lt_of_cell? w _ hw4_2)).trans hw4_2),((HB.out.cell (World.block_lt_of_cell? w _ hw4_3)).trans hw4_3)⟩ (fun hHeld=>?_);refine with_tabW spec_keeps.tab4 spec_keeps.bits4 (fun HT_ HW_=>?_)
        generalize wr.drew = w18 at BK1 HB hx3_0 hx3_1 hx3_2 hx3_3 hx4_0 hx4_1 hx4_2 hx4_3 hHeld ⊢
        refine pure_ (i:=0) (N:=some 20) (v:=?_) (a':=?_) #[true,false,false,false,false,false,false,false,false,false,false,false,false,false,false,false,false,false] rfl rfl (any_of HT_.out (by kernel_rfl)) (fun _ _ _ h=>h) (Or.inl ⟨by rfl,?_⟩) ?_ ?_
        rotate_left
        ·intro w'
         go_simp
         with_reducible rfl
        rotate_left
        ·simp only [Act.put,s1_,s2_,s3_,i64_w,i32_w]
         rfl
        refine pure_ (i:=1) (N:=some 21) (v:=?_) (a':=?_) #[true,true,false,false,false,false,false,false,false,false,false,false,false,false,false,false,false,false] rfl rfl (any_of HT_.out (by kernel_rfl)) (fun _ _ _ h=>h) (Or.inl ⟨by rfl,?_⟩) ?_ ?_
        rotate_left
        ·intro w'
         go_simp
         with_reducible rfl
        rotate_left
        ·simp only [Act.put,s1_,s2_,s3_,i64_w,i32_w]
         rfl
        refine pure_ (i:=2) (N:=some 22) (v:=?_) (a':=?_) #[true,true,true,false,false,false,false,false,false,false,false,false,false,false,false,false,false,false] rfl rfl (any_of HT_.out (by kernel_rfl)) (fun _ _ _ h=>h) (Or.inl ⟨by rfl,?_⟩) ?_ ?_
        rotate_left
        ·intro w'
         go_simp
         with_reducible rfl
        rotate_left
        ·simp only [Act.put,s1_,s2_,s3_,i64_w,i32_w]
         rfl
        refine pure_ (i:=3) (N:=some 23) (v:=?_) (a':=?_) #[true,true,true,true,false,false,false,false,false,false,false,false,false,false,false,false,false,false] rfl rfl (any_of HT_.out (by kernel_rfl)) (fun _ _ _ h=>h) (Or.inl ⟨by rfl,?_⟩) ?_ ?_
        rotate_left
        ·intro w'
         go_simp
         with_reducible rfl
        rotate_left
        ·simp only [Act.put,s1_,s2_,s3_,i64_w,i32_w]
         rfl
        refine take_ (i:=4) (N:=some 24) (v:=?_) (a':=?_) #[true,true,true,true,true,false,false,false,false,false,false,false,false,false,false,false,false,false] rfl rfl (take_ofW HT_.out HW_.out (by kernel_rfl)) (fun _ _ _ h=>h) (Or.inl ⟨by rfl,?_⟩) hHeld ?_ ?_
        rotate_left
        ·rintro w' ⟨s0,s1,s2,s3,s4,s5,s6,s7,s8⟩
         go_simp
         with_reducible rfl
        rotate_left
        ·simp only [Act.put,s1_,s2_,s3_,i64_w,i32_w]
         rfl
        refine pure_ (i:=5) (N:=some 25) (v:=?_) (a':=?_) #[true,true,true,true,true,true,false,false,false,false,false,false,false,false,false,false,false,false] rfl rfl (any_of HT_.out (by kernel_rfl)) (fun _ _ _ h=>h) (Or.inl ⟨by rfl,?_⟩) ?_ ?_
        rotate_left
        ·intro w'
         go_simp
         with_reducible rfl
        rotate_left
        ·simp only [Act.put,s1_,s2_,s3_,i64_w,i32_w]
         rfl
        refine pure_ (i:=6) (N:=some 26) (v:=?_) (a':=?_) #[true,true,true,true,true,true,true,false,false,false,false,false,false,false,false,false,false,false] rfl rfl (any_of HT_.out (by kernel_rfl)) (fun _ _ _ h=>h) (Or.inl ⟨by rfl,?_⟩) ?_ ?_
        rotate_left
        ·intro w'
         go_simp
         with_reducible rfl
        rotate_left
        ·simp only [Act.put,s1_,s2_,s3_,i64_w,i32_w]
         rfl
        refine pure_ (i:=8) (N:=some 28) (v:=?_) (a':=?_) #[true,true,true,true,true,true,true,false,true,false,false,false,false,false,false,false,false,false] rfl rfl (any_of HT_.out (by kernel_rfl)) (fun _ _ _ h=>h) (Or.inl ⟨by rfl,?_⟩) ?_ ?_
        rotate_left
        ·intro w'
         go_simp
         with_reducible rfl
        rotate_left
        ·simp only [Act.put,s1_,s2_,s3_,i64_w,i32_w]
         rfl
        refine pure_ (i:=9) (N:=some 29) (v:=?_) (a':=?_) #[true,true,true,true,true,true,true,false,true,true,false,false,false,false,false,false,false,false] rfl rfl (any_of HT_.out (by kernel_rfl)) (fun _ _ _ h=>h) (Or.inl ⟨by rfl,?_⟩) ?_ ?_
        rotate_left
        ·intro w'
         go_simp
         with_reducible rfl
        rotate_left
        ·simp only [Act.put,s1_,s2_,s3_,i64_w,i32_w]
         rfl
        refine pure_ (i:=10) (N:=some 30) (v:=?_) (a':=?_) #[true,true,true,true,true,true,true,false,true,true,true,false,false,false,false,false,false,false] rfl rfl (any_of HT_.out (by kernel_rfl)) (fun _ _ _ h=>h) (Or.inl ⟨by rfl,?_⟩) ?_ ?_
        rotate_left
        ·intro w'
         go_simp
         with_reducible rfl
        rotate_left
        ·simp only [Act.put,s1_,s2_,s3_,i64_w,i32_w]
         rfl
        refine pure_ (i:=11) (N:=some 31) (v:=?_) (a':=?_) #[true,true,true,true,true,true,true,false,true,true,true,true,false,false,false,false,false,false] rfl rfl (any_of HT_.out (by kernel_rfl)) (fun _ _ _ h=>h) (Or.inl ⟨by rfl,?_⟩) ?_ ?_
        rotate_left
        ·intro w'
         go_simp
         with_reducible rfl
        rotate_left
        ·simp only [Act.put,s1_,s2_,s3_,i64_w,i32_w]
         rfl
        refine pure_ (i:=13) (N:=some 33) (v:=?_) (a':=?_) #[true,true,true,true,true,true,true,false,true,true,true,true,false,true,false,false,false,false] rfl rfl (any_of HT_.out (by kernel_rfl)) (fun _ _ _ h=>h) (Or.inl ⟨by rfl,?_⟩) ?_ ?_
        rotate_left
        ·intro w'
         go_simp
         with_reducible rfl
        rotate_left
        ·simp only [Act.put,s1_,s2_,s3_,i64_w,i32_w]
         rfl
        refine pure_ (i:=15) (N:=some 35) (v:=?_) (a':=?_) #[true,true,true,true,true,true,true,false,true,true,true,true,false,true,false,true,false,false] rfl rfl (any_of HT_.out (by kernel_rfl)) (fun _ _ _ h=>h) (Or.inl ⟨by rfl,?_⟩) ?_ ?_
        rotate_left
        ·intro w'
         go_simp
         with_reducible rfl
        rotate_left
        ·simp only [Act.put,s1_,s2_,s3_,i64_w,i32_w]
         rfl
        refine take_ (i:=7) (N:=some 27) (v:=?_) (a':=?_) #[true,true,true,true,true,true,true,true,true,true,true,true,false,true,false,true,false,false] rfl rfl (take_ofW HT_.out HW_.out (by kernel_rfl)) (fun _ _ _ h=>h) (Or.inl ⟨by rfl,?_⟩) hHeld ?_ ?_
        rotate_left
        ·rintro w' ⟨s0,s1,s2,s3,s4,s5,s6,s7,s8⟩
         go_simp
         with_reducible rfl
        rotate_left
        ·simp only [Act.put,s1_,s2_,s3_,i64_w,i32_w]
         rfl
        refine take_ (i:=12) (N:=some 32) (v:=?_) (a':=?_) #[true,true,true,true,true,true,true,true,true,true,true,true,true,true,false,true,false,false] rfl rfl (take_ofW HT_.out HW_.out (by kernel_rfl)) (fun _ _ _ h=>h) (Or.inl ⟨by rfl,?_⟩) hHeld ?_ ?_
        rotate_left
        ·rintro w' ⟨s0,s1,s2,s3,s4,s5,s6,s7,s8⟩
         go_simp
         with_reducible rfl
        rotate_left
        ·simp only [Act.put,s1_,s2_,s3_,i64_w,i32_w]
         rfl
        refine one_ (i:=14) (N:=some 34) #[true,true,true,true,true,true,true,true,true,true,true,true,true,true,true,true,false,false] rfl rfl (one_of HT_.out (by kernel_rfl)) (by decide) (fun K hK=>?_)
        refine goes_ Try.func89 (by kernel_rfl) rfl #[.agg #[.slice A0_0 l0_0.length c0_0],.int .i64 ((rd_T47 l1 x11_1).f2),.int .i64 a3] (by rfl) rfl rfl lm_ ?_
        with_reducible refine (spec_isA.calls k1 _ _ l0_0 ((rd_T47 l1 x11_1).f2) a3 t5 _ ?side1 ?side2 A14.out).mono ?_
        (case side1=>exact cc_ (Kd.C_below HR0_0.out HB.out))
        (case side2=>exact HC0_0.out)
        rintro e w19 ⟨rfl,hb⟩
        refine ⟨_,rfl,?_⟩
        have n0_:=kb_ BK1 hb
        have n1_:=a0_ (below_step hb_ hb)
        clear BK1
        clear HB
        have BK1:=n0_
        have HB:=n1_
        clear n0_ n1_
        (try clear hb)
        (try clear hb2)
        (try clear hk)
        (try clear hi)
        refine hK.out _ _ ⟨(blk_cell BK1.out 0).trans rfl,((HB.out.cell (World.block_lt_of_cell? w _ hw3_0)).trans hw3_0),((HB.out.cell (World.block_lt_of_cell? w _ hw3_1)).trans (by first | exact hw3_1 | exact hw3_1.trans (congrArg (fun z_=>some (Value.bool z_)) Nbq11.out.symm))),((HB.out.cell (World.block_lt_of_cell? w _ hw3_2)).trans hw3_2),((HB.out.cell (World.block_lt_of_cell? w _ hw3_3)).trans hw3_3),((HB.out.cell (World.block_lt_of_cell? w _ hw4_0)).trans hw4_0),((HB.out.cell (World.block_lt_of_cell? w _ hw4_1)).trans (by first | exact hw4_1 | exact hw4_1.trans (congrArg (fun z_=>some (Value.bool z_)) Nbq11.out.symm))),((HB.out.cell (World.block_lt_of_cell? w _ hw4_2)).trans hw4_2),((HB.out.cell (World.block_lt_of_cell? w _ hw4_3)).trans hw4_3)⟩ (fun hHeld=>?_)
        clear hK K
        refine norm_ (a':=?_) ?_ ?_
        rotate_left
        ·show Act.put _ (some 34) _ = _
         simp only [Act.put,s1_,s2_,s3_,i64_w,i32_w]
         rfl
        refine pure_ (i:=16) (N:=some 36) (v:=?_) (a':=?_) #[true,true,true,true,true,true,true,true,true,true,true,true,true,true,true,true,true,false] rfl rfl (any_of HT_.out (by kernel_rfl)) (fun _ _ _ h=>h) (Or.inl ⟨by rfl,?_⟩) ?_ ?_
        rotate_left
        ·intro w'
         go_simp
         with_reducible rfl
        rotate_left
        ·simp only [Act.put,s1_,s2_,s3_,i64_w,i32_w]
         rfl
        refine pure_ (i:=17) (N:=some 37) (v:=?_) (a':=?_) #[true,true,true,true,true,true,true,true,true,true,true,true,true,true,true,true,true,true] rfl rfl (any_of HT_.out (by kernel_rfl)) (fun _ _ _ h=>h) (Or.inl ⟨by rfl,?_⟩) ?_ ?_
        rotate_left
        ·intro w'
         go_simp
         with_reducible rfl
        rotate_left
        ·simp only [Act.put,s1_,s2_,s3_,i64_w,i32_w]
         rfl
        refine done_ (done_of HT_.out (by kernel_rfl)) ?_
        try go_wp2
        go_roundg k1
        case measure=>have:=HK1.out;omega
        case rel=>exact ⟨(wrap64 (x11_1 + 1)),(by first | rfl | (simp;done) | (simp [*];done)),H',⟨by have:=HK1.out;omega⟩,⟨by (with_reducible repeat (first | refine blk_drewN ?_ _ | refine blk_drew ?_ | refine blk_alloc ?_ _));exact BK1.out⟩,⟨hb_⟩⟩
     ·rw [if_neg c10] at H
      exact absurd H (by simp)
    ·rw [if_neg c9] at H
     exact absurd H (by simp)
   ·rw [if_neg c8] at H
    have c8b0 : decide (x11_1 < t2) = false:=decide_eq_false c8
    clear c8
    obtain rfl:=Option.some.inj H
    go_wp2_with (first | ((with_reducible refine gate_callee (f:=66) rfl ?_);refine goesL_ (some 16) rfl rfl Try.func66 (by kernel_rfl) rfl #[.slice A1 l1.length c1,.int .i64 a2] rfl lm_ ?_;(with_reducible refine (spec_endOf.calls k1 _ _ l1 a2 t2 _ ?side1 ?side2 A7.out).mono ?_);(case side1=>exact cc_ (Kd.C_below HR1.out HB.out));(case side2=>exact HC1.out);rintro e w' ⟨rfl,⟨nd,rfl⟩⟩;refine ⟨_,rfl,?_⟩))
    go_ret
    exact ⟨by first | rfl | (simp [errW_none,errW_some] <;> rfl) | (simp [*,errW_none,errW_some] <;> rfl),hb_⟩
theorem spec_keeps_ev {t : List Cls} (h : vT t = true) (g : List Prt) (hg : lfOk t g) (hl : g.length ≤ 9223372036854775807) (i : Nat) (hi : i < g.length) (a : Int) (yes : Bool) : Ev (fun k=>spec_keeps.f k t g (i : Int) a yes) (keepsB t g i a yes):=by
 have he:=endG_le g i hi
 have he2:=endG_gt g i
 have key : ∀ d j,j + d = endG g i → Ev (fun k=>spec_keeps.l0 k g (i : Int) a yes (j : Int) t) (((g.drop j).take d).any (lfB t a yes)):=by
  intro d
  induction d with
  | zero =>
   intro j hj
   refine Ev.succ ?_
   simp only [spec_keeps.l0]
   refine Ev.bind (spec_endOf_ev g i hi hl) (Ev.neg (by omega) ?_)
   exact Ev.const (by simp)
  | succ d ih =>
   intro j hj
   have hlt : j < g.length:=by omega
   have hrd : rd_T47 g (j : Int) = g[j]:=by simp [rd_T47,hlt]
   have hn:=ih (j + 1) (by omega)
   rw [List.drop_eq_getElem_cons hlt,List.take_succ_cons,List.any_cons]
   refine Ev.succ ?_
   simp only [spec_keeps.l0,hrd]
   rw [wrap_succ (i:=(j : Int)) (n:=g.length) (by omega) (by omega) (by omega)]
   refine Ev.bind (spec_endOf_ev g i hi hl) (Ev.pos (by omega) (Ev.pos (by omega) (Ev.pos (by omega) ?_)))
   unfold lfB at hn ⊢
   cases h1 : g[j].f1 with
   | true =>
    refine Ev.pos rfl ?_
    simpa using hn
   | false =>
    refine Ev.neg (by simp) (Ev.bind (spec_isA_Ev h g[j].f2 a (hg _ (List.getElem_mem hlt) h1)) ?_)
    cases h2 : (isA t g[j].f2 a == yes) with
    | true=>exact Ev.pos rfl (Ev.const rfl)
    | false =>
     refine Ev.neg (by simp) ?_
     simpa using hn
 exact key (endG g i - i) i (by omega)
end Go.Proofs.Ytfphcdbnnienhaa.P
namespace Go.Proofs.Ytfphcdbnnienhaa.P
open Go.RowKit Go.Proofs.YtfphcdbnnienhaaW.PrintWords Go.Proofs.YtfphcdbnnienhaaW.PrintLast Go.Proofs.YtfphcdbnnienhaaW.PrintMore
attribute [local go_sem] max2_int min2_int max_two min_two max_three min_three max_four min_four
set_option linter.unusedVariables false
set_option linter.unusedSimpArgs false
def spec_split.l0 : Nat → List (S47) → Int → List (S47) → List (S47) → Int → List (S85) → Option ((List (S47)) × (List (S47)))
 | 0,_,_,_,_,_,_=>none
 | k + 1,x1,x2,x8,x9,x10,x2000=>if x10 < (x1.length : Int) then ((spec_keeps.f k x2000 x1 x10 x2 true).bind fun t8=>(if t8 = true then (if 0 ≤ x10 then (if x8.length < 4398046511104 then ((some (x8 ++ [(⟨(rd_T47 x1 x10).f0,(rd_T47 x1 x10).f1,(rd_T47 x1 x10).f2,(rd_T47 x1 x10).f3⟩ : S47)] : List (S47))).bind fun y10=>((spec_keeps.f k x2000 x1 x10 x2 false).bind fun t13=>(if t13 = true then (if x9.length < 4398046511104 then (spec_split.l0 k x1 x2 y10 (x9 ++ [(⟨(rd_T47 x1 x10).f0,(rd_T47 x1 x10).f1,(rd_T47 x1 x10).f2,(rd_T47 x1 x10).f3⟩ : S47)]) (wrap64 (x10 + 1)) x2000) else (none)) else (spec_split.l0 k x1 x2 y10 x9 (wrap64 (x10 + 1)) x2000)))) else (none)) else (none)) else ((spec_keeps.f k x2000 x1 x10 x2 false).bind fun t18=>(if t18 = true then (if 0 ≤ x10 then (if x9.length < 4398046511104 then (spec_split.l0 k x1 x2 x8 (x9 ++ [(⟨(rd_T47 x1 x10).f0,(rd_T47 x1 x10).f1,(rd_T47 x1 x10).f2,(rd_T47 x1 x10).f3⟩ : S47)]) (wrap64 (x10 + 1)) x2000) else (none)) else (none)) else (spec_split.l0 k x1 x2 x8 x9 (wrap64 (x10 + 1)) x2000))))) else (some (x8,x9))
def spec_split.f (k : Nat) (l0_0 : List (S85)) (l1 : List (S47)) (a2 : Int) : Option ((List (S47)) × (List (S47))):=spec_split.l0 k l1 a2 (([] : List (S47))) (([] : List (S47))) 0 l0_0
theorem spec_split.mono_l : ∀ k,(∀ y0 y1 y2 y3 y4 y5,LeO (spec_split.l0 k y0 y1 y2 y3 y4 y5) (spec_split.l0 (k + 1) y0 y1 y2 y3 y4 y5))
 | 0=>fun _ _ _ _ _ _ r h=>by simp [spec_split.l0] at h
 | k + 1=>by
  have ih0:=spec_split.mono_l k
  ·intro y0 y1 y2 y3 y4 y5
   unfold spec_split.l0
   repeat' first
   | (with_reducible exact ih0 _ _ _ _ _ _)
   | (with_reducible exact spec_keeps.mono _ _ _ _ _ _)
   | (with_reducible exact LeO.refl _)
   | (with_reducible exact LeO.none _)
   | (with_reducible refine LeO.ite ?_ ?_)
   | (with_reducible refine LeO.bind ?_ (fun _=>?_))
   | exact ih0 _ _ _ _ _ _
   | exact spec_keeps.mono _ _ _ _ _ _
   | exact LeO.none _
   | refine LeO.ite ?_ ?_
   | refine LeO.bind ?_ (fun _=>?_)
theorem spec_split.mono : ∀ a0 a1 a2 k,LeO (spec_split.f k a0 a1 a2) (spec_split.f (k + 1) a0 a1 a2):=by
 intro a0 a1 a2 k
 have ih0:=spec_split.mono_l k
 unfold spec_split.f
 repeat' first
   | (with_reducible exact ih0 _ _ _ _ _ _)
   | (with_reducible exact spec_keeps.mono _ _ _ _ _ _)
   | (with_reducible exact LeO.refl _)
   | (with_reducible exact LeO.none _)
   | (with_reducible refine LeO.ite ?_ ?_)
   | (with_reducible refine LeO.bind ?_ (fun _=>?_))
   | exact ih0 _ _ _ _ _ _
   | exact spec_keeps.mono _ _ _ _ _ _
   | exact LeO.none _
   | refine LeO.ite ?_ ?_
   | refine LeO.bind ?_ (fun _=>?_)
set_option maxHeartbeats 8000000 in
set_option maxRecDepth 100000 in
theorem spec_split.calls (k : Nat) (A0_0 : Option Addr) (c0_0 : Nat) (l0_0 : List (S85)) (A1 : Option Addr) (c1 : Nat) (l1 : List (S47)) (a2 : Int) (r1 : List (S47)) (r2 : List (S47)) (w : World) (hr0_0 : Kd.C k85 w A0_0 l0_0.length l0_0) (hc0_0 : l0_0.length ≤ c0_0) (hr1 : Kd.C k47 w A1 l1.length l1) (hc1 : l1.length ≤ c1) (h : spec_split.f k l0_0 l1 a2 = some (r1,r2)) :
  Calls Try.prog 49 #[.agg #[.slice A0_0 l0_0.length c0_0],.slice A1 l1.length c1,.int .i64 a2] w fun e w'=>∃ v0_ v1_ : Value,e = .returned (.tuple #[v0_,v1_]) ∧ Kd.R k47 47 w' w.heap.size (fun k_=>some k_ ≠ (v1_ : Value).ownBlock) v0_ r1 ∧ Kd.R k47 47 w' w.heap.size (fun k_=>some k_ ≠ (v0_ : Value).ownBlock) v1_ r2 ∧ Below w.heap.size w w':=by
 have hu25:=Try.underlying25
 have hu47:=Try.underlying47
 have HR0_0:=a0_ hr0_0
 have HC0_0:=a0_ hc0_0
 clear hr0_0 hc0_0
 have HR1:=a0_ hr1
 have HC1:=a0_ hc1
 clear hr1 hc1
 have HB:=a0_ (Below.refl w.heap.size w)
 have H : (spec_split.l0 k l1 a2 (([] : List (S47))) (([] : List (S47))) 0 l0_0) = some (r1,r2):=h
 clear h
 obtain ⟨y2,hy2⟩ : ∃ y_ : List (S47),y_ = (([] : List (S47))):=⟨_,rfl⟩
 replace H : (spec_split.l0 k l1 a2 y2 (([] : List (S47))) 0 l0_0) = some (r1,r2):=by first | (rw [hy2];with_reducible exact H) | (have H2_:=(Option.bind_some _ _).symm.trans H;rw [hy2];with_reducible exact H2_) | (have H2_:=(Option.bind_some _ _).symm.trans H;with_reducible exact H2_) | with_reducible exact H | (rw [hy2];exact H) | exact H
 have Ny2:=a0_ hy2
 clear hy2
 obtain ⟨y5,hy5⟩ : ∃ y_ : List (S47),y_ = (([] : List (S47))):=⟨_,rfl⟩
 replace H : (spec_split.l0 k l1 a2 y2 y5 0 l0_0) = some (r1,r2):=by first | (rw [hy5];with_reducible exact H) | (have H2_:=(Option.bind_some _ _).symm.trans H;rw [hy5];with_reducible exact H2_) | (have H2_:=(Option.bind_some _ _).symm.trans H;with_reducible exact H2_) | with_reducible exact H | (rw [hy5];exact H) | exact H
 have Ny5:=a0_ hy5
 clear hy5
 have H':=a0_ H
 clear H
 go_enter Try.func49,Try.ntmps49
 go_wp2_with (first | ((with_reducible refine gate_dst (N:=3) rfl ?_);refine box_event ?hg (N:=3) ?hd (cs:=#[.slice A0_0 l0_0.length c0_0]) (t:=25) ?hr ?_;(case hd=>rfl);(case hg=>rfl);(case hr=>first | (go_simp;done) | (go_simp;rfl));intro gb1 hg w4 hbox hb;have BK1:=a0_ (hbox);have GW1:=a0_ ((by rw [hg];exact (below_size hb_) : w.heap.size ≤ gb1));have GE1:=a0_ ((by rw [hg];exact (below_size hb_) : w.heap.size ≤ gb1));replace HB:=a0_ (below_step hb_ hb);clear hb hbox hg) | ((with_reducible refine gate_dst (N:=11) rfl ?_);refine Kd.R_lit k47 _ 47 ?hg (N:=11) ?hd (xs:=([] : List (S47))) (inner:=[]) (ok:=fun _=>True) (okp:=fun _=>True) ?hr ?hp (fun _ hk=>hk) trivial (Below.refl _ _) (Nat.le_refl _) (by simp) ?_;(case hd=>rfl);(case hg=>rfl);(case hr=>first | (go_simp;done) | (go_simp;rfl));(case hp=>exact (Reps.none _ _));intro v3 w5 ho6 hb hg_ hnew_;clear hg_ hnew_;(first | rw [← Ny2.out] at ho6 | (simp only [Int.reduceToNat] at ho6;rw [← Ny2.out] at ho6));have HO4:=a0_ (Kd.R_lower ho6 (below_size hb_));replace BK1:=kb_ BK1 hb;replace HB:=a0_ (below_step hb_ hb);clear hb ho6) | ((with_reducible refine gate_dst (N:=12) rfl ?_);refine Kd.R_lit k47 _ 47 ?hg (N:=12) ?hd (xs:=([] : List (S47))) (inner:=[]) (ok:=fun _=>True) (okp:=fun _=>True) ?hr ?hp (fun _ hk=>hk) trivial (Below.refl _ _) (Nat.le_refl _) (by simp) ?_;(case hd=>rfl);(case hg=>rfl);(case hr=>first | (go_simp;done) | (go_simp;rfl));(case hp=>exact (Reps.none _ _));intro v6 w7 ho8 hb hg_ hnew_;clear hg_ hnew_;(first | rw [← Ny5.out] at ho8 | (simp only [Int.reduceToNat] at ho8;rw [← Ny5.out] at ho8));have n0_:=a0_ (Kd.R_elder' (rr_ HO4.out) (Kd.R_base ho8) hb);have n1_:=a0_ (Kd.R_lower (Kd.R_new' ho8 (Kd.R_lt (rr_ HO4.out))) (below_size hb_));have n2_:=kb_ BK1 hb;have n3_:=a0_ (below_step hb_ hb);clear HO4 BK1 HB;have HO4:=n0_;have HO7:=n1_;have BK1:=n2_;have HB:=n3_;clear n0_ n1_ n2_ n3_;clear hb ho8))
 go_loopg [8,9,10] k (fun kq v8 v9 v10 w'=>∃ (x8_1 : List (S47)) (x9_1 : List (S47)) (x10_1 : Int),v10 = .int .i64 x10_1 ∧ Aside0 (spec_split.l0 kq l1 a2 x8_1 x9_1 x10_1 l0_0 = some (r1,r2)) ∧ Aside0 (kq ≤ k) ∧ Aside0 (Kd.R k47 47 w' w.heap.size (fun k_=>some k_ ≠ (v9 : Value).ownBlock) v8 x8_1) ∧ Aside0 (Kd.R k47 47 w' w.heap.size (fun k_=>some k_ ≠ (v8 : Value).ownBlock) v9 x9_1) ∧ Aside0 (w'.heap[gb1]? = some (.cells #[(.slice A0_0 l0_0.length c0_0)] 25 (0,0))) ∧ Aside0 (Below w.heap.size w w'))
 case atStart=>exact ⟨(y2),(y5),(0),(by first | rfl | (simp;done) | (simp [*];done)),H',⟨Nat.le_refl _⟩,⟨by (with_reducible repeat (first | apply Kd.R_alloc | apply Kd.R_drewN | apply Kd.R_drew));exact Kd.R_mono HO4.out (fun _ hk=>hk.2)⟩,⟨by (with_reducible repeat (first | apply Kd.R_alloc | apply Kd.R_drewN | apply Kd.R_drew));exact Kd.R_mono HO7.out (fun _ hk=>hk.2)⟩,⟨by (with_reducible repeat (first | refine blk_drewN ?_ _ | refine blk_drew ?_ | refine blk_alloc ?_ _));exact BK1.out⟩,⟨hb_⟩⟩
 case round =>
  clear H'
  try clear c1
  try clear p2
  try clear c4
  obtain ⟨x8_1,x9_1,x10_1,rfl,HA,HK1,HO_8,HO_9,BK1,HB⟩:=hrel
  cases gk with
  | zero=>exact absurd HA.out (by simp [spec_split.l0])
  | succ k1 =>
   have H:=HA.out
   clear HA
   simp only [spec_split.l0] at H
   by_cases c9 : x10_1 < (l1.length : Int)
   ·rw [if_pos c9] at H
    have c9b0 : decide (x10_1 < (l1.length : Int)) = true:=decide_eq_true c9
    clear c9
    replace H:=Option.bind_eq_some_iff.mp H
    obtain ⟨t8,A100,H⟩:=H
    try dsimp only at H
    have A10:=a0_ A100
    clear A100
    by_cases c11 : t8 = true
    ·subst c11
     have H1 : (if 0 ≤ x10_1 then (if x8_1.length < 4398046511104 then ((some (x8_1 ++ [(⟨(rd_T47 l1 x10_1).f0,(rd_T47 l1 x10_1).f1,(rd_T47 l1 x10_1).f2,(rd_T47 l1 x10_1).f3⟩ : S47)] : List (S47))).bind fun y10=>((spec_keeps.f k1 l0_0 l1 x10_1 a2 false).bind fun t13=>(if t13 = true then (if x9_1.length < 4398046511104 then (spec_split.l0 k1 l1 a2 y10 (x9_1 ++ [(⟨(rd_T47 l1 x10_1).f0,(rd_T47 l1 x10_1).f1,(rd_T47 l1 x10_1).f2,(rd_T47 l1 x10_1).f3⟩ : S47)]) (wrap64 (x10_1 + 1)) l0_0) else (none)) else (spec_split.l0 k1 l1 a2 y10 x9_1 (wrap64 (x10_1 + 1)) l0_0)))) else (none)) else (none)) = some (r1,r2):=by rw [if_pos rfl] at H;exact H
     clear H
     have H:=H1
     clear H1
     by_cases c12 : 0 ≤ x10_1
     ·rw [if_pos c12] at H
      have c12b0 : decide (0 ≤ x10_1) = true:=decide_eq_true c12
      clear c12
      by_cases c13 : x8_1.length < 4398046511104
      ·rw [if_pos c13] at H
       have LMc13:=a0_ c13
       clear c13
       obtain ⟨y10,hy10⟩ : ∃ y_ : List (S47),y_ = (x8_1 ++ [(⟨(rd_T47 l1 x10_1).f0,(rd_T47 l1 x10_1).f1,(rd_T47 l1 x10_1).f2,(rd_T47 l1 x10_1).f3⟩ : S47)]):=⟨_,rfl⟩
       replace H : ((spec_keeps.f k1 l0_0 l1 x10_1 a2 false).bind fun t13=>(if t13 = true then (if x9_1.length < 4398046511104 then (spec_split.l0 k1 l1 a2 y10 (x9_1 ++ [(⟨(rd_T47 l1 x10_1).f0,(rd_T47 l1 x10_1).f1,(rd_T47 l1 x10_1).f2,(rd_T47 l1 x10_1).f3⟩ : S47)]) (wrap64 (x10_1 + 1)) l0_0) else (none)) else (spec_split.l0 k1 l1 a2 y10 x9_1 (wrap64 (x10_1 + 1)) l0_0))) = some (r1,r2):=by first | (rw [hy10];with_reducible exact H) | (have H2_:=(Option.bind_some _ _).symm.trans H;rw [hy10];with_reducible exact H2_) | (have H2_:=(Option.bind_some _ _).symm.trans H;with_reducible exact H2_) | with_reducible exact H | (rw [hy10];exact H) | exact H
       have Ny10:=a0_ hy10
       clear hy10
       replace H:=Option.bind_eq_some_iff.mp H
       obtain ⟨t13,A140,H⟩:=H
       try dsimp only at H
       have A14:=a0_ A140
       clear A140
       by_cases c15 : t13 = true
       ·subst c15
        have H1 : (if x9_1.length < 4398046511104 then (spec_split.l0 k1 l1 a2 y10 (x9_1 ++ [(⟨(rd_T47 l1 x10_1).f0,(rd_T47 l1 x10_1).f1,(rd_T47 l1 x10_1).f2,(rd_T47 l1 x10_1).f3⟩ : S47)]) (wrap64 (x10_1 + 1)) l0_0) else (none)) = some (r1,r2):=by rw [if_pos rfl] at H;exact H
        clear H
        have H:=H1
        clear H1
        by_cases c16 : x9_1.length < 4398046511104
        ·rw [if_pos c16] at H
         have LMc16:=a0_ c16
         clear c16
         obtain ⟨y15,hy15⟩ : ∃ y_ : List (S47),y_ = (x9_1 ++ [(⟨(rd_T47 l1 x10_1).f0,(rd_T47 l1 x10_1).f1,(rd_T47 l1 x10_1).f2,(rd_T47 l1 x10_1).f3⟩ : S47)]):=⟨_,rfl⟩
         replace H : (spec_split.l0 k1 l1 a2 y10 y15 (wrap64 (x10_1 + 1)) l0_0) = some (r1,r2):=by first | (rw [hy15];with_reducible exact H) | (have H2_:=(Option.bind_some _ _).symm.trans H;rw [hy15];with_reducible exact H2_) | (have H2_:=(Option.bind_some _ _).symm.trans H;with_reducible exact H2_) | with_reducible exact H | (rw [hy15];exact H) | exact H
         have Ny15:=a0_ hy15
         clear hy15
         have H':=a0_ H
         clear H
         have hcz17_0 : wr.cell? ⟨gb1,0,none⟩ = some (.slice A0_0 l0_0.length c0_0):=(blk_cell BK1.out 0).trans rfl
         have hfz17_0:=blk_frozen BK1.out 0
         go_wp2_with (first | ((with_reducible refine gate_callee (f:=75) rfl ?_);refine goesL_ (some 23) rfl rfl Try.func75 (by kernel_rfl) rfl #[.agg #[.slice A0_0 l0_0.length c0_0],.slice A1 l1.length c1,.int .i64 x10_1,.int .i64 a2,.bool true] rfl lm_ ?_;(with_reducible refine (spec_keeps.calls k1 _ _ l0_0 _ _ l1 x10_1 a2 true true _ ?side1 ?side2 ?side3 ?side4 A10.out).mono ?_);(case side1=>exact cc_ (Kd.C_below HR0_0.out HB.out));(case side2=>exact HC0_0.out);(case side3=>exact cc_ (Kd.C_below HR1.out HB.out));(case side4=>exact HC1.out);rintro e w18 ⟨rfl,hb⟩;refine ⟨_,rfl,?_⟩;replace HO_8:=rb_ HO_8 hb;replace HO_9:=rb_ HO_9 hb;replace BK1:=kb_ BK1 hb;replace HB:=a0_ (below_step hb_ hb);(try clear hb);have p9 : 0 ≤ (x10_1 : Int):=of_decide_eq_true (by first | (with_reducible assumption) | assumption);have q9 : x10_1 < (l1.length : Int):=of_decide_eq_true (by first | (with_reducible assumption) | assumption);obtain ⟨ad9,e9,hx9_0,hx9_1,hx9_2,hx9_3⟩:=at_T47 HR1.out x10_1 p9 q9;cases e9;replace hx9_0:=(HB.out.cell (World.block_lt_of_cell? w _ hx9_0)).trans hx9_0;replace hx9_1:=(HB.out.cell (World.block_lt_of_cell? w _ hx9_1)).trans hx9_1;replace hx9_2:=(HB.out.cell (World.block_lt_of_cell? w _ hx9_2)).trans hx9_2;replace hx9_3:=(HB.out.cell (World.block_lt_of_cell? w _ hx9_3)).trans hx9_3;replace p9:=eq_true p9;replace q9:=eq_true q9) | ((with_reducible refine gate_builtin (b:=.append) (xs:=#[.tmp 24,.tmp 29]) rfl ?_);at_builtin;refine Kd.R_append k47 (w0:=w) w.heap.size rfl (.tmp 24) (.tmp 29) 26 47 (.agg #[(.int .i64 0),(.bool false),(.int .i64 0),(.int .i64 0)]) 32 rfl Try.underlying26 info47 rfl (by decide) (by omega) u8 x8_1 (⟨(rd_T47 l1 x10_1).f0,(rd_T47 l1 x10_1).f1,(rd_T47 l1 x10_1).f2,(rd_T47 l1 x10_1).f3⟩ : S47) [.int .i64 ((rd_T47 l1 x10_1).f0),.bool ((rd_T47 l1 x10_1).f1),.int .i64 ((rd_T47 l1 x10_1).f2),.int .i64 ((rd_T47 l1 x10_1).f3)] (fun k_=>some k_ ≠ (u9 : Value).ownBlock) (fun _=>False) rfl rfl ?aP (fun _ hk=>hk.elim) ?aF ?aO ?aB ?aS ?aL ?_;(case aP=>exact k47_mkM _ _ _ (⟨(rd_T47 l1 x10_1).f0,(rd_T47 l1 x10_1).f1,(rd_T47 l1 x10_1).f2,(rd_T47 l1 x10_1).f3⟩ : S47));(case aB=>exact hb_);(case aF=>exact (fun k_ hk=>Kd.fresh' (Kd.R_lt (rr_ HO_9.out)) k_ hk));(case aO=>exact (rr_ HO_8.out));(case aS=>exact (below_size hb_));(case aL=>have:=LMc13.out;omega);intro v11 w19 ho hb hg hat;rw [← Ny10.out] at ho;replace HO_9:=a0_ (Kd.R_after (ok:=(fun _=>True)) (rm_ HO_9.out (fun _ hk=>⟨trivial,hk⟩)) hg hat);replace BK1:=a0_ (blk_grown (bb_ BK1.out) hg (Kd.R_ne HO_8.out BK1.out (by decide)));have HO12:=a0_ (ho);replace HB:=a0_ (hb);clear HO_8;clear ho hb hg hat;have hcz20_0 : w19.cell? ⟨gb1,0,none⟩ = some (.slice A0_0 l0_0.length c0_0):=(blk_cell BK1.out 0).trans rfl;have hfz20_0:=blk_frozen BK1.out 0) | ((with_reducible refine gate_callee (f:=75) rfl ?_);refine goesL_ (some 35) rfl rfl Try.func75 (by kernel_rfl) rfl #[.agg #[.slice A0_0 l0_0.length c0_0],.slice (some ad9) l1.length c1,.int .i64 x10_1,.int .i64 a2,.bool false] rfl lm_ ?_;(with_reducible refine (spec_keeps.calls k1 _ _ l0_0 _ _ l1 x10_1 a2 false true _ ?side1 ?side2 ?side3 ?side4 A14.out).mono ?_);(case side1=>exact cc_ (Kd.C_below HR0_0.out HB.out));(case side2=>exact HC0_0.out);(case side3=>exact cc_ (Kd.C_below HR1.out HB.out));(case side4=>exact HC1.out);rintro e w21 ⟨rfl,hb⟩;refine ⟨_,rfl,?_⟩;replace HO_9:=rb_ HO_9 hb;replace HO12:=rb_ HO12 hb;replace BK1:=kb_ BK1 hb;replace HB:=a0_ (below_step hb_ hb);(try clear hb);have p14 : 0 ≤ (x10_1 : Int):=of_decide_eq_true (by first | (with_reducible assumption) | assumption);have q14 : x10_1 < (l1.length : Int):=of_decide_eq_true (by first | (with_reducible assumption) | assumption);obtain ⟨ad14,e14,hx14_0,hx14_1,hx14_2,hx14_3⟩:=at_T47 HR1.out x10_1 p14 q14;obtain rfl : ad9 = ad14:=(by injection e14);replace hx14_0:=(HB.out.cell (World.block_lt_of_cell? w _ hx14_0)).trans hx14_0;replace hx14_1:=(HB.out.cell (World.block_lt_of_cell? w _ hx14_1)).trans hx14_1;replace hx14_2:=(HB.out.cell (World.block_lt_of_cell? w _ hx14_2)).trans hx14_2;replace hx14_3:=(HB.out.cell (World.block_lt_of_cell? w _ hx14_3)).trans hx14_3;replace p14:=eq_true p14;replace q14:=eq_true q14) | ((with_reducible refine gate_builtin (b:=.append) (xs:=#[.tmp 36,.tmp 41]) rfl ?_);at_builtin;refine Kd.R_append k47 (w0:=w) w.heap.size rfl (.tmp 36) (.tmp 41) 26 47 (.agg #[(.int .i64 0),(.bool false),(.int .i64 0),(.int .i64 0)]) 32 rfl Try.underlying26 info47 rfl (by decide) (by omega) u9 x9_1 (⟨(rd_T47 l1 x10_1).f0,(rd_T47 l1 x10_1).f1,(rd_T47 l1 x10_1).f2,(rd_T47 l1 x10_1).f3⟩ : S47) [.int .i64 ((rd_T47 l1 x10_1).f0),.bool ((rd_T47 l1 x10_1).f1),.int .i64 ((rd_T47 l1 x10_1).f2),.int .i64 ((rd_T47 l1 x10_1).f3)] (fun k_=>some k_ ≠ (v11 : Value).ownBlock) (fun _=>False) rfl rfl ?aP (fun _ hk=>hk.elim) ?aF ?aO ?aB ?aS ?aL ?_;(case aP=>exact k47_mkM _ _ _ (⟨(rd_T47 l1 x10_1).f0,(rd_T47 l1 x10_1).f1,(rd_T47 l1 x10_1).f2,(rd_T47 l1 x10_1).f3⟩ : S47));(case aB=>exact hb_);(case aF=>exact (fun k_ hk=>Kd.fresh' (Kd.R_lt (rr_ HO12.out)) k_ hk));(case aO=>exact (rm_ HO_9.out (fun _ hk=>hk.2)));(case aS=>exact (below_size hb_));(case aL=>have:=LMc16.out;omega);intro v16 w22 ho hb hg hat;rw [← Ny15.out] at ho;replace BK1:=a0_ (blk_grown (bb_ BK1.out) hg (Kd.R_ne HO_9.out BK1.out (by decide)));replace HO12:=a0_ (Kd.R_after (ok:=(fun _=>True)) (rm_ HO12.out (fun _ hk=>⟨trivial,hk⟩)) hg hat);have HO17:=a0_ (ho);replace HB:=a0_ (hb);clear HO_9;clear ho hb hg hat))
         go_roundg k1
         case measure=>have:=HK1.out;omega
         case rel=>exact ⟨(y10),(y15),(wrap64 (x10_1 + 1)),(by first | rfl | (simp;done) | (simp [*];done)),H',⟨by have:=HK1.out;omega⟩,⟨by (with_reducible repeat (first | apply Kd.R_alloc | apply Kd.R_drewN | apply Kd.R_drew));exact Kd.R_mono HO12.out (fun _ hk=>hk.2)⟩,⟨by (with_reducible repeat (first | apply Kd.R_alloc | apply Kd.R_drewN | apply Kd.R_drew));exact HO17.out⟩,⟨by (with_reducible repeat (first | refine blk_drewN ?_ _ | refine blk_drew ?_ | refine blk_alloc ?_ _));exact BK1.out⟩,⟨hb_⟩⟩
        ·rw [if_neg c16] at H
         exact absurd H (by simp)
       ·replace c15:=Bool.eq_false_iff.mpr c15
        subst c15
        have H1 : (spec_split.l0 k1 l1 a2 y10 x9_1 (wrap64 (x10_1 + 1)) l0_0) = some (r1,r2):=by rw [if_neg (show ¬ (false = true) by decide)] at H;exact H
        clear H
        have H:=H1
        clear H1
        have H':=a0_ H
        clear H
        have hcz23_0 : wr.cell? ⟨gb1,0,none⟩ = some (.slice A0_0 l0_0.length c0_0):=(blk_cell BK1.out 0).trans rfl
        have hfz23_0:=blk_frozen BK1.out 0
        go_wp2_with (first | ((with_reducible refine gate_callee (f:=75) rfl ?_);refine goesL_ (some 23) rfl rfl Try.func75 (by kernel_rfl) rfl #[.agg #[.slice A0_0 l0_0.length c0_0],.slice A1 l1.length c1,.int .i64 x10_1,.int .i64 a2,.bool true] rfl lm_ ?_;(with_reducible refine (spec_keeps.calls k1 _ _ l0_0 _ _ l1 x10_1 a2 true true _ ?side1 ?side2 ?side3 ?side4 A10.out).mono ?_);(case side1=>exact cc_ (Kd.C_below HR0_0.out HB.out));(case side2=>exact HC0_0.out);(case side3=>exact cc_ (Kd.C_below HR1.out HB.out));(case side4=>exact HC1.out);rintro e w24 ⟨rfl,hb⟩;refine ⟨_,rfl,?_⟩;replace HO_8:=rb_ HO_8 hb;replace HO_9:=rb_ HO_9 hb;replace BK1:=kb_ BK1 hb;replace HB:=a0_ (below_step hb_ hb);(try clear hb);have p9 : 0 ≤ (x10_1 : Int):=of_decide_eq_true (by first | (with_reducible assumption) | assumption);have q9 : x10_1 < (l1.length : Int):=of_decide_eq_true (by first | (with_reducible assumption) | assumption);obtain ⟨ad9,e9,hx9_0,hx9_1,hx9_2,hx9_3⟩:=at_T47 HR1.out x10_1 p9 q9;cases e9;replace hx9_0:=(HB.out.cell (World.block_lt_of_cell? w _ hx9_0)).trans hx9_0;replace hx9_1:=(HB.out.cell (World.block_lt_of_cell? w _ hx9_1)).trans hx9_1;replace hx9_2:=(HB.out.cell (World.block_lt_of_cell? w _ hx9_2)).trans hx9_2;replace hx9_3:=(HB.out.cell (World.block_lt_of_cell? w _ hx9_3)).trans hx9_3;replace p9:=eq_true p9;replace q9:=eq_true q9) | ((with_reducible refine gate_builtin (b:=.append) (xs:=#[.tmp 24,.tmp 29]) rfl ?_);at_builtin;refine Kd.R_append k47 (w0:=w) w.heap.size rfl (.tmp 24) (.tmp 29) 26 47 (.agg #[(.int .i64 0),(.bool false),(.int .i64 0),(.int .i64 0)]) 32 rfl Try.underlying26 info47 rfl (by decide) (by omega) u8 x8_1 (⟨(rd_T47 l1 x10_1).f0,(rd_T47 l1 x10_1).f1,(rd_T47 l1 x10_1).f2,(rd_T47 l1 x10_1).f3⟩ : S47) [.int .i64 ((rd_T47 l1 x10_1).f0),.bool ((rd_T47 l1 x10_1).f1),.int .i64 ((rd_T47 l1 x10_1).f2),.int .i64 ((rd_T47 l1 x10_1).f3)] (fun k_=>some k_ ≠ (u9 : Value).ownBlock) (fun _=>False) rfl rfl ?aP (fun _ hk=>hk.elim) ?aF ?aO ?aB ?aS ?aL ?_;(case aP=>exact k47_mkM _ _ _ (⟨(rd_T47 l1 x10_1).f0,(rd_T47 l1 x10_1).f1,(rd_T47 l1 x10_1).f2,(rd_T47 l1 x10_1).f3⟩ : S47));(case aB=>exact hb_);(case aF=>exact (fun k_ hk=>Kd.fresh' (Kd.R_lt (rr_ HO_9.out)) k_ hk));(case aO=>exact (rr_ HO_8.out));(case aS=>exact (below_size hb_));(case aL=>have:=LMc13.out;omega);intro v11 w25 ho hb hg hat;rw [← Ny10.out] at ho;replace HO_9:=a0_ (Kd.R_after (ok:=(fun _=>True)) (rm_ HO_9.out (fun _ hk=>⟨trivial,hk⟩)) hg hat);replace BK1:=a0_ (blk_grown (bb_ BK1.out) hg (Kd.R_ne HO_8.out BK1.out (by decide)));have HO12:=a0_ (ho);replace HB:=a0_ (hb);clear HO_8;clear ho hb hg hat;have hcz26_0 : w25.cell? ⟨gb1,0,none⟩ = some (.slice A0_0 l0_0.length c0_0):=(blk_cell BK1.out 0).trans rfl;have hfz26_0:=blk_frozen BK1.out 0) | ((with_reducible refine gate_callee (f:=75) rfl ?_);refine goesL_ (some 35) rfl rfl Try.func75 (by kernel_rfl) rfl #[.agg #[.slice A0_0 l0_0.length c0_0],.slice (some ad9) l1.length c1,.int .i64 x10_1,.int .i64 a2,.bool false] rfl lm_ ?_;(with_reducible refine (spec_keeps.calls k1 _ _ l0_0 _ _ l1 x10_1 a2 false false _ ?side1 ?side2 ?side3 ?side4 A14.out).mono ?_);(case side1=>exact cc_ (Kd.C_below HR0_0.out HB.out));(case side2=>exact HC0_0.out);(case side3=>exact cc_ (Kd.C_below HR1.out HB.out));(case side4=>exact HC1.out);rintro e w27 ⟨rfl,hb⟩;refine ⟨_,rfl,?_⟩;replace HO_9:=rb_ HO_9 hb;replace HO12:=rb_ HO12 hb;replace BK1:=kb_ BK1 hb;replace HB:=a0_ (below_step hb_ hb);(try clear hb);(try clear hb2);(try clear hk);(try clear hi)))
        go_roundg k1
        case measure=>have:=HK1.out;omega
        case rel=>exact ⟨(y10),(x9_1),(wrap64 (x10_1 + 1)),(by first | rfl | (simp;done) | (simp [*];done)),H',⟨by have:=HK1.out;omega⟩,⟨by (with_reducible repeat (first | apply Kd.R_alloc | apply Kd.R_drewN | apply Kd.R_drew));exact HO12.out⟩,⟨by (with_reducible repeat (first | apply Kd.R_alloc | apply Kd.R_drewN | apply Kd.R_drew));exact Kd.R_mono HO_9.out (fun _ hk=>hk.2)⟩,⟨by (with_reducible repeat (first | refine blk_drewN ?_ _ | refine blk_drew ?_ | refine blk_alloc ?_ _));exact BK1.out⟩,⟨hb_⟩⟩
      ·rw [if_neg c13] at H
       exact absurd H (by simp)
     ·rw [if_neg c12] at H
      exact absurd H (by simp)
    ·replace c11:=Bool.eq_false_iff.mpr c11
     subst c11
     have H1 : ((spec_keeps.f k1 l0_0 l1 x10_1 a2 false).bind fun t18=>(if t18 = true then (if 0 ≤ x10_1 then (if x9_1.length < 4398046511104 then (spec_split.l0 k1 l1 a2 x8_1 (x9_1 ++ [(⟨(rd_T47 l1 x10_1).f0,(rd_T47 l1 x10_1).f1,(rd_T47 l1 x10_1).f2,(rd_T47 l1 x10_1).f3⟩ : S47)]) (wrap64 (x10_1 + 1)) l0_0) else (none)) else (none)) else (spec_split.l0 k1 l1 a2 x8_1 x9_1 (wrap64 (x10_1 + 1)) l0_0))) = some (r1,r2):=by rw [if_neg (show ¬ (false = true) by decide)] at H;exact H
     clear H
     have H:=H1
     clear H1
     replace H:=Option.bind_eq_some_iff.mp H
     obtain ⟨t18,A280,H⟩:=H
     try dsimp only at H
     have A28:=a0_ A280
     clear A280
     by_cases c29 : t18 = true
     ·subst c29
      have H1 : (if 0 ≤ x10_1 then (if x9_1.length < 4398046511104 then (spec_split.l0 k1 l1 a2 x8_1 (x9_1 ++ [(⟨(rd_T47 l1 x10_1).f0,(rd_T47 l1 x10_1).f1,(rd_T47 l1 x10_1).f2,(rd_T47 l1 x10_1).f3⟩ : S47)]) (wrap64 (x10_1 + 1)) l0_0) else (none)) else (none)) = some (r1,r2):=by rw [if_pos rfl] at H;exact H
      clear H
      have H:=H1
      clear H1
      by_cases c30 : 0 ≤ x10_1
      ·rw [if_pos c30] at H
       have c30b0 : decide (0 ≤ x10_1) = true:=decide_eq_true c30
       clear c30
       by_cases c31 : x9_1.length < 4398046511104
       ·rw [if_pos c31] at H
        have LMc31:=a0_ c31
        clear c31
        obtain ⟨y20,hy20⟩ : ∃ y_ : List (S47),y_ = (x9_1 ++ [(⟨(rd_T47 l1 x10_1).f0,(rd_T47 l1 x10_1).f1,(rd_T47 l1 x10_1).f2,(rd_T47 l1 x10_1).f3⟩ : S47)]):=⟨_,rfl⟩
        replace H : (spec_split.l0 k1 l1 a2 x8_1 y20 (wrap64 (x10_1 + 1)) l0_0) = some (r1,r2):=by first | (rw [hy20];with_reducible exact H) | (have H2_:=(Option.bind_some _ _).symm.trans H;rw [hy20];with_reducible exact H2_) | (have H2_:=(Option.bind_some _ _).symm.trans H;with_reducible exact H2_) | with_reducible exact H | (rw [hy20];exact H) | exact H
        have Ny20:=a0_ hy20
        clear hy20
        have H':=a0_ H
        clear H
        have hcz32_0 : wr.cell? ⟨gb1,0,none⟩ = some (.slice A0_0 l0_0.length c0_0):=(blk_cell BK1.out 0).trans rfl
        have hfz32_0:=blk_frozen BK1.out 0
        go_wp2_with (first | ((with_reducible refine gate_callee (f:=75) rfl ?_);refine goesL_ (some 23) rfl rfl Try.func75 (by kernel_rfl) rfl #[.agg #[.slice A0_0 l0_0.length c0_0],.slice A1 l1.length c1,.int .i64 x10_1,.int .i64 a2,.bool true] rfl lm_ ?_;(with_reducible refine (spec_keeps.calls k1 _ _ l0_0 _ _ l1 x10_1 a2 true false _ ?side1 ?side2 ?side3 ?side4 A10.out).mono ?_);(case side1=>exact cc_ (Kd.C_below HR0_0.out HB.out));(case side2=>exact HC0_0.out);(case side3=>exact cc_ (Kd.C_below HR1.out HB.out));(case side4=>exact HC1.out);rintro e w33 ⟨rfl,hb⟩;refine ⟨_,rfl,?_⟩;replace HO_8:=rb_ HO_8 hb;replace HO_9:=rb_ HO_9 hb;replace BK1:=kb_ BK1 hb;replace HB:=a0_ (below_step hb_ hb);(try clear hb);have hcz34_0 : w33.cell? ⟨gb1,0,none⟩ = some (.slice A0_0 l0_0.length c0_0):=(blk_cell BK1.out 0).trans rfl;have hfz34_0:=blk_frozen BK1.out 0) | ((with_reducible refine gate_callee (f:=75) rfl ?_);refine goesL_ (some 35) rfl rfl Try.func75 (by kernel_rfl) rfl #[.agg #[.slice A0_0 l0_0.length c0_0],.slice A1 l1.length c1,.int .i64 x10_1,.int .i64 a2,.bool false] rfl lm_ ?_;(with_reducible refine (spec_keeps.calls k1 _ _ l0_0 _ _ l1 x10_1 a2 false true _ ?side1 ?side2 ?side3 ?side4 A28.out).mono ?_);(case side1=>exact cc_ (Kd.C_below HR0_0.out HB.out));(case side2=>exact HC0_0.out);(case side3=>exact cc_ (Kd.C_below HR1.out HB.out));(case side4=>exact HC1.out);rintro e w35 ⟨rfl,hb⟩;refine ⟨_,rfl,?_⟩;replace HO_8:=rb_ HO_8 hb;replace HO_9:=rb_ HO_9 hb;replace BK1:=kb_ BK1 hb;replace HB:=a0_ (below_step hb_ hb);(try clear hb);have p19 : 0 ≤ (x10_1 : Int):=of_decide_eq_true (by first | (with_reducible assumption) | assumption);have q19 : x10_1 < (l1.length : Int):=of_decide_eq_true (by first | (with_reducible assumption) | assumption);obtain ⟨ad19,e19,hx19_0,hx19_1,hx19_2,hx19_3⟩:=at_T47 HR1.out x10_1 p19 q19;cases e19;replace hx19_0:=(HB.out.cell (World.block_lt_of_cell? w _ hx19_0)).trans hx19_0;replace hx19_1:=(HB.out.cell (World.block_lt_of_cell? w _ hx19_1)).trans hx19_1;replace hx19_2:=(HB.out.cell (World.block_lt_of_cell? w _ hx19_2)).trans hx19_2;replace hx19_3:=(HB.out.cell (World.block_lt_of_cell? w _ hx19_3)).trans hx19_3;replace p19:=eq_true p19;replace q19:=eq_true q19) | ((with_reducible refine gate_builtin (b:=.append) (xs:=#[.tmp 36,.tmp 41]) rfl ?_);at_builtin;refine Kd.R_append k47 (w0:=w) w.heap.size rfl (.tmp 36) (.tmp 41) 26 47 (.agg #[(.int .i64 0),(.bool false),(.int .i64 0),(.int .i64 0)]) 32 rfl Try.underlying26 info47 rfl (by decide) (by omega) u9 x9_1 (⟨(rd_T47 l1 x10_1).f0,(rd_T47 l1 x10_1).f1,(rd_T47 l1 x10_1).f2,(rd_T47 l1 x10_1).f3⟩ : S47) [.int .i64 ((rd_T47 l1 x10_1).f0),.bool ((rd_T47 l1 x10_1).f1),.int .i64 ((rd_T47 l1 x10_1).f2),.int .i64 ((rd_T47 l1 x10_1).f3)] (fun k_=>some k_ ≠ (u8 : Value).ownBlock) (fun _=>False) rfl rfl ?aP (fun _ hk=>hk.elim) ?aF ?aO ?aB ?aS ?aL ?_;(case aP=>exact k47_mkM _ _ _ (⟨(rd_T47 l1 x10_1).f0,(rd_T47 l1 x10_1).f1,(rd_T47 l1 x10_1).f2,(rd_T47 l1 x10_1).f3⟩ : S47));(case aB=>exact hb_);(case aF=>exact (fun k_ hk=>Kd.fresh' (Kd.R_lt (rr_ HO_8.out)) k_ hk));(case aO=>exact (rr_ HO_9.out));(case aS=>exact (below_size hb_));(case aL=>have:=LMc31.out;omega);intro v21 w36 ho hb hg hat;rw [← Ny20.out] at ho;replace HO_8:=a0_ (Kd.R_after (ok:=(fun _=>True)) (rm_ HO_8.out (fun _ hk=>⟨trivial,hk⟩)) hg hat);replace BK1:=a0_ (blk_grown (bb_ BK1.out) hg (Kd.R_ne HO_9.out BK1.out (by decide)));have HO22:=a0_ (ho);replace HB:=a0_ (hb);clear HO_9;clear ho hb hg hat))
        go_roundg k1
        case measure=>have:=HK1.out;omega
        case rel=>exact ⟨(x8_1),(y20),(wrap64 (x10_1 + 1)),(by first | rfl | (simp;done) | (simp [*];done)),H',⟨by have:=HK1.out;omega⟩,⟨by (with_reducible repeat (first | apply Kd.R_alloc | apply Kd.R_drewN | apply Kd.R_drew));exact Kd.R_mono HO_8.out (fun _ hk=>hk.2)⟩,⟨by (with_reducible repeat (first | apply Kd.R_alloc | apply Kd.R_drewN | apply Kd.R_drew));exact HO22.out⟩,⟨by (with_reducible repeat (first | refine blk_drewN ?_ _ | refine blk_drew ?_ | refine blk_alloc ?_ _));exact BK1.out⟩,⟨hb_⟩⟩
       ·rw [if_neg c31] at H
        exact absurd H (by simp)
      ·rw [if_neg c30] at H
       exact absurd H (by simp)
     ·replace c29:=Bool.eq_false_iff.mpr c29
      subst c29
      have H1 : (spec_split.l0 k1 l1 a2 x8_1 x9_1 (wrap64 (x10_1 + 1)) l0_0) = some (r1,r2):=by rw [if_neg (show ¬ (false = true) by decide)] at H;exact H
      clear H
      have H:=H1
      clear H1
      have H':=a0_ H
      clear H
      have hcz37_0 : wr.cell? ⟨gb1,0,none⟩ = some (.slice A0_0 l0_0.length c0_0):=(blk_cell BK1.out 0).trans rfl
      have hfz37_0:=blk_frozen BK1.out 0
      go_wp2_with (first | ((with_reducible refine gate_callee (f:=75) rfl ?_);refine goesL_ (some 23) rfl rfl Try.func75 (by kernel_rfl) rfl #[.agg #[.slice A0_0 l0_0.length c0_0],.slice A1 l1.length c1,.int .i64 x10_1,.int .i64 a2,.bool true] rfl lm_ ?_;(with_reducible refine (spec_keeps.calls k1 _ _ l0_0 _ _ l1 x10_1 a2 true false _ ?side1 ?side2 ?side3 ?side4 A10.out).mono ?_);(case side1=>exact cc_ (Kd.C_below HR0_0.out HB.out));(case side2=>exact HC0_0.out);(case side3=>exact cc_ (Kd.C_below HR1.out HB.out));(case side4=>exact HC1.out);rintro e w38 ⟨rfl,hb⟩;refine ⟨_,rfl,?_⟩;replace HO_8:=rb_ HO_8 hb;replace HO_9:=rb_ HO_9 hb;replace BK1:=kb_ BK1 hb;replace HB:=a0_ (below_step hb_ hb);(try clear hb);have hcz39_0 : w38.cell? ⟨gb1,0,none⟩ = some (.slice A0_0 l0_0.length c0_0):=(blk_cell BK1.out 0).trans rfl;have hfz39_0:=blk_frozen BK1.out 0) | ((with_reducible refine gate_callee (f:=75) rfl ?_);refine goesL_ (some 35) rfl rfl Try.func75 (by kernel_rfl) rfl #[.agg #[.slice A0_0 l0_0.length c0_0],.slice A1 l1.length c1,.int .i64 x10_1,.int .i64 a2,.bool false] rfl lm_ ?_;(with_reducible refine (spec_keeps.calls k1 _ _ l0_0 _ _ l1 x10_1 a2 false false _ ?side1 ?side2 ?side3 ?side4 A28.out).mono ?_);(case side1=>exact cc_ (Kd.C_below HR0_0.out HB.out));(case side2=>exact HC0_0.out);(case side3=>exact cc_ (Kd.C_below HR1.out HB.out));(case side4=>exact HC1.out);rintro e w40 ⟨rfl,hb⟩;refine ⟨_,rfl,?_⟩;replace HO_8:=rb_ HO_8 hb;replace HO_9:=rb_ HO_9 hb;replace BK1:=kb_ BK1 hb;replace HB:=a0_ (below_step hb_ hb);(try clear hb);(try clear hb2);(try clear hk);(try clear hi)))
      go_roundg k1
      case measure=>have:=HK1.out;omega
      case rel=>exact ⟨(x8_1),(x9_1),(wrap64 (x10_1 + 1)),(by first | rfl | (simp;done) | (simp [*];done)),H',⟨by have:=HK1.out;omega⟩,⟨by (with_reducible repeat (first | apply Kd.R_alloc | apply Kd.R_drewN | apply Kd.R_drew));exact HO_8.out⟩,⟨by (with_reducible repeat (first | apply Kd.R_alloc | apply Kd.R_drewN | apply Kd.R_drew));exact HO_9.out⟩,⟨by (with_reducible repeat (first | refine blk_drewN ?_ _ | refine blk_drew ?_ | refine blk_alloc ?_ _));exact BK1.out⟩,⟨hb_⟩⟩
   ·rw [if_neg c9] at H
    have c9b0 : decide (x10_1 < (l1.length : Int)) = false:=decide_eq_false c9
    clear c9
    simp only [Option.some.injEq,Prod.mk.injEq] at H
    obtain ⟨rfl,rfl⟩:=H
    go_wp2
    go_ret2
    exact ⟨_,_,by first | rfl | (simp [errW_none,errW_some] <;> rfl) | (simp [*,errW_none,errW_some] <;> rfl),by (with_reducible repeat (first | apply Kd.R_alloc | apply Kd.R_drewN | apply Kd.R_drew));exact HO_8.out,by (with_reducible repeat (first | apply Kd.R_alloc | apply Kd.R_drewN | apply Kd.R_drew));exact HO_9.out,hb_⟩
theorem spec_split_ev {t : List Cls} (h : vT t = true) (g : List Prt) (hg : lfOk t g) (hl : g.length ≤ 1048576) (a : Int) : Ev (fun k=>spec_split.f k t g a) (selN t g a true g.length,selN t g a false g.length):=by
 have key : ∀ d i,i + d = g.length → Ev (fun k=>spec_split.l0 k g a (selN t g a true i) (selN t g a false i) (i : Int) t) (selN t g a true g.length,selN t g a false g.length):=by
  intro d
  induction d with
  | zero =>
   intro i hi
   obtain rfl : i = g.length:=by omega
   refine Ev.succ ?_
   simp only [spec_split.l0]
   exact Ev.neg (by omega) (Ev.const rfl)
  | succ d ih =>
   intro i hi
   have hlt : i < g.length:=by omega
   have hrd : rd_T47 g (i : Int) = g.getD i z47:=by simp [rd_T47]
   have hn:=ih (i + 1) (by omega)
   rw [selN_succ t g a true i,selN_succ t g a false i] at hn
   have l1:=selN_len t g a true i
   have l2:=selN_len t g a false i
   refine Ev.succ ?_
   simp only [spec_split.l0,hrd]
   rw [wrap_succ (i:=(i : Int)) (n:=g.length) (by omega) (by omega) (by omega)]
   have k1:=spec_keeps_ev h g hg (by omega) i hlt a true
   have k2:=spec_keeps_ev h g hg (by omega) i hlt a false
   refine Ev.pos (by omega) (Ev.bind k1 ?_)
   cases h1 : keepsB t g i a true with
   | true =>
    rw [h1,if_pos rfl] at hn
    refine Ev.pos rfl (Ev.pos (by omega) (Ev.pos (by omega) (Ev.bind (Ev.const rfl) (Ev.bind k2 ?_))))
    cases h2 : keepsB t g i a false with
    | true =>
     rw [h2,if_pos rfl] at hn
     exact Ev.pos rfl (Ev.pos (by omega) hn)
    | false =>
     rw [h2,if_neg (by simp),List.append_nil] at hn
     exact Ev.neg (by simp) hn
   | false =>
    rw [h1,if_neg (by simp),List.append_nil] at hn
    refine Ev.neg (by simp) (Ev.bind k2 ?_)
    cases h2 : keepsB t g i a false with
    | true =>
     rw [h2,if_pos rfl] at hn
     exact Ev.pos rfl (Ev.pos (by omega) (Ev.pos (by omega) hn))
    | false =>
     rw [h2,if_neg (by simp),List.append_nil] at hn
     exact Ev.neg (by simp) hn
 exact key g.length 0 (by omega)
end Go.Proofs.Ytfphcdbnnienhaa.P
namespace Go.Proofs.Ytfphcdbnnienhaa.P
open Go.RowKit Go.Proofs.YtfphcdbnnienhaaW.PrintWords Go.Proofs.YtfphcdbnnienhaaW.PrintLast Go.Proofs.YtfphcdbnnienhaaW.PrintMore
attribute [local go_sem] max2_int min2_int max_two min_two max_three min_three max_four min_four
set_option linter.unusedVariables false
set_option linter.unusedSimpArgs false
def spec_SplitGroup.f (k : Nat) (l0_0 : List (S85)) (l1 : List (S47)) (a2 : Int) : Option ((List (S47)) × (List (S47))):=(spec_validGroup.f l0_0 l1).bind fun t2=>(if t2 = true then ((spec_hasClass.f l0_0 a2).bind fun t3=>(if t3 = true then ((spec_split.f k l0_0 l1 a2).bind fun bt4=>(some (bt4.1,bt4.2))) else (some (([] : List (S47)),([] : List (S47)))))) else (some (([] : List (S47)),([] : List (S47)))))
theorem spec_SplitGroup.mono : ∀ a0 a1 a2 k,LeO (spec_SplitGroup.f k a0 a1 a2) (spec_SplitGroup.f (k + 1) a0 a1 a2):=by
 intro a0 a1 a2 k
 unfold spec_SplitGroup.f
 repeat' first
   | (with_reducible exact spec_split.mono _ _ _ _)
   | (with_reducible exact LeO.refl _)
   | (with_reducible exact LeO.none _)
   | (with_reducible refine LeO.ite ?_ ?_)
   | (with_reducible refine LeO.bind ?_ (fun _=>?_))
   | exact spec_split.mono _ _ _ _
   | exact LeO.none _
   | refine LeO.ite ?_ ?_
   | refine LeO.bind ?_ (fun _=>?_)
set_option maxHeartbeats 8000000 in
set_option maxRecDepth 100000 in
theorem spec_SplitGroup.calls (k : Nat) (A0_0 : Option Addr) (c0_0 : Nat) (l0_0 : List (S85)) (A1 : Option Addr) (c1 : Nat) (l1 : List (S47)) (a2 : Int) (r1 : List (S47)) (r2 : List (S47)) (w : World) (hr0_0 : Kd.C k85 w A0_0 l0_0.length l0_0) (hc0_0 : l0_0.length ≤ c0_0) (hr1 : Kd.C k47 w A1 l1.length l1) (hc1 : l1.length ≤ c1) (h : spec_SplitGroup.f k l0_0 l1 a2 = some (r1,r2)) :
  Calls Try.prog 26 #[.agg #[.slice A0_0 l0_0.length c0_0],.slice A1 l1.length c1,.int .i64 a2] w fun e w'=>∃ v0_ v1_ : Value,e = .returned (.tuple #[v0_,v1_]) ∧ Kd.R k47 47 w' w.heap.size (fun k_=>some k_ ≠ (v1_ : Value).ownBlock) v0_ r1 ∧ Kd.R k47 47 w' w.heap.size (fun k_=>some k_ ≠ (v0_ : Value).ownBlock) v1_ r2 ∧ Below w.heap.size w w':=by
 have hu25:=Try.underlying25
 have HR0_0:=a0_ hr0_0
 have HC0_0:=a0_ hc0_0
 clear hr0_0 hc0_0
 have HR1:=a0_ hr1
 have HC1:=a0_ hc1
 clear hr1 hc1
 have HB:=a0_ (Below.refl w.heap.size w)
 have H : ((spec_validGroup.f l0_0 l1).bind fun t2=>(if t2 = true then ((spec_hasClass.f l0_0 a2).bind fun t3=>(if t3 = true then ((spec_split.f k l0_0 l1 a2).bind fun bt4=>(some (bt4.1,bt4.2))) else (some (([] : List (S47)),([] : List (S47)))))) else (some (([] : List (S47)),([] : List (S47)))))) = some (r1,r2):=h
 clear h
 replace H:=Option.bind_eq_some_iff.mp H
 obtain ⟨t2,A40,H⟩:=H
 try dsimp only at H
 have A4:=a0_ A40
 clear A40
 by_cases c5 : t2 = true
 ·subst c5
  have H1 : ((spec_hasClass.f l0_0 a2).bind fun t3=>(if t3 = true then ((spec_split.f k l0_0 l1 a2).bind fun bt4=>(some (bt4.1,bt4.2))) else (some (([] : List (S47)),([] : List (S47)))))) = some (r1,r2):=by rw [if_pos rfl] at H;exact H
  clear H
  have H:=H1
  clear H1
  replace H:=Option.bind_eq_some_iff.mp H
  obtain ⟨t3,A60,H⟩:=H
  try dsimp only at H
  have A6:=a0_ A60
  clear A60
  by_cases c7 : t3 = true
  ·subst c7
   have H1 : ((spec_split.f k l0_0 l1 a2).bind fun bt4=>(some (bt4.1,bt4.2))) = some (r1,r2):=by rw [if_pos rfl] at H;exact H
   clear H
   have H:=H1
   clear H1
   replace H:=Option.bind_eq_some_iff.mp H
   obtain ⟨⟨t4,t7⟩,A80,H⟩:=H
   replace H : (some (t4,t7)) = some (r1,r2):=H
   have A8:=a0_ A80
   clear A80
   simp only [Option.some.injEq,Prod.mk.injEq] at H
   obtain ⟨rfl,rfl⟩:=H
   go_enter Try.func26,Try.ntmps26
   go_wp2_with (first | ((with_reducible refine gate_dst (N:=3) rfl ?_);refine box_event ?hg (N:=3) ?hd (cs:=#[.slice A0_0 l0_0.length c0_0]) (t:=25) ?hr ?_;(case hd=>rfl);(case hg=>rfl);(case hr=>first | (go_simp;done) | (go_simp;rfl));intro gb1 hg w9 hbox hb;have BK1:=a0_ (hbox);have GW1:=a0_ ((by rw [hg];exact (below_size hb_) : w.heap.size ≤ gb1));have GE1:=a0_ ((by rw [hg];exact (below_size hb_) : w.heap.size ≤ gb1));replace HB:=a0_ (below_step hb_ hb);clear hb hbox hg;have hcz10_0 : w9.cell? ⟨gb1,0,none⟩ = some (.slice A0_0 l0_0.length c0_0):=(blk_cell BK1.out 0).trans rfl;have hfz10_0:=blk_frozen BK1.out 0) | ((with_reducible refine gate_callee (f:=40) rfl ?_);refine goesL_ (some 10) rfl rfl Try.func40 (by kernel_rfl) rfl #[.agg #[.slice A0_0 l0_0.length c0_0],.slice A1 l1.length c1] rfl lm_ ?_;(with_reducible refine (spec_validGroup.calls _ _ l0_0 _ _ l1 true _ ?side1 ?side2 ?side3 ?side4 A4.out).mono ?_);(case side1=>exact cc_ (Kd.C_below HR0_0.out HB.out));(case side2=>exact HC0_0.out);(case side3=>exact cc_ (Kd.C_below HR1.out HB.out));(case side4=>exact HC1.out);rintro e w11 ⟨rfl,hb⟩;refine ⟨_,rfl,?_⟩;replace BK1:=kb_ BK1 hb;replace HB:=a0_ (below_step hb_ hb);(try clear hb);have hcz12_0 : w11.cell? ⟨gb1,0,none⟩ = some (.slice A0_0 l0_0.length c0_0):=(blk_cell BK1.out 0).trans rfl;have hfz12_0:=blk_frozen BK1.out 0) | (go_at_call 48;(with_reducible refine (spec_hasClass.calls _ _ l0_0 a2 true _ ?side1 ?side2 A6.out).mono ?_);(case side1=>exact cc_ (Kd.C_below HR0_0.out HB.out));(case side2=>exact HC0_0.out);rintro e w13 ⟨rfl,hb⟩;replace BK1:=kb_ BK1 hb;replace HB:=a0_ (below_step hb_ hb);(try clear hb);have hcz14_0 : w13.cell? ⟨gb1,0,none⟩ = some (.slice A0_0 l0_0.length c0_0):=(blk_cell BK1.out 0).trans rfl;have hfz14_0:=blk_frozen BK1.out 0) | ((with_reducible refine gate_callee (f:=49) rfl ?_);refine goesL_ (some 21) rfl rfl Try.func49 (by kernel_rfl) rfl #[.agg #[.slice A0_0 l0_0.length c0_0],.slice A1 l1.length c1,.int .i64 a2] rfl lm_ ?_;(with_reducible refine (spec_split.calls k _ _ l0_0 _ _ l1 a2 t4 t7 _ ?side1 ?side2 ?side3 ?side4 A8.out).mono ?_);(case side1=>exact cc_ (Kd.C_below HR0_0.out HB.out));(case side2=>exact HC0_0.out);(case side3=>exact cc_ (Kd.C_below HR1.out HB.out));(case side4=>exact HC1.out);rintro e w15 ⟨v5,v8,rfl,ho0,ho1,hb⟩;refine ⟨_,rfl,?_⟩;have HO6:=a0_ (Kd.R_lower ho0 (below_size hb_));have HO9:=a0_ (Kd.R_lower ho1 (below_size hb_));replace BK1:=kb_ BK1 hb;replace HB:=a0_ (below_step hb_ hb);(try clear hb);(try clear ho0);(try clear ho1)))
   go_ret2
   exact ⟨_,_,by first | rfl | (simp [errW_none,errW_some] <;> rfl) | (simp [*,errW_none,errW_some] <;> rfl),by (with_reducible repeat (first | apply Kd.R_alloc | apply Kd.R_drewN | apply Kd.R_drew));exact HO6.out,by (with_reducible repeat (first | apply Kd.R_alloc | apply Kd.R_drewN | apply Kd.R_drew));exact HO9.out,hb_⟩
  ·replace c7:=Bool.eq_false_iff.mpr c7
   subst c7
   have H1 : (some (([] : List (S47)),([] : List (S47)))) = some (r1,r2):=by rw [if_neg (show ¬ (false = true) by decide)] at H;exact H
   clear H
   have H:=H1
   clear H1
   simp only [Option.some.injEq,Prod.mk.injEq] at H
   obtain ⟨rfl,rfl⟩:=H
   go_enter Try.func26,Try.ntmps26
   go_wp2_with (first | ((with_reducible refine gate_dst (N:=3) rfl ?_);refine box_event ?hg (N:=3) ?hd (cs:=#[.slice A0_0 l0_0.length c0_0]) (t:=25) ?hr ?_;(case hd=>rfl);(case hg=>rfl);(case hr=>first | (go_simp;done) | (go_simp;rfl));intro gb1 hg w16 hbox hb;have BK1:=a0_ (hbox);have GW1:=a0_ ((by rw [hg];exact (below_size hb_) : w.heap.size ≤ gb1));have GE1:=a0_ ((by rw [hg];exact (below_size hb_) : w.heap.size ≤ gb1));replace HB:=a0_ (below_step hb_ hb);clear hb hbox hg;have hcz17_0 : w16.cell? ⟨gb1,0,none⟩ = some (.slice A0_0 l0_0.length c0_0):=(blk_cell BK1.out 0).trans rfl;have hfz17_0:=blk_frozen BK1.out 0) | ((with_reducible refine gate_callee (f:=40) rfl ?_);refine goesL_ (some 10) rfl rfl Try.func40 (by kernel_rfl) rfl #[.agg #[.slice A0_0 l0_0.length c0_0],.slice A1 l1.length c1] rfl lm_ ?_;(with_reducible refine (spec_validGroup.calls _ _ l0_0 _ _ l1 true _ ?side1 ?side2 ?side3 ?side4 A4.out).mono ?_);(case side1=>exact cc_ (Kd.C_below HR0_0.out HB.out));(case side2=>exact HC0_0.out);(case side3=>exact cc_ (Kd.C_below HR1.out HB.out));(case side4=>exact HC1.out);rintro e w18 ⟨rfl,hb⟩;refine ⟨_,rfl,?_⟩;replace BK1:=kb_ BK1 hb;replace HB:=a0_ (below_step hb_ hb);(try clear hb);have hcz19_0 : w18.cell? ⟨gb1,0,none⟩ = some (.slice A0_0 l0_0.length c0_0):=(blk_cell BK1.out 0).trans rfl;have hfz19_0:=blk_frozen BK1.out 0) | (go_at_call 48;(with_reducible refine (spec_hasClass.calls _ _ l0_0 a2 false _ ?side1 ?side2 A6.out).mono ?_);(case side1=>exact cc_ (Kd.C_below HR0_0.out HB.out));(case side2=>exact HC0_0.out);rintro e w20 ⟨rfl,hb⟩;replace BK1:=kb_ BK1 hb;replace HB:=a0_ (below_step hb_ hb);(try clear hb);(try clear hb2);(try clear hk);(try clear hi)))
   go_ret2
   exact ⟨_,_,by first | rfl | (simp [errW_none,errW_some] <;> rfl) | (simp [*,errW_none,errW_some] <;> rfl),by first | exact Kd.R_nil _ _ _ _ _ | exact Kd.N_nil _ _ _ _ _ | exact Kd.V_nil _ _ _ _ _ | exact Kd.Q_nil _ _ _ _ _ | exact Kd.S_nil _ _ _ _ _,by first | exact Kd.R_nil _ _ _ _ _ | exact Kd.N_nil _ _ _ _ _ | exact Kd.V_nil _ _ _ _ _ | exact Kd.Q_nil _ _ _ _ _ | exact Kd.S_nil _ _ _ _ _,hb_⟩
 ·replace c5:=Bool.eq_false_iff.mpr c5
  subst c5
  have H1 : (some (([] : List (S47)),([] : List (S47)))) = some (r1,r2):=by rw [if_neg (show ¬ (false = true) by decide)] at H;exact H
  clear H
  have H:=H1
  clear H1
  simp only [Option.some.injEq,Prod.mk.injEq] at H
  obtain ⟨rfl,rfl⟩:=H
  go_enter Try.func26,Try.ntmps26
  go_wp2_with (first | ((with_reducible refine gate_dst (N:=3) rfl ?_);refine box_event ?hg (N:=3) ?hd (cs:=#[.slice A0_0 l0_0.length c0_0]) (t:=25) ?hr ?_;(case hd=>rfl);(case hg=>rfl);(case hr=>first | (go_simp;done) | (go_simp;rfl));intro gb1 hg w21 hbox hb;have BK1:=a0_ (hbox);have GW1:=a0_ ((by rw [hg];exact (below_size hb_) : w.heap.size ≤ gb1));have GE1:=a0_ ((by rw [hg];exact (below_size hb_) : w.heap.size ≤ gb1));replace HB:=a0_ (below_step hb_ hb);clear hb hbox hg;have hcz22_0 : w21.cell? ⟨gb1,0,none⟩ = some (.slice A0_0 l0_0.length c0_0):=(blk_cell BK1.out 0).trans rfl;have hfz22_0:=blk_frozen BK1.out 0) | ((with_reducible refine gate_callee (f:=40) rfl ?_);refine goesL_ (some 10) rfl rfl Try.func40 (by kernel_rfl) rfl #[.agg #[.slice A0_0 l0_0.length c0_0],.slice A1 l1.length c1] rfl lm_ ?_;(with_reducible refine (spec_validGroup.calls _ _ l0_0 _ _ l1 false _ ?side1 ?side2 ?side3 ?side4 A4.out).mono ?_);(case side1=>exact cc_ (Kd.C_below HR0_0.out HB.out));(case side2=>exact HC0_0.out);(case side3=>exact cc_ (Kd.C_below HR1.out HB.out));(case side4=>exact HC1.out);rintro e w23 ⟨rfl,hb⟩;refine ⟨_,rfl,?_⟩;replace BK1:=kb_ BK1 hb;replace HB:=a0_ (below_step hb_ hb);(try clear hb);(try clear hb2);(try clear hk);(try clear hi)))
  go_ret2
  exact ⟨_,_,by first | rfl | (simp [errW_none,errW_some] <;> rfl) | (simp [*,errW_none,errW_some] <;> rfl),by first | exact Kd.R_nil _ _ _ _ _ | exact Kd.N_nil _ _ _ _ _ | exact Kd.V_nil _ _ _ _ _ | exact Kd.Q_nil _ _ _ _ _ | exact Kd.S_nil _ _ _ _ _,by first | exact Kd.R_nil _ _ _ _ _ | exact Kd.N_nil _ _ _ _ _ | exact Kd.V_nil _ _ _ _ _ | exact Kd.Q_nil _ _ _ _ _ | exact Kd.S_nil _ _ _ _ _,hb_⟩
theorem spec_SplitGroup_ev (t : List Cls) (g : List Prt) (a : Int) (hs : smT t = true) (ht : t.length ≤ 9223372036854775807) (hl : g.length ≤ 1048576) : Ev (fun k=>spec_SplitGroup.f k t g a) (if (vG t g && hasC t a) = true then (selN t g a true g.length,selN t g a false g.length) else ([],[])):=by
 refine Ev.bind (Ev.const (show spec_validGroup.f t g = some (vG t g) by rw [spec_validGroup.f,if_pos hs])) ?_
 cases hv : vG t g with
 | false=>exact Ev.neg (by simp) (Ev.const (by simp))
 | true =>
  refine Ev.pos rfl (Ev.bind (Ev.const (spec_hasClass_ev t a ht)) ?_)
  cases hasC t a with
  | false=>exact Ev.neg (by simp) (Ev.const (by simp))
  | true =>
   obtain ⟨h1,h2,h3⟩:=vG_tree hv
   exact Ev.pos rfl (Ev.bind (spec_split_ev h1 g (fun p hp h=>(vG_leaf hv p hp h).2) (by omega) a) (Ev.const (by simp)))
end Go.Proofs.Ytfphcdbnnienhaa.P
namespace Go.Proofs.Ytfphcdbnnienhaa.P
open Go.RowKit Go.Proofs.YtfphcdbnnienhaaW.PrintWords Go.Proofs.YtfphcdbnnienhaaW.PrintLast Go.Proofs.YtfphcdbnnienhaaW.PrintMore
attribute [local go_sem] max2_int min2_int max_two min_two max_three min_three max_four min_four
set_option linter.unusedVariables false
set_option linter.unusedSimpArgs false
mutual
def laws_FnSplitGroupOrder.j0 : Nat → List (S47) → Int → List (S47) → List (S47) → List (S47) → List (S47) → Bool → List (S85) → Option (Bool)
 | 0,_,_,_,_,_,_,_,_=>none
 | k + 1,x4,x5,x6,x7,x8,x9,x58,x309000=>if x58 = true then ((laws_equalGroup.f k x6 x8).bind fun t325=>(if t325 = true then ((laws_equalGroup.f k x7 x9).bind fun t326=>(some t326)) else (some false))) else ((impl_LeavesOf.f k x309000 x4).bind fun t333=>(laws_FnSplitGroupOrder.l0 k x5 x6 x7 (([] : List (S43))) (([] : List (S43))) t333 0 x309000))
def laws_FnSplitGroupOrder.l0 : Nat → Int → List (S47) → List (S47) → List (S43) → List (S43) → List (S43) → Int → List (S85) → Option (Bool)
 | 0,_,_,_,_,_,_,_,_=>none
 | k + 1,x5,x6,x7,x10,x11,x12,x13,x309000=>if x13 < (x12.length : Int) then (if 0 ≤ x13 then ((impl_IsA.f k x309000 ((rd_T43 x12 x13).f0) x5).bind fun t337=>(if t337 = true then (if x10.length < 8796093022208 then (laws_FnSplitGroupOrder.l0 k x5 x6 x7 (x10 ++ [(⟨(rd_T43 x12 x13).f0,(rd_T43 x12 x13).f1⟩ : S43)]) x11 x12 (wrap64 (x13 + 1)) x309000) else (none)) else (if x11.length < 8796093022208 then (laws_FnSplitGroupOrder.l0 k x5 x6 x7 x10 (x11 ++ [(⟨(rd_T43 x12 x13).f0,(rd_T43 x12 x13).f1⟩ : S43)]) x12 (wrap64 (x13 + 1)) x309000) else (none)))) else (none)) else ((impl_LeavesOf.f k x309000 x6).bind fun t346=>((laws_equalLeaves.f k t346 x10).bind fun t349=>(if t349 = true then ((impl_LeavesOf.f k x309000 x7).bind fun t350=>((laws_equalLeaves.f k t350 x11).bind fun t353=>(some t353))) else (some false))))
end
def laws_FnSplitGroupOrder.f (k : Nat) (l0 : List Int) : Option (Bool):=if (l0.length : Int) > 1048576 then (some true) else ((spec_DrawSplitGroup.f k l0).bind fun bt301=>((impl_SplitGroup.f bt301.1 bt301.2.1 bt301.2.2).bind fun bt309=>((spec_SplitGroup.f k bt301.1 bt301.2.1 bt301.2.2).bind fun bt315=>((laws_equalGroup.f k bt309.1 bt315.1).bind fun t321=>(if t321 = true then ((laws_equalGroup.f k bt309.2 bt315.2).bind fun t322=>(if t322 = true then ((impl_ValidGroup.f k bt301.1 bt301.2.1).bind fun t323=>(if t323 = true then ((laws_has.f bt301.1 bt301.2.2).bind fun t324=>(laws_FnSplitGroupOrder.j0 k bt301.2.1 bt301.2.2 bt309.1 bt309.2 bt315.1 bt315.2 (!t324) bt301.1)) else (laws_FnSplitGroupOrder.j0 k bt301.2.1 bt301.2.2 bt309.1 bt309.2 bt315.1 bt315.2 true bt301.1))) else (laws_FnSplitGroupOrder.j0 k bt301.2.1 bt301.2.2 bt309.1 bt309.2 bt315.1 bt315.2 true bt301.1))) else (laws_FnSplitGroupOrder.j0 k bt301.2.1 bt301.2.2 bt309.1 bt309.2 bt315.1 bt315.2 true bt301.1))))))
theorem laws_FnSplitGroupOrder.mono_l : ∀ k,(∀ y0 y1 y2 y3 y4 y5 y6 y7,LeO (laws_FnSplitGroupOrder.j0 k y0 y1 y2 y3 y4 y5 y6 y7) (laws_FnSplitGroupOrder.j0 (k + 1) y0 y1 y2 y3 y4 y5 y6 y7)) ∧ (∀ y0 y1 y2 y3 y4 y5 y6 y7,LeO (laws_FnSplitGroupOrder.l0 k y0 y1 y2 y3 y4 y5 y6 y7) (laws_FnSplitGroupOrder.l0 (k + 1) y0 y1 y2 y3 y4 y5 y6 y7))
 | 0=>⟨fun _ _ _ _ _ _ _ _ r h=>by simp [laws_FnSplitGroupOrder.j0] at h,fun _ _ _ _ _ _ _ _ r h=>by simp [laws_FnSplitGroupOrder.l0] at h⟩
 | k + 1=>by
  obtain ⟨ih0,ih1⟩:=laws_FnSplitGroupOrder.mono_l k
  refine ⟨?_,?_⟩
  ·intro y0 y1 y2 y3 y4 y5 y6 y7
   unfold laws_FnSplitGroupOrder.j0
   repeat' first
   | (with_reducible exact ih0 _ _ _ _ _ _ _ _)
   | (with_reducible exact ih1 _ _ _ _ _ _ _ _)
   | (with_reducible exact impl_IsA.mono _ _ _ _)
   | (with_reducible exact impl_LeavesOf.mono _ _ _)
   | (with_reducible exact impl_ValidGroup.mono _ _ _)
   | (with_reducible exact laws_equalGroup.mono _ _ _)
   | (with_reducible exact laws_equalLeaves.mono _ _ _)
   | (with_reducible exact spec_DrawSplitGroup.mono _ _)
   | (with_reducible exact spec_SplitGroup.mono _ _ _ _)
   | (with_reducible exact LeO.refl _)
   | (with_reducible exact LeO.none _)
   | (with_reducible refine LeO.ite ?_ ?_)
   | (with_reducible refine LeO.bind ?_ (fun _=>?_))
   | exact ih0 _ _ _ _ _ _ _ _
   | exact ih1 _ _ _ _ _ _ _ _
   | exact impl_IsA.mono _ _ _ _
   | exact impl_LeavesOf.mono _ _ _
   | exact impl_ValidGroup.mono _ _ _
   | exact laws_equalGroup.mono _ _ _
   | exact laws_equalLeaves.mono _ _ _
   | exact spec_DrawSplitGroup.mono _ _
   | exact spec_SplitGroup.mono _ _ _ _
   | exact LeO.none _
   | refine LeO.ite ?_ ?_
   | refine LeO.bind ?_ (fun _=>?_)
  ·intro y0 y1 y2 y3 y4 y5 y6 y7
   unfold laws_FnSplitGroupOrder.l0
   repeat' first
   | (with_reducible exact ih0 _ _ _ _ _ _ _ _)
   | (with_reducible exact ih1 _ _ _ _ _ _ _ _)
   | (with_reducible exact impl_IsA.mono _ _ _ _)
   | (with_reducible exact impl_LeavesOf.mono _ _ _)
   | (with_reducible exact impl_ValidGroup.mono _ _ _)
   | (with_reducible exact laws_equalGroup.mono _ _ _)
   | (with_reducible exact laws_equalLeaves.mono _ _ _)
   | (with_reducible exact spec_DrawSplitGroup.mono _ _)
   | (with_reducible exact spec_SplitGroup.mono _ _ _ _)
   | (with_reducible exact LeO.refl _)
   | (with_reducible exact LeO.none _)
   | (with_reducible refine LeO.ite ?_ ?_)
   | (with_reducible refine LeO.bind ?_ (fun _=>?_))
   | exact ih0 _ _ _ _ _ _ _ _
   | exact ih1 _ _ _ _ _ _ _ _
   | exact impl_IsA.mono _ _ _ _
   | exact impl_LeavesOf.mono _ _ _
   | exact impl_ValidGroup.mono _ _ _
   | exact laws_equalGroup.mono _ _ _
   | exact laws_equalLeaves.mono _ _ _
   | exact spec_DrawSplitGroup.mono _ _
   | exact spec_SplitGroup.mono _ _ _ _
   | exact LeO.none _
   | refine LeO.ite ?_ ?_
   | refine LeO.bind ?_ (fun _=>?_)
theorem laws_FnSplitGroupOrder.mono : ∀ a0 k,LeO (laws_FnSplitGroupOrder.f k a0) (laws_FnSplitGroupOrder.f (k + 1) a0):=by
 intro a0 k
 obtain ⟨ih0,ih1⟩:=laws_FnSplitGroupOrder.mono_l k
 unfold laws_FnSplitGroupOrder.f
 repeat' first
   | (with_reducible exact ih0 _ _ _ _ _ _ _ _)
   | (with_reducible exact ih1 _ _ _ _ _ _ _ _)
   | (with_reducible exact impl_IsA.mono _ _ _ _)
   | (with_reducible exact impl_LeavesOf.mono _ _ _)
   | (with_reducible exact impl_ValidGroup.mono _ _ _)
   | (with_reducible exact laws_equalGroup.mono _ _ _)
   | (with_reducible exact laws_equalLeaves.mono _ _ _)
   | (with_reducible exact spec_DrawSplitGroup.mono _ _)
   | (with_reducible exact spec_SplitGroup.mono _ _ _ _)
   | (with_reducible exact LeO.refl _)
   | (with_reducible exact LeO.none _)
   | (with_reducible refine LeO.ite ?_ ?_)
   | (with_reducible refine LeO.bind ?_ (fun _=>?_))
   | exact ih0 _ _ _ _ _ _ _ _
   | exact ih1 _ _ _ _ _ _ _ _
   | exact impl_IsA.mono _ _ _ _
   | exact impl_LeavesOf.mono _ _ _
   | exact impl_ValidGroup.mono _ _ _
   | exact laws_equalGroup.mono _ _ _
   | exact laws_equalLeaves.mono _ _ _
   | exact spec_DrawSplitGroup.mono _ _
   | exact spec_SplitGroup.mono _ _ _ _
   | exact LeO.none _
   | refine LeO.ite ?_ ?_
   | refine LeO.bind ?_ (fun _=>?_)
def laws_FnSplitGroupOrder.T14 : Bool × List (List Nat × List Nat):=(true,[([],[]),([],[]),([],[]),([1,2],[1,2]),([3],[3]),([4],[4]),([],[]),([0,5,6],[0,5,6])])
def laws_FnSplitGroupOrder.B14 : List Nat:=[0,0,0,6,14,30,0,127]
theorem laws_FnSplitGroupOrder.tab14 : rtab .any (opsOf Try.f8 14) = laws_FnSplitGroupOrder.T14:=by kernel_rfl
theorem laws_FnSplitGroupOrder.bits14 : waitsOk laws_FnSplitGroupOrder.T14.2 laws_FnSplitGroupOrder.B14 = true:=by kernel_rfl
set_option maxHeartbeats 8000000 in
set_option maxRecDepth 100000 in
theorem laws_FnSplitGroupOrder.calls (k : Nat) (A0 : Option Addr) (c0 : Nat) (l0 : List Int) (r : Bool) (w : World) (hr0 : Kd.C (Kd.int .u8) w A0 l0.length l0) (hc0 : l0.length ≤ c0) (h : laws_FnSplitGroupOrder.f k l0 = some r) :
  Calls Try.prog 8 #[.slice A0 l0.length c0] w fun e w'=>e = .returned (.bool r) ∧ Below w.heap.size w w':=by
 have hu25:=Try.underlying25
 have hu43:=Try.underlying43
 have HR0:=a0_ hr0
 have HC0:=a0_ hc0
 clear hr0 hc0
 have HB:=a0_ (Below.refl w.heap.size w)
 have H : (if (l0.length : Int) > 1048576 then (some true) else ((spec_DrawSplitGroup.f k l0).bind fun bt301=>((impl_SplitGroup.f bt301.1 bt301.2.1 bt301.2.2).bind fun bt309=>((spec_SplitGroup.f k bt301.1 bt301.2.1 bt301.2.2).bind fun bt315=>((laws_equalGroup.f k bt309.1 bt315.1).bind fun t321=>(if t321 = true then ((laws_equalGroup.f k bt309.2 bt315.2).bind fun t322=>(if t322 = true then ((impl_ValidGroup.f k bt301.1 bt301.2.1).bind fun t323=>(if t323 = true then ((laws_has.f bt301.1 bt301.2.2).bind fun t324=>(laws_FnSplitGroupOrder.j0 k bt301.2.1 bt301.2.2 bt309.1 bt309.2 bt315.1 bt315.2 (!t324) bt301.1)) else (laws_FnSplitGroupOrder.j0 k bt301.2.1 bt301.2.2 bt309.1 bt309.2 bt315.1 bt315.2 true bt301.1))) else (laws_FnSplitGroupOrder.j0 k bt301.2.1 bt301.2.2 bt309.1 bt309.2 bt315.1 bt315.2 true bt301.1))) else (laws_FnSplitGroupOrder.j0 k bt301.2.1 bt301.2.2 bt309.1 bt309.2 bt315.1 bt315.2 true bt301.1))))))) = some r:=h
 clear h
 by_cases c2 : (l0.length : Int) > 1048576
 ·rw [if_pos c2] at H
  have c2b0 : decide (1048576 < (l0.length : Int)) = true:=decide_eq_true c2
  have c2b1 : decide (1048576 < l0.length) = true:=decide_eq_true (by omega)
  clear c2
  obtain rfl:=Option.some.inj H
  go_enter Try.func8,Try.ntmps8
  go_wp2
  go_ret
  exact ⟨by first | rfl | (simp [errW_none,errW_some] <;> rfl) | (simp [*,errW_none,errW_some] <;> rfl),hb_⟩
 ·rw [if_neg c2] at H
  have c2b0 : decide (1048576 < (l0.length : Int)) = false:=decide_eq_false c2
  have c2b1 : decide (1048576 < l0.length) = false:=decide_eq_false (by omega)
  clear c2
  replace H:=Option.bind_eq_some_iff.mp H
  obtain ⟨⟨t301,t304,t307⟩,A30,H⟩:=H
  try dsimp only at H
  have A3:=a0_ A30
  clear A30
  replace H:=Option.bind_eq_some_iff.mp H
  obtain ⟨⟨t309,t312⟩,A40,H⟩:=H
  try dsimp only at H
  have A4:=a0_ A40
  clear A40
  replace H:=Option.bind_eq_some_iff.mp H
  obtain ⟨⟨t315,t318⟩,A50,H⟩:=H
  try dsimp only at H
  have A5:=a0_ A50
  clear A50
  have HC6:=a0_ H
  clear H
  go_enter Try.func8,Try.ntmps8
  go_upto_region 6 with (first | ((with_reducible refine gate_callee (f:=24) rfl ?_);refine goesL_ (some 19) rfl rfl Try.func24 (by kernel_rfl) rfl #[.slice A0 l0.length c0] rfl lm_ ?_;(with_reducible refine (spec_DrawSplitGroup.calls k _ _ l0 t301 t304 t307 _ ?side1 ?side2 A3.out).mono ?_);(case side1=>repeat (first | exact HR0.out | (with_reducible refine Kd.C_alloc ?_ _) | (with_reducible refine Kd.C_drewN ?_ _) | (with_reducible refine Kd.C_drew ?_)));(case side2=>exact HC0.out);rintro e w7 ⟨v302,v305,rfl,ho0,ho1,hb⟩;refine ⟨_,rfl,?_⟩;have HO303:=a0_ (Kd.R_lower ho0 (below_size hb_));have HO306:=a0_ (Kd.R_lower ho1 (below_size hb_));replace HB:=a0_ (below_step hb_ hb);(try clear hb);(try clear ho0);(try clear ho1)) | ((with_reducible refine gate_dst (N:=3) rfl ?_);refine box_event ?hg (N:=3) ?hd (cs:=#[.slice none 0 0]) (t:=25) ?hr ?_;(case hd=>rfl);(case hg=>rfl);(case hr=>first | (go_simp;done) | (go_simp;rfl));intro gb308 hg w8 hbox hb;replace HO303:=rb_ HO303 hb;replace HO306:=rb_ HO306 hb;have BK308:=a0_ (hbox);have GW308:=a0_ ((by rw [hg];exact (below_size hb_) : w.heap.size ≤ gb308));have GE308:=a0_ ((by rw [hg];exact (below_size hb_) : w.heap.size ≤ gb308));replace HB:=a0_ (below_step hb_ hb);clear hb hbox hg;obtain ⟨Ao9,co9,eo9⟩:=Kd.R_slice HO303.out;subst eo9;have hcz10_0 : w8.cell? ⟨gb308,0,none⟩ = some (.slice none 0 0):=(blk_cell BK308.out 0).trans rfl;have hfz10_0:=blk_frozen BK308.out 0;obtain ⟨Ao11,co11,eo11⟩:=Kd.R_slice HO306.out;subst eo11) | ((with_reducible refine gate_callee (f:=25) rfl ?_);refine goesL_ (some 27) rfl rfl Try.func25 (by kernel_rfl) rfl #[.agg #[.slice Ao9 t301.length co9],.slice Ao11 t304.length co11,.int .i64 t307] rfl lm_ ?_;(with_reducible refine (impl_SplitGroup.calls _ _ t301 _ _ t304 t307 t309 t312 _ ?side1 ?side2 ?side3 ?side4 A4.out).mono ?_);(case side1=>refine (Kd.R_reads' (e:=85) (base:=w.heap.size) (ok:=fun k_=>True) (n:=t301.length) (c:=co9) ?_).2.2;exact (by (with_reducible repeat (first | apply Kd.R_alloc | apply Kd.R_drewN | apply Kd.R_drew));exact (Kd.R_mono (Kd.R_far (p:=⟨gb308,0,none⟩) (Kd.R_types HO303.out BK308.out (by decide)) (fun _ hk=>hk.2) (.slice Ao9 t301.length co9)) (fun _ h_=>h_.1))));(case side2=>exact (Kd.R_reads' HO303.out).2.1);(case side3=>refine (Kd.R_reads' (e:=47) (base:=w.heap.size) (ok:=fun k_=>True) (n:=t304.length) (c:=co11) ?_).2.2;exact (by (with_reducible repeat (first | apply Kd.R_alloc | apply Kd.R_drewN | apply Kd.R_drew));exact (Kd.R_mono (Kd.R_far (p:=⟨gb308,0,none⟩) (Kd.R_types HO306.out BK308.out (by decide)) (fun _ hk=>hk.2) (.slice Ao9 t301.length co9)) (fun _ h_=>h_.1))));(case side4=>exact (Kd.R_reads' HO306.out).2.1);rintro e w12 ⟨v310,v313,rfl,ho0,ho1,hb⟩;refine ⟨_,rfl,?_⟩;have n0_:=a0_ (Kd.R_below (by (with_reducible repeat (first | apply Kd.R_alloc | apply Kd.R_drewN | apply Kd.R_drew));exact (Kd.R_mono (Kd.R_far (p:=⟨gb308,0,none⟩) (Kd.R_types HO303.out BK308.out (by decide)) (fun _ hk=>hk.2) (.slice Ao9 t301.length co9)) (fun _ h_=>h_.1))) hb);have n1_:=a0_ (Kd.R_mono (Kd.R_told (Kd.R_told (Kd.R_old (by (with_reducible repeat (first | apply Kd.R_alloc | apply Kd.R_drewN | apply Kd.R_drew));exact (Kd.R_mono (Kd.R_far (p:=⟨gb308,0,none⟩) (Kd.R_types HO306.out BK308.out (by decide)) (fun _ hk=>hk.2) (.slice Ao9 t301.length co9)) (fun _ h_=>h_.1))) hb) (Kd.R_base ho0)) (Kd.R_base ho1)) (fun _ h_=>h_.1));have n2_:=a0_ (Kd.R_lower (Kd.R_new' ho0 (Kd.R_lt (by (with_reducible repeat (first | apply Kd.R_alloc | apply Kd.R_drewN | apply Kd.R_drew));exact (Kd.R_mono (Kd.R_far (p:=⟨gb308,0,none⟩) (Kd.R_types HO306.out BK308.out (by decide)) (fun _ hk=>hk.2) (.slice Ao9 t301.length co9)) (fun _ h_=>h_.1))))) (below_size hb_));have n3_:=a0_ (Kd.R_lower (Kd.R_new' ho1 (Kd.R_lt (by (with_reducible repeat (first | apply Kd.R_alloc | apply Kd.R_drewN | apply Kd.R_drew));exact (Kd.R_mono (Kd.R_far (p:=⟨gb308,0,none⟩) (Kd.R_types HO306.out BK308.out (by decide)) (fun _ hk=>hk.2) (.slice Ao9 t301.length co9)) (fun _ h_=>h_.1))))) (below_size hb_));have n4_:=a0_ (blk_below (g:=gb308) (o:=.cells #[.slice Ao9 t301.length co9] 25 (0,0)) (by (with_reducible repeat (first | refine blk_drewN ?_ _ | refine blk_drew ?_ | refine blk_alloc ?_ _));refine blk_put (cs:=#[.slice none 0 0]) ?_ 0 _ rfl;(with_reducible repeat (first | refine blk_drewN ?_ _ | refine blk_drew ?_ | refine blk_alloc ?_ _));exact BK308.out) hb);have n5_:=a0_ (below_step hb_ hb);clear HO303 HO306;clear BK308 HB;have HO303:=n0_;have HO306:=n1_;have HO311:=n2_;have HO314:=n3_;have BK308:=n4_;have HB:=n5_;clear n0_ n1_ n2_ n3_ n4_ n5_;(try clear hb);(try clear ho0);(try clear ho1);have hcz13_0 : w12.cell? ⟨gb308,0,none⟩ = some (.slice Ao9 t301.length co9):=(blk_cell BK308.out 0).trans rfl;have hfz13_0:=blk_frozen BK308.out 0) | ((with_reducible refine gate_callee (f:=26) rfl ?_);refine goesL_ (some 34) rfl rfl Try.func26 (by kernel_rfl) rfl #[.agg #[.slice Ao9 t301.length co9],.slice Ao11 t304.length co11,.int .i64 t307] rfl lm_ ?_;(with_reducible refine (spec_SplitGroup.calls k _ _ t301 _ _ t304 t307 t315 t318 _ ?side1 ?side2 ?side3 ?side4 A5.out).mono ?_);(case side1=>exact cc_ (Kd.R_reads' HO303.out).2.2);(case side2=>exact (Kd.R_reads' HO303.out).2.1);(case side3=>exact cc_ (Kd.R_reads' HO306.out).2.2);(case side4=>exact (Kd.R_reads' HO306.out).2.1);rintro e w14 ⟨v316,v319,rfl,ho0,ho1,hb⟩;refine ⟨_,rfl,?_⟩;have n0_:=rb_ HO303 hb;have n1_:=a0_ (Kd.R_mono (Kd.R_told (Kd.R_told (Kd.R_old (rr_ HO306.out) hb) (Kd.R_base ho0)) (Kd.R_base ho1)) (fun _ h_=>h_.1));have n2_:=a0_ (Kd.R_mono (Kd.R_told (Kd.R_told (Kd.R_old (rr_ HO311.out) hb) (Kd.R_base ho0)) (Kd.R_base ho1)) (fun _ h_=>h_.1));have n3_:=a0_ (Kd.R_mono (Kd.R_told (Kd.R_told (Kd.R_old (rr_ HO314.out) hb) (Kd.R_base ho0)) (Kd.R_base ho1)) (fun _ h_=>h_.1));have n4_:=a0_ (Kd.R_lower (Kd.R_new' (Kd.R_new' (Kd.R_new' ho0 (Kd.R_lt (rr_ HO306.out))) (Kd.R_lt (rr_ HO311.out))) (Kd.R_lt (rr_ HO314.out))) (below_size hb_));have n5_:=a0_ (Kd.R_lower (Kd.R_new' (Kd.R_new' (Kd.R_new' ho1 (Kd.R_lt (rr_ HO306.out))) (Kd.R_lt (rr_ HO311.out))) (Kd.R_lt (rr_ HO314.out))) (below_size hb_));have n6_:=kb_ BK308 hb;have n7_:=a0_ (below_step hb_ hb);clear HO303 HO306;clear HO311 HO314;clear BK308 HB;have HO303:=n0_;have HO306:=n1_;have HO311:=n2_;have HO314:=n3_;have HO317:=n4_;have HO320:=n5_;have BK308:=n6_;have HB:=n7_;clear n0_ n1_ n2_ n3_ n4_ n5_ n6_ n7_;(try clear hb);(try clear ho0);(try clear ho1)))
  (try simp only [Act.put,s1_,s2_,s3_])
  go_cut [58] (fun v58 wc=>∃ (kq : Nat) (x58_5 : Bool),v58 = .bool x58_5 ∧ Aside0 (laws_FnSplitGroupOrder.j0 kq t304 t307 t309 t312 t315 t318 x58_5 t301 = some r) ∧ Aside0 (kq ≤ k) ∧ Aside0 (Kd.R k47 47 wc w.heap.size (fun k_=>some k_ ≠ (v310 : Value).ownBlock ∧ some k_ ≠ (v313 : Value).ownBlock ∧ some k_ ≠ (v316 : Value).ownBlock ∧ some k_ ≠ (v319 : Value).ownBlock) (.slice Ao11 t304.length co11) t304) ∧ Aside0 (Kd.R k47 47 wc w.heap.size (fun k_=>some k_ ≠ ((.slice Ao11 t304.length co11) : Value).ownBlock ∧ some k_ ≠ (v313 : Value).ownBlock ∧ some k_ ≠ (v316 : Value).ownBlock ∧ some k_ ≠ (v319 : Value).ownBlock) v310 t309) ∧ Aside0 (Kd.R k47 47 wc w.heap.size (fun k_=>some k_ ≠ ((.slice Ao11 t304.length co11) : Value).ownBlock ∧ some k_ ≠ (v310 : Value).ownBlock ∧ some k_ ≠ (v316 : Value).ownBlock ∧ some k_ ≠ (v319 : Value).ownBlock) v313 t312) ∧ Aside0 (Kd.R k47 47 wc w.heap.size (fun k_=>some k_ ≠ ((.slice Ao11 t304.length co11) : Value).ownBlock ∧ some k_ ≠ (v310 : Value).ownBlock ∧ some k_ ≠ (v313 : Value).ownBlock ∧ some k_ ≠ (v319 : Value).ownBlock) v316 t315) ∧ Aside0 (Kd.R k47 47 wc w.heap.size (fun k_=>some k_ ≠ ((.slice Ao11 t304.length co11) : Value).ownBlock ∧ some k_ ≠ (v310 : Value).ownBlock ∧ some k_ ≠ (v313 : Value).ownBlock ∧ some k_ ≠ (v316 : Value).ownBlock) v319 t318) ∧ Aside0 (Kd.R k85 85 wc w.heap.size (fun _=>True) (.slice Ao9 t301.length co9) t301) ∧ Aside0 (wc.heap[gb308]? = some (.cells #[(.slice Ao9 t301.length co9)] 25 (0,0))) ∧ Aside0 (Below w.heap.size w wc))
  case first =>
   have H:=HC6.out
   clear HC6
   replace H:=Option.bind_eq_some_iff.mp H
   obtain ⟨t321,A150,H⟩:=H
   try dsimp only at H
   have A15:=a0_ A150
   clear A150
   by_cases c16 : t321 = true
   ·subst c16
    have H1 : ((laws_equalGroup.f k t312 t318).bind fun t322=>(if t322 = true then ((impl_ValidGroup.f k t301 t304).bind fun t323=>(if t323 = true then ((laws_has.f t301 t307).bind fun t324=>(laws_FnSplitGroupOrder.j0 k t304 t307 t309 t312 t315 t318 (!t324) t301)) else (laws_FnSplitGroupOrder.j0 k t304 t307 t309 t312 t315 t318 true t301))) else (laws_FnSplitGroupOrder.j0 k t304 t307 t309 t312 t315 t318 true t301))) = some r:=by rw [if_pos rfl] at H;exact H
    clear H
    have H:=H1
    clear H1
    replace H:=Option.bind_eq_some_iff.mp H
    obtain ⟨t322,A170,H⟩:=H
    try dsimp only at H
    have A17:=a0_ A170
    clear A170
    by_cases c18 : t322 = true
    ·subst c18
     have H1 : ((impl_ValidGroup.f k t301 t304).bind fun t323=>(if t323 = true then ((laws_has.f t301 t307).bind fun t324=>(laws_FnSplitGroupOrder.j0 k t304 t307 t309 t312 t315 t318 (!t324) t301)) else (laws_FnSplitGroupOrder.j0 k t304 t307 t309 t312 t315 t318 true t301))) = some r:=by rw [if_pos rfl] at H;exact H
     clear H
     have H:=H1
     clear H1
     replace H:=Option.bind_eq_some_iff.mp H
     obtain ⟨t323,A190,H⟩:=H
     try dsimp only at H
     have A19:=a0_ A190
     clear A190
     by_cases c20 : t323 = true
     ·subst c20
      have H1 : ((laws_has.f t301 t307).bind fun t324=>(laws_FnSplitGroupOrder.j0 k t304 t307 t309 t312 t315 t318 (!t324) t301)) = some r:=by rw [if_pos rfl] at H;exact H
      clear H
      have H:=H1
      clear H1
      replace H:=Option.bind_eq_some_iff.mp H
      obtain ⟨t324,A210,H⟩:=H
      try dsimp only at H
      have A21:=a0_ A210
      clear A210
      have H':=a0_ H
      clear H
      obtain ⟨Ao22,co22,eo22⟩:=Kd.R_slice HO311.out
      subst eo22
      obtain ⟨Ao23,co23,eo23⟩:=Kd.R_slice HO317.out
      subst eo23
      go_wp2_with (first | ((with_reducible refine gate_callee (f:=13) rfl ?_);refine goesL_ (some 39) rfl rfl Try.func13 (by kernel_rfl) rfl #[.slice Ao22 t309.length co22,.slice Ao23 t315.length co23] rfl lm_ ?_;(with_reducible refine (laws_equalGroup.calls k _ _ t309 _ _ t315 true _ ?side1 ?side2 ?side3 ?side4 A15.out).mono ?_);(case side1=>exact cc_ (Kd.R_reads' HO311.out).2.2);(case side2=>exact (Kd.R_reads' HO311.out).2.1);(case side3=>exact cc_ (Kd.R_reads' HO317.out).2.2);(case side4=>exact (Kd.R_reads' HO317.out).2.1);rintro e w' ⟨rfl,⟨nd,rfl⟩⟩;refine ⟨_,rfl,?_⟩;obtain ⟨Ao24,co24,eo24⟩:=Kd.R_slice HO314.out;subst eo24;obtain ⟨Ao25,co25,eo25⟩:=Kd.R_slice HO320.out;subst eo25) | (go_at_call 13;(with_reducible refine (laws_equalGroup.calls k _ _ t312 _ _ t318 true _ ?side1 ?side2 ?side3 ?side4 A17.out).mono ?_);(case side1=>exact cc_ (Kd.R_reads' HO314.out).2.2);(case side2=>exact (Kd.R_reads' HO314.out).2.1);(case side3=>exact cc_ (Kd.R_reads' HO320.out).2.2);(case side4=>exact (Kd.R_reads' HO320.out).2.1);rintro e w' ⟨rfl,⟨nd,rfl⟩⟩;have hcz26_0 : w14.cell? ⟨gb308,0,none⟩ = some (.slice Ao9 t301.length co9):=(blk_cell BK308.out 0).trans rfl;have hfz26_0:=blk_frozen BK308.out 0) | (go_at_call 15;(with_reducible refine (impl_ValidGroup.calls k _ _ t301 _ _ t304 true _ ?side1 ?side2 ?side3 ?side4 A19.out).mono ?_);(case side1=>exact cc_ (Kd.R_reads' HO303.out).2.2);(case side2=>exact (Kd.R_reads' HO303.out).2.1);(case side3=>exact cc_ (Kd.R_reads' HO306.out).2.2);(case side4=>exact (Kd.R_reads' HO306.out).2.1);rintro e w27 ⟨rfl,hb⟩;replace HO303:=rb_ HO303 hb;replace HO306:=rb_ HO306 hb;replace HO311:=rb_ HO311 hb;replace HO314:=rb_ HO314 hb;replace HO317:=rb_ HO317 hb;replace HO320:=rb_ HO320 hb;replace BK308:=kb_ BK308 hb;replace HB:=a0_ (below_step hb_ hb);(try clear hb);have hcz28_0 : w27.cell? ⟨gb308,0,none⟩ = some (.slice Ao9 t301.length co9):=(blk_cell BK308.out 0).trans rfl;have hfz28_0:=blk_frozen BK308.out 0) | (go_at_call 22;(with_reducible refine (laws_has.calls _ _ t301 t307 t324 _ ?side1 ?side2 A21.out).mono ?_);(case side1=>exact cc_ (Kd.R_reads' HO303.out).2.2);(case side2=>exact (Kd.R_reads' HO303.out).2.1);rintro e w29 ⟨rfl,hb⟩;replace HO303:=rb_ HO303 hb;replace HO306:=rb_ HO306 hb;replace HO311:=rb_ HO311 hb;replace HO314:=rb_ HO314 hb;replace HO317:=rb_ HO317 hb;replace HO320:=rb_ HO320 hb;replace BK308:=kb_ BK308 hb;replace HB:=a0_ (below_step hb_ hb);(try clear hb);(try clear hb2);(try clear hk);(try clear hi)))
      go_meet
      case rel=>exact ⟨_,(!t324),(by first | rfl | (simp;done) | (simp [*];done)),H',⟨by first | omega | exact Nat.le_refl _⟩,⟨by (with_reducible repeat (first | apply Kd.R_alloc | apply Kd.R_drewN | apply Kd.R_drew));exact Kd.R_mono HO306.out (fun _ hk=>⟨hk.1.1.1.2,⟨hk.1.1.2,⟨hk.1.2,hk.2⟩⟩⟩)⟩,⟨by (with_reducible repeat (first | apply Kd.R_alloc | apply Kd.R_drewN | apply Kd.R_drew));exact Kd.R_mono HO311.out (fun _ hk=>⟨hk.1.1.2,⟨hk.1.1.1,⟨hk.1.2,hk.2⟩⟩⟩)⟩,⟨by (with_reducible repeat (first | apply Kd.R_alloc | apply Kd.R_drewN | apply Kd.R_drew));exact Kd.R_mono HO314.out (fun _ hk=>⟨hk.1.1.2,⟨hk.1.1.1,⟨hk.1.2,hk.2⟩⟩⟩)⟩,⟨by (with_reducible repeat (first | apply Kd.R_alloc | apply Kd.R_drewN | apply Kd.R_drew));exact Kd.R_mono HO317.out (fun _ hk=>⟨hk.1.1.2,⟨hk.1.2,⟨hk.2,hk.1.1.1⟩⟩⟩)⟩,⟨by (with_reducible repeat (first | apply Kd.R_alloc | apply Kd.R_drewN | apply Kd.R_drew));exact Kd.R_mono HO320.out (fun _ hk=>⟨hk.1.1.2,⟨hk.1.2,⟨hk.2,hk.1.1.1⟩⟩⟩)⟩,⟨by (with_reducible repeat (first | apply Kd.R_alloc | apply Kd.R_drewN | apply Kd.R_drew));exact HO303.out⟩,⟨by (with_reducible repeat (first | refine blk_drewN ?_ _ | refine blk_drew ?_ | refine blk_alloc ?_ _));exact BK308.out⟩,⟨hb_⟩⟩
     ·replace c20:=Bool.eq_false_iff.mpr c20
      subst c20
      have H1 : (laws_FnSplitGroupOrder.j0 k t304 t307 t309 t312 t315 t318 true t301) = some r:=by rw [if_neg (show ¬ (false = true) by decide)] at H;exact H
      clear H
      have H:=H1
      clear H1
      have H':=a0_ H
      clear H
      obtain ⟨Ao30,co30,eo30⟩:=Kd.R_slice HO311.out
      subst eo30
      obtain ⟨Ao31,co31,eo31⟩:=Kd.R_slice HO317.out
      subst eo31
      go_wp2_with (first | ((with_reducible refine gate_callee (f:=13) rfl ?_);refine goesL_ (some 39) rfl rfl Try.func13 (by kernel_rfl) rfl #[.slice Ao30 t309.length co30,.slice Ao31 t315.length co31] rfl lm_ ?_;(with_reducible refine (laws_equalGroup.calls k _ _ t309 _ _ t315 true _ ?side1 ?side2 ?side3 ?side4 A15.out).mono ?_);(case side1=>exact cc_ (Kd.R_reads' HO311.out).2.2);(case side2=>exact (Kd.R_reads' HO311.out).2.1);(case side3=>exact cc_ (Kd.R_reads' HO317.out).2.2);(case side4=>exact (Kd.R_reads' HO317.out).2.1);rintro e w' ⟨rfl,⟨nd,rfl⟩⟩;refine ⟨_,rfl,?_⟩;obtain ⟨Ao32,co32,eo32⟩:=Kd.R_slice HO314.out;subst eo32;obtain ⟨Ao33,co33,eo33⟩:=Kd.R_slice HO320.out;subst eo33) | (go_at_call 13;(with_reducible refine (laws_equalGroup.calls k _ _ t312 _ _ t318 true _ ?side1 ?side2 ?side3 ?side4 A17.out).mono ?_);(case side1=>exact cc_ (Kd.R_reads' HO314.out).2.2);(case side2=>exact (Kd.R_reads' HO314.out).2.1);(case side3=>exact cc_ (Kd.R_reads' HO320.out).2.2);(case side4=>exact (Kd.R_reads' HO320.out).2.1);rintro e w' ⟨rfl,⟨nd,rfl⟩⟩;have hcz34_0 : w14.cell? ⟨gb308,0,none⟩ = some (.slice Ao9 t301.length co9):=(blk_cell BK308.out 0).trans rfl;have hfz34_0:=blk_frozen BK308.out 0) | (go_at_call 15;(with_reducible refine (impl_ValidGroup.calls k _ _ t301 _ _ t304 false _ ?side1 ?side2 ?side3 ?side4 A19.out).mono ?_);(case side1=>exact cc_ (Kd.R_reads' HO303.out).2.2);(case side2=>exact (Kd.R_reads' HO303.out).2.1);(case side3=>exact cc_ (Kd.R_reads' HO306.out).2.2);(case side4=>exact (Kd.R_reads' HO306.out).2.1);rintro e w35 ⟨rfl,hb⟩;replace HO303:=rb_ HO303 hb;replace HO306:=rb_ HO306 hb;replace HO311:=rb_ HO311 hb;replace HO314:=rb_ HO314 hb;replace HO317:=rb_ HO317 hb;replace HO320:=rb_ HO320 hb;replace BK308:=kb_ BK308 hb;replace HB:=a0_ (below_step hb_ hb);(try clear hb);(try clear hb2);(try clear hk);(try clear hi)))
      go_meet
      case rel=>exact ⟨_,(true),(by first | rfl | (simp;done) | (simp [*];done)),H',⟨by first | omega | exact Nat.le_refl _⟩,⟨by (with_reducible repeat (first | apply Kd.R_alloc | apply Kd.R_drewN | apply Kd.R_drew));exact Kd.R_mono HO306.out (fun _ hk=>⟨hk.1.1.1.2,⟨hk.1.1.2,⟨hk.1.2,hk.2⟩⟩⟩)⟩,⟨by (with_reducible repeat (first | apply Kd.R_alloc | apply Kd.R_drewN | apply Kd.R_drew));exact Kd.R_mono HO311.out (fun _ hk=>⟨hk.1.1.2,⟨hk.1.1.1,⟨hk.1.2,hk.2⟩⟩⟩)⟩,⟨by (with_reducible repeat (first | apply Kd.R_alloc | apply Kd.R_drewN | apply Kd.R_drew));exact Kd.R_mono HO314.out (fun _ hk=>⟨hk.1.1.2,⟨hk.1.1.1,⟨hk.1.2,hk.2⟩⟩⟩)⟩,⟨by (with_reducible repeat (first | apply Kd.R_alloc | apply Kd.R_drewN | apply Kd.R_drew));exact Kd.R_mono HO317.out (fun _ hk=>⟨hk.1.1.2,⟨hk.1.2,⟨hk.2,hk.1.1.1⟩⟩⟩)⟩,⟨by (with_reducible repeat (first | apply Kd.R_alloc | apply Kd.R_drewN | apply Kd.R_drew));exact Kd.R_mono HO320.out (fun _ hk=>⟨hk.1.1.2,⟨hk.1.2,⟨hk.2,hk.1.1.1⟩⟩⟩)⟩,⟨by (with_reducible repeat (first | apply Kd.R_alloc | apply Kd.R_drewN | apply Kd.R_drew));exact HO303.out⟩,⟨by (with_reducible repeat (first | refine blk_drewN ?_ _ | refine blk_drew ?_ | refine blk_alloc ?_ _));exact BK308.out⟩,⟨hb_⟩⟩
    ·replace c18:=Bool.eq_false_iff.mpr c18
     subst c18
     have H1 : (laws_FnSplitGroupOrder.j0 k t304 t307 t309 t312 t315 t318 true t301) = some r:=by rw [if_neg (show ¬ (false = true) by decide)] at H;exact H
     clear H
     have H:=H1
     clear H1
     have H':=a0_ H
     clear H
     obtain ⟨Ao36,co36,eo36⟩:=Kd.R_slice HO311.out
     subst eo36
     obtain ⟨Ao37,co37,eo37⟩:=Kd.R_slice HO317.out
     subst eo37
     go_wp2_with (first | ((with_reducible refine gate_callee (f:=13) rfl ?_);refine goesL_ (some 39) rfl rfl Try.func13 (by kernel_rfl) rfl #[.slice Ao36 t309.length co36,.slice Ao37 t315.length co37] rfl lm_ ?_;(with_reducible refine (laws_equalGroup.calls k _ _ t309 _ _ t315 true _ ?side1 ?side2 ?side3 ?side4 A15.out).mono ?_);(case side1=>exact cc_ (Kd.R_reads' HO311.out).2.2);(case side2=>exact (Kd.R_reads' HO311.out).2.1);(case side3=>exact cc_ (Kd.R_reads' HO317.out).2.2);(case side4=>exact (Kd.R_reads' HO317.out).2.1);rintro e w' ⟨rfl,⟨nd,rfl⟩⟩;refine ⟨_,rfl,?_⟩;obtain ⟨Ao38,co38,eo38⟩:=Kd.R_slice HO314.out;subst eo38;obtain ⟨Ao39,co39,eo39⟩:=Kd.R_slice HO320.out;subst eo39) | (go_at_call 13;(with_reducible refine (laws_equalGroup.calls k _ _ t312 _ _ t318 false _ ?side1 ?side2 ?side3 ?side4 A17.out).mono ?_);(case side1=>exact cc_ (Kd.R_reads' HO314.out).2.2);(case side2=>exact (Kd.R_reads' HO314.out).2.1);(case side3=>exact cc_ (Kd.R_reads' HO320.out).2.2);(case side4=>exact (Kd.R_reads' HO320.out).2.1);rintro e w' ⟨rfl,⟨nd,rfl⟩⟩))
     go_meet
     case rel=>exact ⟨_,(true),(by first | rfl | (simp;done) | (simp [*];done)),H',⟨by first | omega | exact Nat.le_refl _⟩,⟨by (with_reducible repeat (first | apply Kd.R_alloc | apply Kd.R_drewN | apply Kd.R_drew));exact Kd.R_mono HO306.out (fun _ hk=>⟨hk.1.1.1.2,⟨hk.1.1.2,⟨hk.1.2,hk.2⟩⟩⟩)⟩,⟨by (with_reducible repeat (first | apply Kd.R_alloc | apply Kd.R_drewN | apply Kd.R_drew));exact Kd.R_mono HO311.out (fun _ hk=>⟨hk.1.1.2,⟨hk.1.1.1,⟨hk.1.2,hk.2⟩⟩⟩)⟩,⟨by (with_reducible repeat (first | apply Kd.R_alloc | apply Kd.R_drewN | apply Kd.R_drew));exact Kd.R_mono HO314.out (fun _ hk=>⟨hk.1.1.2,⟨hk.1.1.1,⟨hk.1.2,hk.2⟩⟩⟩)⟩,⟨by (with_reducible repeat (first | apply Kd.R_alloc | apply Kd.R_drewN | apply Kd.R_drew));exact Kd.R_mono HO317.out (fun _ hk=>⟨hk.1.1.2,⟨hk.1.2,⟨hk.2,hk.1.1.1⟩⟩⟩)⟩,⟨by (with_reducible repeat (first | apply Kd.R_alloc | apply Kd.R_drewN | apply Kd.R_drew));exact Kd.R_mono HO320.out (fun _ hk=>⟨hk.1.1.2,⟨hk.1.2,⟨hk.2,hk.1.1.1⟩⟩⟩)⟩,⟨by (with_reducible repeat (first | apply Kd.R_alloc | apply Kd.R_drewN | apply Kd.R_drew));exact HO303.out⟩,⟨by (with_reducible repeat (first | refine blk_drewN ?_ _ | refine blk_drew ?_ | refine blk_alloc ?_ _));exact BK308.out⟩,⟨hb_⟩⟩
   ·replace c16:=Bool.eq_false_iff.mpr c16
    subst c16
    have H1 : (laws_FnSplitGroupOrder.j0 k t304 t307 t309 t312 t315 t318 true t301) = some r:=by rw [if_neg (show ¬ (false = true) by decide)] at H;exact H
    clear H
    have H:=H1
    clear H1
    have H':=a0_ H
    clear H
    obtain ⟨Ao40,co40,eo40⟩:=Kd.R_slice HO311.out
    subst eo40
    obtain ⟨Ao41,co41,eo41⟩:=Kd.R_slice HO317.out
    subst eo41
    go_wp2_with (first | ((with_reducible refine gate_callee (f:=13) rfl ?_);refine goesL_ (some 39) rfl rfl Try.func13 (by kernel_rfl) rfl #[.slice Ao40 t309.length co40,.slice Ao41 t315.length co41] rfl lm_ ?_;(with_reducible refine (laws_equalGroup.calls k _ _ t309 _ _ t315 false _ ?side1 ?side2 ?side3 ?side4 A15.out).mono ?_);(case side1=>exact cc_ (Kd.R_reads' HO311.out).2.2);(case side2=>exact (Kd.R_reads' HO311.out).2.1);(case side3=>exact cc_ (Kd.R_reads' HO317.out).2.2);(case side4=>exact (Kd.R_reads' HO317.out).2.1);rintro e w' ⟨rfl,⟨nd,rfl⟩⟩;refine ⟨_,rfl,?_⟩))
    go_meet
    case rel=>exact ⟨_,(true),(by first | rfl | (simp;done) | (simp [*];done)),H',⟨by first | omega | exact Nat.le_refl _⟩,⟨by (with_reducible repeat (first | apply Kd.R_alloc | apply Kd.R_drewN | apply Kd.R_drew));exact Kd.R_mono HO306.out (fun _ hk=>⟨hk.1.1.1.2,⟨hk.1.1.2,⟨hk.1.2,hk.2⟩⟩⟩)⟩,⟨by (with_reducible repeat (first | apply Kd.R_alloc | apply Kd.R_drewN | apply Kd.R_drew));exact Kd.R_mono HO311.out (fun _ hk=>⟨hk.1.1.2,⟨hk.1.1.1,⟨hk.1.2,hk.2⟩⟩⟩)⟩,⟨by (with_reducible repeat (first | apply Kd.R_alloc | apply Kd.R_drewN | apply Kd.R_drew));exact Kd.R_mono HO314.out (fun _ hk=>⟨hk.1.1.2,⟨hk.1.1.1,⟨hk.1.2,hk.2⟩⟩⟩)⟩,⟨by (with_reducible repeat (first | apply Kd.R_alloc | apply Kd.R_drewN | apply Kd.R_drew));exact Kd.R_mono HO317.out (fun _ hk=>⟨hk.1.1.2,⟨hk.1.2,⟨hk.2,hk.1.1.1⟩⟩⟩)⟩,⟨by (with_reducible repeat (first | apply Kd.R_alloc | apply Kd.R_drewN | apply Kd.R_drew));exact Kd.R_mono HO320.out (fun _ hk=>⟨hk.1.1.2,⟨hk.1.2,⟨hk.2,hk.1.1.1⟩⟩⟩)⟩,⟨by (with_reducible repeat (first | apply Kd.R_alloc | apply Kd.R_drewN | apply Kd.R_drew));exact HO303.out⟩,⟨by (with_reducible repeat (first | refine blk_drewN ?_ _ | refine blk_drew ?_ | refine blk_alloc ?_ _));exact BK308.out⟩,⟨hb_⟩⟩
  case rest =>
   clear HC6
   try clear c1
   try clear c2
   try clear c2b0
   try clear c2b1
   try clear p2
   try clear c8
   try clear c13
   try clear c16
   try clear c18
   try clear c20
   try clear c24
   try clear c25
   try clear c26
   try clear hcz10_0
   try clear hcz13_0
   try clear hcz26_0
   try clear hcz28_0
   try clear hcz34_0
   try clear hfz10_0
   try clear hfz13_0
   try clear hfz26_0
   try clear hfz28_0
   try clear hfz34_0
   obtain ⟨kq,x58_5,rfl,HA,HJ5,HO_4,HO_6,HO_7,HO_8,HO_9,Z309,BK308,HB⟩:=hcut
   cases kq with
   | zero=>exact absurd HA.out (by simp [laws_FnSplitGroupOrder.j0])
   | succ kj5 =>
    have H:=HA.out
    clear HA
    simp only [laws_FnSplitGroupOrder.j0] at H
    by_cases c42 : x58_5 = true
    ·subst c42
     have H1 : ((laws_equalGroup.f kj5 t309 t315).bind fun t325=>(if t325 = true then ((laws_equalGroup.f kj5 t312 t318).bind fun t326=>(some t326)) else (some false))) = some r:=by rw [if_pos rfl] at H;exact H
     clear H
     have H:=H1
     clear H1
     replace H:=Option.bind_eq_some_iff.mp H
     obtain ⟨t325,A430,H⟩:=H
     try dsimp only at H
     have A43:=a0_ A430
     clear A430
     by_cases c44 : t325 = true
     ·subst c44
      have H1 : ((laws_equalGroup.f kj5 t312 t318).bind fun t326=>(some t326)) = some r:=by rw [if_pos rfl] at H;exact H
      clear H
      have H:=H1
      clear H1
      replace H:=Option.bind_eq_some_iff.mp H
      obtain ⟨t326,A450,H⟩:=H
      replace H : (some t326) = some r:=H
      have A45:=a0_ A450
      clear A450
      obtain rfl:=Option.some.inj H
      obtain ⟨Ao46,co46,eo46⟩:=Kd.R_slice HO_6.out
      subst eo46
      obtain ⟨Ao47,co47,eo47⟩:=Kd.R_slice HO_8.out
      subst eo47
      go_wp2_with (first | ((with_reducible refine gate_callee (f:=13) rfl ?_);refine goesL_ (some 61) rfl rfl Try.func13 (by kernel_rfl) rfl #[.slice Ao46 t309.length co46,.slice Ao47 t315.length co47] rfl lm_ ?_;(with_reducible refine (laws_equalGroup.calls kj5 _ _ t309 _ _ t315 true _ ?side1 ?side2 ?side3 ?side4 A43.out).mono ?_);(case side1=>exact cc_ (Kd.R_reads' HO_6.out).2.2);(case side2=>exact (Kd.R_reads' HO_6.out).2.1);(case side3=>exact cc_ (Kd.R_reads' HO_8.out).2.2);(case side4=>exact (Kd.R_reads' HO_8.out).2.1);rintro e w' ⟨rfl,⟨nd,rfl⟩⟩;refine ⟨_,rfl,?_⟩;obtain ⟨Ao48,co48,eo48⟩:=Kd.R_slice HO_7.out;subst eo48;obtain ⟨Ao49,co49,eo49⟩:=Kd.R_slice HO_9.out;subst eo49) | (go_at_call 13;(with_reducible refine (laws_equalGroup.calls kj5 _ _ t312 _ _ t318 t326 _ ?side1 ?side2 ?side3 ?side4 A45.out).mono ?_);(case side1=>exact cc_ (Kd.R_reads' HO_7.out).2.2);(case side2=>exact (Kd.R_reads' HO_7.out).2.1);(case side3=>exact cc_ (Kd.R_reads' HO_9.out).2.2);(case side4=>exact (Kd.R_reads' HO_9.out).2.1);rintro e w' ⟨rfl,⟨nd,rfl⟩⟩))
      go_ret
      exact ⟨by first | rfl | (simp [errW_none,errW_some] <;> rfl) | (simp [*,errW_none,errW_some] <;> rfl),hb_⟩
     ·replace c44:=Bool.eq_false_iff.mpr c44
      subst c44
      have H1 : (some false) = some r:=by rw [if_neg (show ¬ (false = true) by decide)] at H;exact H
      clear H
      have H:=H1
      clear H1
      obtain rfl:=Option.some.inj H
      obtain ⟨Ao50,co50,eo50⟩:=Kd.R_slice HO_6.out
      subst eo50
      obtain ⟨Ao51,co51,eo51⟩:=Kd.R_slice HO_8.out
      subst eo51
      go_wp2_with (first | ((with_reducible refine gate_callee (f:=13) rfl ?_);refine goesL_ (some 61) rfl rfl Try.func13 (by kernel_rfl) rfl #[.slice Ao50 t309.length co50,.slice Ao51 t315.length co51] rfl lm_ ?_;(with_reducible refine (laws_equalGroup.calls kj5 _ _ t309 _ _ t315 false _ ?side1 ?side2 ?side3 ?side4 A43.out).mono ?_);(case side1=>exact cc_ (Kd.R_reads' HO_6.out).2.2);(case side2=>exact (Kd.R_reads' HO_6.out).2.1);(case side3=>exact cc_ (Kd.R_reads' HO_8.out).2.2);(case side4=>exact (Kd.R_reads' HO_8.out).2.1);rintro e w' ⟨rfl,⟨nd,rfl⟩⟩;refine ⟨_,rfl,?_⟩))
      go_ret
      exact ⟨by first | rfl | (simp [errW_none,errW_some] <;> rfl) | (simp [*,errW_none,errW_some] <;> rfl),hb_⟩
    ·replace c42:=Bool.eq_false_iff.mpr c42
     subst c42
     have H1 : ((impl_LeavesOf.f kj5 t301 t304).bind fun t333=>(laws_FnSplitGroupOrder.l0 kj5 t307 t309 t312 (([] : List (S43))) (([] : List (S43))) t333 0 t301)) = some r:=by rw [if_neg (show ¬ (false = true) by decide)] at H;exact H
     clear H
     have H:=H1
     clear H1
     obtain ⟨y327,hy327⟩ : ∃ y_ : List (S43),y_ = (([] : List (S43))):=⟨_,rfl⟩
     replace H : ((impl_LeavesOf.f kj5 t301 t304).bind fun t333=>(laws_FnSplitGroupOrder.l0 kj5 t307 t309 t312 y327 (([] : List (S43))) t333 0 t301)) = some r:=by first | (rw [hy327];with_reducible exact H) | (have H2_:=(Option.bind_some _ _).symm.trans H;rw [hy327];with_reducible exact H2_) | (have H2_:=(Option.bind_some _ _).symm.trans H;with_reducible exact H2_) | with_reducible exact H | (rw [hy327];exact H) | exact H
     have Ny327:=a0_ hy327
     clear hy327
     obtain ⟨y330,hy330⟩ : ∃ y_ : List (S43),y_ = (([] : List (S43))):=⟨_,rfl⟩
     replace H : ((impl_LeavesOf.f kj5 t301 t304).bind fun t333=>(laws_FnSplitGroupOrder.l0 kj5 t307 t309 t312 y327 y330 t333 0 t301)) = some r:=by first | (rw [hy330];with_reducible exact H) | (have H2_:=(Option.bind_some _ _).symm.trans H;rw [hy330];with_reducible exact H2_) | (have H2_:=(Option.bind_some _ _).symm.trans H;with_reducible exact H2_) | with_reducible exact H | (rw [hy330];exact H) | exact H
     have Ny330:=a0_ hy330
     clear hy330
     replace H:=Option.bind_eq_some_iff.mp H
     obtain ⟨t333,A520,H⟩:=H
     try dsimp only at H
     have A52:=a0_ A520
     clear A520
     have H':=a0_ H
     clear H
     go_wp2_with (first | ((with_reducible refine gate_dst (N:=67) rfl ?_);refine Kd.R_lit k43 _ 43 ?hg (N:=67) ?hd (xs:=([] : List (S43))) (inner:=[]) (ok:=fun _=>True) (okp:=fun _=>True) ?hr ?hp (fun _ hk=>hk) trivial (Below.refl _ _) (Nat.le_refl _) (by simp) ?_;(case hd=>rfl);(case hg=>rfl);(case hr=>first | (go_simp;done) | (go_simp;rfl));(case hp=>exact (Reps.none _ _));intro v328 w53 ho54 hb hg_ hnew_;clear hg_ hnew_;(first | rw [← Ny327.out] at ho54 | (simp only [Int.reduceToNat] at ho54;rw [← Ny327.out] at ho54));replace HO_4:=rb_ HO_4 hb;replace HO_6:=rb_ HO_6 hb;replace HO_7:=rb_ HO_7 hb;replace HO_8:=rb_ HO_8 hb;replace HO_9:=rb_ HO_9 hb;replace Z309:=rb_ Z309 hb;have HO329:=a0_ (Kd.R_lower ho54 (below_size hb_));replace BK308:=kb_ BK308 hb;replace HB:=a0_ (below_step hb_ hb);clear hb ho54) | ((with_reducible refine gate_dst (N:=68) rfl ?_);refine Kd.R_lit k43 _ 43 ?hg (N:=68) ?hd (xs:=([] : List (S43))) (inner:=[]) (ok:=fun _=>True) (okp:=fun _=>True) ?hr ?hp (fun _ hk=>hk) trivial (Below.refl _ _) (Nat.le_refl _) (by simp) ?_;(case hd=>rfl);(case hg=>rfl);(case hr=>first | (go_simp;done) | (go_simp;rfl));(case hp=>exact (Reps.none _ _));intro v331 w55 ho56 hb hg_ hnew_;clear hg_ hnew_;(first | rw [← Ny330.out] at ho56 | (simp only [Int.reduceToNat] at ho56;rw [← Ny330.out] at ho56));have n0_:=rb_ HO_4 hb;have n1_:=rb_ HO_6 hb;have n2_:=rb_ HO_7 hb;have n3_:=rb_ HO_8 hb;have n4_:=rb_ HO_9 hb;have n5_:=rb_ Z309 hb;have n6_:=a0_ (Kd.R_elder' (rr_ HO329.out) (Kd.R_base ho56) hb);have n7_:=a0_ (Kd.R_lower (Kd.R_new' ho56 (Kd.R_lt (rr_ HO329.out))) (below_size hb_));have n8_:=kb_ BK308 hb;have n9_:=a0_ (below_step hb_ hb);clear HO_4 HO_6;clear HO_7 HO_8;clear HO_9 Z309;clear HO329 BK308 HB;have HO_4:=n0_;have HO_6:=n1_;have HO_7:=n2_;have HO_8:=n3_;have HO_9:=n4_;have Z309:=n5_;have HO329:=n6_;have HO332:=n7_;have BK308:=n8_;have HB:=n9_;clear n0_ n1_ n2_ n3_ n4_ n5_ n6_ n7_ n8_ n9_;clear hb ho56;have hcz57_0 : w55.cell? ⟨gb308,0,none⟩ = some (.slice Ao9 t301.length co9):=(blk_cell BK308.out 0).trans rfl;have hfz57_0:=blk_frozen BK308.out 0) | ((with_reducible refine gate_callee (f:=17) rfl ?_);refine goesL_ (some 71) rfl rfl Try.func17 (by kernel_rfl) rfl #[.agg #[.slice Ao9 t301.length co9],.slice Ao11 t304.length co11] rfl lm_ ?_;(with_reducible refine (impl_LeavesOf.calls kj5 _ _ t301 _ _ t304 t333 _ ?side1 ?side2 ?side3 ?side4 A52.out).mono ?_);(case side1=>exact cc_ (Kd.R_reads' Z309.out).2.2);(case side2=>exact (Kd.R_reads' Z309.out).2.1);(case side3=>exact cc_ (Kd.R_reads' HO_4.out).2.2);(case side4=>exact (Kd.R_reads' HO_4.out).2.1);rintro e w58 ⟨v334,rfl,ho0,hb⟩;refine ⟨_,rfl,?_⟩;have n0_:=rb_ HO_4 hb;have n1_:=rb_ HO_6 hb;have n2_:=rb_ HO_7 hb;have n3_:=rb_ HO_8 hb;have n4_:=rb_ HO_9 hb;have n5_:=rb_ Z309 hb;have n6_:=a0_ (Kd.R_elder' (rr_ HO329.out) (Kd.R_base ho0) hb);have n7_:=a0_ (Kd.R_elder' (rr_ HO332.out) (Kd.R_base ho0) hb);have n8_:=a0_ (Kd.R_lower (Kd.R_new' (Kd.R_new' ho0 (Kd.R_lt (rr_ HO329.out))) (Kd.R_lt (rr_ HO332.out))) (below_size hb_));have n9_:=kb_ BK308 hb;have n10_:=a0_ (below_step hb_ hb);clear HO_4 HO_6;clear HO_7 HO_8;clear HO_9 Z309;clear HO329 HO332;clear BK308 HB;have HO_4:=n0_;have HO_6:=n1_;have HO_7:=n2_;have HO_8:=n3_;have HO_9:=n4_;have Z309:=n5_;have HO329:=n6_;have HO332:=n7_;have HO335:=n8_;have BK308:=n9_;have HB:=n10_;clear n0_ n1_ n2_ n3_ n4_ n5_ n6_ n7_ n8_ n9_ n10_;(try clear hb);(try clear ho0)))
     go_loopg [10,11,13] kj5 (fun kq v10 v11 v13 w'=>∃ (x10_2 : List (S43)) (x11_2 : List (S43)) (x13_2 : Int),v13 = .int .i64 x13_2 ∧ Aside0 (laws_FnSplitGroupOrder.l0 kq t307 t309 t312 x10_2 x11_2 t333 x13_2 t301 = some r) ∧ Aside0 (kq ≤ kj5) ∧ Aside0 (Kd.R k47 47 w' w.heap.size (fun k_=>some k_ ≠ (v313 : Value).ownBlock) v310 t309) ∧ Aside0 (Kd.R k47 47 w' w.heap.size (fun k_=>some k_ ≠ (v310 : Value).ownBlock) v313 t312) ∧ Aside0 (Kd.R k43 43 w' w.heap.size (fun k_=>some k_ ≠ (v11 : Value).ownBlock ∧ some k_ ≠ (v334 : Value).ownBlock) v10 x10_2) ∧ Aside0 (Kd.R k43 43 w' w.heap.size (fun k_=>some k_ ≠ (v10 : Value).ownBlock ∧ some k_ ≠ (v334 : Value).ownBlock) v11 x11_2) ∧ Aside0 (Kd.R k43 43 w' w.heap.size (fun k_=>some k_ ≠ (v10 : Value).ownBlock ∧ some k_ ≠ (v11 : Value).ownBlock) v334 t333) ∧ Aside0 (Kd.R k85 85 w' w.heap.size (fun _=>True) (.slice Ao9 t301.length co9) t301) ∧ Aside0 (w'.heap[gb308]? = some (.cells #[(.slice Ao9 t301.length co9)] 25 (0,0))) ∧ Aside0 (Below w.heap.size w w'))
     case atStart=>exact ⟨(y327),(y330),(0),(by first | rfl | (simp;done) | (simp [*];done)),H',⟨Nat.le_refl _⟩,⟨by (with_reducible repeat (first | apply Kd.R_alloc | apply Kd.R_drewN | apply Kd.R_drew));exact Kd.R_mono HO_6.out (fun _ hk=>hk.2.1)⟩,⟨by (with_reducible repeat (first | apply Kd.R_alloc | apply Kd.R_drewN | apply Kd.R_drew));exact Kd.R_mono HO_7.out (fun _ hk=>hk.2.1)⟩,⟨by (with_reducible repeat (first | apply Kd.R_alloc | apply Kd.R_drewN | apply Kd.R_drew));exact Kd.R_mono HO329.out (fun _ hk=>⟨hk.1.2,hk.2⟩)⟩,⟨by (with_reducible repeat (first | apply Kd.R_alloc | apply Kd.R_drewN | apply Kd.R_drew));exact Kd.R_mono HO332.out (fun _ hk=>⟨hk.1.2,hk.2⟩)⟩,⟨by (with_reducible repeat (first | apply Kd.R_alloc | apply Kd.R_drewN | apply Kd.R_drew));exact Kd.R_mono HO335.out (fun _ hk=>⟨hk.1.2,hk.2⟩)⟩,⟨by (with_reducible repeat (first | apply Kd.R_alloc | apply Kd.R_drewN | apply Kd.R_drew));exact Z309.out⟩,⟨by (with_reducible repeat (first | refine blk_drewN ?_ _ | refine blk_drew ?_ | refine blk_alloc ?_ _));exact BK308.out⟩,⟨hb_⟩⟩
     case round =>
      clear H'
      try clear c1
      try clear c2
      try clear c2b0
      try clear c2b1
      try clear p2
      try clear c4
      try clear c8
      try clear c13
      try clear c16
      try clear c17
      try clear c18
      try clear c20
      try clear c24
      try clear c25
      try clear c26
      try clear c42
      try clear c44
      try clear hcz10_0
      try clear hcz13_0
      try clear hcz26_0
      try clear hcz28_0
      try clear hcz34_0
      try clear hcz57_0
      try clear hfz10_0
      try clear hfz13_0
      try clear hfz26_0
      try clear hfz28_0
      try clear hfz34_0
      try clear hfz57_0
      try clear p2
      obtain ⟨x10_2,x11_2,x13_2,rfl,HA,HK2,HO_6,HO_7,HO_10,HO_11,HO_12,Z309,BK308,HB⟩:=hrel
      cases gk with
      | zero=>exact absurd HA.out (by simp [laws_FnSplitGroupOrder.l0])
      | succ k2 =>
       have H:=HA.out
       clear HA
       simp only [laws_FnSplitGroupOrder.l0] at H
       by_cases c59 : x13_2 < (t333.length : Int)
       ·rw [if_pos c59] at H
        have c59b0 : decide (x13_2 < (t333.length : Int)) = true:=decide_eq_true c59
        clear c59
        by_cases c60 : 0 ≤ x13_2
        ·rw [if_pos c60] at H
         have c60b0 : decide (0 ≤ x13_2) = true:=decide_eq_true c60
         clear c60
         replace H:=Option.bind_eq_some_iff.mp H
         obtain ⟨t337,A610,H⟩:=H
         try dsimp only at H
         have A61:=a0_ A610
         clear A610
         by_cases c62 : t337 = true
         ·subst c62
          have H1 : (if x10_2.length < 8796093022208 then (laws_FnSplitGroupOrder.l0 k2 t307 t309 t312 (x10_2 ++ [(⟨(rd_T43 t333 x13_2).f0,(rd_T43 t333 x13_2).f1⟩ : S43)]) x11_2 t333 (wrap64 (x13_2 + 1)) t301) else (none)) = some r:=by rw [if_pos rfl] at H;exact H
          clear H
          have H:=H1
          clear H1
          by_cases c63 : x10_2.length < 8796093022208
          ·rw [if_pos c63] at H
           have LMc63:=a0_ c63
           clear c63
           obtain ⟨y339,hy339⟩ : ∃ y_ : List (S43),y_ = (x10_2 ++ [(⟨(rd_T43 t333 x13_2).f0,(rd_T43 t333 x13_2).f1⟩ : S43)]):=⟨_,rfl⟩
           replace H : (laws_FnSplitGroupOrder.l0 k2 t307 t309 t312 y339 x11_2 t333 (wrap64 (x13_2 + 1)) t301) = some r:=by first | (rw [hy339];with_reducible exact H) | (have H2_:=(Option.bind_some _ _).symm.trans H;rw [hy339];with_reducible exact H2_) | (have H2_:=(Option.bind_some _ _).symm.trans H;with_reducible exact H2_) | with_reducible exact H | (rw [hy339];exact H) | exact H
           have Ny339:=a0_ hy339
           clear hy339
           have H':=a0_ H
           clear H
           obtain ⟨Ao64,co64,eo64⟩:=Kd.R_slice HO_12.out
           subst eo64
           try go_wp2
           have n0_:=a0_ (Kd.R_drew HO_6.out)
           have n1_:=a0_ (Kd.R_drew HO_7.out)
           have n2_:=a0_ (Kd.R_drew HO_10.out)
           have n3_:=a0_ (Kd.R_drew HO_11.out)
           have n4_:=a0_ (Kd.R_drew HO_12.out)
           have n5_:=a0_ (Kd.R_drew Z309.out)
           have n6_:=a0_ (blk_drew BK308.out)
           have n7_:=a0_ (below_drew1 HB.out)
           clear HO_6
           clear HO_7
           clear HO_10
           clear HO_11
           clear HO_12
           clear Z309
           clear BK308
           clear HB
           have HO_6:=n0_
           have HO_7:=n1_
           have HO_10:=n2_
           have HO_11:=n3_
           have HO_12:=n4_
           have Z309:=n5_
           have BK308:=n6_
           have HB:=n7_
           clear n0_ n1_ n2_ n3_ n4_ n5_ n6_ n7_
           have p336 : 0 ≤ (x13_2 : Int):=of_decide_eq_true (by first | (with_reducible assumption) | assumption)
           have q336 : x13_2 < (t333.length : Int):=of_decide_eq_true (by first | (with_reducible assumption) | assumption)
           obtain ⟨ad336,e336,hx336_0,hx336_1⟩:=at_T43 (Kd.R_reads' HO_12.out).2.2 x13_2 p336 q336
           cases e336
           replace p336:=eq_true p336
           replace q336:=eq_true q336
           refine start_ (n:=8) (S:=fun w'=>w'.cell? ⟨gb308,0,none⟩ = some (.slice Ao9 t301.length co9) ∧ w'.cell? (ad336.add ((x13_2).toNat * 2)) = some (.int .i64 ((rd_T43 t333 x13_2).f0)) ∧ w'.cell? ⟨(ad336.add ((x13_2).toNat * 2)).block,(ad336.add ((x13_2).toNat * 2)).off + 1,none⟩ = some (.int .i64 ((rd_T43 t333 x13_2).f1))) (ds:=[]) #[false,false,false,false,false,false,false,false] (by kernel_rfl) rfl rfl ⟨(blk_cell BK308.out 0).trans rfl,hx336_0,hx336_1⟩ (fun hHeld=>?_);refine with_tabW laws_FnSplitGroupOrder.tab14 laws_FnSplitGroupOrder.bits14 (fun HT_ HW_=>?_)
           generalize wr.drew = w65 at HO_6 HO_7 HO_10 HO_11 HO_12 Z309 BK308 HB hx336_0 hx336_1 hHeld ⊢
           refine pure_ (i:=1) (N:=some 79) (v:=?_) (a':=?_) #[false,true,false,false,false,false,false,false] rfl rfl (any_of HT_.out (by kernel_rfl)) (fun _ _ _ h=>h) (Or.inl ⟨by rfl,?_⟩) ?_ ?_
           rotate_left
           ·intro w'
            go_simp
            with_reducible rfl
           rotate_left
           ·simp only [Act.put,s1_,s2_,s3_,i64_w,i32_w]
            rfl
           refine pure_ (i:=2) (N:=some 80) (v:=?_) (a':=?_) #[false,true,true,false,false,false,false,false] rfl rfl (any_of HT_.out (by kernel_rfl)) (fun _ _ _ h=>h) (Or.inl ⟨by rfl,?_⟩) ?_ ?_
           rotate_left
           ·intro w'
            go_simp
            with_reducible rfl
           rotate_left
           ·simp only [Act.put,s1_,s2_,s3_,i64_w,i32_w]
            rfl
           refine pure_ (i:=3) (N:=some 81) (v:=?_) (a':=?_) #[false,true,true,true,false,false,false,false] rfl rfl (any_of HT_.out (by kernel_rfl)) (fun _ _ _ h=>h) (Or.inl ⟨by rfl,?_⟩) ?_ ?_
           rotate_left
           ·intro w'
            go_simp
            with_reducible rfl
           rotate_left
           ·simp only [Act.put,s1_,s2_,s3_,i64_w,i32_w]
            rfl
           refine pure_ (i:=4) (N:=some 82) (v:=?_) (a':=?_) #[false,true,true,true,true,false,false,false] rfl rfl (any_of HT_.out (by kernel_rfl)) (fun _ _ _ h=>h) (Or.inl ⟨by rfl,?_⟩) ?_ ?_
           rotate_left
           ·intro w'
            go_simp
            with_reducible rfl
           rotate_left
           ·simp only [Act.put,s1_,s2_,s3_,i64_w,i32_w]
            rfl
           refine pure_ (i:=6) (N:=some 84) (v:=?_) (a':=?_) #[false,true,true,true,true,false,true,false] rfl rfl (any_of HT_.out (by kernel_rfl)) (fun _ _ _ h=>h) (Or.inl ⟨by rfl,?_⟩) ?_ ?_
           rotate_left
           ·intro w'
            go_simp
            with_reducible rfl
           rotate_left
           ·simp only [Act.put,s1_,s2_,s3_,i64_w,i32_w]
            rfl
           refine take_ (i:=0) (N:=some 78) (v:=?_) (a':=?_) #[true,true,true,true,true,false,true,false] rfl rfl (take_ofW HT_.out HW_.out (by kernel_rfl)) (fun _ _ _ h=>h) (Or.inl ⟨by rfl,?_⟩) hHeld ?_ ?_
           rotate_left
           ·rintro w' ⟨s0,s1,s2⟩
            go_simp
            with_reducible rfl
           rotate_left
           ·simp only [Act.put,s1_,s2_,s3_,i64_w,i32_w]
            rfl
           refine take_ (i:=5) (N:=some 83) (v:=?_) (a':=?_) #[true,true,true,true,true,true,true,false] rfl rfl (take_ofW HT_.out HW_.out (by kernel_rfl)) (fun _ _ _ h=>h) (Or.inl ⟨by rfl,?_⟩) hHeld ?_ ?_
           rotate_left
           ·rintro w' ⟨s0,s1,s2⟩
            go_simp
            with_reducible rfl
           rotate_left
           ·simp only [Act.put,s1_,s2_,s3_,i64_w,i32_w]
            rfl
           refine one_ (i:=7) (N:=some 85) #[true,true,true,true,true,true,true,true] rfl rfl (one_of HT_.out (by kernel_rfl)) (by decide) (fun K hK=>?_)
           refine goes_ Try.func23 (by kernel_rfl) rfl #[.agg #[.slice Ao9 t301.length co9],.int .i64 ((rd_T43 t333 x13_2).f0),.int .i64 t307] (by rfl) rfl rfl lm_ ?_
           with_reducible refine (impl_IsA.calls k2 _ _ t301 ((rd_T43 t333 x13_2).f0) t307 true _ ?side1 ?side2 A61.out).mono ?_
           (case side1=>exact cc_ (Kd.R_reads' Z309.out).2.2)
           (case side2=>exact (Kd.R_reads' Z309.out).2.1)
           rintro e w66 ⟨rfl,hb⟩
           have HS1_:=(hb.cell (World.block_lt_of_cell? _ _ (hHeld.2.1))).trans (hHeld.2.1)
           have HS2_:=(hb.cell (World.block_lt_of_cell? _ _ (hHeld.2.2))).trans (hHeld.2.2)
           refine ⟨_,rfl,?_⟩
           have n0_:=rb_ HO_6 hb
           have n1_:=rb_ HO_7 hb
           have n2_:=rb_ HO_10 hb
           have n3_:=rb_ HO_11 hb
           have n4_:=rb_ HO_12 hb
           have n5_:=rb_ Z309 hb
           have n6_:=kb_ BK308 hb
           have n7_:=a0_ (below_step hb_ hb)
           clear HO_6
           clear HO_7
           clear HO_10
           clear HO_11
           clear HO_12
           clear Z309
           clear BK308
           clear HB
           have HO_6:=n0_
           have HO_7:=n1_
           have HO_10:=n2_
           have HO_11:=n3_
           have HO_12:=n4_
           have Z309:=n5_
           have BK308:=n6_
           have HB:=n7_
           clear n0_ n1_ n2_ n3_ n4_ n5_ n6_ n7_
           (try clear hb)
           (try clear hb2)
           (try clear hk)
           (try clear hi)
           refine hK.out _ _ ⟨(blk_cell BK308.out 0).trans rfl,HS1_,HS2_⟩ (fun hHeld=>?_)
           clear hK K
           refine norm_ (a':=?_) ?_ ?_
           rotate_left
           ·show Act.put _ (some 85) _ = _
            simp only [Act.put,s1_,s2_,s3_,i64_w,i32_w]
            rfl
           refine done_ (done_of HT_.out (by kernel_rfl)) ?_
           have p338 : 0 ≤ (x13_2 : Int):=of_decide_eq_true (by first | (with_reducible assumption) | assumption)
           have q338 : x13_2 < (t333.length : Int):=of_decide_eq_true (by first | (with_reducible assumption) | assumption)
           obtain ⟨ad338,e338,hx338_0,hx338_1⟩:=at_T43 (Kd.R_reads' HO_12.out).2.2 x13_2 p338 q338
           obtain rfl : ad336 = ad338:=(by injection e338)
           replace p338:=eq_true p338
           replace q338:=eq_true q338
           try go_wp2_with (first | ((with_reducible refine gate_builtin (b:=.append) (xs:=#[.tmp 86,.tmp 91]) rfl ?_);at_builtin;refine Kd.R_append k43 (w0:=w) w.heap.size rfl (.tmp 86) (.tmp 91) 33 43 (.agg #[(.int .i64 0),(.int .i64 0)]) 16 rfl Try.underlying33 info43 rfl (by decide) (by omega) u10 x10_2 (⟨(rd_T43 t333 x13_2).f0,(rd_T43 t333 x13_2).f1⟩ : S43) [.int .i64 ((rd_T43 t333 x13_2).f0),.int .i64 ((rd_T43 t333 x13_2).f1)] (fun k_=>some k_ ≠ (u11 : Value).ownBlock ∧ some k_ ≠ (.slice (some ad336) t333.length co64 : Value).ownBlock) (fun _=>False) rfl rfl ?aP (fun _ hk=>hk.elim) ?aF ?aO ?aB ?aS ?aL ?_;(case aP=>exact k43_mkM _ _ _ (⟨(rd_T43 t333 x13_2).f0,(rd_T43 t333 x13_2).f1⟩ : S43));(case aB=>exact hb_);(case aF=>exact (fun k_ hk=>⟨Kd.fresh' (Kd.R_lt (rr_ HO_11.out)) k_ hk,Kd.fresh' (Kd.R_lt (rr_ HO_12.out)) k_ hk⟩));(case aO=>exact (rr_ HO_10.out));(case aS=>exact (below_size hb_));(case aL=>have:=LMc63.out;omega);intro v340 w67 ho hb hg hat;rw [← Ny339.out] at ho;replace HO_6:=a0_ (Kd.R_over' (rr_ HO_6.out) (Kd.R_typed (rr_ HO_10.out)) (by decide) hg);replace HO_7:=a0_ (Kd.R_over' (rr_ HO_7.out) (Kd.R_typed (rr_ HO_10.out)) (by decide) hg);replace HO_11:=a0_ (Kd.R_after (ok:=(fun k_=>some k_ ≠ (.slice (some ad336) t333.length co64 : Value).ownBlock)) (rm_ HO_11.out (fun _ hk=>⟨hk.2,hk.1⟩)) hg hat);replace HO_12:=a0_ (Kd.R_after (ok:=(fun k_=>some k_ ≠ (u11 : Value).ownBlock)) (rm_ HO_12.out (fun _ hk=>⟨hk.2,hk.1⟩)) hg hat);replace Z309:=a0_ (Kd.R_over' (rr_ Z309.out) (Kd.R_typed (rr_ HO_10.out)) (by decide) hg);replace BK308:=a0_ (blk_grown (bb_ BK308.out) hg (Kd.R_ne HO_10.out BK308.out (by decide)));have HO341:=a0_ (ho);replace HB:=a0_ (hb);clear HO_10;clear ho hb hg hat))
           go_roundg k2
           case measure=>have:=HJ5.out;have:=HK2.out;omega
           case rel=>exact ⟨(y339),(x11_2),(wrap64 (x13_2 + 1)),(by first | rfl | (simp;done) | (simp [*];done)),H',⟨by have:=HJ5.out;have:=HK2.out;omega⟩,⟨by (with_reducible repeat (first | apply Kd.R_alloc | apply Kd.R_drewN | apply Kd.R_drew));exact HO_6.out⟩,⟨by (with_reducible repeat (first | apply Kd.R_alloc | apply Kd.R_drewN | apply Kd.R_drew));exact HO_7.out⟩,⟨by (with_reducible repeat (first | apply Kd.R_alloc | apply Kd.R_drewN | apply Kd.R_drew));exact HO341.out⟩,⟨by (with_reducible repeat (first | apply Kd.R_alloc | apply Kd.R_drewN | apply Kd.R_drew));exact Kd.R_mono HO_11.out (fun _ hk=>⟨hk.2,hk.1⟩)⟩,⟨by (with_reducible repeat (first | apply Kd.R_alloc | apply Kd.R_drewN | apply Kd.R_drew));exact Kd.R_mono HO_12.out (fun _ hk=>⟨hk.2,hk.1⟩)⟩,⟨by (with_reducible repeat (first | apply Kd.R_alloc | apply Kd.R_drewN | apply Kd.R_drew));exact Z309.out⟩,⟨by (with_reducible repeat (first | refine blk_drewN ?_ _ | refine blk_drew ?_ | refine blk_alloc ?_ _));exact BK308.out⟩,⟨hb_⟩⟩
          ·rw [if_neg c63] at H
           exact absurd H (by simp)
         ·replace c62:=Bool.eq_false_iff.mpr c62
          subst c62
          have H1 : (if x11_2.length < 8796093022208 then (laws_FnSplitGroupOrder.l0 k2 t307 t309 t312 x10_2 (x11_2 ++ [(⟨(rd_T43 t333 x13_2).f0,(rd_T43 t333 x13_2).f1⟩ : S43)]) t333 (wrap64 (x13_2 + 1)) t301) else (none)) = some r:=by rw [if_neg (show ¬ (false = true) by decide)] at H;exact H
          clear H
          have H:=H1
          clear H1
          by_cases c68 : x11_2.length < 8796093022208
          ·rw [if_pos c68] at H
           have LMc68:=a0_ c68
           clear c68
           obtain ⟨y343,hy343⟩ : ∃ y_ : List (S43),y_ = (x11_2 ++ [(⟨(rd_T43 t333 x13_2).f0,(rd_T43 t333 x13_2).f1⟩ : S43)]):=⟨_,rfl⟩
           replace H : (laws_FnSplitGroupOrder.l0 k2 t307 t309 t312 x10_2 y343 t333 (wrap64 (x13_2 + 1)) t301) = some r:=by first | (rw [hy343];with_reducible exact H) | (have H2_:=(Option.bind_some _ _).symm.trans H;rw [hy343];with_reducible exact H2_) | (have H2_:=(Option.bind_some _ _).symm.trans H;with_reducible exact H2_) | with_reducible exact H | (rw [hy343];exact H) | exact H
           have Ny343:=a0_ hy343
           clear hy343
           have H':=a0_ H
           clear H
           obtain ⟨Ao69,co69,eo69⟩:=Kd.R_slice HO_12.out
           subst eo69
           try go_wp2
           have n0_:=a0_ (Kd.R_drew HO_6.out)
           have n1_:=a0_ (Kd.R_drew HO_7.out)
           have n2_:=a0_ (Kd.R_drew HO_10.out)
           have n3_:=a0_ (Kd.R_drew HO_11.out)
           have n4_:=a0_ (Kd.R_drew HO_12.out)
           have n5_:=a0_ (Kd.R_drew Z309.out)
           have n6_:=a0_ (blk_drew BK308.out)
           have n7_:=a0_ (below_drew1 HB.out)
           clear HO_6
           clear HO_7
           clear HO_10
           clear HO_11
           clear HO_12
           clear Z309
           clear BK308
           clear HB
           have HO_6:=n0_
           have HO_7:=n1_
           have HO_10:=n2_
           have HO_11:=n3_
           have HO_12:=n4_
           have Z309:=n5_
           have BK308:=n6_
           have HB:=n7_
           clear n0_ n1_ n2_ n3_ n4_ n5_ n6_ n7_
           have p336 : 0 ≤ (x13_2 : Int):=of_decide_eq_true (by first | (with_reducible assumption) | assumption)
           have q336 : x13_2 < (t333.length : Int):=of_decide_eq_true (by first | (with_reducible assumption) | assumption)
           obtain ⟨ad336,e336,hx336_0,hx336_1⟩:=at_T43 (Kd.R_reads' HO_12.out).2.2 x13_2 p336 q336
           cases e336
           replace p336:=eq_true p336
           replace q336:=eq_true q336
           refine start_ (n:=8) (S:=fun w'=>w'.cell? ⟨gb308,0,none⟩ = some (.slice Ao9 t301.length co9) ∧ w'.cell? (ad336.add ((x13_2).toNat * 2)) = some (.int .i64 ((rd_T43 t333 x13_2).f0)) ∧ w'.cell? ⟨(ad336.add ((x13_2).toNat * 2)).block,(ad336.add ((x13_2).toNat * 2)).off + 1,none⟩ = some (.int .i64 ((rd_T43 t333 x13_2).f1))) (ds:=[]) #[false,false,false,false,false,false,false,false] (by kernel_rfl) rfl rfl ⟨(blk_cell BK308.out 0).trans rfl,hx336_0,hx336_1⟩ (fun hHeld=>?_);refine with_tabW laws_FnSplitGroupOrder.tab14 laws_FnSplitGroupOrder.bits14 (fun HT_ HW_=>?_)
           generalize wr.drew = w70 at HO_6 HO_7 HO_10 HO_11 HO_12 Z309 BK308 HB hx336_0 hx336_1 hHeld ⊢
           refine pure_ (i:=1) (N:=some 79) (v:=?_) (a':=?_) #[false,true,false,false,false,false,false,false] rfl rfl (any_of HT_.out (by kernel_rfl)) (fun _ _ _ h=>h) (Or.inl ⟨by rfl,?_⟩) ?_ ?_
           rotate_left
           ·intro w'
            go_simp
            with_reducible rfl
           rotate_left
           ·simp only [Act.put,s1_,s2_,s3_,i64_w,i32_w]
            rfl
           refine pure_ (i:=2) (N:=some 80) (v:=?_) (a':=?_) #[false,true,true,false,false,false,false,false] rfl rfl (any_of HT_.out (by kernel_rfl)) (fun _ _ _ h=>h) (Or.inl ⟨by rfl,?_⟩) ?_ ?_
           rotate_left
           ·intro w'
            go_simp
            with_reducible rfl
           rotate_left
           ·simp only [Act.put,s1_,s2_,s3_,i64_w,i32_w]
            rfl
           refine pure_ (i:=3) (N:=some 81) (v:=?_) (a':=?_) #[false,true,true,true,false,false,false,false] rfl rfl (any_of HT_.out (by kernel_rfl)) (fun _ _ _ h=>h) (Or.inl ⟨by rfl,?_⟩) ?_ ?_
           rotate_left
           ·intro w'
            go_simp
            with_reducible rfl
           rotate_left
           ·simp only [Act.put,s1_,s2_,s3_,i64_w,i32_w]
            rfl
           refine pure_ (i:=4) (N:=some 82) (v:=?_) (a':=?_) #[false,true,true,true,true,false,false,false] rfl rfl (any_of HT_.out (by kernel_rfl)) (fun _ _ _ h=>h) (Or.inl ⟨by rfl,?_⟩) ?_ ?_
           rotate_left
           ·intro w'
            go_simp
            with_reducible rfl
           rotate_left
           ·simp only [Act.put,s1_,s2_,s3_,i64_w,i32_w]
            rfl
           refine pure_ (i:=6) (N:=some 84) (v:=?_) (a':=?_) #[false,true,true,true,true,false,true,false] rfl rfl (any_of HT_.out (by kernel_rfl)) (fun _ _ _ h=>h) (Or.inl ⟨by rfl,?_⟩) ?_ ?_
           rotate_left
           ·intro w'
            go_simp
            with_reducible rfl
           rotate_left
           ·simp only [Act.put,s1_,s2_,s3_,i64_w,i32_w]
            rfl
           refine take_ (i:=0) (N:=some 78) (v:=?_) (a':=?_) #[true,true,true,true,true,false,true,false] rfl rfl (take_ofW HT_.out HW_.out (by kernel_rfl)) (fun _ _ _ h=>h) (Or.inl ⟨by rfl,?_⟩) hHeld ?_ ?_
           rotate_left
           ·rintro w' ⟨s0,s1,s2⟩
            go_simp
            with_reducible rfl
           rotate_left
           ·simp only [Act.put,s1_,s2_,s3_,i64_w,i32_w]
            rfl
           refine take_ (i:=5) (N:=some 83) (v:=?_) (a':=?_) #[true,true,true,true,true,true,true,false] rfl rfl (take_ofW HT_.out HW_.out (by kernel_rfl)) (fun _ _ _ h=>h) (Or.inl ⟨by rfl,?_⟩) hHeld ?_ ?_
           rotate_left
           ·rintro w' ⟨s0,s1,s2⟩
            go_simp
            with_reducible rfl
           rotate_left
           ·simp only [Act.put,s1_,s2_,s3_,i64_w,i32_w]
            rfl
           refine one_ (i:=7) (N:=some 85) #[true,true,true,true,true,true,true,true] rfl rfl (one_of HT_.out (by kernel_rfl)) (by decide) (fun K hK=>?_)
           refine goes_ Try.func23 (by kernel_rfl) rfl #[.agg #[.slice Ao9 t301.length co9],.int .i64 ((rd_T43 t333 x13_2).f0),.int .i64 t307] (by rfl) rfl rfl lm_ ?_
           with_reducible refine (impl_IsA.calls k2 _ _ t301 ((rd_T43 t333 x13_2).f0) t307 false _ ?side1 ?side2 A61.out).mono ?_
           (case side1=>exact cc_ (Kd.R_reads' Z309.out).2.2)
           (case side2=>exact (Kd.R_reads' Z309.out).2.1)
           rintro e w71 ⟨rfl,hb⟩
           have HS1_:=(hb.cell (World.block_lt_of_cell? _ _ (hHeld.2.1))).trans (hHeld.2.1)
           have HS2_:=(hb.cell (World.block_lt_of_cell? _ _ (hHeld.2.2))).trans (hHeld.2.2)
           refine ⟨_,rfl,?_⟩
           have n0_:=rb_ HO_6 hb
           have n1_:=rb_ HO_7 hb
           have n2_:=rb_ HO_10 hb
           have n3_:=rb_ HO_11 hb
           have n4_:=rb_ HO_12 hb
           have n5_:=rb_ Z309 hb
           have n6_:=kb_ BK308 hb
           have n7_:=a0_ (below_step hb_ hb)
           clear HO_6
           clear HO_7
           clear HO_10
           clear HO_11
           clear HO_12
           clear Z309
           clear BK308
           clear HB
           have HO_6:=n0_
           have HO_7:=n1_
           have HO_10:=n2_
           have HO_11:=n3_
           have HO_12:=n4_
           have Z309:=n5_
           have BK308:=n6_
           have HB:=n7_
           clear n0_ n1_ n2_ n3_ n4_ n5_ n6_ n7_
           (try clear hb)
           (try clear hb2)
           (try clear hk)
           (try clear hi)
           refine hK.out _ _ ⟨(blk_cell BK308.out 0).trans rfl,HS1_,HS2_⟩ (fun hHeld=>?_)
           clear hK K
           refine norm_ (a':=?_) ?_ ?_
           rotate_left
           ·show Act.put _ (some 85) _ = _
            simp only [Act.put,s1_,s2_,s3_,i64_w,i32_w]
            rfl
           refine done_ (done_of HT_.out (by kernel_rfl)) ?_
           have p342 : 0 ≤ (x13_2 : Int):=of_decide_eq_true (by first | (with_reducible assumption) | assumption)
           have q342 : x13_2 < (t333.length : Int):=of_decide_eq_true (by first | (with_reducible assumption) | assumption)
           obtain ⟨ad342,e342,hx342_0,hx342_1⟩:=at_T43 (Kd.R_reads' HO_12.out).2.2 x13_2 p342 q342
           obtain rfl : ad336 = ad342:=(by injection e342)
           replace p342:=eq_true p342
           replace q342:=eq_true q342
           try go_wp2_with (first | ((with_reducible refine gate_builtin (b:=.append) (xs:=#[.tmp 93,.tmp 98]) rfl ?_);at_builtin;refine Kd.R_append k43 (w0:=w) w.heap.size rfl (.tmp 93) (.tmp 98) 33 43 (.agg #[(.int .i64 0),(.int .i64 0)]) 16 rfl Try.underlying33 info43 rfl (by decide) (by omega) u11 x11_2 (⟨(rd_T43 t333 x13_2).f0,(rd_T43 t333 x13_2).f1⟩ : S43) [.int .i64 ((rd_T43 t333 x13_2).f0),.int .i64 ((rd_T43 t333 x13_2).f1)] (fun k_=>some k_ ≠ (u10 : Value).ownBlock ∧ some k_ ≠ (.slice (some ad336) t333.length co69 : Value).ownBlock) (fun _=>False) rfl rfl ?aP (fun _ hk=>hk.elim) ?aF ?aO ?aB ?aS ?aL ?_;(case aP=>exact k43_mkM _ _ _ (⟨(rd_T43 t333 x13_2).f0,(rd_T43 t333 x13_2).f1⟩ : S43));(case aB=>exact hb_);(case aF=>exact (fun k_ hk=>⟨Kd.fresh' (Kd.R_lt (rr_ HO_10.out)) k_ hk,Kd.fresh' (Kd.R_lt (rr_ HO_12.out)) k_ hk⟩));(case aO=>exact (rr_ HO_11.out));(case aS=>exact (below_size hb_));(case aL=>have:=LMc68.out;omega);intro v344 w72 ho hb hg hat;rw [← Ny343.out] at ho;replace HO_6:=a0_ (Kd.R_over' (rr_ HO_6.out) (Kd.R_typed (rr_ HO_11.out)) (by decide) hg);replace HO_7:=a0_ (Kd.R_over' (rr_ HO_7.out) (Kd.R_typed (rr_ HO_11.out)) (by decide) hg);replace HO_10:=a0_ (Kd.R_after (ok:=(fun k_=>some k_ ≠ (.slice (some ad336) t333.length co69 : Value).ownBlock)) (rm_ HO_10.out (fun _ hk=>⟨hk.2,hk.1⟩)) hg hat);replace HO_12:=a0_ (Kd.R_after (ok:=(fun k_=>some k_ ≠ (u10 : Value).ownBlock)) (rr_ HO_12.out) hg hat);replace Z309:=a0_ (Kd.R_over' (rr_ Z309.out) (Kd.R_typed (rr_ HO_11.out)) (by decide) hg);replace BK308:=a0_ (blk_grown (bb_ BK308.out) hg (Kd.R_ne HO_11.out BK308.out (by decide)));have HO345:=a0_ (ho);replace HB:=a0_ (hb);clear HO_11;clear ho hb hg hat))
           go_roundg k2
           case measure=>have:=HJ5.out;have:=HK2.out;omega
           case rel=>exact ⟨(x10_2),(y343),(wrap64 (x13_2 + 1)),(by first | rfl | (simp;done) | (simp [*];done)),H',⟨by have:=HJ5.out;have:=HK2.out;omega⟩,⟨by (with_reducible repeat (first | apply Kd.R_alloc | apply Kd.R_drewN | apply Kd.R_drew));exact HO_6.out⟩,⟨by (with_reducible repeat (first | apply Kd.R_alloc | apply Kd.R_drewN | apply Kd.R_drew));exact HO_7.out⟩,⟨by (with_reducible repeat (first | apply Kd.R_alloc | apply Kd.R_drewN | apply Kd.R_drew));exact Kd.R_mono HO_10.out (fun _ hk=>⟨hk.2,hk.1⟩)⟩,⟨by (with_reducible repeat (first | apply Kd.R_alloc | apply Kd.R_drewN | apply Kd.R_drew));exact HO345.out⟩,⟨by (with_reducible repeat (first | apply Kd.R_alloc | apply Kd.R_drewN | apply Kd.R_drew));exact HO_12.out⟩,⟨by (with_reducible repeat (first | apply Kd.R_alloc | apply Kd.R_drewN | apply Kd.R_drew));exact Z309.out⟩,⟨by (with_reducible repeat (first | refine blk_drewN ?_ _ | refine blk_drew ?_ | refine blk_alloc ?_ _));exact BK308.out⟩,⟨hb_⟩⟩
          ·rw [if_neg c68] at H
           exact absurd H (by simp)
        ·rw [if_neg c60] at H
         exact absurd H (by simp)
       ·rw [if_neg c59] at H
        have c59b0 : decide (x13_2 < (t333.length : Int)) = false:=decide_eq_false c59
        clear c59
        replace H:=Option.bind_eq_some_iff.mp H
        obtain ⟨t346,A730,H⟩:=H
        try dsimp only at H
        have A73:=a0_ A730
        clear A730
        replace H:=Option.bind_eq_some_iff.mp H
        obtain ⟨t349,A740,H⟩:=H
        try dsimp only at H
        have A74:=a0_ A740
        clear A740
        by_cases c75 : t349 = true
        ·subst c75
         have H1 : ((impl_LeavesOf.f k2 t301 t312).bind fun t350=>((laws_equalLeaves.f k2 t350 x11_2).bind fun t353=>(some t353))) = some r:=by rw [if_pos rfl] at H;exact H
         clear H
         have H:=H1
         clear H1
         replace H:=Option.bind_eq_some_iff.mp H
         obtain ⟨t350,A760,H⟩:=H
         try dsimp only at H
         have A76:=a0_ A760
         clear A760
         replace H:=Option.bind_eq_some_iff.mp H
         obtain ⟨t353,A770,H⟩:=H
         replace H : (some t353) = some r:=H
         have A77:=a0_ A770
         clear A770
         obtain rfl:=Option.some.inj H
         obtain ⟨Ao78,co78,eo78⟩:=Kd.R_slice HO_12.out
         subst eo78
         have hcz79_0 : wr.cell? ⟨gb308,0,none⟩ = some (.slice Ao9 t301.length co9):=(blk_cell BK308.out 0).trans rfl
         have hfz79_0:=blk_frozen BK308.out 0
         obtain ⟨Ao80,co80,eo80⟩:=Kd.R_slice HO_6.out
         subst eo80
         go_wp2_with (first | ((with_reducible refine gate_callee (f:=17) rfl ?_);refine goesL_ (some 102) rfl rfl Try.func17 (by kernel_rfl) rfl #[.agg #[.slice Ao9 t301.length co9],.slice Ao80 t309.length co80] rfl lm_ ?_;(with_reducible refine (impl_LeavesOf.calls k2 _ _ t301 _ _ t309 t346 _ ?side1 ?side2 ?side3 ?side4 A73.out).mono ?_);(case side1=>exact cc_ (Kd.R_reads' Z309.out).2.2);(case side2=>exact (Kd.R_reads' Z309.out).2.1);(case side3=>exact cc_ (Kd.R_reads' HO_6.out).2.2);(case side4=>exact (Kd.R_reads' HO_6.out).2.1);rintro e w81 ⟨v347,rfl,ho0,hb⟩;refine ⟨_,rfl,?_⟩;have n0_:=rb_ HO_6 hb;have n1_:=rb_ HO_7 hb;have n2_:=a0_ (Kd.R_elder' (rr_ HO_10.out) (Kd.R_base ho0) hb);have n3_:=a0_ (Kd.R_elder' (rr_ HO_11.out) (Kd.R_base ho0) hb);have n4_:=a0_ (Kd.R_elder' (rr_ HO_12.out) (Kd.R_base ho0) hb);have n5_:=rb_ Z309 hb;have n6_:=a0_ (Kd.R_lower (Kd.R_new' (Kd.R_new' (Kd.R_new' ho0 (Kd.R_lt (rr_ HO_10.out))) (Kd.R_lt (rr_ HO_11.out))) (Kd.R_lt (rr_ HO_12.out))) (below_size hb_));have n7_:=kb_ BK308 hb;have n8_:=a0_ (below_step hb_ hb);clear HO_6 HO_7;clear HO_10 HO_11;clear HO_12 Z309;clear BK308 HB;have HO_6:=n0_;have HO_7:=n1_;have HO_10:=n2_;have HO_11:=n3_;have HO_12:=n4_;have Z309:=n5_;have HO348:=n6_;have BK308:=n7_;have HB:=n8_;clear n0_ n1_ n2_ n3_ n4_ n5_ n6_ n7_ n8_;(try clear hb);(try clear ho0);obtain ⟨Ao82,co82,eo82⟩:=Kd.R_slice HO348.out;subst eo82;obtain ⟨Ao83,co83,eo83⟩:=Kd.R_slice HO_10.out;subst eo83) | ((with_reducible refine gate_callee (f:=16) rfl ?_);refine goesL_ (some 104) rfl rfl Try.func16 (by kernel_rfl) rfl #[.slice Ao82 t346.length co82,.slice Ao83 x10_2.length co83] rfl lm_ ?_;(with_reducible refine (laws_equalLeaves.calls k2 _ _ t346 _ _ x10_2 true _ ?side1 ?side2 ?side3 ?side4 A74.out).mono ?_);(case side1=>exact cc_ (Kd.R_reads' HO348.out).2.2);(case side2=>exact (Kd.R_reads' HO348.out).2.1);(case side3=>exact cc_ (Kd.R_reads' HO_10.out).2.2);(case side4=>exact (Kd.R_reads' HO_10.out).2.1);rintro e w' ⟨rfl,⟨nd,rfl⟩⟩;refine ⟨_,rfl,?_⟩;have hcz84_0 : w81.cell? ⟨gb308,0,none⟩ = some (.slice Ao9 t301.length co9):=(blk_cell BK308.out 0).trans rfl;have hfz84_0:=blk_frozen BK308.out 0;obtain ⟨Ao85,co85,eo85⟩:=Kd.R_slice HO_7.out;subst eo85) | (go_at_call 17;(with_reducible refine (impl_LeavesOf.calls k2 _ _ t301 _ _ t312 t350 _ ?side1 ?side2 ?side3 ?side4 A76.out).mono ?_);(case side1=>exact cc_ (Kd.R_reads' Z309.out).2.2);(case side2=>exact (Kd.R_reads' Z309.out).2.1);(case side3=>exact cc_ (Kd.R_reads' HO_7.out).2.2);(case side4=>exact (Kd.R_reads' HO_7.out).2.1);rintro e w86 ⟨v351,rfl,ho0,hb⟩;have n0_:=rb_ HO_6 hb;have n1_:=rb_ HO_7 hb;have n2_:=a0_ (Kd.R_elder' (rr_ HO_10.out) (Kd.R_base ho0) hb);have n3_:=a0_ (Kd.R_elder' (rr_ HO_11.out) (Kd.R_base ho0) hb);have n4_:=a0_ (Kd.R_elder' (rr_ HO_12.out) (Kd.R_base ho0) hb);have n5_:=rb_ Z309 hb;have n6_:=a0_ (Kd.R_elder' (rr_ HO348.out) (Kd.R_base ho0) hb);have n7_:=a0_ (Kd.R_lower (Kd.R_new' (Kd.R_new' (Kd.R_new' (Kd.R_new' ho0 (Kd.R_lt (rr_ HO_10.out))) (Kd.R_lt (rr_ HO_11.out))) (Kd.R_lt (rr_ HO_12.out))) (Kd.R_lt (rr_ HO348.out))) (below_size hb_));have n8_:=kb_ BK308 hb;have n9_:=a0_ (below_step hb_ hb);clear HO_6 HO_7;clear HO_10 HO_11;clear HO_12 Z309;clear HO348 BK308 HB;have HO_6:=n0_;have HO_7:=n1_;have HO_10:=n2_;have HO_11:=n3_;have HO_12:=n4_;have Z309:=n5_;have HO348:=n6_;have HO352:=n7_;have BK308:=n8_;have HB:=n9_;clear n0_ n1_ n2_ n3_ n4_ n5_ n6_ n7_ n8_ n9_;(try clear hb);(try clear ho0);obtain ⟨Ao87,co87,eo87⟩:=Kd.R_slice HO352.out;subst eo87;obtain ⟨Ao88,co88,eo88⟩:=Kd.R_slice HO_11.out;subst eo88) | (go_at_call 16;(with_reducible refine (laws_equalLeaves.calls k2 _ _ t350 _ _ x11_2 t353 _ ?side1 ?side2 ?side3 ?side4 A77.out).mono ?_);(case side1=>exact cc_ (Kd.R_reads' HO352.out).2.2);(case side2=>exact (Kd.R_reads' HO352.out).2.1);(case side3=>exact cc_ (Kd.R_reads' HO_11.out).2.2);(case side4=>exact (Kd.R_reads' HO_11.out).2.1);rintro e w' ⟨rfl,⟨nd,rfl⟩⟩))
         go_ret
         exact ⟨by first | rfl | (simp [errW_none,errW_some] <;> rfl) | (simp [*,errW_none,errW_some] <;> rfl),hb_⟩
        ·replace c75:=Bool.eq_false_iff.mpr c75
         subst c75
         have H1 : (some false) = some r:=by rw [if_neg (show ¬ (false = true) by decide)] at H;exact H
         clear H
         have H:=H1
         clear H1
         obtain rfl:=Option.some.inj H
         obtain ⟨Ao89,co89,eo89⟩:=Kd.R_slice HO_12.out
         subst eo89
         have hcz90_0 : wr.cell? ⟨gb308,0,none⟩ = some (.slice Ao9 t301.length co9):=(blk_cell BK308.out 0).trans rfl
         have hfz90_0:=blk_frozen BK308.out 0
         obtain ⟨Ao91,co91,eo91⟩:=Kd.R_slice HO_6.out
         subst eo91
         go_wp2_with (first | ((with_reducible refine gate_callee (f:=17) rfl ?_);refine goesL_ (some 102) rfl rfl Try.func17 (by kernel_rfl) rfl #[.agg #[.slice Ao9 t301.length co9],.slice Ao91 t309.length co91] rfl lm_ ?_;(with_reducible refine (impl_LeavesOf.calls k2 _ _ t301 _ _ t309 t346 _ ?side1 ?side2 ?side3 ?side4 A73.out).mono ?_);(case side1=>exact cc_ (Kd.R_reads' Z309.out).2.2);(case side2=>exact (Kd.R_reads' Z309.out).2.1);(case side3=>exact cc_ (Kd.R_reads' HO_6.out).2.2);(case side4=>exact (Kd.R_reads' HO_6.out).2.1);rintro e w92 ⟨v347,rfl,ho0,hb⟩;refine ⟨_,rfl,?_⟩;have n0_:=rb_ HO_6 hb;have n1_:=rb_ HO_7 hb;have n2_:=a0_ (Kd.R_elder' (rr_ HO_10.out) (Kd.R_base ho0) hb);have n3_:=a0_ (Kd.R_elder' (rr_ HO_11.out) (Kd.R_base ho0) hb);have n4_:=a0_ (Kd.R_elder' (rr_ HO_12.out) (Kd.R_base ho0) hb);have n5_:=rb_ Z309 hb;have n6_:=a0_ (Kd.R_lower (Kd.R_new' (Kd.R_new' (Kd.R_new' ho0 (Kd.R_lt (rr_ HO_10.out))) (Kd.R_lt (rr_ HO_11.out))) (Kd.R_lt (rr_ HO_12.out))) (below_size hb_));have n7_:=kb_ BK308 hb;have n8_:=a0_ (below_step hb_ hb);clear HO_6 HO_7;clear HO_10 HO_11;clear HO_12 Z309;clear BK308 HB;have HO_6:=n0_;have HO_7:=n1_;have HO_10:=n2_;have HO_11:=n3_;have HO_12:=n4_;have Z309:=n5_;have HO348:=n6_;have BK308:=n7_;have HB:=n8_;clear n0_ n1_ n2_ n3_ n4_ n5_ n6_ n7_ n8_;(try clear hb);(try clear ho0);obtain ⟨Ao93,co93,eo93⟩:=Kd.R_slice HO348.out;subst eo93;obtain ⟨Ao94,co94,eo94⟩:=Kd.R_slice HO_10.out;subst eo94) | ((with_reducible refine gate_callee (f:=16) rfl ?_);refine goesL_ (some 104) rfl rfl Try.func16 (by kernel_rfl) rfl #[.slice Ao93 t346.length co93,.slice Ao94 x10_2.length co94] rfl lm_ ?_;(with_reducible refine (laws_equalLeaves.calls k2 _ _ t346 _ _ x10_2 false _ ?side1 ?side2 ?side3 ?side4 A74.out).mono ?_);(case side1=>exact cc_ (Kd.R_reads' HO348.out).2.2);(case side2=>exact (Kd.R_reads' HO348.out).2.1);(case side3=>exact cc_ (Kd.R_reads' HO_10.out).2.2);(case side4=>exact (Kd.R_reads' HO_10.out).2.1);rintro e w' ⟨rfl,⟨nd,rfl⟩⟩;refine ⟨_,rfl,?_⟩))
         go_ret
         exact ⟨by first | rfl | (simp [errW_none,errW_some] <;> rfl) | (simp [*,errW_none,errW_some] <;> rfl),hb_⟩
def laws_FnSplitGroupOrder.Pure : Prop:=∀ (l0 : List Int),l0.length ≤ maxLen → l0.length * 1 ≤ 140737488351232 → (∀ x ∈ l0,(Lit.int .u8 x).wf = true) → ∃ k,laws_FnSplitGroupOrder.f k l0 = some true
theorem laws_FnSplitGroupOrder.walk (P : laws_FnSplitGroupOrder.Pure) (a0 : Option Addr) (len0 cap0 : Nat) (z0 : List Int) (w : World) (w0 : (a0 = none ∧ len0 = 0 ∧ cap0 = 0 ∧ z0 = []) ∨ ∃ x,a0 = some x ∧ len0 ≤ cap0 ∧ cap0 ≤ maxLen ∧ z0.length = cap0 ∧ (∀ i,i < z0.length → w.cell? (x.add i) = some (.int .u8 (z0.getD i 0))) ∧ ∀ n ∈ z0,(Lit.int .u8 n).wf = true) (y0 : len0 * 1 ≤ 140737488351232) :
  Calls Try.prog 8 #[.slice a0 len0 cap0] w fun e w'=>e = .returned (.bool true) ∧ Below w.heap.size w w':=by
 obtain ⟨l0,rfl,hr0,hm0,hw0,hc0⟩:=ReadsInt.ofRowC w0
 obtain ⟨k,h⟩:=P l0 hm0 y0 hw0
 refine (laws_FnSplitGroupOrder.calls k _ _ l0 true w (Kd.C_of_reads (d:=(0 : Int)) (h1:=fun _=>rfl) hr0) hc0 h).mono ?_
 rintro e w' ⟨rfl,hd⟩
 exact ⟨rfl,hd⟩
end Go.Proofs.Ytfphcdbnnienhaa.P
namespace Go.Proofs.Ytfphcdbnnienhaa.P
open Go.RowKit Go.Proofs.YtfphcdbnnienhaaW.PrintWords Go.Proofs.YtfphcdbnnienhaaW.PrintLast Go.Proofs.YtfphcdbnnienhaaW.PrintMore
attribute [local go_sem] max2_int min2_int max_two min_two max_three min_three max_four min_four
set_option linter.unusedVariables false
set_option linter.unusedSimpArgs false
def ForN : Nat → Int → List Prt → Prop
 | 0,_,l=>l = []
 | n + 1,d,l=>l = [] ∨ (∃ p r,l = p :: r ∧ p.f0 = d ∧ p.f1 = false ∧ ForN n d r) ∨ (∃ p k r,l = p :: (k ++ r) ∧ p.f0 = d ∧ p.f1 = true ∧ k ≠ [] ∧ ForN n (d + 1) k ∧ ForN n d r)
def Fr (d : Int) (l : List Prt) : Prop:=∃ n,ForN n d l
theorem ForN_mono : ∀ (n : Nat) (d : Int) (l : List Prt),ForN n d l → ForN (n + 1) d l:=by
 intro n
 induction n with
 | zero=>intro d l h;exact Or.inl h
 | succ n ih =>
  intro d l h
  rcases h with h | ⟨p,r,h1,h2,h3,h4⟩ | ⟨p,k,r,h1,h2,h3,h4,h5,h6⟩
  ·exact Or.inl h
  ·exact Or.inr (Or.inl ⟨p,r,h1,h2,h3,ih _ _ h4⟩)
  ·exact Or.inr (Or.inr ⟨p,k,r,h1,h2,h3,h4,ih _ _ h5,ih _ _ h6⟩)
theorem ForN_le {n m : Nat} {d : Int} {l : List Prt} (h : n ≤ m) (hs : ForN n d l) : ForN m d l:=by
 obtain ⟨e,rfl⟩:=Nat.exists_eq_add_of_le h
 clear h
 induction e with
 | zero=>exact hs
 | succ e ih=>exact ForN_mono _ _ _ ih
theorem Fr.nil (d : Int) : Fr d []:=⟨0,rfl⟩
theorem Fr.leaf {d : Int} {p : Prt} {r : List Prt} (h0 : p.f0 = d) (h1 : p.f1 = false) (hr : Fr d r) : Fr d (p :: r):=by
 obtain ⟨n,hn⟩:=hr
 exact ⟨n + 1,Or.inr (Or.inl ⟨p,r,rfl,h0,h1,hn⟩)⟩
theorem Fr.node {d : Int} {p : Prt} {k r : List Prt} (h0 : p.f0 = d) (h1 : p.f1 = true) (hne : k ≠ []) (hk : Fr (d + 1) k) (hr : Fr d r) : Fr d (p :: (k ++ r)):=by
 obtain ⟨n,hn⟩:=hk
 obtain ⟨m,hm⟩:=hr
 exact ⟨max n m + 1,Or.inr (Or.inr ⟨p,k,r,rfl,h0,h1,hne,ForN_le (Nat.le_max_left _ _) hn,ForN_le (Nat.le_max_right _ _) hm⟩)⟩
theorem Fr.rec2 {P : Int → List Prt → Prop} (hnil : ∀ d,P d []) (hleaf : ∀ d p r,p.f0 = d → p.f1 = false → Fr d r → P d r → P d (p :: r)) (hnode : ∀ d p k r,p.f0 = d → p.f1 = true → k ≠ [] → Fr (d + 1) k → Fr d r → P (d + 1) k → P d r → P d (p :: (k ++ r))) {d : Int} {l : List Prt} (h : Fr d l) : P d l:=by
 obtain ⟨n,hn⟩:=h
 induction n generalizing d l with
 | zero =>
  have : l = []:=hn
  rw [this]
  exact hnil d
 | succ n ih =>
  rcases hn with h | ⟨p,r,rfl,h2,h3,h4⟩ | ⟨p,k,r,rfl,h2,h3,h4,h5,h6⟩
  ·rw [h];exact hnil d
  ·exact hleaf d p r h2 h3 ⟨n,h4⟩ (ih h4)
  ·exact hnode d p k r h2 h3 h4 ⟨n,h5⟩ ⟨n,h6⟩ (ih h5) (ih h6)
theorem Fr.depth {d : Int} {l : List Prt} (h : Fr d l) : (∀ q ∈ l,d ≤ q.f0) ∧ ∀ q,l.head? = some q → q.f0 = d:=by
 refine Fr.rec2 (P:=fun d l=>(∀ q ∈ l,d ≤ q.f0) ∧ ∀ q,l.head? = some q → q.f0 = d) (fun d=>⟨fun q hq=>absurd hq (by simp),fun q hq=>by simp at hq⟩) (fun d p r h0 h1 _ ih=>⟨fun q hq=>?_,fun q hq=>?_⟩) (fun d p k r h0 h1 _ _ _ ihk ihr=>⟨fun q hq=>?_,fun q hq=>?_⟩) h
 ·rcases List.mem_cons.1 hq with rfl | hq
  ·omega
  ·exact ih.1 q hq
 ·obtain rfl : p = q:=by simpa using hq
  exact h0
 ·rcases List.mem_cons.1 hq with rfl | hq
  ·omega
  ·rcases List.mem_append.1 hq with hq | hq
   ·have:=ihk.1 q hq;omega
   ·exact ihr.1 q hq
 ·obtain rfl : p = q:=by simpa using hq
  exact h0
theorem Fr.append {d : Int} {l r : List Prt} (h : Fr d l) (hr : Fr d r) : Fr d (l ++ r):=by
 refine Fr.rec2 (P:=fun d l=>∀ r,Fr d r → Fr d (l ++ r)) (fun d r hr=>hr) (fun d p s h0 h1 _ ih r hr=>Fr.leaf h0 h1 (ih r hr)) (fun d p k s h0 h1 hne hk _ _ ihr r hr=>?_) h r hr
 rw [List.cons_append,List.append_assoc]
 exact Fr.node h0 h1 hne hk (ihr r hr)
def chn : List Prt → Prop
 | []=>True
 | p :: r=>(match r with | []=>p.f1 = false | q :: _=>(p.f1 = true → q.f0 = p.f0 + 1) ∧ (p.f1 = false → q.f0 ≤ p.f0)) ∧ chn r
theorem tw_all {α : Type} {p : α → Bool} {l : List α} (h : ∀ x ∈ l,p x = true) : l.takeWhile p = l:=by
 have:=List.takeWhile_append_of_pos (l₂:=[]) h
 simpa using this
theorem chn_suffix : ∀ (a b : List Prt),chn (a ++ b) → chn b:=by
 intro a
 induction a with
 | nil=>intro b h;exact h
 | cons p a ih=>intro b h;exact ih b h.2
theorem chn_Fr : ∀ (n : Nat) (l : List Prt) (d : Int),l.length ≤ n → chn l → (∀ q,l.head? = some q → q.f0 ≤ d) → Fr d (l.takeWhile (fun q=>decide (d ≤ q.f0))):=by
 intro n
 induction n with
 | zero =>
  intro l d hl _ _
  have : l = []:=List.length_eq_zero_iff.1 (by omega)
  rw [this]
  exact Fr.nil d
 | succ n ih =>
  intro l d hl hc hh
  cases l with
  | nil=>exact Fr.nil d
  | cons p r =>
   have hp:=hh p rfl
   rw [List.length_cons] at hl
   by_cases hd : d ≤ p.f0
   ·rw [List.takeWhile_cons,if_pos (by simpa using hd)]
    have hpd : p.f0 = d:=by omega
    cases hg : p.f1 with
    | false =>
     refine Fr.leaf hpd hg (ih r d (by omega) hc.2 (fun q hq=>?_))
     cases r with
     | nil=>simp at hq
     | cons q' r =>
      obtain rfl : q' = q:=by simpa using hq
      have:=hc.1.2 hg
      omega
    | true =>
     cases r with
     | nil=>have : p.f1 = false:=hc.1;rw [hg] at this;cases this
     | cons q r =>
      have hq:=hc.1.1 hg
      have hsplit:=List.takeWhile_append_dropWhile (p:=fun x : Prt=>decide (d + 1 ≤ x.f0)) (l:=q :: r)
      have hk:=ih (q :: r) (d + 1) (by omega) hc.2 (fun x hx=>by
       obtain rfl : q = x:=by simpa using hx
       omega)
      have hne : (q :: r).takeWhile (fun x=>decide (d + 1 ≤ x.f0)) ≠ []:=by
       rw [List.takeWhile_cons,if_pos (by simp;omega)]
       simp
      have hlen : ((q :: r).dropWhile (fun x=>decide (d + 1 ≤ x.f0))).length ≤ n:=by
       have:=(List.dropWhile_sublist (fun x : Prt=>decide (d + 1 ≤ x.f0)) (l:=q :: r)).length_le
       omega
      have hhd : ∀ x,((q :: r).dropWhile (fun x=>decide (d + 1 ≤ x.f0))).head? = some x → x.f0 ≤ d:=by
       intro x hx
       have:=List.head?_dropWhile_not (fun x : Prt=>decide (d + 1 ≤ x.f0)) (q :: r)
       rw [hx] at this
       simp at this
       omega
      have hr:=ih _ d hlen (chn_suffix ((q :: r).takeWhile (fun x=>decide (d + 1 ≤ x.f0))) _ (by rw [hsplit];exact hc.2)) hhd
      have e : (q :: r).takeWhile (fun x=>decide (d ≤ x.f0)) = (q :: r).takeWhile (fun x=>decide (d + 1 ≤ x.f0)) ++ ((q :: r).dropWhile (fun x=>decide (d + 1 ≤ x.f0))).takeWhile (fun x=>decide (d ≤ x.f0)):=by
       conv=>lhs;rw [← hsplit]
       rw [List.takeWhile_append_of_pos]
       intro x hx
       have:=List.all_eq_true.1 (List.all_takeWhile (p:=fun x : Prt=>decide (d + 1 ≤ x.f0)) (l:=q :: r)) x hx
       simp at this ⊢
       omega
      rw [e]
      exact Fr.node hpd hg hne hk hr
   ·rw [List.takeWhile_cons,if_neg (by simpa using hd)]
    exact Fr.nil d
theorem Fr_chn {d : Int} {l : List Prt} (h : Fr d l) : ∀ b,chn b → (∀ q,b.head? = some q → q.f0 ≤ d) → chn (l ++ b):=by
 refine Fr.rec2 (P:=fun d l=>∀ b,chn b → (∀ q,b.head? = some q → q.f0 ≤ d) → chn (l ++ b)) (fun d b hb _=>hb) (fun d p r h0 h1 hr ih b hb hh=>?_) (fun d p k r h0 h1 hne hk hr ihk ihr b hb hh=>?_) h
 ·refine ⟨?_,ih b hb hh⟩
  cases r with
  | nil =>
   cases b with
   | nil=>exact h1
   | cons q b =>
    refine ⟨(fun hf=>by rw [h1] at hf;cases hf),fun _=>?_⟩
    have:=hh q rfl
    omega
  | cons q r =>
   refine ⟨(fun hf=>by rw [h1] at hf;cases hf),fun _=>?_⟩
   have:=hr.depth.2 q rfl
   omega
 ·rw [List.cons_append,List.append_assoc]
  have hd : ∀ q,(r ++ b).head? = some q → q.f0 ≤ d:=by
   intro q hq
   cases r with
   | nil=>exact hh q hq
   | cons q' r =>
    obtain rfl : q' = q:=by simpa using hq
    have:=hr.depth.2 q' rfl
    omega
  refine ⟨?_,ihk (r ++ b) (ihr b hb hh) (fun q hq=>by have:=hd q hq;omega)⟩
  cases k with
  | nil=>exact absurd rfl hne
  | cons q k =>
   refine ⟨fun _=>?_,(fun hf=>by rw [h1] at hf;cases hf)⟩
   have:=hk.depth.2 q rfl
   omega
def okE (t : List Cls) (p : Prt) : Prop:=(0 ≤ p.f3 ∧ p.f3 ≤ 99) ∧ (p.f1 = true → p.f2 = 0) ∧ (p.f1 = false → hasC t p.f2 = true)
def Tre (g : List Prt) : Prop:=∃ p r,g = p :: r ∧ p.f0 = 0 ∧ ((p.f1 = false ∧ r = []) ∨ (p.f1 = true ∧ r ≠ [] ∧ Fr 1 r))
theorem Tre_Fr {g : List Prt} (h : Tre g) : Fr 0 g:=by
 obtain ⟨p,r,rfl,h0,⟨h1,rfl⟩ | ⟨h1,h2,h3⟩⟩:=h
 ·exact Fr.leaf h0 h1 (Fr.nil 0)
 ·have:=Fr.node h0 h1 h2 h3 (Fr.nil 0)
  rwa [List.append_nil] at this
theorem getD_at {g : List Prt} {i : Nat} (hi : i < g.length) : g.getD i z47 = g[i]:=by simp [List.getD,hi]
theorem vG_chn {t : List Cls} {g : List Prt} (h : psG t g = true) : ∀ (d j : Nat),j + d = g.length → chn (g.drop j):=by
 intro d
 induction d with
 | zero=>intro j hj;rw [List.drop_eq_nil_of_le (by omega)];trivial
 | succ d ih =>
  intro j hj
  have hlt : j < g.length:=by omega
  rw [List.drop_eq_getElem_cons hlt]
  refine ⟨?_,ih (j + 1) (by omega)⟩
  have h1:=psG_at h j hlt
  rw [getD_at hlt] at h1
  unfold okP at h1
  rw [endG_below] at h1
  unfold belowB at h1
  rw [getD_at hlt] at h1
  simp only [Bool.and_eq_true] at h1
  have hb:=h1.2.2
  by_cases hn : j + 1 < g.length
  ·rw [List.drop_eq_getElem_cons hn]
   have h2:=psG_at h (j + 1) hn
   rw [getD_at hn] at h2
   unfold okP okUp at h2
   rw [if_neg (by omega),show j + 1 - 1 = j by omega,getD_at hlt] at h2
   simp only [Bool.and_eq_true,Bool.not_eq_true',decide_eq_false_iff_not,Bool.and_eq_false_iff,Bool.not_eq_false'] at h2
   rw [getD_at hn,decide_eq_true hn,Bool.true_and] at hb
   constructor
   ·intro hg
    rw [hg] at hb
    simp at hb
    have:=h2.2.1.1
    omega
   ·intro hg
    rcases h2.2.1.2 with h3 | h3
    ·omega
    ·rw [hg] at h3;cases h3
  ·rw [List.drop_eq_nil_of_le (by omega)]
   rw [decide_eq_false hn,Bool.false_and] at hb
   simpa using hb
theorem vG_tre {t : List Cls} {g : List Prt} (h : vG t g = true) : Tre g ∧ (∀ p ∈ g,okE t p ∧ 0 ≤ p.f0 ∧ p.f0 ≤ 5) ∧ g.length ≤ 16 ∧ vT t = true:=by
 obtain ⟨ht,h1,h2⟩:=vG_tree h
 unfold vG at h
 rw [Bool.and_eq_true] at h
 have hp:=h.1
 have hc:=vG_chn hp g.length 0 (by omega)
 rw [List.drop_zero] at hc
 have hat : ∀ j (hj : j < g.length),okE t g[j] ∧ (0 ≤ g[j].f0 ∧ g[j].f0 ≤ 5) ∧ (g[j].f0 = 0 ↔ j = 0):=by
  intro j hj
  have h3:=psG_at hp j hj
  rw [getD_at hj] at h3
  unfold okP okP1 at h3
  simp only [Bool.and_eq_true,decide_eq_true_eq] at h3
  obtain ⟨⟨a,b,c,d,e⟩,_⟩:=h3
  refine ⟨⟨a,fun hg=>?_,fun hg=>?_⟩,b,?_⟩
  ·rw [hg] at c;simpa using c
  ·rw [hg] at d;simpa using d
  ·have e2 : ((g[j].f0 == 0) = true) = (((j : Int) == 0) = true):=by rw [beq_iff_eq.1 e]
   rw [beq_iff_eq,beq_iff_eq] at e2
   have:=e2 ▸ Iff.rfl (a:=g[j].f0 = 0)
   constructor
   ·intro h0;have:=e2.mp h0;omega
   ·intro h0;exact e2.mpr (by omega)
 refine ⟨?_,fun p hm=>?_,h2,ht⟩
 ·cases g with
  | nil=>simp at h1
  | cons p r =>
   have h0:=hat 0 (by simp)
   refine ⟨p,r,rfl,h0.2.2.2 rfl,?_⟩
   have hd : ∀ q ∈ r,1 ≤ q.f0:=by
    intro q hq
    obtain ⟨i,hi,rfl⟩:=List.getElem_of_mem hq
    have:=hat (i + 1) (by simp;omega)
    simp only [List.getElem_cons_succ] at this
    have h3:=this.2.2
    have h4:=this.2.1.1
    omega
   have hp0 : p.f0 = 0:=h0.2.2.2 rfl
   cases hg : p.f1 with
   | false =>
    left
    refine ⟨rfl,?_⟩
    cases r with
    | nil=>rfl
    | cons q r =>
     have h5:=hc.1.2 hg
     have:=hd q (by simp)
     omega
   | true =>
    right
    cases r with
    | nil=>have : p.f1 = false:=hc.1;rw [hg] at this;cases this
    | cons q r =>
     refine ⟨rfl,by simp,?_⟩
     have h5:=hc.1.1 hg
     have:=chn_Fr _ (q :: r) 1 (Nat.le_refl _) hc.2 (fun x hx=>by
      obtain rfl : q = x:=by simpa using hx
      omega)
     rwa [tw_all (fun x hx=>by simpa using hd x hx)] at this
 ·obtain ⟨i,hi,rfl⟩:=List.getElem_of_mem hm
  have:=hat i hi
  exact ⟨this.1,this.2.1⟩
theorem chn_at : ∀ (g : List Prt) (i : Nat) (_ : chn g) (hi : i < g.length),(∀ hn : i + 1 < g.length,(g[i].f1 = true → g[i + 1].f0 = g[i].f0 + 1) ∧ (g[i].f1 = false → g[i + 1].f0 ≤ g[i].f0)) ∧ (i + 1 = g.length → g[i].f1 = false):=by
 intro g
 induction g with
 | nil=>intro i _ hi;simp at hi
 | cons p r ih =>
  intro i hc hi
  cases i with
  | zero =>
   cases r with
   | nil=>exact ⟨fun hn=>by simp at hn,fun _=>hc.1⟩
   | cons q r=>exact ⟨fun _=>hc.1,fun he=>by simp at he⟩
  | succ i =>
   have:=ih i hc.2 (by simpa using hi)
   simp only [List.getElem_cons_succ,List.length_cons]
   exact ⟨fun hn=>this.1 (by omega),fun he=>this.2 (by omega)⟩
theorem vG_mk {t : List Cls} {g : List Prt} (hT : Tre g) (he : ∀ p ∈ g,okE t p ∧ p.f0 ≤ 5) (hl : g.length ≤ 16) (ht : vT t = true) : vG t g = true:=by
 have hF:=Tre_Fr hT
 have hc:=Fr_chn hF [] trivial (fun q hq=>by simp at hq)
 rw [List.append_nil] at hc
 have hz : ∀ j (hj : j < g.length),0 ≤ g[j].f0 ∧ (g[j].f0 = 0 ↔ j = 0):=by
  obtain ⟨p,r,rfl,h0,h⟩:=hT
  intro j hj
  cases j with
  | zero=>exact ⟨by simpa using Int.le_of_eq h0.symm,by simpa using h0⟩
  | succ j =>
   rcases h with ⟨_,rfl⟩ | ⟨_,_,hr⟩
   ·simp at hj
   ·have:=hr.depth.1 (r[j]'(by simpa using hj)) (List.getElem_mem _)
    simp only [List.getElem_cons_succ]
    omega
 unfold vG
 rw [ht,decide_eq_true hl,decide_eq_true (show 1 ≤ g.length by obtain ⟨p,r,rfl,_⟩:=hT;simp)]
 rw [Bool.true_and,Bool.and_true,Bool.and_true]
 refine psG_of (fun j hj=>?_)
 have h1:=he g[j] (List.getElem_mem _)
 have h2:=hz j hj
 have h3:=chn_at g j hc hj
 rw [getD_at hj]
 unfold okP okP1
 rw [endG_below]
 unfold belowB
 rw [getD_at hj]
 obtain ⟨⟨⟨a1,a2⟩,a3,a4⟩,a5⟩:=h1
 have e0 : ((g[j].f0 == 0) == ((j : Int) == 0)) = true:=by
  rw [beq_iff_eq]
  by_cases e : j = 0
  ·rw [h2.2.2 e,e];rfl
  ·rw [beq_eq_false_iff_ne.2 (fun hh=>e (h2.2.1 hh)),beq_eq_false_iff_ne.2 (by omega)]
 have e1 : (g[j].f1 && !(g[j].f2 == 0)) = false:=by
  cases hg : g[j].f1 with
  | false=>rfl
  | true=>rw [a3 hg];rfl
 have e2 : (!g[j].f1 && !hasC t g[j].f2) = false:=by
  cases hg : g[j].f1 with
  | true=>rfl
  | false=>rw [a4 hg];rfl
 rw [e0,e1,e2,decide_eq_true a1,decide_eq_true a2,decide_eq_true h2.1,decide_eq_true a5]
 simp only [Bool.and_self,Bool.not_false,Bool.true_and,Bool.and_eq_true]
 constructor
 ·by_cases e : j = 0
  ·rw [if_pos e]
  ·rw [if_neg e]
   obtain ⟨i,rfl⟩ : ∃ i,j = i + 1:=⟨j - 1,by omega⟩
   have h4:=(chn_at g i hc (by omega)).1 hj
   rw [show i + 1 - 1 = i by omega,getD_at (show i < g.length by omega)]
   unfold okUp
   cases hg : g[i].f1 with
   | true =>
    have:=h4.1 hg
    simp
    omega
   | false =>
    have:=h4.2 hg
    simp
    omega
 ·cases hg : g[j].f1 with
  | false=>rfl
  | true =>
   by_cases hn : j + 1 < g.length
   ·have:=(h3.1 hn).1 hg
    rw [decide_eq_true hn,getD_at hn,decide_eq_true (by omega)]
    rfl
   ·have:=h3.2 (by omega)
    rw [hg] at this
    cases this
end Go.Proofs.Ytfphcdbnnienhaa.P
namespace Go.Proofs.Ytfphcdbnnienhaa.P
open Go.RowKit Go.Proofs.YtfphcdbnnienhaaW.PrintWords Go.Proofs.YtfphcdbnnienhaaW.PrintLast Go.Proofs.YtfphcdbnnienhaaW.PrintMore
attribute [local go_sem] max2_int min2_int max_two min_two max_three min_three max_four min_four
set_option linter.unusedVariables false
set_option linter.unusedSimpArgs false
def lfQ (P : Prt → Bool) (q : Prt) : Bool:=!q.f1 && P q
def belw (p : Prt) (r : List Prt) : List Prt:=r.takeWhile (fun q=>decide (p.f0 < q.f0))
def selR (P : Prt → Bool) : List Prt → List Prt
 | []=>[]
 | p :: r=>(if (lfQ P p || (belw p r).any (lfQ P)) = true then [p] else []) ++ selR P r
theorem take_tw {α : Type} (p : α → Bool) : ∀ l : List α,l.take (l.takeWhile p).length = l.takeWhile p:=by
 intro l
 induction l with
 | nil=>rfl
 | cons x l ih =>
  rw [List.takeWhile_cons]
  split
  ·rw [List.length_cons,List.take_succ_cons,ih]
  ·rfl
theorem keepW_at (P : Prt → Bool) (g : List Prt) (i : Nat) (hi : i < g.length) : keepW P g i = (lfQ P g[i] || (belw g[i] (g.drop (i + 1))).any (lfQ P)):=by
 unfold keepW endG belw
 have e : g.getD i z47 = g[i]:=by simp [List.getD,hi]
 rw [e,List.drop_eq_getElem_cons hi]
 rw [show i + 1 + ((g.drop (i + 1)).takeWhile (fun q=>decide (g[i].f0 < q.f0))).length - i = ((g.drop (i + 1)).takeWhile (fun q=>decide (g[i].f0 < q.f0))).length + 1 by omega]
 rw [List.take_succ_cons,List.any_cons]
 have e2:=take_tw (fun q : Prt=>decide (g[i].f0 < q.f0)) (g.drop (i + 1))
 rw [e2]
 rfl
theorem selW_selR (P : Prt → Bool) (g : List Prt) : selW P g g.length = selR P g:=by
 have key : ∀ d j,j + d = g.length → selW P g j ++ selR P (g.drop j) = selW P g g.length:=by
  intro d
  induction d with
  | zero =>
   intro j hj
   have e : j = g.length:=by omega
   rw [e,List.drop_length]
   simp [selR]
  | succ d ih =>
   intro j hj
   have hlt : j < g.length:=by omega
   rw [← ih (j + 1) (by omega),selW_succ,List.drop_eq_getElem_cons hlt,selR,keepW_at P g j hlt,List.append_assoc]
   have e : g.getD j z47 = g[j]:=by simp [List.getD,hlt]
   rw [e]
 have:=key g.length 0 (by omega)
 rw [← this]
 simp [selW]
theorem selR_sub (P : Prt → Bool) : ∀ l : List Prt,(selR P l).Sublist l:=by
 intro l
 induction l with
 | nil=>exact List.Sublist.refl _
 | cons p r ih =>
  rw [selR]
  split
  ·exact ih.cons_cons p
  ·exact ih.cons p
theorem selR_none (P : Prt → Bool) : ∀ l : List Prt,l.any (lfQ P) = false → selR P l = []:=by
 intro l
 induction l with
 | nil=>intro _;rfl
 | cons p r ih =>
  intro h
  rw [List.any_cons,Bool.or_eq_false_iff] at h
  have hb : (belw p r).any (lfQ P) = false:=by
   rw [List.any_eq_false] at h ⊢
   exact fun x hx=>h.2 x ((List.takeWhile_sublist _).subset hx)
  rw [selR,h.1,hb,ih h.2]
  rfl
theorem selR_some (P : Prt → Bool) : ∀ l : List Prt,l.any (lfQ P) = true → selR P l ≠ []:=by
 intro l
 induction l with
 | nil=>intro h;simp at h
 | cons p r ih =>
  intro h
  rw [selR]
  cases hp : lfQ P p with
  | true=>simp
  | false =>
   rw [List.any_cons,hp,Bool.false_or] at h
   have:=ih h
   intro he
   exact this (List.append_eq_nil_iff.1 he).2
theorem belw_stop {q : Prt} : ∀ (k r : List Prt),(∀ h,r.head? = some h → h.f0 ≤ q.f0) → belw q (k ++ r) = belw q k:=by
 intro k
 induction k with
 | nil =>
  intro r hr
  cases r with
  | nil=>rfl
  | cons h r =>
   have:=hr h rfl
   unfold belw
   rw [List.nil_append,List.takeWhile_cons,if_neg (by simp;omega)]
   rfl
 | cons x k ih =>
  intro r hr
  unfold belw at ih ⊢
  rw [List.cons_append,List.takeWhile_cons,List.takeWhile_cons,ih r hr]
theorem selR_append (P : Prt → Bool) : ∀ (k r : List Prt),(∀ q ∈ k,∀ h,r.head? = some h → h.f0 ≤ q.f0) → selR P (k ++ r) = selR P k ++ selR P r:=by
 intro k
 induction k with
 | nil=>intro r _;rfl
 | cons p k ih =>
  intro r hr
  rw [List.cons_append,selR,selR,ih r (fun q hq=>hr q (by simp [hq])),belw_stop k r (hr p (by simp)),List.append_assoc]
theorem selR_leaf (P : Prt → Bool) {d : Int} {p : Prt} {r : List Prt} (h0 : p.f0 = d) (hr : Fr d r) : selR P (p :: r) = (if lfQ P p = true then [p] else []) ++ selR P r:=by
 have hb : belw p r = []:=by
  have:=belw_stop (q:=p) [] r (fun h hh=>by have:=hr.depth.2 h hh;omega)
  exact this
 rw [selR,hb,List.any_nil,Bool.or_false]
theorem selR_node (P : Prt → Bool) {d : Int} {p : Prt} {k r : List Prt} (h0 : p.f0 = d) (h1 : p.f1 = true) (hk : Fr (d + 1) k) (hr : Fr d r) : selR P (p :: (k ++ r)) = (if k.any (lfQ P) = true then p :: selR P k else []) ++ selR P r:=by
 have hb : belw p (k ++ r) = k:=by
  rw [belw_stop (q:=p) k r (fun h hh=>by have:=hr.depth.2 h hh;omega)]
  unfold belw
  exact tw_all (fun x hx=>by have:=hk.depth.1 x hx;simp;omega)
 have hl : lfQ P p = false:=by unfold lfQ;rw [h1];rfl
 rw [selR,hb,hl,Bool.false_or,selR_append P k r (fun q hq h hh=>by have:=hr.depth.2 h hh;have:=hk.depth.1 q hq;omega)]
 cases hc : k.any (lfQ P) with
 | true=>rfl
 | false=>rw [selR_none P k hc];rfl
theorem selR_Fr (P : Prt → Bool) {d : Int} {l : List Prt} (h : Fr d l) : Fr d (selR P l):=by
 refine Fr.rec2 (P:=fun d l=>Fr d (selR P l)) (fun d=>Fr.nil d) (fun d p r h0 h1 hr ih=>?_) (fun d p k r h0 h1 hne hk hr ihk ihr=>?_) h
 ·rw [selR_leaf P h0 hr]
  split
  ·exact Fr.leaf h0 h1 ih
  ·exact ih
 ·rw [selR_node P h0 h1 hk hr]
  cases hc : k.any (lfQ P) with
  | true=>exact Fr.node h0 h1 (selR_some P k hc) ihk ihr
  | false=>exact ihr
theorem selR_leaves (P : Prt → Bool) {d : Int} {l : List Prt} (h : Fr d l) : (selR P l).filter (fun q=>!q.f1) = (l.filter (fun q=>!q.f1)).filter P:=by
 refine Fr.rec2 (P:=fun d l=>(selR P l).filter (fun q=>!q.f1) = (l.filter (fun q=>!q.f1)).filter P) (fun d=>rfl) (fun d p r h0 h1 hr ih=>?_) (fun d p k r h0 h1 hne hk hr ihk ihr=>?_) h
 ·have e1 : (p :: r).filter (fun q=>!q.f1) = p :: r.filter (fun q=>!q.f1):=by rw [List.filter_cons,h1];rfl
  rw [selR_leaf P h0 hr,List.filter_append,ih,e1,List.filter_cons]
  unfold lfQ
  rw [h1]
  cases hP : P p with
  | true=>simp [h1]
  | false=>simp
 ·have e1 : ∀ s : List Prt,(p :: s).filter (fun q=>!q.f1) = s.filter (fun q=>!q.f1):=fun s=>by rw [List.filter_cons,h1];rfl
  rw [selR_node P h0 h1 hk hr,List.filter_append,ihr,e1,List.filter_append,List.filter_append]
  congr 1
  cases hc : k.any (lfQ P) with
  | true=>rw [if_pos rfl,e1,ihk]
  | false =>
   have:=ihk
   rw [selR_none P k hc] at this
   exact this
theorem any_leaves (P : Prt → Bool) (l : List Prt) : l.any (lfQ P) = (l.filter (fun q=>!q.f1)).any P:=by
 rw [List.any_filter]
 rfl
theorem selR_any (P Q : Prt → Bool) {d : Int} {l : List Prt} (h : Fr d l) : (selR P l).any (lfQ Q) = l.any (lfQ (fun q=>P q && Q q)):=by
 rw [any_leaves,any_leaves,selR_leaves P h,List.any_filter]
theorem selR_selR (P Q : Prt → Bool) {d : Int} {l : List Prt} (h : Fr d l) : selR Q (selR P l) = selR (fun q=>P q && Q q) l:=by
 refine Fr.rec2 (P:=fun d l=>selR Q (selR P l) = selR (fun q=>P q && Q q) l) (fun d=>rfl) (fun d p r h0 h1 hr ih=>?_) (fun d p k r h0 h1 hne hk hr ihk ihr=>?_) h
 ·rw [selR_leaf P h0 hr,selR_leaf (fun q=>P q && Q q) h0 hr,← ih]
  have hr2:=selR_Fr P hr
  unfold lfQ
  rw [h1]
  cases hP : P p with
  | false=>simp [hP]
  | true =>
   simp only [Bool.not_false,Bool.true_and,if_true,List.singleton_append]
   rw [selR_leaf Q h0 hr2]
   unfold lfQ
   rw [h1,hP]
   rfl
 ·rw [selR_node P h0 h1 hk hr,selR_node (fun q=>P q && Q q) h0 h1 hk hr,← ihr,← ihk,← selR_any P Q hk]
  have hr2:=selR_Fr P hr
  have hk2:=selR_Fr P hk
  cases hc : k.any (lfQ P) with
  | true =>
   rw [if_pos rfl,List.cons_append,selR_node Q h0 h1 hk2 hr2]
  | false =>
   rw [selR_none P k hc]
   rfl
theorem selR_all (P : Prt → Bool) {d : Int} {l : List Prt} (h : Fr d l) (hP : ∀ q ∈ l,q.f1 = false → P q = true) : selR P l = l:=by
 refine Fr.rec2 (P:=fun d l=>(∀ q ∈ l,q.f1 = false → P q = true) → selR P l = l ∧ (l ≠ [] → l.any (lfQ P) = true)) (fun d _=>⟨rfl,fun h=>absurd rfl h⟩) (fun d p r h0 h1 hr ih hq=>?_) (fun d p k r h0 h1 hne hk hr ihk ihr hq=>?_) h hP |>.1
 ·have hp:=hq p (by simp) h1
  have hl : lfQ P p = true:=by unfold lfQ;rw [h1,hp];rfl
  rw [selR_leaf P h0 hr,hl,if_pos rfl,(ih (fun q hh=>hq q (by simp [hh]))).1]
  exact ⟨rfl,fun _=>by rw [List.any_cons,hl];rfl⟩
 ·have hk3:=ihk (fun q hh=>hq q (by simp [hh]))
  rw [selR_node P h0 h1 hk hr,hk3.2 hne,if_pos rfl,hk3.1,(ihr (fun q hh=>hq q (by simp [hh]))).1]
  exact ⟨rfl,fun _=>by rw [List.any_cons,List.any_append,hk3.2 hne];simp⟩
theorem selR_Tre (P : Prt → Bool) {g : List Prt} (hT : Tre g) (hne : selR P g ≠ []) : Tre (selR P g) ∧ (selR P g).head? = g.head?:=by
 obtain ⟨p,r,rfl,h0,⟨h1,rfl⟩ | ⟨h1,h2,h3⟩⟩:=hT
 ·have e:=selR_leaf P h0 (Fr.nil 0)
  rw [e] at hne ⊢
  cases hl : lfQ P p with
  | false=>rw [hl] at hne;exact absurd rfl hne
  | true=>exact ⟨⟨p,[],rfl,h0,Or.inl ⟨h1,rfl⟩⟩,rfl⟩
 ·have e:=selR_node P h0 h1 h3 (Fr.nil 0)
  rw [List.append_nil] at e
  rw [e] at hne ⊢
  cases hc : r.any (lfQ P) with
  | false=>rw [hc] at hne;exact absurd rfl hne
  | true =>
   rw [if_pos rfl]
   refine ⟨⟨p,selR P r,by simp [selR],h0,Or.inr ⟨h1,selR_some P r hc,selR_Fr P h3⟩⟩,rfl⟩
theorem vG_sel {t : List Cls} {g : List Prt} (hv : vG t g = true) (P : Prt → Bool) (hne : selR P g ≠ []) : vG t (selR P g) = true:=by
 obtain ⟨hT,he,hl,ht⟩:=vG_tre hv
 have hs:=selR_sub P g
 exact vG_mk (selR_Tre P hT hne).1 (fun p hp=>⟨(he p (hs.subset hp)).1,(he p (hs.subset hp)).2.2⟩) (Nat.le_trans hs.length_le hl) ht
end Go.Proofs.Ytfphcdbnnienhaa.P
namespace Go.Proofs.Ytfphcdbnnienhaa.P
open Go.RowKit Go.Proofs.YtfphcdbnnienhaaW.PrintWords Go.Proofs.YtfphcdbnnienhaaW.PrintLast Go.Proofs.YtfphcdbnnienhaaW.PrintMore
attribute [local go_sem] max2_int min2_int max_two min_two max_three min_three max_four min_four
set_option linter.unusedVariables false
set_option linter.unusedSimpArgs false
def d1P (p : Prt) : Prt:=⟨1,p.f1,p.f2,p.f3⟩
def flt (l : List Prt) : List Prt:=(l.filter (fun p=>!p.f1)).map d1P
theorem flt_cons (p : Prt) (l : List Prt) : flt (p :: l) = (if p.f1 = true then [] else [d1P p]) ++ flt l:=by
 unfold flt
 rw [List.filter_cons]
 cases p.f1 <;> rfl
theorem flt_len (l : List Prt) : (flt l).length ≤ l.length:=by
 unfold flt
 rw [List.length_map]
 exact List.length_filter_le _ _
def flatP (t : List Cls) (g : List Prt) : List Prt:=if vG t g = true then g.take 1 ++ flt (g.drop 1) else []
theorem flatP_len (t : List Cls) (g : List Prt) : (flatP t g).length ≤ g.length:=by
 unfold flatP
 split
 ·have:=flt_len (g.drop 1)
  rw [List.length_append,List.length_take]
  rw [List.length_drop] at this
  omega
 ·simp
theorem vG_alone {t : List Cls} {g : List Prt} (h : vG t g = true) (h0 : (g.getD 0 z47).f1 = false) : g.length = 1:=by
 apply Classical.byContradiction
 intro hn
 have hl:=(vG_tree h).2.1
 unfold vG at h
 rw [Bool.and_eq_true] at h
 have h1:=psG_at h.1 1 (by omega)
 have h2:=psG_at h.1 0 (by omega)
 unfold okP okP1 at h1 h2
 simp only [Bool.and_eq_true] at h1 h2
 have hz:=h2.1.2.2.2.2
 have hy:=h1.1.2.2.2.2
 have hb:=h1.1.2.1.1
 have hu:=h1.2.1
 simp at hz hy hb hu
 unfold okUp at hu
 rw [← List.getD_eq_getElem?_getD,← List.getD_eq_getElem?_getD] at hu
 rw [← List.getD_eq_getElem?_getD] at hz hy hb
 rw [h0] at hu
 simp at hu
 rw [← List.getD_eq_getElem?_getD,← List.getD_eq_getElem?_getD] at hu
 omega
end Go.Proofs.Ytfphcdbnnienhaa.P
namespace Go.Proofs.Ytfphcdbnnienhaa.P
open Go.RowKit Go.Proofs.YtfphcdbnnienhaaW.PrintWords Go.Proofs.YtfphcdbnnienhaaW.PrintLast Go.Proofs.YtfphcdbnnienhaaW.PrintMore
attribute [local go_sem] max2_int min2_int max_two min_two max_three min_three max_four min_four
set_option linter.unusedVariables false
set_option linter.unusedSimpArgs false
theorem lfs_sel (t : List Cls) (a : Int) (yes : Bool) {g : List Prt} (h : Fr 0 g) : lfs (selR (fun q=>isA t q.f2 a == yes) g) = (lfs g).filter (fun x=>isA t x.f0 a == yes):=by
 unfold lfs
 rw [selR_leaves _ h,List.filter_map]
 rfl
theorem selN_selR (t : List Cls) (g : List Prt) (a : Int) (yes : Bool) : selN t g a yes g.length = selR (fun q=>isA t q.f2 a == yes) g:=by
 rw [← selW_selN,selW_selR]
theorem vG_nil (t : List Cls) : vG t [] = false:=by
 cases h : vG t [] with
 | false=>rfl
 | true=>have:=vG_tree h;simp at this
theorem leavesP_sel {t : List Cls} {g : List Prt} (hv : vG t g = true) (P : Prt → Bool) : leavesP t (selR P g) = lfs (selR P g):=by
 unfold leavesP
 by_cases hn : selR P g = []
 ·rw [hn,vG_nil,if_neg (by simp)]
  rfl
 ·rw [if_pos (vG_sel hv P hn)]
theorem leavesP_ok {t : List Cls} {g : List Prt} (hv : vG t g = true) : leavesP t g = lfs g:=by unfold leavesP;rw [if_pos hv]
theorem Fr_leaf {d : Int} {l : List Prt} (h : Fr d l) : l ≠ [] → ∃ q ∈ l,q.f1 = false:=by
 refine Fr.rec2 (P:=fun d l=>l ≠ [] → ∃ q ∈ l,q.f1 = false) (fun d hn=>absurd rfl hn) (fun d p r h0 h1 _ _ _=>⟨p,by simp,h1⟩) (fun d p k r h0 h1 hne _ _ ihk _ _=>?_) h
 obtain ⟨q,hq,h2⟩:=ihk hne
 exact ⟨q,by simp [hq],h2⟩
theorem vG_leafy {t : List Cls} {g : List Prt} (hv : vG t g = true) : ∃ q ∈ g,q.f1 = false:=by
 refine Fr_leaf (Tre_Fr (vG_tre hv).1) ?_
 obtain ⟨p,r,rfl,_⟩:=(vG_tre hv).1
 simp
def flatL (g : List Prt) : List Prt:=g.take 1 ++ flt (g.drop 1)
theorem flatP_ok {t : List Cls} {g : List Prt} (hv : vG t g = true) : flatP t g = flatL g:=by unfold flatP flatL;rw [if_pos hv]
theorem flt_all (l : List Prt) : ∀ q ∈ flt l,q.f1 = false ∧ q.f0 = 1:=by
 intro q hq
 unfold flt at hq
 obtain ⟨x,hx,rfl⟩:=List.mem_map.1 hq
 have:=(List.mem_filter.1 hx).2
 exact ⟨by simpa [d1P] using this,rfl⟩
theorem Fr_flat {d : Int} : ∀ l : List Prt,(∀ q ∈ l,q.f1 = false ∧ q.f0 = d) → Fr d l:=by
 intro l
 induction l with
 | nil=>intro _;exact Fr.nil d
 | cons p l ih=>intro h;exact Fr.leaf (h p (by simp)).2 (h p (by simp)).1 (ih (fun q hq=>h q (by simp [hq])))
theorem flt_ne {d : Int} {l : List Prt} (h : Fr d l) (hn : l ≠ []) : flt l ≠ []:=by
 obtain ⟨q,hq,h1⟩:=Fr_leaf h hn
 intro he
 unfold flt at he
 rw [List.map_eq_nil_iff] at he
 have : q ∈ l.filter (fun p=>!p.f1):=List.mem_filter.2 ⟨hq,by rw [h1];rfl⟩
 rw [he] at this
 simp at this
theorem flatL_Tre {g : List Prt} (hT : Tre g) : Tre (flatL g):=by
 obtain ⟨p,r,rfl,h0,⟨h1,rfl⟩ | ⟨h1,h2,h3⟩⟩:=hT
 ·exact ⟨p,[],rfl,h0,Or.inl ⟨h1,rfl⟩⟩
 ·exact ⟨p,flt r,rfl,h0,Or.inr ⟨h1,flt_ne h3 h2,Fr_flat _ (flt_all r)⟩⟩
theorem flatL_len (g : List Prt) : (flatL g).length ≤ g.length:=by
 have:=flt_len (g.drop 1)
 unfold flatL
 rw [List.length_append,List.length_take]
 rw [List.length_drop] at this
 omega
theorem flatL_mem {t : List Cls} {g : List Prt} (he : ∀ p ∈ g,okE t p ∧ 0 ≤ p.f0 ∧ p.f0 ≤ 5) : ∀ p ∈ flatL g,okE t p ∧ p.f0 ≤ 5:=by
 intro p hp
 unfold flatL at hp
 rcases List.mem_append.1 hp with hp | hp
 ·have:=he p (List.mem_of_mem_take hp)
  exact ⟨this.1,this.2.2⟩
 ·unfold flt at hp
  obtain ⟨x,hx,rfl⟩:=List.mem_map.1 hp
  have:=he x (List.mem_of_mem_drop (List.mem_filter.1 hx).1)
  exact ⟨this.1,by show (1 : Int) ≤ 5;omega⟩
theorem vG_flat {t : List Cls} {g : List Prt} (hv : vG t g = true) : vG t (flatL g) = true:=by
 obtain ⟨hT,he,hl,ht⟩:=vG_tre hv
 exact vG_mk (flatL_Tre hT) (flatL_mem he) (Nat.le_trans (flatL_len g) hl) ht
theorem lfs_flt (l : List Prt) : lfs (flt l) = lfs l:=by
 unfold lfs
 rw [List.filter_eq_self.2 (fun q hq=>by rw [(flt_all l q hq).1];rfl)]
 unfold flt
 rw [List.map_map]
 rfl
theorem lfs_append (a b : List Prt) : lfs (a ++ b) = lfs a ++ lfs b:=by unfold lfs;rw [List.filter_append,List.map_append]
theorem lfs_flat (g : List Prt) : lfs (flatL g) = lfs g:=by
 unfold flatL
 rw [lfs_append,lfs_flt,← lfs_append,List.take_append_drop]
theorem flt_flt (l : List Prt) : flt (flt l) = flt l:=by
 conv=>lhs;unfold flt
 rw [List.filter_eq_self.2 (fun q hq=>by rw [(flt_all l q hq).1];rfl)]
 conv=>rhs;rw [← List.map_id (flt l)]
 refine List.map_congr_left (fun q hq=>?_)
 have:=(flt_all l q hq).2
 cases q
 simp only at this
 simp [d1P,this]
theorem flatL_flatL (g : List Prt) : flatL (flatL g) = flatL g:=by
 cases g with
 | nil=>rfl
 | cons p r =>
  show [p] ++ flt (flt r) = [p] ++ flt r
  rw [flt_flt]
theorem flatL_depth {t : List Cls} {g : List Prt} (hv : vG t g = true) : ∀ p ∈ flatL g,p.f0 ≤ 1:=by
 obtain ⟨p,r,rfl,h0,_⟩:=(vG_tre hv).1
 intro q hq
 have hq2 : q = p ∨ q ∈ flt r:=by simpa [flatL] using hq
 rcases hq2 with rfl | hq
 ·omega
 ·have:=(flt_all r q hq).2;omega
theorem selR_filter (P : Prt → Bool) {d : Int} : ∀ l : List Prt,(∀ q ∈ l,q.f1 = false ∧ q.f0 = d) → selR P l = l.filter P:=by
 intro l
 induction l with
 | nil=>intro _;rfl
 | cons p l ih =>
  intro h
  have hp:=h p (by simp)
  rw [selR_leaf P hp.2 (Fr_flat l (fun q hq=>h q (by simp [hq]))),ih (fun q hq=>h q (by simp [hq])),List.filter_cons]
  unfold lfQ
  rw [hp.1]
  cases P p <;> rfl
theorem flt_sel (P : Prt → Bool) (hP : ∀ q,P (d1P q) = P q) {d : Int} {l : List Prt} (h : Fr d l) : selR P (flt l) = flt (selR P l):=by
 rw [selR_filter P (flt l) (flt_all l)]
 unfold flt
 rw [selR_leaves P h,List.filter_map]
 congr 1
 refine List.filter_congr (fun q _=>hP q)
theorem flat_sel (P : Prt → Bool) (hP : ∀ q,P (d1P q) = P q) {g : List Prt} (hT : Tre g) : selR P (flatL g) = flatL (selR P g):=by
 obtain ⟨p,r,rfl,h0,⟨h1,rfl⟩ | ⟨h1,h2,h3⟩⟩:=hT
 ·have e : flatL [p] = [p]:=rfl
  rw [e,selR_leaf P h0 (Fr.nil 0)]
  cases lfQ P p <;> rfl
 ·have e1 : flatL (p :: r) = p :: flt r:=rfl
  have e2:=selR_node P h0 h1 h3 (Fr.nil 0)
  have e3:=selR_node P h0 h1 (Fr_flat (flt r) (fun q hq=>flt_all r q hq)) (Fr.nil 0)
  rw [List.append_nil] at e2 e3
  rw [e1,e2,e3,flt_sel P hP h3]
  have e4 : (flt r).any (lfQ P) = r.any (lfQ P):=by
   rw [any_leaves,any_leaves,List.filter_eq_self.2 (fun q hq=>by rw [(flt_all r q hq).1];rfl)]
   unfold flt
   rw [List.any_map]
   congr 1
   funext q
   exact hP q
  rw [e4]
  cases r.any (lfQ P) with
  | false=>rfl
  | true=>simp [flatL,selR]
def mxd (g : List Prt) : Int:=g.foldl (fun m p=>max m p.f0) 0
theorem fold_le (c : Int) : ∀ (g : List Prt) (m : Int),m ≤ c → (∀ p ∈ g,p.f0 ≤ c) → g.foldl (fun m p=>max m p.f0) m ≤ c:=by
 intro g
 induction g with
 | nil=>intro m h _;exact h
 | cons p g ih =>
  intro m h hp
  have h1:=hp p (by simp)
  exact ih _ (show max m p.f0 ≤ c by omega) (fun q hq=>hp q (by simp [hq]))
theorem fold_ge : ∀ (g : List Prt) (m : Int),m ≤ g.foldl (fun m p=>max m p.f0) m ∧ ∀ p ∈ g,p.f0 ≤ g.foldl (fun m p=>max m p.f0) m:=by
 intro g
 induction g with
 | nil=>intro m;exact ⟨Int.le_refl _,fun p hp=>absurd hp (by simp)⟩
 | cons q g ih =>
  intro m
  have:=ih (max m q.f0)
  refine ⟨by show m ≤ g.foldl _ (max m q.f0);omega,fun p hp=>?_⟩
  rcases List.mem_cons.1 hp with rfl | hp
  ·show p.f0 ≤ g.foldl _ (max m p.f0)
   omega
  ·exact this.2 p hp
theorem mxd_sub {a b : List Prt} (h : ∀ p ∈ a,p ∈ b) : mxd a ≤ mxd b:=fold_le _ a 0 (fold_ge b 0).1 (fun p hp=>(fold_ge b 0).2 p (h p hp))
theorem mxd_flat {t : List Cls} {g : List Prt} (hv : vG t g = true) : mxd (flatL g) ≤ 1:=fold_le _ _ 0 (by omega) (flatL_depth hv)
end Go.Proofs.Ytfphcdbnnienhaa.P
namespace Go.Proofs.Ytfphcdbnnienhaa.Pure
open Go.RowKit Go.Proofs.Ytfphcdbnnienhaa.P
open Go.Proofs.YtfphcdbnnienhaaW.PrintWords (rd rdOf wrap_succ wrap_pred wrap_in toL_beq idxP)
set_option linter.unusedVariables false
theorem FnSplitGroupOrder : laws_FnSplitGroupOrder.Pure:=by
 intro l0 _ _ hw
 refine Ev.out (F:=fun k=>laws_FnSplitGroupOrder.f k l0) ?_
 unfold laws_FnSplitGroupOrder.f
 by_cases hbig : (l0.length : Int) > 1048576
 ·exact Ev.pos hbig (Ev.const rfl)
 refine Ev.neg hbig ?_
 obtain ⟨t,g,a,hd,ht,hs,hg⟩:=spec_DrawSplitGroup_ev l0 hw
 have hI:=impl_SplitGroup_ev t g a hs (by omega)
 have hS : Ev (fun k=>spec_SplitGroup.f k t g a) (splitP t g a):=spec_SplitGroup_ev t g a hs (by omega) (by omega)
 have hV:=impl_ValidGroup_ev t g (by omega) (by omega) hs
 by_cases hc : (vG t g && hasC t a) = true
 ·have hr : splitP t g a = (selR (fun q=>isA t q.f2 a == true) g,selR (fun q=>isA t q.f2 a == false) g):=by
   unfold splitP
   rw [if_pos hc,selN_selR,selN_selR]
  rw [hr] at hI hS
  rw [Bool.and_eq_true] at hc
  obtain ⟨hv,ha⟩:=hc
  rw [hv] at hV
  have hT:=(vG_tree hv).1
  have hF:=Tre_Fr (vG_tre hv).1
  have l1:=(selR_sub (fun q=>isA t q.f2 a == true) g).length_le
  have l2:=(selR_sub (fun q=>isA t q.f2 a == false) g).length_le
  have hH:=laws_has_ev t a
  rw [ha] at hH
  refine Ev.bind hd (Ev.bind (Ev.const hI) (Ev.bind hS (Ev.bind (laws_equalGroup_ev _ (Nat.le_trans l1 (by omega))) (Ev.pos rfl (Ev.bind (laws_equalGroup_ev _ (Nat.le_trans l2 (by omega))) (Ev.pos rfl (Ev.bind hV (Ev.pos rfl (Ev.bind (Ev.const hH) (Ev.succ ?_))))))))))
  simp only [laws_FnSplitGroupOrder.j0]
  refine Ev.neg (by simp) ?_
  have hL0:=impl_LeavesOf_ev t g (by omega) (by omega) hs
  rw [leavesP_ok hv] at hL0
  have hL1:=impl_LeavesOf_ev t (selR (fun q=>isA t q.f2 a == true) g) (by omega) (by omega) hs
  rw [leavesP_sel hv,lfs_sel t a true hF] at hL1
  have hL2:=impl_LeavesOf_ev t (selR (fun q=>isA t q.f2 a == false) g) (by omega) (by omega) hs
  rw [leavesP_sel hv,lfs_sel t a false hF] at hL2
  have hll:=lfs_len g
  have hcl : ∀ x ∈ lfs g,hasC t x.f0 = true:=by
   intro x hx
   unfold lfs at hx
   obtain ⟨q,hq,rfl⟩:=List.mem_map.1 hx
   obtain ⟨hq1,hq2⟩:=List.mem_filter.1 hq
   have:=vG_leaf hv q hq1 (by simpa using hq2)
   exact hasC_iff.2 this
  refine Ev.bind hL0 ?_
  generalize selR (fun q=>isA t q.f2 a == true) g = m at l1 hL1
  generalize selR (fun q=>isA t q.f2 a == false) g = n at l2 hL2
  have hfl : ∀ (b : Bool) (l : List S43),(l.filter (fun x=>isA t x.f0 a == b)).length ≤ l.length:=fun b l=>List.length_filter_le _ _
  have h1:=hfl true (lfs g)
  have h2:=hfl false (lfs g)
  have key : ∀ d j,j + d = (lfs g).length → Ev (fun k=>laws_FnSplitGroupOrder.l0 k a m n (((lfs g).take j).filter (fun x=>isA t x.f0 a == true)) (((lfs g).take j).filter (fun x=>isA t x.f0 a == false)) (lfs g) (j : Int) t) true:=by
   intro d
   induction d with
   | zero =>
    intro j hj
    refine Ev.succ ?_
    rw [List.take_of_length_le (by omega)]
    simp only [laws_FnSplitGroupOrder.l0]
    exact Ev.neg (by omega) (Ev.bind hL1 (Ev.bind (laws_equalLeaves_ev _ (by omega)) (Ev.pos rfl (Ev.bind hL2 (Ev.bind (laws_equalLeaves_ev _ (by omega)) (Ev.const rfl))))))
   | succ d ih =>
    intro j hj
    refine Ev.succ ?_
    have hlt : j < (lfs g).length:=by omega
    have hr : rd_T43 (lfs g) (j : Int) = (lfs g)[j]:=by simp [rd_T43,hlt]
    have t1:=hfl true ((lfs g).take j)
    have t2:=hfl false ((lfs g).take j)
    rw [List.length_take] at t1 t2
    have hi:=ih (j + 1) (by omega)
    rw [List.take_succ_eq_append_getElem hlt,List.filter_append,List.filter_append,List.filter_cons,List.filter_cons,List.filter_nil,List.filter_nil] at hi
    simp only [laws_FnSplitGroupOrder.l0,hr]
    rw [wrap_succ (i:=(j : Int)) (n:=(lfs g).length) (by omega) (by omega) (by omega)]
    refine Ev.pos (by omega) (Ev.pos (by omega) (Ev.bind (impl_IsA_ev hT _ a (hcl _ (List.getElem_mem _)) ha) ?_))
    cases hb : isA t (lfs g)[j].f0 a with
    | true =>
     rw [hb] at hi
     refine Ev.pos rfl (Ev.pos (by omega) ?_)
     simpa using hi
    | false =>
     rw [hb] at hi
     refine Ev.neg (by simp) (Ev.pos (by omega) ?_)
     simpa using hi
  exact key (lfs g).length 0 (by omega)
 ·have hr : splitP t g a = ([],[]):=by unfold splitP;rw [if_neg hc]
  rw [hr] at hI hS
  have no : Ev (fun k=>laws_FnSplitGroupOrder.j0 k g a [] [] [] [] true t) true:=by
   refine Ev.succ ?_
   simp only [laws_FnSplitGroupOrder.j0]
   exact Ev.pos trivial (Ev.bind (laws_equalGroup_ev _ (by simp)) (Ev.pos rfl (Ev.bind (laws_equalGroup_ev _ (by simp)) (Ev.const rfl))))
  refine Ev.bind hd (Ev.bind (Ev.const hI) (Ev.bind hS (Ev.bind (laws_equalGroup_ev _ (by simp)) (Ev.pos rfl (Ev.bind (laws_equalGroup_ev _ (by simp)) (Ev.pos rfl (Ev.bind hV ?_)))))))
  cases hv : vG t g with
  | false=>exact Ev.neg (by simp) no
  | true =>
   refine Ev.pos rfl (Ev.bind (Ev.const (laws_has_ev t a)) ?_)
   cases ha : hasC t a with
   | false=>exact no
   | true=>rw [hv,ha] at hc;exact absurd rfl hc
end Go.Proofs.Ytfphcdbnnienhaa.Pure
