/- Texts under the proof of FnHandleGroup: helper words, the functions' contracts and the plain laws. No condition. -/
import Derived.Test.YtfphcdbnnienhaaQFnHandleGroupa
import Derived.Test.YtfphcdbnnienhaaQFnHandleGroupc
import Derived.Test.YtfphcdbnnienhaaQFnHandleGroupd
namespace Go.Proofs.Ytfphcdbnnienhaa.P
open Go.RowKit Go.Proofs.YtfphcdbnnienhaaW.PrintWords Go.Proofs.YtfphcdbnnienhaaW.PrintLast Go.Proofs.YtfphcdbnnienhaaW.PrintMore
attribute [local go_sem] max2_int min2_int max_two min_two max_three min_three max_four min_four
set_option linter.unusedVariables false
set_option linter.unusedSimpArgs false
mutual
def spec_HandleGroup.j0 : Nat → List (S47) → List Int → Bool → List (S85) → Option ((List (List (S47))) × (List (S47)))
 | 0,_,_,_,_=>none
 | k + 1,x1,x2,x22,x2000=>if x22 = true then (some (([] : List (List (S47))),([] : List (S47)))) else ((some (([] : List (S47)) : List (S47))).bind fun y7=>(if y7.length + x1.length < 4398046511104 then (spec_HandleGroup.l0 k x2 (([] : List (List (S47)))) (y7 ++ x1) 0 x2000) else (none)))
def spec_HandleGroup.l0 : Nat → List Int → List (List (S47)) → List (S47) → Int → List (S85) → Option ((List (List (S47))) × (List (S47)))
 | 0,_,_,_,_,_=>none
 | k + 1,x2,x8,x9,x10,x2000=>if x10 < (x2.length : Int) then (if 0 ≤ x10 then ((spec_split.f k x2000 x9 (rd x2 x10)).bind fun bt14=>(if x8.length < 5864062014805 then (spec_HandleGroup.l0 k x2 (x8 ++ [bt14.1]) bt14.2 (wrap64 (x10 + 1)) x2000) else (none))) else (none)) else (some (x8,x9))
end
def spec_HandleGroup.f (k : Nat) (l0_0 : List (S85)) (l1 : List (S47)) (l2 : List Int) : Option ((List (List (S47))) × (List (S47))):=(spec_validGroup.f l0_0 l1).bind fun t2=>(if t2 = true then ((spec_goodCatches.f k l0_0 l2).bind fun t3=>(spec_HandleGroup.j0 k l1 l2 (!t3) l0_0)) else (spec_HandleGroup.j0 k l1 l2 true l0_0))
theorem spec_HandleGroup.mono_l : ∀ k,(∀ y0 y1 y2 y3,LeO (spec_HandleGroup.j0 k y0 y1 y2 y3) (spec_HandleGroup.j0 (k + 1) y0 y1 y2 y3)) ∧ (∀ y0 y1 y2 y3 y4,LeO (spec_HandleGroup.l0 k y0 y1 y2 y3 y4) (spec_HandleGroup.l0 (k + 1) y0 y1 y2 y3 y4))
 | 0=>⟨fun _ _ _ _ r h=>by simp [spec_HandleGroup.j0] at h,fun _ _ _ _ _ r h=>by simp [spec_HandleGroup.l0] at h⟩
 | k + 1=>by
  obtain ⟨ih0,ih1⟩:=spec_HandleGroup.mono_l k
  refine ⟨?_,?_⟩
  ·intro y0 y1 y2 y3
   unfold spec_HandleGroup.j0
   repeat' first
   | (with_reducible exact ih0 _ _ _ _)
   | (with_reducible exact ih1 _ _ _ _ _)
   | (with_reducible exact spec_goodCatches.mono _ _ _)
   | (with_reducible exact spec_split.mono _ _ _ _)
   | (with_reducible exact LeO.refl _)
   | (with_reducible exact LeO.none _)
   | (with_reducible refine LeO.ite ?_ ?_)
   | (with_reducible refine LeO.bind ?_ (fun _=>?_))
   | exact ih0 _ _ _ _
   | exact ih1 _ _ _ _ _
   | exact spec_goodCatches.mono _ _ _
   | exact spec_split.mono _ _ _ _
   | exact LeO.none _
   | refine LeO.ite ?_ ?_
   | refine LeO.bind ?_ (fun _=>?_)
  ·intro y0 y1 y2 y3 y4
   unfold spec_HandleGroup.l0
   repeat' first
   | (with_reducible exact ih0 _ _ _ _)
   | (with_reducible exact ih1 _ _ _ _ _)
   | (with_reducible exact spec_goodCatches.mono _ _ _)
   | (with_reducible exact spec_split.mono _ _ _ _)
   | (with_reducible exact LeO.refl _)
   | (with_reducible exact LeO.none _)
   | (with_reducible refine LeO.ite ?_ ?_)
   | (with_reducible refine LeO.bind ?_ (fun _=>?_))
   | exact ih0 _ _ _ _
   | exact ih1 _ _ _ _ _
   | exact spec_goodCatches.mono _ _ _
   | exact spec_split.mono _ _ _ _
   | exact LeO.none _
   | refine LeO.ite ?_ ?_
   | refine LeO.bind ?_ (fun _=>?_)
theorem spec_HandleGroup.mono : ∀ a0 a1 a2 k,LeO (spec_HandleGroup.f k a0 a1 a2) (spec_HandleGroup.f (k + 1) a0 a1 a2):=by
 intro a0 a1 a2 k
 obtain ⟨ih0,ih1⟩:=spec_HandleGroup.mono_l k
 unfold spec_HandleGroup.f
 repeat' first
   | (with_reducible exact ih0 _ _ _ _)
   | (with_reducible exact ih1 _ _ _ _ _)
   | (with_reducible exact spec_goodCatches.mono _ _ _)
   | (with_reducible exact spec_split.mono _ _ _ _)
   | (with_reducible exact LeO.refl _)
   | (with_reducible exact LeO.none _)
   | (with_reducible refine LeO.ite ?_ ?_)
   | (with_reducible refine LeO.bind ?_ (fun _=>?_))
   | exact ih0 _ _ _ _
   | exact ih1 _ _ _ _ _
   | exact spec_goodCatches.mono _ _ _
   | exact spec_split.mono _ _ _ _
   | exact LeO.none _
   | refine LeO.ite ?_ ?_
   | refine LeO.bind ?_ (fun _=>?_)
def spec_HandleGroup.T8 : Bool × List (List Nat × List Nat):=(true,[([],[]),([],[]),([],[]),([],[]),([2,3],[2,3]),([4],[4]),([0,1,5],[0,1,5]),([6],[6]),([7],[7]),([7],[7]),([8,6,0,1,2,3,4,5,6,7,8],[8]),([9,10,0,1,2,3,4,5,6,7,8,9,10],[9])])
def spec_HandleGroup.B8 : List Nat:=[0,0,0,0,12,28,63,127,255,255,511,2047]
theorem spec_HandleGroup.tab8 : rtab .any (opsOf Try.f30 8) = spec_HandleGroup.T8:=by kernel_rfl
theorem spec_HandleGroup.bits8 : waitsOk spec_HandleGroup.T8.2 spec_HandleGroup.B8 = true:=by kernel_rfl
set_option maxHeartbeats 8000000 in
set_option maxRecDepth 100000 in
theorem spec_HandleGroup.calls (k : Nat) (A0_0 : Option Addr) (c0_0 : Nat) (l0_0 : List (S85)) (A1 : Option Addr) (c1 : Nat) (l1 : List (S47)) (A2 : Option Addr) (c2 : Nat) (l2 : List Int) (r1 : List (List (S47))) (r2 : List (S47)) (w : World) (hr0_0 : Kd.C k85 w A0_0 l0_0.length l0_0) (hc0_0 : l0_0.length ≤ c0_0) (hr1 : Kd.C k47 w A1 l1.length l1) (hc1 : l1.length ≤ c1) (hr2 : Kd.C (Kd.int .i64) w A2 l2.length l2) (hc2 : l2.length ≤ c2) (h : spec_HandleGroup.f k l0_0 l1 l2 = some (r1,r2)) :
  Calls Try.prog 30 #[.agg #[.slice A0_0 l0_0.length c0_0],.slice A1 l1.length c1,.slice A2 l2.length c2] w fun e w'=>∃ v0_ v1_ : Value,e = .returned (.tuple #[v0_,v1_]) ∧ Kd.S (Kd.slice 47 k47) 26 w' w.heap.size (fun k_=>some k_ ≠ (v1_ : Value).ownBlock) v0_ r1 ∧ Kd.R k47 47 w' w.heap.size (fun _=>True) v1_ r2 ∧ Below w.heap.size w w':=by
 have hu25:=Try.underlying25
 have HR0_0:=a0_ hr0_0
 have HC0_0:=a0_ hc0_0
 clear hr0_0 hc0_0
 have HR1:=a0_ hr1
 have HC1:=a0_ hc1
 clear hr1 hc1
 have HR2:=a0_ hr2
 have HC2:=a0_ hc2
 clear hr2 hc2
 have HB:=a0_ (Below.refl w.heap.size w)
 have H : ((spec_validGroup.f l0_0 l1).bind fun t2=>(if t2 = true then ((spec_goodCatches.f k l0_0 l2).bind fun t3=>(spec_HandleGroup.j0 k l1 l2 (!t3) l0_0)) else (spec_HandleGroup.j0 k l1 l2 true l0_0))) = some (r1,r2):=h
 clear h
 have HC4:=a0_ H
 clear H
 go_enter Try.func30,Try.ntmps30
 go_upto_region 1 with (first | ((with_reducible refine gate_dst (N:=3) rfl ?_);refine box_event ?hg (N:=3) ?hd (cs:=#[.slice A0_0 l0_0.length c0_0]) (t:=25) ?hr ?_;(case hd=>rfl);(case hg=>rfl);(case hr=>first | (go_simp;done) | (go_simp;rfl));intro gb1 hg w5 hbox hb;have BK1:=a0_ (hbox);have GW1:=a0_ ((by rw [hg];exact (below_size hb_) : w.heap.size ≤ gb1));have GE1:=a0_ ((by rw [hg];exact (below_size hb_) : w.heap.size ≤ gb1));replace HB:=a0_ (below_step hb_ hb);clear hb hbox hg))
 (try simp only [Act.put,s1_,s2_,s3_])
 go_cut [22] (fun v22 wc=>∃ (kq : Nat) (x22_3 : Bool),v22 = .bool x22_3 ∧ Aside0 (spec_HandleGroup.j0 kq l1 l2 x22_3 l0_0 = some (r1,r2)) ∧ Aside0 (kq ≤ k) ∧ Aside0 (wc.heap[gb1]? = some (.cells #[(.slice A0_0 l0_0.length c0_0)] 25 (0,0))) ∧ Aside0 (Below w.heap.size w wc))
 case first =>
  have H:=HC4.out
  clear HC4
  replace H:=Option.bind_eq_some_iff.mp H
  obtain ⟨t2,A60,H⟩:=H
  try dsimp only at H
  have A6:=a0_ A60
  clear A60
  by_cases c7 : t2 = true
  ·subst c7
   have H1 : ((spec_goodCatches.f k l0_0 l2).bind fun t3=>(spec_HandleGroup.j0 k l1 l2 (!t3) l0_0)) = some (r1,r2):=by rw [if_pos rfl] at H;exact H
   clear H
   have H:=H1
   clear H1
   replace H:=Option.bind_eq_some_iff.mp H
   obtain ⟨t3,A80,H⟩:=H
   replace H : (spec_HandleGroup.j0 k l1 l2 (!t3) l0_0) = some (r1,r2):=H
   have A8:=a0_ A80
   clear A80
   have H':=a0_ H
   clear H
   have hcz9_0 : w5.cell? ⟨gb1,0,none⟩ = some (.slice A0_0 l0_0.length c0_0):=(blk_cell BK1.out 0).trans rfl
   have hfz9_0:=blk_frozen BK1.out 0
   go_wp2_with (first | ((with_reducible refine gate_callee (f:=40) rfl ?_);refine goesL_ (some 15) rfl rfl Try.func40 (by kernel_rfl) rfl #[.agg #[.slice A0_0 l0_0.length c0_0],.slice A1 l1.length c1] rfl lm_ ?_;(with_reducible refine (spec_validGroup.calls _ _ l0_0 _ _ l1 true _ ?side1 ?side2 ?side3 ?side4 A6.out).mono ?_);(case side1=>exact cc_ (Kd.C_below HR0_0.out HB.out));(case side2=>exact HC0_0.out);(case side3=>exact cc_ (Kd.C_below HR1.out HB.out));(case side4=>exact HC1.out);rintro e w10 ⟨rfl,hb⟩;refine ⟨_,rfl,?_⟩;replace BK1:=kb_ BK1 hb;replace HB:=a0_ (below_step hb_ hb);(try clear hb);have hcz11_0 : w10.cell? ⟨gb1,0,none⟩ = some (.slice A0_0 l0_0.length c0_0):=(blk_cell BK1.out 0).trans rfl;have hfz11_0:=blk_frozen BK1.out 0) | (go_at_call 54;(with_reducible refine (spec_goodCatches.calls k _ _ l0_0 _ _ l2 t3 _ ?side1 ?side2 ?side3 ?side4 A8.out).mono ?_);(case side1=>exact cc_ (Kd.C_below HR0_0.out HB.out));(case side2=>exact HC0_0.out);(case side3=>exact cc_ (Kd.C_below HR2.out HB.out));(case side4=>exact HC2.out);rintro e w12 ⟨rfl,hb⟩;replace BK1:=kb_ BK1 hb;replace HB:=a0_ (below_step hb_ hb);(try clear hb);(try clear hb2);(try clear hk);(try clear hi)))
   go_meet
   case rel=>exact ⟨_,(!t3),(by first | rfl | (simp;done) | (simp [*];done)),H',⟨by first | omega | exact Nat.le_refl _⟩,⟨by (with_reducible repeat (first | refine blk_drewN ?_ _ | refine blk_drew ?_ | refine blk_alloc ?_ _));exact BK1.out⟩,⟨hb_⟩⟩
  ·replace c7:=Bool.eq_false_iff.mpr c7
   subst c7
   have H1 : (spec_HandleGroup.j0 k l1 l2 true l0_0) = some (r1,r2):=by rw [if_neg (show ¬ (false = true) by decide)] at H;exact H
   clear H
   have H:=H1
   clear H1
   have H':=a0_ H
   clear H
   have hcz13_0 : w5.cell? ⟨gb1,0,none⟩ = some (.slice A0_0 l0_0.length c0_0):=(blk_cell BK1.out 0).trans rfl
   have hfz13_0:=blk_frozen BK1.out 0
   go_wp2_with (first | ((with_reducible refine gate_callee (f:=40) rfl ?_);refine goesL_ (some 15) rfl rfl Try.func40 (by kernel_rfl) rfl #[.agg #[.slice A0_0 l0_0.length c0_0],.slice A1 l1.length c1] rfl lm_ ?_;(with_reducible refine (spec_validGroup.calls _ _ l0_0 _ _ l1 false _ ?side1 ?side2 ?side3 ?side4 A6.out).mono ?_);(case side1=>exact cc_ (Kd.C_below HR0_0.out HB.out));(case side2=>exact HC0_0.out);(case side3=>exact cc_ (Kd.C_below HR1.out HB.out));(case side4=>exact HC1.out);rintro e w14 ⟨rfl,hb⟩;refine ⟨_,rfl,?_⟩;replace BK1:=kb_ BK1 hb;replace HB:=a0_ (below_step hb_ hb);(try clear hb);(try clear hb2);(try clear hk);(try clear hi)))
   go_meet
   case rel=>exact ⟨_,(true),(by first | rfl | (simp;done) | (simp [*];done)),H',⟨by first | omega | exact Nat.le_refl _⟩,⟨by (with_reducible repeat (first | refine blk_drewN ?_ _ | refine blk_drew ?_ | refine blk_alloc ?_ _));exact BK1.out⟩,⟨hb_⟩⟩
 case rest =>
  clear HC4
  try clear c1
  try clear c2
  try clear p2
  try clear c3
  try clear c4
  try clear c7
  try clear hcz11_0
  try clear hcz13_0
  try clear hcz9_0
  try clear hfz11_0
  try clear hfz13_0
  try clear hfz9_0
  obtain ⟨kq,x22_3,rfl,HA,HJ3,BK1,HB⟩:=hcut
  cases kq with
  | zero=>exact absurd HA.out (by simp [spec_HandleGroup.j0])
  | succ kj3 =>
   have H:=HA.out
   clear HA
   simp only [spec_HandleGroup.j0] at H
   by_cases c15 : x22_3 = true
   ·subst c15
    have H1 : (some (([] : List (List (S47))),([] : List (S47)))) = some (r1,r2):=by rw [if_pos rfl] at H;exact H
    clear H
    have H:=H1
    clear H1
    simp only [Option.some.injEq,Prod.mk.injEq] at H
    obtain ⟨rfl,rfl⟩:=H
    go_wp2
    go_ret2
    exact ⟨_,_,by first | rfl | (simp [errW_none,errW_some] <;> rfl) | (simp [*,errW_none,errW_some] <;> rfl),by first | exact Kd.S_nil _ _ _ _ _ | exact Kd.N_nil _ _ _ _ _ | exact Kd.V_nil _ _ _ _ _ | exact Kd.Q_nil _ _ _ _ _ | exact Kd.R_nil _ _ _ _ _,by first | exact Kd.R_nil _ _ _ _ _ | exact Kd.N_nil _ _ _ _ _ | exact Kd.V_nil _ _ _ _ _ | exact Kd.Q_nil _ _ _ _ _ | exact Kd.S_nil _ _ _ _ _,hb_⟩
   ·replace c15:=Bool.eq_false_iff.mpr c15
    subst c15
    have H1 : ((some (([] : List (S47)) : List (S47))).bind fun y7=>(if y7.length + l1.length < 4398046511104 then (spec_HandleGroup.l0 kj3 l2 (([] : List (List (S47)))) (y7 ++ l1) 0 l0_0) else (none))) = some (r1,r2):=by rw [if_neg (show ¬ (false = true) by decide)] at H;exact H
    clear H
    have H:=H1
    clear H1
    obtain ⟨y4,hy4⟩ : ∃ y_ : List (List (S47)),y_ = (([] : List (List (S47)))):=⟨_,rfl⟩
    replace H : ((some (([] : List (S47)) : List (S47))).bind fun y7=>(if y7.length + l1.length < 4398046511104 then (spec_HandleGroup.l0 kj3 l2 y4 (y7 ++ l1) 0 l0_0) else (none))) = some (r1,r2):=by first | (rw [hy4];with_reducible exact H) | (have H2_:=(Option.bind_some _ _).symm.trans H;rw [hy4];with_reducible exact H2_) | (have H2_:=(Option.bind_some _ _).symm.trans H;with_reducible exact H2_) | with_reducible exact H | (rw [hy4];exact H) | exact H
    have Ny4:=a0_ hy4
    clear hy4
    obtain ⟨y7,hy7⟩ : ∃ y_ : List (S47),y_ = (([] : List (S47))):=⟨_,rfl⟩
    replace H : (if y7.length + l1.length < 4398046511104 then (spec_HandleGroup.l0 kj3 l2 y4 (y7 ++ l1) 0 l0_0) else (none)) = some (r1,r2):=by first | (rw [hy7];with_reducible exact H) | (have H2_:=(Option.bind_some _ _).symm.trans H;rw [hy7];with_reducible exact H2_) | (have H2_:=(Option.bind_some _ _).symm.trans H;with_reducible exact H2_) | with_reducible exact H | (rw [hy7];exact H) | exact H
    have Ny7:=a0_ hy7
    clear hy7
    by_cases c16 : y7.length + l1.length < 4398046511104
    ·rw [if_pos c16] at H
     have LMc16:=a0_ c16
     clear c16
     obtain ⟨y10,hy10⟩ : ∃ y_ : List (S47),y_ = (y7 ++ l1):=⟨_,rfl⟩
     replace H : (spec_HandleGroup.l0 kj3 l2 y4 y10 0 l0_0) = some (r1,r2):=by first | (rw [hy10];with_reducible exact H) | (have H2_:=(Option.bind_some _ _).symm.trans H;rw [hy10];with_reducible exact H2_) | (have H2_:=(Option.bind_some _ _).symm.trans H;with_reducible exact H2_) | with_reducible exact H | (rw [hy10];exact H) | exact H
     have Ny10:=a0_ hy10
     clear hy10
     have H':=a0_ H
     clear H
     go_wp2_with (first | ((with_reducible refine gate_dst (N:=23) rfl ?_);refine Kd.S_lit (Kd.slice 47 k47) _ 26 ?hg (N:=23) ?hd (xs:=([] : List (List (S47)))) (inner:=[]) (ok:=fun _=>True) (okp:=fun _=>True) ?hr ?hp (fun _ hk=>hk) trivial (Below.refl _ _) (Nat.le_refl _) (by simp) ?_;(case hd=>rfl);(case hg=>rfl);(case hr=>first | (go_simp;done) | (go_simp;rfl));(case hp=>exact (Reps.none _ _));intro v5 w17 ho18 hb hg_ hnew_;clear hg_ hnew_;(first | rw [← Ny4.out] at ho18 | (simp only [Int.reduceToNat] at ho18;rw [← Ny4.out] at ho18));have HO6:=a0_ (Kd.S_lower ho18 (below_size hb_));replace BK1:=kb_ BK1 hb;replace HB:=a0_ (below_step hb_ hb);clear hb ho18) | ((with_reducible refine gate_dst (N:=24) rfl ?_);refine Kd.R_lit k47 _ 47 ?hg (N:=24) ?hd (xs:=([] : List (S47))) (inner:=[]) (ok:=fun _=>True) (okp:=fun _=>True) ?hr ?hp (fun _ hk=>hk) trivial (Below.refl _ _) (Nat.le_refl _) (by simp) ?_;(case hd=>rfl);(case hg=>rfl);(case hr=>first | (go_simp;done) | (go_simp;rfl));(case hp=>exact (Reps.none _ _));intro v8 w19 ho20 hb hg_ hnew_;clear hg_ hnew_;(first | rw [← Ny7.out] at ho20 | (simp only [Int.reduceToNat] at ho20;rw [← Ny7.out] at ho20));replace HO6:=a0_ (Kd.S_elder' (by (with_reducible repeat (first | apply Kd.S_alloc | apply Kd.S_drewN | apply Kd.S_drew));exact HO6.out) (Kd.R_base ho20) hb);have HO9:=a0_ (Kd.R_lower ho20 (below_size hb_));replace BK1:=kb_ BK1 hb;replace HB:=a0_ (below_step hb_ hb);clear hb ho20) | ((with_reducible refine gate_builtin (b:=.append) (xs:=#[.tmp 24,.tmp 25]) rfl ?_);at_builtin;refine Kd.R_append_rows k47 (w0:=w) w.heap.size rfl (.tmp 24) (.tmp 25) 26 47 (.agg #[(.int .i64 0),(.bool false),(.int .i64 0),(.int .i64 0)]) 32 rfl Try.underlying26 info47 rfl (by decide) (by omega) v8 y7 l1 _ _ _ (fun _=>True) (fun _=>False) rfl rfl ?aO ?aR (fun _ _ h=>h) (fun _ h=>h.elim) ?aF ?aB ?aS ?aL ?_;(case aR=>exact cc_ (Kd.C_below HR1.out HB.out));(case aB=>exact hb_);(case aF=>exact (fun _ _=>trivial));(case aO=>exact (rr_ HO9.out));(case aS=>exact (below_size hb_));(case aL=>have:=LMc16.out;omega);intro v11 w21 ho hb hg hat;rw [← Ny10.out] at ho;replace BK1:=a0_ (blk_grown (bb_ BK1.out) hg (Kd.R_ne HO9.out BK1.out (by decide)));replace HO6:=a0_ (Kd.S_after (ok:=(fun _=>True)) (by (with_reducible repeat (first | apply Kd.S_alloc | apply Kd.S_drewN | apply Kd.S_drew));exact HO6.out) hg hat);have HO12:=a0_ (ho);replace HB:=a0_ (hb);clear HO9;clear ho hb hg hat))
     go_loopg [8,9,10] kj3 (fun kq v8 v9 v10 w'=>∃ (x8_2 : List (List (S47))) (x9_2 : List (S47)) (x10_2 : Int),v10 = .int .i64 x10_2 ∧ Aside0 (spec_HandleGroup.l0 kq l2 x8_2 x9_2 x10_2 l0_0 = some (r1,r2)) ∧ Aside0 (kq ≤ kj3) ∧ Aside0 (Kd.S (Kd.slice 47 k47) 26 w' w.heap.size (fun k_=>some k_ ≠ (v9 : Value).ownBlock) v8 x8_2) ∧ Aside0 (Kd.R k47 47 w' w.heap.size (fun _=>True) v9 x9_2) ∧ Aside0 (w'.heap[gb1]? = some (.cells #[(.slice A0_0 l0_0.length c0_0)] 25 (0,0))) ∧ Aside0 (Below w.heap.size w w'))
     case atStart=>exact ⟨(y4),(y10),(0),(by first | rfl | (simp;done) | (simp [*];done)),H',⟨Nat.le_refl _⟩,⟨by (with_reducible repeat (first | apply Kd.S_alloc | apply Kd.S_drewN | apply Kd.S_drew));exact Kd.S_mono HO6.out (fun _ hk=>hk.2)⟩,⟨by (with_reducible repeat (first | apply Kd.R_alloc | apply Kd.R_drewN | apply Kd.R_drew));exact HO12.out⟩,⟨by (with_reducible repeat (first | refine blk_drewN ?_ _ | refine blk_drew ?_ | refine blk_alloc ?_ _));exact BK1.out⟩,⟨hb_⟩⟩
     case round =>
      clear H'
      try clear c1
      try clear c2
      try clear p2
      try clear c3
      try clear c4
      try clear c7
      try clear c15
      try clear c16
      try clear hcz11_0
      try clear hcz13_0
      try clear hcz9_0
      try clear hfz11_0
      try clear hfz13_0
      try clear hfz9_0
      try clear p2
      obtain ⟨x8_2,x9_2,x10_2,rfl,HA,HK2,HO_8,HO_9,BK1,HB⟩:=hrel
      cases gk with
      | zero=>exact absurd HA.out (by simp [spec_HandleGroup.l0])
      | succ k2 =>
       have H:=HA.out
       clear HA
       simp only [spec_HandleGroup.l0] at H
       by_cases c22 : x10_2 < (l2.length : Int)
       ·rw [if_pos c22] at H
        have c22b0 : decide (x10_2 < (l2.length : Int)) = true:=decide_eq_true c22
        clear c22
        by_cases c23 : 0 ≤ x10_2
        ·rw [if_pos c23] at H
         have c23b0 : decide (0 ≤ x10_2) = true:=decide_eq_true c23
         clear c23
         replace H:=Option.bind_eq_some_iff.mp H
         obtain ⟨⟨t14,t17⟩,A240,H⟩:=H
         try dsimp only at H
         have A24:=a0_ A240
         clear A240
         by_cases c25 : x8_2.length < 5864062014805
         ·rw [if_pos c25] at H
          have LMc25:=a0_ c25
          clear c25
          obtain ⟨y20,hy20⟩ : ∃ y_ : List (List (S47)),y_ = (x8_2 ++ [t14]):=⟨_,rfl⟩
          replace H : (spec_HandleGroup.l0 k2 l2 y20 t17 (wrap64 (x10_2 + 1)) l0_0) = some (r1,r2):=by first | (rw [hy20];with_reducible exact H) | (have H2_:=(Option.bind_some _ _).symm.trans H;rw [hy20];with_reducible exact H2_) | (have H2_:=(Option.bind_some _ _).symm.trans H;with_reducible exact H2_) | with_reducible exact H | (rw [hy20];exact H) | exact H
          have Ny20:=a0_ hy20
          clear hy20
          have H':=a0_ H
          clear H
          try go_wp2
          have n0_:=a0_ (Kd.S_drew HO_8.out)
          have n1_:=a0_ (Kd.R_drew HO_9.out)
          have n2_:=a0_ (blk_drew BK1.out)
          have n3_:=a0_ (below_drew1 HB.out)
          clear HO_8
          clear HO_9
          clear BK1
          clear HB
          have HO_8:=n0_
          have HO_9:=n1_
          have BK1:=n2_
          have HB:=n3_
          clear n0_ n1_ n2_ n3_
          have p13 : 0 ≤ (x10_2 : Int):=of_decide_eq_true (by first | (with_reducible assumption) | assumption)
          have q13 : x10_2 < (l2.length : Int):=of_decide_eq_true (by first | (with_reducible assumption) | assumption)
          obtain ⟨ad13,e13,hx13_0⟩:=Kd.at_int HR2.out x10_2 p13 q13
          have hw13_0:=hx13_0
          cases e13
          replace hx13_0:=(HB.out.cell (World.block_lt_of_cell? w _ hx13_0)).trans hx13_0
          replace p13:=eq_true p13
          replace q13:=eq_true q13
          obtain ⟨Ao27,co27,eo27⟩:=Kd.R_slice HO_9.out
          (first | subst eo27 | (injection eo27 with f1_ f2_ f3_;have f4_:=f1_.symm;have f5_:=f3_.symm;clear f1_ f2_ f3_;subst f4_;subst f5_))
          refine start_ (n:=12) (S:=fun w'=>w'.cell? ⟨gb1,0,none⟩ = some (.slice A0_0 l0_0.length c0_0) ∧ w'.cell? (ad13.add (x10_2).toNat) = some (.int .i64 (rd l2 x10_2))) (ds:=[]) #[false,false,false,false,false,false,false,false,false,false,false,false] (by kernel_rfl) rfl rfl ⟨(blk_cell BK1.out 0).trans rfl,((HB.out.cell (World.block_lt_of_cell? w _ hw13_0)).trans hw13_0)⟩ (fun hHeld=>?_);refine with_tabW spec_HandleGroup.tab8 spec_HandleGroup.bits8 (fun HT_ HW_=>?_)
          generalize wr.drew = w26 at HO_8 HO_9 BK1 HB hx13_0 hHeld ⊢
          refine pure_ (i:=1) (N:=some 35) (v:=?_) (a':=?_) #[false,true,false,false,false,false,false,false,false,false,false,false] rfl rfl (any_of HT_.out (by kernel_rfl)) (fun _ _ _ h=>h) (Or.inl ⟨by rfl,?_⟩) ?_ ?_
          rotate_left
          ·intro w'
           go_simp
           with_reducible rfl
          rotate_left
          ·simp only [Act.put,s1_,s2_,s3_,i64_w,i32_w]
           rfl
          refine pure_ (i:=2) (N:=some 36) (v:=?_) (a':=?_) #[false,true,true,false,false,false,false,false,false,false,false,false] rfl rfl (any_of HT_.out (by kernel_rfl)) (fun _ _ _ h=>h) (Or.inl ⟨by rfl,?_⟩) ?_ ?_
          rotate_left
          ·intro w'
           go_simp
           with_reducible rfl
          rotate_left
          ·simp only [Act.put,s1_,s2_,s3_,i64_w,i32_w]
           rfl
          refine pure_ (i:=3) (N:=some 37) (v:=?_) (a':=?_) #[false,true,true,true,false,false,false,false,false,false,false,false] rfl rfl (any_of HT_.out (by kernel_rfl)) (fun _ _ _ h=>h) (Or.inl ⟨by rfl,?_⟩) ?_ ?_
          rotate_left
          ·intro w'
           go_simp
           with_reducible rfl
          rotate_left
          ·simp only [Act.put,s1_,s2_,s3_,i64_w,i32_w]
           rfl
          refine pure_ (i:=4) (N:=some 38) (v:=?_) (a':=?_) #[false,true,true,true,true,false,false,false,false,false,false,false] rfl rfl (any_of HT_.out (by kernel_rfl)) (fun _ _ _ h=>h) (Or.inl ⟨by rfl,?_⟩) ?_ ?_
          rotate_left
          ·intro w'
           go_simp
           with_reducible rfl
          rotate_left
          ·simp only [Act.put,s1_,s2_,s3_,i64_w,i32_w]
           rfl
          refine take_ (i:=0) (N:=some 34) (v:=?_) (a':=?_) #[true,true,true,true,true,false,false,false,false,false,false,false] rfl rfl (take_ofW HT_.out HW_.out (by kernel_rfl)) (fun _ _ _ h=>h) (Or.inl ⟨by rfl,?_⟩) hHeld ?_ ?_
          rotate_left
          ·rintro w' ⟨s0,s1⟩
           go_simp
           with_reducible rfl
          rotate_left
          ·simp only [Act.put,s1_,s2_,s3_,i64_w,i32_w]
           rfl
          refine take_ (i:=5) (N:=some 39) (v:=?_) (a':=?_) #[true,true,true,true,true,true,false,false,false,false,false,false] rfl rfl (take_ofW HT_.out HW_.out (by kernel_rfl)) (fun _ _ _ h=>h) (Or.inl ⟨by rfl,?_⟩) hHeld ?_ ?_
          rotate_left
          ·rintro w' ⟨s0,s1⟩
           go_simp
           with_reducible rfl
          rotate_left
          ·simp only [Act.put,s1_,s2_,s3_,i64_w,i32_w]
           rfl
          refine one_ (i:=6) (N:=some 40) #[true,true,true,true,true,true,true,false,false,false,false,false] rfl rfl (one_of HT_.out (by kernel_rfl)) (by decide) (fun K hK=>?_)
          refine goes_ Try.func49 (by kernel_rfl) rfl #[.agg #[.slice A0_0 l0_0.length c0_0],.slice Ao27 x9_2.length co27,.int .i64 (rd l2 x10_2)] (by rfl) rfl rfl lm_ ?_
          with_reducible refine (spec_split.calls k2 _ _ l0_0 _ _ x9_2 (rd l2 x10_2) t14 t17 _ ?side1 ?side2 ?side3 ?side4 A24.out).mono ?_
          (case side1=>exact cc_ (Kd.C_below HR0_0.out HB.out))
          (case side2=>exact HC0_0.out)
          (case side3=>exact cc_ (Kd.R_reads' HO_9.out).2.2)
          (case side4=>exact (Kd.R_reads' HO_9.out).2.1)
          rintro e w28 ⟨v15,v18,rfl,ho0,ho1,hb⟩
          refine ⟨_,rfl,?_⟩
          have n0_:=a0_ (Kd.S_mono (Kd.S_told (Kd.S_told (Kd.S_old (by (with_reducible repeat (first | apply Kd.S_alloc | apply Kd.S_drewN | apply Kd.S_drew));exact HO_8.out) hb) (Kd.R_base ho0)) (Kd.R_base ho1)) (fun _ h_=>h_.1))
          have n1_:=a0_ (Kd.R_mono (Kd.R_told (Kd.R_told (Kd.R_old (rr_ HO_9.out) hb) (Kd.R_base ho0)) (Kd.R_base ho1)) (fun _ h_=>h_.1))
          have n2_:=a0_ (Kd.R_lower (Kd.R_new' ho0 (Kd.R_lt (rr_ HO_9.out))) (below_size hb_))
          have n3_:=a0_ (Kd.R_lower (Kd.R_new' ho1 (Kd.R_lt (rr_ HO_9.out))) (below_size hb_))
          have n4_:=kb_ BK1 hb
          have n5_:=a0_ (below_step hb_ hb)
          clear HO_8
          clear HO_9
          clear BK1
          clear HB
          have HO_8:=n0_
          have HO_9:=n1_
          have HO16:=n2_
          have HO19:=n3_
          have BK1:=n4_
          have HB:=n5_
          clear n0_ n1_ n2_ n3_ n4_ n5_
          (try clear hb)
          (try clear hb2)
          (try clear hk)
          (try clear hi)
          (try clear ho0)
          (try clear ho1)
          refine hK.out _ _ ⟨(blk_cell BK1.out 0).trans rfl,((HB.out.cell (World.block_lt_of_cell? w _ hw13_0)).trans hw13_0)⟩ (fun hHeld=>?_)
          clear hK K
          refine norm_ (a':=?_) ?_ ?_
          rotate_left
          ·show Act.put _ (some 40) _ = _
           simp only [Act.put,s1_,s2_,s3_,i64_w,i32_w]
           rfl
          refine pure_ (i:=7) (N:=some 33) (v:=?_) (a':=?_) #[true,true,true,true,true,true,true,true,false,false,false,false] rfl rfl (any_of HT_.out (by kernel_rfl)) (fun _ _ _ h=>h) (Or.inl ⟨by rfl,?_⟩) ?_ ?_
          rotate_left
          ·intro w'
           go_simp
           with_reducible rfl
          rotate_left
          ·simp only [Act.put,s1_,s2_,s3_,i64_w,i32_w]
           rfl
          refine pure_ (i:=8) (N:=some 41) (v:=?_) (a':=?_) #[true,true,true,true,true,true,true,true,true,false,false,false] rfl rfl (any_of HT_.out (by kernel_rfl)) (fun _ _ _ h=>h) (Or.inl ⟨by rfl,?_⟩) ?_ ?_
          rotate_left
          ·intro w'
           go_simp
           with_reducible rfl
          rotate_left
          ·simp only [Act.put,s1_,s2_,s3_,i64_w,i32_w]
           rfl
          refine pure_ (i:=9) (N:=some 42) (v:=?_) (a':=?_) #[true,true,true,true,true,true,true,true,true,true,false,false] rfl rfl (any_of HT_.out (by kernel_rfl)) (fun _ _ _ h=>h) (Or.inl ⟨by rfl,?_⟩) ?_ ?_
          rotate_left
          ·intro w'
           go_simp
           with_reducible rfl
          rotate_left
          ·simp only [Act.put,s1_,s2_,s3_,i64_w,i32_w]
           rfl
          refine pure_ (i:=10) (N:=some 11) (v:=?_) (a':=?_) #[true,true,true,true,true,true,true,true,true,true,true,false] rfl rfl (any_of HT_.out (by kernel_rfl)) (fun _ _ _ h=>h) (Or.inl ⟨by rfl,?_⟩) ?_ ?_
          rotate_left
          ·intro w'
           go_simp
           with_reducible rfl
          rotate_left
          ·simp only [Act.put,s1_,s2_,s3_,i64_w,i32_w]
           rfl
          refine pure_ (i:=11) (N:=some 12) (v:=?_) (a':=?_) #[true,true,true,true,true,true,true,true,true,true,true,true] rfl rfl (any_of HT_.out (by kernel_rfl)) (fun _ _ _ h=>h) (Or.inl ⟨by rfl,?_⟩) ?_ ?_
          rotate_left
          ·intro w'
           go_simp
           with_reducible rfl
          rotate_left
          ·simp only [Act.put,s1_,s2_,s3_,i64_w,i32_w]
           rfl
          refine done_ (done_of HT_.out (by kernel_rfl)) ?_
          obtain ⟨Ao30,co30,eo30⟩:=Kd.R_slice HO16.out
          subst eo30
          try go_wp2_with (first | ((with_reducible refine gate_builtin (b:=.append) (xs:=#[.tmp 43,.tmp 45]) rfl ?_);at_builtin;refine Kd.S_append (Kd.slice 47 k47) (w0:=w) w.heap.size rfl (.tmp 43) (.tmp 45) 52 26 (.slice none 0 0) 24 rfl Try.underlying52 info26 rfl (by decide) (by omega) u8 x8_2 t14 [.slice Ao30 t14.length co30] (fun k_=>some k_ ≠ (.slice Ao27 x9_2.length co27 : Value).ownBlock ∧ some k_ ≠ (v18 : Value).ownBlock) (fun k_=>some k_ = (.slice Ao30 t14.length co30 : Value).ownBlock) rfl rfl ?aP (fun k_ hk_=>((Kd.R_mono (ok':=fun k_=>((fun k_=>some k_ ≠ (.slice Ao27 x9_2.length co27 : Value).ownBlock ∧ some k_ ≠ (v18 : Value).ownBlock)) k_ ∧ some k_ ≠ (u8 : Value).ownBlock) (Kd.R_apart' (HO16.out) (Kd.S_typed HO_8.out) (by decide)) (fun k_ hk=>⟨⟨hk.1.2,hk.1.1⟩,hk.2⟩))).1 k_ hk_.symm) ?aF ?aO ?aB ?aS ?aL ?_;(case aP=>exact Kd.M_row (Kd.R_mono (Kd.R_tight rfl (Kd.R_mono (ok':=fun k_=>((fun k_=>some k_ ≠ (.slice Ao27 x9_2.length co27 : Value).ownBlock ∧ some k_ ≠ (v18 : Value).ownBlock)) k_ ∧ some k_ ≠ (u8 : Value).ownBlock) (Kd.R_apart' (HO16.out) (Kd.S_typed HO_8.out) (by decide)) (fun k_ hk=>⟨⟨hk.1.2,hk.1.1⟩,hk.2⟩))) (fun _ h_=>h_)));(case aB=>exact hb_);(case aF=>exact (fun k_ hk=>⟨Kd.fresh' (Kd.R_lt (rr_ HO_9.out)) k_ hk,Kd.fresh' (Kd.R_lt (rr_ HO19.out)) k_ hk⟩));(case aO=>exact (by (with_reducible repeat (first | apply Kd.S_alloc | apply Kd.S_drewN | apply Kd.S_drew));exact Kd.S_mono HO_8.out (fun k_ hk=>⟨⟨hk.1.1,hk.2⟩,fun e_=>hk.1.2 e_⟩)));(case aS=>exact (below_size hb_));(case aL=>have:=LMc25.out;omega);intro v21 w29 ho hb hg hat;rw [← Ny20.out] at ho;replace HO_9:=a0_ (Kd.R_over' (rr_ HO_9.out) (Kd.S_typed (by (with_reducible repeat (first | apply Kd.S_alloc | apply Kd.S_drewN | apply Kd.S_drew));exact HO_8.out)) (by decide) hg);replace BK1:=a0_ (blk_grown (bb_ BK1.out) hg (Kd.S_ne HO_8.out BK1.out (by decide)));replace HO19:=a0_ (Kd.R_over' (rr_ HO19.out) (Kd.S_typed (by (with_reducible repeat (first | apply Kd.S_alloc | apply Kd.S_drewN | apply Kd.S_drew));exact HO_8.out)) (by decide) hg);have HO22:=a0_ (ho);replace HB:=a0_ (hb);clear HO_8 HO16;clear ho hb hg hat))
          go_roundg k2
          case measure=>have:=HJ3.out;have:=HK2.out;omega
          case rel=>exact ⟨(y20),(t17),(wrap64 (x10_2 + 1)),(by first | rfl | (simp;done) | (simp [*];done)),H',⟨by have:=HJ3.out;have:=HK2.out;omega⟩,⟨by (with_reducible repeat (first | apply Kd.S_alloc | apply Kd.S_drewN | apply Kd.S_drew));exact Kd.S_mono HO22.out (fun _ hk=>hk.2)⟩,⟨by (with_reducible repeat (first | apply Kd.R_alloc | apply Kd.R_drewN | apply Kd.R_drew));exact Kd.R_mono HO19.out (fun _ hk=>trivial)⟩,⟨by (with_reducible repeat (first | refine blk_drewN ?_ _ | refine blk_drew ?_ | refine blk_alloc ?_ _));exact BK1.out⟩,⟨hb_⟩⟩
         ·rw [if_neg c25] at H
          exact absurd H (by simp)
        ·rw [if_neg c23] at H
         exact absurd H (by simp)
       ·rw [if_neg c22] at H
        have c22b0 : decide (x10_2 < (l2.length : Int)) = false:=decide_eq_false c22
        clear c22
        simp only [Option.some.injEq,Prod.mk.injEq] at H
        obtain ⟨rfl,rfl⟩:=H
        go_wp2
        go_ret2
        exact ⟨_,_,by first | rfl | (simp [errW_none,errW_some] <;> rfl) | (simp [*,errW_none,errW_some] <;> rfl),by (with_reducible repeat (first | apply Kd.S_alloc | apply Kd.S_drewN | apply Kd.S_drew));exact HO_8.out,by (with_reducible repeat (first | apply Kd.R_alloc | apply Kd.R_drewN | apply Kd.R_drew));exact HO_9.out,hb_⟩
    ·rw [if_neg c16] at H
     exact absurd H (by simp)
theorem spec_HandleGroup_l0 {t : List Cls} (hv : vT t = true) (l : List Int) (hl : l.length ≤ 1000) : ∀ (d j : Nat) (out : List (List Prt)) (g : List Prt),j + d = l.length → out.length ≤ j → lfOk t g → g.length ≤ 1048576 → Ev (fun k=>spec_HandleGroup.l0 k l out g (j : Int) t) (out ++ takP t (l.drop j) g,lefP t (l.drop j) g):=by
 intro d
 induction d with
 | zero =>
  intro j out g hj ho hg hgl
  refine Ev.succ ?_
  simp only [spec_HandleGroup.l0]
  rw [List.drop_eq_nil_of_le (by omega)]
  exact Ev.neg (by omega) (Ev.const (by simp [takP,lefP]))
 | succ d ih =>
  intro j out g hj ho hg hgl
  refine Ev.succ ?_
  have hlt : j < l.length:=by omega
  have hr : rd l (j : Int) = l[j]:=by simp [rd,hlt]
  have hs:=spec_split_ev hv g hg hgl l[j]
  rw [selN_selR,selN_selR] at hs
  have hsub:=selR_sub (fun q=>isA t q.f2 l[j] == false) g
  have hi:=ih (j + 1) (out ++ [selR (fun q=>isA t q.f2 l[j] == true) g]) (selR (fun q=>isA t q.f2 l[j] == false) g) (by omega) (by simp;omega) (fun p hp h1=>hg p (hsub.subset hp) h1) (Nat.le_trans hsub.length_le hgl)
  simp only [spec_HandleGroup.l0,hr]
  rw [wrap_succ (i:=(j : Int)) (n:=l.length) (by omega) (by omega) (by omega),List.drop_eq_getElem_cons hlt,takP,lefP]
  rw [List.append_assoc,List.singleton_append] at hi
  exact Ev.pos (by omega) (Ev.pos (by omega) (Ev.bind hs (Ev.pos (by omega) hi)))
theorem spec_HandleGroup_ev (t : List Cls) (g : List Prt) (l : List Int) (hs : smT t = true) (ht : t.length ≤ 9223372036854775807) (hl : l.length ≤ 1000) (hg : g.length ≤ 1048576) : Ev (fun k=>spec_HandleGroup.f k t g l) (hanP t g l):=by
 have no : Ev (fun k=>spec_HandleGroup.j0 k g l true t) ([],[]):=by
  refine Ev.succ ?_
  simp only [spec_HandleGroup.j0]
  exact Ev.pos trivial (Ev.const rfl)
 refine Ev.bind (Ev.const (show spec_validGroup.f t g = some (vG t g) by rw [spec_validGroup.f,if_pos hs])) ?_
 unfold hanP
 cases hv : vG t g with
 | false=>exact Ev.neg (by simp) no
 | true =>
  refine Ev.pos rfl (Ev.bind (spec_goodCatches_ev t l ht (by omega) hs) ?_)
  cases hk : okCat t l with
  | false=>exact no
  | true =>
   have hT:=(vG_tree hv).1
   rw [Bool.true_and,if_pos rfl]
   refine Ev.succ ?_
   simp only [spec_HandleGroup.j0]
   exact Ev.neg (by simp) (Ev.bind (Ev.const rfl) (Ev.pos (by simp;omega) (spec_HandleGroup_l0 hT l hl l.length 0 [] g (by omega) (by simp) (fun p hp h1=>(vG_leaf hv p hp h1).2) hg)))
end Go.Proofs.Ytfphcdbnnienhaa.P
namespace Go.Proofs.Ytfphcdbnnienhaa.P
open Go.RowKit Go.Proofs.YtfphcdbnnienhaaW.PrintWords Go.Proofs.YtfphcdbnnienhaaW.PrintLast Go.Proofs.YtfphcdbnnienhaaW.PrintMore
attribute [local go_sem] max2_int min2_int max_two min_two max_three min_three max_four min_four
set_option linter.unusedVariables false
set_option linter.unusedSimpArgs false
def laws_equalGroups.l0 : Nat → List (List (S47)) → List (List (S47)) → Int → Option (Bool)
 | 0,_,_,_=>none
 | k + 1,x0,x1,x5=>if x5 < (x0.length : Int) then (if 0 ≤ x5 then (if x5 < (x1.length : Int) then ((laws_equalGroup.f k (rd_L8 x0 x5) (rd_L8 x1 x5)).bind fun t3=>(if t3 = true then (laws_equalGroups.l0 k x0 x1 (wrap64 (x5 + 1))) else (some false))) else (none)) else (none)) else (some true)
def laws_equalGroups.f (k : Nat) (l0 : List (List (S47))) (l1 : List (List (S47))) : Option (Bool):=if (l0.length : Int) = (l1.length : Int) then (laws_equalGroups.l0 k l0 l1 0) else (some false)
theorem laws_equalGroups.mono_l : ∀ k,(∀ y0 y1 y2,LeO (laws_equalGroups.l0 k y0 y1 y2) (laws_equalGroups.l0 (k + 1) y0 y1 y2))
 | 0=>fun _ _ _ r h=>by simp [laws_equalGroups.l0] at h
 | k + 1=>by
  have ih0:=laws_equalGroups.mono_l k
  ·intro y0 y1 y2
   unfold laws_equalGroups.l0
   repeat' first
   | (with_reducible exact ih0 _ _ _)
   | (with_reducible exact laws_equalGroup.mono _ _ _)
   | (with_reducible exact LeO.refl _)
   | (with_reducible exact LeO.none _)
   | (with_reducible refine LeO.ite ?_ ?_)
   | (with_reducible refine LeO.bind ?_ (fun _=>?_))
   | exact ih0 _ _ _
   | exact laws_equalGroup.mono _ _ _
   | exact LeO.none _
   | refine LeO.ite ?_ ?_
   | refine LeO.bind ?_ (fun _=>?_)
theorem laws_equalGroups.mono : ∀ a0 a1 k,LeO (laws_equalGroups.f k a0 a1) (laws_equalGroups.f (k + 1) a0 a1):=by
 intro a0 a1 k
 have ih0:=laws_equalGroups.mono_l k
 unfold laws_equalGroups.f
 repeat' first
   | (with_reducible exact ih0 _ _ _)
   | (with_reducible exact laws_equalGroup.mono _ _ _)
   | (with_reducible exact LeO.refl _)
   | (with_reducible exact LeO.none _)
   | (with_reducible refine LeO.ite ?_ ?_)
   | (with_reducible refine LeO.bind ?_ (fun _=>?_))
   | exact ih0 _ _ _
   | exact laws_equalGroup.mono _ _ _
   | exact LeO.none _
   | refine LeO.ite ?_ ?_
   | refine LeO.bind ?_ (fun _=>?_)
set_option maxHeartbeats 8000000 in
set_option maxRecDepth 100000 in
theorem laws_equalGroups.calls (k : Nat) (A0 : Option Addr) (c0 : Nat) (l0 : List (List (S47))) (A1 : Option Addr) (c1 : Nat) (l1 : List (List (S47))) (r : Bool) (w : World) (hr0 : Kd.C (Kd.slice 47 k47) w A0 l0.length l0) (hc0 : l0.length ≤ c0) (hr1 : Kd.C (Kd.slice 47 k47) w A1 l1.length l1) (hc1 : l1.length ≤ c1) (h : laws_equalGroups.f k l0 l1 = some r) :
  Calls Try.prog 31 #[.slice A0 l0.length c0,.slice A1 l1.length c1] w fun e w'=>e = .returned (.bool r) ∧ Drawn0 w w':=by
 have HR0:=a0_ hr0
 have HC0:=a0_ hc0
 clear hr0 hc0
 have HR1:=a0_ hr1
 have HC1:=a0_ hc1
 clear hr1 hc1
 have H : (if (l0.length : Int) = (l1.length : Int) then (laws_equalGroups.l0 k l0 l1 0) else (some false)) = some r:=h
 clear h
 by_cases c3 : (l0.length : Int) = (l1.length : Int)
 ·rw [if_pos c3] at H
  have c3b0 : ((l0.length : Int) == (l1.length : Int)) = true:=beq_iff_eq.mpr c3
  have c3b1 : ((l0.length : Int) != (l1.length : Int)) = false:=bne_eq_false_iff_eq.mpr c3
  have c3b2 : (l0.length == l1.length) = true:=by first | simpa using c3 | (simp at c3 ⊢;omega)
  clear c3
  have H':=a0_ H
  clear H
  go_enter Try.func31,Try.ntmps31
  go_wp2
  repeat (go_quiet (fail);try go_wp2)
  go_loopg [5] k (fun kq v5 w'=>∃ (x5_1 : Int),v5 = .int .i64 x5_1 ∧ Aside0 (laws_equalGroups.l0 kq l0 l1 x5_1 = some r) ∧ Aside0 (kq ≤ k) ∧ Drawn0 w w')
  case atStart=>exact ⟨(0),(by first | rfl | (simp;done) | (simp [*];done)),H',⟨Nat.le_refl _⟩,by repeat (first | exact Drawn0.refl _ | apply Drawn0.step)⟩
  case round =>
   clear H'
   try clear c1
   try clear p2
   try clear c3
   try clear c3b0
   try clear c3b1
   try clear c3b2
   obtain ⟨x5_1,rfl,HA,HK1,⟨m1,rfl⟩⟩:=hrel
   cases gk with
   | zero=>exact absurd HA.out (by simp [laws_equalGroups.l0])
   | succ k1 =>
    have H:=HA.out
    clear HA
    simp only [laws_equalGroups.l0] at H
    by_cases c4 : x5_1 < (l0.length : Int)
    ·rw [if_pos c4] at H
     have c4b0 : decide (x5_1 < (l0.length : Int)) = true:=decide_eq_true c4
     clear c4
     by_cases c5 : 0 ≤ x5_1
     ·rw [if_pos c5] at H
      have c5b0 : decide (0 ≤ x5_1) = true:=decide_eq_true c5
      clear c5
      by_cases c6 : x5_1 < (l1.length : Int)
      ·rw [if_pos c6] at H
       have c6b0 : decide (x5_1 < (l1.length : Int)) = true:=decide_eq_true c6
       clear c6
       replace H:=Option.bind_eq_some_iff.mp H
       obtain ⟨t3,A70,H⟩:=H
       try dsimp only at H
       have A7:=a0_ A70
       clear A70
       by_cases c8 : t3 = true
       ·subst c8
        have H1 : (laws_equalGroups.l0 k1 l0 l1 (wrap64 (x5_1 + 1))) = some r:=by rw [if_pos rfl] at H;exact H
        clear H
        have H:=H1
        clear H1
        have H':=a0_ H
        clear H
        have p1 : 0 ≤ (x5_1 : Int):=of_decide_eq_true (by first | (with_reducible assumption) | assumption)
        have q1 : x5_1 < (l0.length : Int):=of_decide_eq_true (by first | (with_reducible assumption) | assumption)
        obtain ⟨ad1,A1_0,c1_0,e1,hx1_0,hl1_0,hi1_0⟩:=at_L8 HR0.out x5_1 p1 q1
        cases e1
        have HR1_0:=a0_ hi1_0
        have HC1_0:=a0_ hl1_0
        clear hi1_0 hl1_0
        replace p1:=eq_true p1
        replace q1:=eq_true q1
        have p2 : 0 ≤ (x5_1 : Int):=of_decide_eq_true (by first | (with_reducible assumption) | assumption)
        have q2 : x5_1 < (l1.length : Int):=of_decide_eq_true (by first | (with_reducible assumption) | assumption)
        obtain ⟨ad2,A2_0,c2_0,e2,hx2_0,hl2_0,hi2_0⟩:=at_L8 HR1.out x5_1 p2 q2
        cases e2
        have HR2_0:=a0_ hi2_0
        have HC2_0:=a0_ hl2_0
        clear hi2_0 hl2_0
        replace p2:=eq_true p2
        replace q2:=eq_true q2
        go_wp2_with (first | (go_at_call 13;(with_reducible refine (laws_equalGroup.calls k1 _ _ (rd_L8 l0 x5_1) _ _ (rd_L8 l1 x5_1) true _ ?side1 ?side2 ?side3 ?side4 A7.out).mono ?_);(case side1=>repeat (first | exact HR1_0.out | (with_reducible refine Kd.C_alloc ?_ _) | (with_reducible refine Kd.C_drewN ?_ _) | (with_reducible refine Kd.C_drew ?_)));(case side2=>exact HC1_0.out);(case side3=>repeat (first | exact HR2_0.out | (with_reducible refine Kd.C_alloc ?_ _) | (with_reducible refine Kd.C_drewN ?_ _) | (with_reducible refine Kd.C_drew ?_)));(case side4=>exact HC2_0.out);rintro e w' ⟨rfl,⟨nd,rfl⟩⟩;(try first | exact ⟨rfl,_,World.drewN_drewN _ _ _⟩ | exact ⟨rfl,_,Eq.trans (World.drewN_drewN _ _ _) (congrArg (World.drewN _) (Nat.add_assoc _ _ _))⟩)))
        repeat (go_quiet (first | (go_at_call 13;(with_reducible refine (laws_equalGroup.calls k1 _ _ (rd_L8 l0 x5_1) _ _ (rd_L8 l1 x5_1) true _ ?side1 ?side2 ?side3 ?side4 A7.out).mono ?_);(case side1=>repeat (first | exact HR1_0.out | (with_reducible refine Kd.C_alloc ?_ _) | (with_reducible refine Kd.C_drewN ?_ _) | (with_reducible refine Kd.C_drew ?_)));(case side2=>exact HC1_0.out);(case side3=>repeat (first | exact HR2_0.out | (with_reducible refine Kd.C_alloc ?_ _) | (with_reducible refine Kd.C_drewN ?_ _) | (with_reducible refine Kd.C_drew ?_)));(case side4=>exact HC2_0.out);rintro e w' ⟨rfl,⟨nd,rfl⟩⟩;(try first | exact ⟨rfl,_,World.drewN_drewN _ _ _⟩ | exact ⟨rfl,_,Eq.trans (World.drewN_drewN _ _ _) (congrArg (World.drewN _) (Nat.add_assoc _ _ _))⟩)));try go_wp2_with (first | (go_at_call 13;(with_reducible refine (laws_equalGroup.calls k1 _ _ (rd_L8 l0 x5_1) _ _ (rd_L8 l1 x5_1) true _ ?side1 ?side2 ?side3 ?side4 A7.out).mono ?_);(case side1=>repeat (first | exact HR1_0.out | (with_reducible refine Kd.C_alloc ?_ _) | (with_reducible refine Kd.C_drewN ?_ _) | (with_reducible refine Kd.C_drew ?_)));(case side2=>exact HC1_0.out);(case side3=>repeat (first | exact HR2_0.out | (with_reducible refine Kd.C_alloc ?_ _) | (with_reducible refine Kd.C_drewN ?_ _) | (with_reducible refine Kd.C_drew ?_)));(case side4=>exact HC2_0.out);rintro e w' ⟨rfl,⟨nd,rfl⟩⟩;(try first | exact ⟨rfl,_,World.drewN_drewN _ _ _⟩ | exact ⟨rfl,_,Eq.trans (World.drewN_drewN _ _ _) (congrArg (World.drewN _) (Nat.add_assoc _ _ _))⟩))))
        go_roundg k1
        case measure=>have:=HK1.out;omega
        case rel=>exact ⟨(wrap64 (x5_1 + 1)),(by first | rfl | (simp;done) | (simp [*];done)),H',⟨by have:=HK1.out;omega⟩,by repeat (first | exact Drawn0.refl _ | apply Drawn0.step)⟩
       ·replace c8:=Bool.eq_false_iff.mpr c8
        subst c8
        have H1 : (some false) = some r:=by rw [if_neg (show ¬ (false = true) by decide)] at H;exact H
        clear H
        have H:=H1
        clear H1
        obtain rfl:=Option.some.inj H
        have p1 : 0 ≤ (x5_1 : Int):=of_decide_eq_true (by first | (with_reducible assumption) | assumption)
        have q1 : x5_1 < (l0.length : Int):=of_decide_eq_true (by first | (with_reducible assumption) | assumption)
        obtain ⟨ad1,A1_0,c1_0,e1,hx1_0,hl1_0,hi1_0⟩:=at_L8 HR0.out x5_1 p1 q1
        cases e1
        have HR1_0:=a0_ hi1_0
        have HC1_0:=a0_ hl1_0
        clear hi1_0 hl1_0
        replace p1:=eq_true p1
        replace q1:=eq_true q1
        have p2 : 0 ≤ (x5_1 : Int):=of_decide_eq_true (by first | (with_reducible assumption) | assumption)
        have q2 : x5_1 < (l1.length : Int):=of_decide_eq_true (by first | (with_reducible assumption) | assumption)
        obtain ⟨ad2,A2_0,c2_0,e2,hx2_0,hl2_0,hi2_0⟩:=at_L8 HR1.out x5_1 p2 q2
        cases e2
        have HR2_0:=a0_ hi2_0
        have HC2_0:=a0_ hl2_0
        clear hi2_0 hl2_0
        replace p2:=eq_true p2
        replace q2:=eq_true q2
        go_wp2_with (first | (go_at_call 13;(with_reducible refine (laws_equalGroup.calls k1 _ _ (rd_L8 l0 x5_1) _ _ (rd_L8 l1 x5_1) false _ ?side1 ?side2 ?side3 ?side4 A7.out).mono ?_);(case side1=>repeat (first | exact HR1_0.out | (with_reducible refine Kd.C_alloc ?_ _) | (with_reducible refine Kd.C_drewN ?_ _) | (with_reducible refine Kd.C_drew ?_)));(case side2=>exact HC1_0.out);(case side3=>repeat (first | exact HR2_0.out | (with_reducible refine Kd.C_alloc ?_ _) | (with_reducible refine Kd.C_drewN ?_ _) | (with_reducible refine Kd.C_drew ?_)));(case side4=>exact HC2_0.out);rintro e w' ⟨rfl,⟨nd,rfl⟩⟩;(try first | exact ⟨rfl,_,World.drewN_drewN _ _ _⟩ | exact ⟨rfl,_,Eq.trans (World.drewN_drewN _ _ _) (congrArg (World.drewN _) (Nat.add_assoc _ _ _))⟩)))
        repeat (go_quiet (first | (go_at_call 13;(with_reducible refine (laws_equalGroup.calls k1 _ _ (rd_L8 l0 x5_1) _ _ (rd_L8 l1 x5_1) false _ ?side1 ?side2 ?side3 ?side4 A7.out).mono ?_);(case side1=>repeat (first | exact HR1_0.out | (with_reducible refine Kd.C_alloc ?_ _) | (with_reducible refine Kd.C_drewN ?_ _) | (with_reducible refine Kd.C_drew ?_)));(case side2=>exact HC1_0.out);(case side3=>repeat (first | exact HR2_0.out | (with_reducible refine Kd.C_alloc ?_ _) | (with_reducible refine Kd.C_drewN ?_ _) | (with_reducible refine Kd.C_drew ?_)));(case side4=>exact HC2_0.out);rintro e w' ⟨rfl,⟨nd,rfl⟩⟩;(try first | exact ⟨rfl,_,World.drewN_drewN _ _ _⟩ | exact ⟨rfl,_,Eq.trans (World.drewN_drewN _ _ _) (congrArg (World.drewN _) (Nat.add_assoc _ _ _))⟩)));try go_wp2_with (first | (go_at_call 13;(with_reducible refine (laws_equalGroup.calls k1 _ _ (rd_L8 l0 x5_1) _ _ (rd_L8 l1 x5_1) false _ ?side1 ?side2 ?side3 ?side4 A7.out).mono ?_);(case side1=>repeat (first | exact HR1_0.out | (with_reducible refine Kd.C_alloc ?_ _) | (with_reducible refine Kd.C_drewN ?_ _) | (with_reducible refine Kd.C_drew ?_)));(case side2=>exact HC1_0.out);(case side3=>repeat (first | exact HR2_0.out | (with_reducible refine Kd.C_alloc ?_ _) | (with_reducible refine Kd.C_drewN ?_ _) | (with_reducible refine Kd.C_drew ?_)));(case side4=>exact HC2_0.out);rintro e w' ⟨rfl,⟨nd,rfl⟩⟩;(try first | exact ⟨rfl,_,World.drewN_drewN _ _ _⟩ | exact ⟨rfl,_,Eq.trans (World.drewN_drewN _ _ _) (congrArg (World.drewN _) (Nat.add_assoc _ _ _))⟩))))
        go_ret
        exact ⟨by first | rfl | (simp;done) | (simp [*];done),by repeat (first | exact Drawn0.refl _ | apply Drawn0.step)⟩
      ·rw [if_neg c6] at H
       exact absurd H (by simp)
     ·rw [if_neg c5] at H
      exact absurd H (by simp)
    ·rw [if_neg c4] at H
     have c4b0 : decide (x5_1 < (l0.length : Int)) = false:=decide_eq_false c4
     clear c4
     obtain rfl:=Option.some.inj H
     go_wp2
     repeat (go_quiet (fail);try go_wp2)
     go_ret
     exact ⟨by first | rfl | (simp;done) | (simp [*];done),by repeat (first | exact Drawn0.refl _ | apply Drawn0.step)⟩
 ·rw [if_neg c3] at H
  have c3b0 : ((l0.length : Int) == (l1.length : Int)) = false:=beq_eq_false_iff_ne.mpr c3
  have c3b1 : ((l0.length : Int) != (l1.length : Int)) = true:=bne_iff_ne.mpr c3
  have c3b2 : (l0.length == l1.length) = false:=by first | simpa using c3 | (simp at c3 ⊢;omega)
  obtain rfl:=Option.some.inj H
  go_enter Try.func31,Try.ntmps31
  go_wp2
  repeat (go_quiet (fail);try go_wp2)
  go_ret
  exact ⟨by first | rfl | (simp;done) | (simp [*];done),by repeat (first | exact Drawn0.refl _ | apply Drawn0.step)⟩
theorem laws_equalGroups_ev (l : List (List Prt)) (hl : l.length ≤ 9223372036854775806) (hx : ∀ x ∈ l,x.length ≤ 9223372036854775806) : Ev (fun k=>laws_equalGroups.f k l l) true:=by
 have key : ∀ d j,j + d = l.length → Ev (fun k=>laws_equalGroups.l0 k l l (j : Int)) true:=by
  intro d
  induction d with
  | zero =>
   intro j hj
   refine Ev.succ ?_
   simp only [laws_equalGroups.l0]
   exact Ev.neg (by omega) (Ev.const rfl)
  | succ d ih =>
   intro j hj
   refine Ev.succ ?_
   have hlt : j < l.length:=by omega
   have hm : l.getD ((j : Int)).toNat [] ∈ l:=by
    rw [Int.toNat_natCast,List.getD_eq_getElem?_getD,List.getElem?_eq_getElem hlt]
    exact List.getElem_mem _
   simp only [laws_equalGroups.l0]
   refine Ev.pos (by omega) (Ev.pos (by omega) (Ev.pos (by omega) (Ev.bind (laws_equalGroup_ev _ (hx _ hm)) (Ev.pos rfl ?_))))
   rw [wrap_succ (i:=(j : Int)) (n:=l.length) (by omega) (by omega) (by omega)]
   exact ih (j + 1) (by omega)
 exact Ev.pos rfl (key l.length 0 (by omega))
end Go.Proofs.Ytfphcdbnnienhaa.P
namespace Go.Proofs.Ytfphcdbnnienhaa.P
open Go.RowKit Go.Proofs.YtfphcdbnnienhaaW.PrintWords Go.Proofs.YtfphcdbnnienhaaW.PrintLast Go.Proofs.YtfphcdbnnienhaaW.PrintMore
attribute [local go_sem] max2_int min2_int max_two min_two max_three min_three max_four min_four
set_option linter.unusedVariables false
set_option linter.unusedSimpArgs false
def deadN (t : List Cls) (l : List Int) (n : Nat) : List Int:=((List.range n).filter (fun i=>(l.take i).any (fun b=>isA t (l.getD i 0) b))).map (fun i : Nat=>(i : Int))
theorem deadN_succ (t : List Cls) (l : List Int) (n : Nat) : deadN t l (n + 1) = deadN t l n ++ (if (l.take n).any (fun b=>isA t (l.getD n 0) b) = true then [(n : Int)] else []):=by
 unfold deadN
 rw [List.range_succ,List.filter_append,List.map_append]
 congr 1
 rw [List.filter_cons,List.filter_nil]
 cases h : (l.take n).any (fun b=>isA t (l.getD n 0) b) <;> rfl
theorem deadN_len (t : List Cls) (l : List Int) (n : Nat) : (deadN t l n).length ≤ n:=by
 unfold deadN
 rw [List.length_map]
 exact Nat.le_trans (List.length_filter_le _ _) (by simp)
def deadP (t : List Cls) (l : List Int) : List Int:=if okCat t l = true then deadN t l l.length else []
theorem deadP_len (t : List Cls) (l : List Int) : (deadP t l).length ≤ l.length:=by
 unfold deadP
 split
 ·exact deadN_len _ _ _
 ·simp
end Go.Proofs.Ytfphcdbnnienhaa.P
namespace Go.Proofs.Ytfphcdbnnienhaa.P
open Go.RowKit Go.Proofs.YtfphcdbnnienhaaW.PrintWords Go.Proofs.YtfphcdbnnienhaaW.PrintLast Go.Proofs.YtfphcdbnnienhaaW.PrintMore
attribute [local go_sem] max2_int min2_int max_two min_two max_three min_three max_four min_four
set_option linter.unusedVariables false
set_option linter.unusedSimpArgs false
theorem impl_Tree_first_1.callsF (B D : Nat) (A : Option Addr) (c : Nat) (t : List Cls) (a b : Int) (w : World) (hv : vT t = true) (ha : a < (t.length : Int)) (hB : w.heap[B]? = some (.cells #[.slice A t.length c] 25 (0,0))) (hD : w.heap[D]? = some (.cells #[.int .i64 a] 3 (0,0))) (hr : Kd.C k85 w A t.length t) (hc : t.length ≤ c) :
  Calls Try.prog 81 #[.int .i64 b,.pointer (some ⟨B,0,none⟩),.pointer (some ⟨D,0,none⟩)] w fun e w'=>e = .returned (.bool (isA t a b)) ∧ Below w.heap.size w w':=by
 have hu31:=Try.underlying25
 have hcell : w.cell? ⟨B,0,none⟩ = some (.slice A t.length c):=(blk_cell hB 0).trans rfl
 have hcell2 : w.cell? ⟨D,0,none⟩ = some (.int .i64 a):=(blk_cell hD 0).trans rfl
 have hcon:=impl_Tree_is.calls 10 A c t a b (isA t a b) w hr hc (impl_Tree_is_ev hv a b ha 10 (by omega) (by omega))
 clear hB hD hr hv
 generalize isA t a b = r at hcon ⊢
 go_enter Try.func81,Try.ntmps81
 go_wp2_with (go_at_call 47;refine hcon.mono ?_;rintro e w' ⟨rfl,hb'⟩)
 go_ret
 exact ⟨rfl,hb'⟩
end Go.Proofs.Ytfphcdbnnienhaa.P
namespace Go.Proofs.Ytfphcdbnnienhaa.P
open Go.RowKit Go.Proofs.YtfphcdbnnienhaaW.PrintWords Go.Proofs.YtfphcdbnnienhaaW.PrintLast Go.Proofs.YtfphcdbnnienhaaW.PrintMore
attribute [local go_sem] max2_int min2_int max_two min_two max_three min_three max_four min_four
set_option linter.unusedVariables false
set_option linter.unusedSimpArgs false
def impl_Tree_first.f (l0_0 : List Cls) (l1 : List Int) (a2 : Int) : Option Int:=if vT l0_0 = true ∧ a2 < (l0_0.length : Int) then some (idxP (fun b=>isA l0_0 a2 b) l1) else none
set_option maxHeartbeats 2000000 in
theorem impl_Tree_first.calls (A0_0 : Option Addr) (c0_0 : Nat) (l0_0 : List (S85)) (A1 : Option Addr) (c1 : Nat) (l1 : List Int) (a2 : Int) (r : Int) (w : World) (hr0_0 : Kd.C k85 w A0_0 l0_0.length l0_0) (hc0_0 : l0_0.length ≤ c0_0) (hr1 : Kd.C (Kd.int .i64) w A1 l1.length l1) (hc1 : l1.length ≤ c1) (h : impl_Tree_first.f l0_0 l1 a2 = some r) :
  Calls Try.prog 55 #[.agg #[.slice A0_0 l0_0.length c0_0],.slice A1 l1.length c1,.int .i64 a2] w fun e w'=>e = .returned (.int .i64 r) ∧ Below w.heap.size w w':=by
 have hu31:=Try.underlying25
 have hsm : vT l0_0 = true ∧ a2 < (l0_0.length : Int):=by
  apply Classical.byContradiction
  intro hn
  rw [impl_Tree_first.f,if_neg hn] at h
  cases h
 rw [impl_Tree_first.f,if_pos hsm] at h
 obtain rfl:=Option.some.inj h
 have eg : ∀ args w,(callFunc 81 args).run Try.prog w = .ok (.enter 81 args) w:=enters_of Try.func81 (by kernel_rfl) rfl
 have HC:=a0_ (fun (W : World) (hb : Below w.heap.size w W) (hB : W.heap[w.heap.size]? = some (.cells #[.slice A0_0 l0_0.length c0_0] 25 (0,0))) (hD : W.heap[w.heap.size + 1]? = some (.cells #[.int .i64 a2] 3 (0,0)))=>slices_IndexFunc_int.callsF A1 c1 l1 81 #[.pointer (some ⟨w.heap.size,0,none⟩),.pointer (some ⟨w.heap.size + 1,0,none⟩)] (fun b=>isA l0_0 a2 b) W eg (Kd.C_below hr1 hb) hc1 (fun x _ W' hW=>impl_Tree_first_1.callsF w.heap.size (w.heap.size + 1) A0_0 c0_0 l0_0 a2 x W' hsm.1 hsm.2 (blk_keptB hB hW) (blk_keptB hD hW) (Kd.C_below (Kd.C_below hr0_0 hb) hW) hc0_0))
 clear h hr0_0 hr1 hsm eg
 generalize idxP (fun b=>isA l0_0 a2 b) l1 = r at HC ⊢
 go_enter Try.func55,Try.ntmps55
 go_wp2_with (go_at_call 80;refine (HC.out _ (below2 w _ _) (heap_old2 w _ _) (heap_new2 w _ _)).mono ?_;rintro e w2 ⟨rfl,hb2⟩)
 go_ret
 exact ⟨rfl,(below2 w _ _).trans (hb2.mono (by simp;omega))⟩
end Go.Proofs.Ytfphcdbnnienhaa.P
namespace Go.Proofs.Ytfphcdbnnienhaa.P
open Go.RowKit Go.Proofs.YtfphcdbnnienhaaW.PrintWords Go.Proofs.YtfphcdbnnienhaaW.PrintLast Go.Proofs.YtfphcdbnnienhaaW.PrintMore
attribute [local go_sem] max2_int min2_int max_two min_two max_three min_three max_four min_four
set_option linter.unusedVariables false
set_option linter.unusedSimpArgs false
def impl_DeadCatches.l0 : Nat → List Int → List Int → List Int → Int → Int → List (S85) → Option (List Int)
 | 0,_,_,_,_,_,_=>none
 | k + 1,x1,x5,x15,x16,x17,x2000=>if x17 < x16 then (if 0 ≤ x17 then (if x17 < (x15.length : Int) then (if x17 ≤ (x1.length : Int) then ((impl_Tree_first.f x2000 (x1.take (x17 : Int).toNat) (rd x15 x17)).bind fun t8=>(if t8 ≥ 0 then (if x5.length < 17592186044416 then (impl_DeadCatches.l0 k x1 (x5 ++ [x17]) x15 x16 (wrap64 (x17 + 1)) x2000) else (none)) else (impl_DeadCatches.l0 k x1 x5 x15 x16 (wrap64 (x17 + 1)) x2000))) else (none)) else (none)) else (none)) else (if 0 ≤ (x5.length : Int) then (if (x5.length : Int) ≤ (x5.length : Int) then (some (x5.take ((x5.length : Int) : Int).toNat)) else (none)) else (none))
def impl_DeadCatches.f (k : Nat) (l0_0 : List (S85)) (l1 : List Int) : Option (List Int):=(impl_catchesOk.f l0_0 l1).bind fun t2=>(if t2 = true then (if 0 ≤ (l1.length : Int) then (if ((l1.length : Int) : Int).toNat ≤ 35184372088832 then (impl_DeadCatches.l0 k l1 (([] : List Int)) l1 (l1.length : Int) 0 l0_0) else (none)) else (none)) else (some ([] : List Int)))
theorem impl_DeadCatches.mono_l : ∀ k,(∀ y0 y1 y2 y3 y4 y5,LeO (impl_DeadCatches.l0 k y0 y1 y2 y3 y4 y5) (impl_DeadCatches.l0 (k + 1) y0 y1 y2 y3 y4 y5))
 | 0=>fun _ _ _ _ _ _ r h=>by simp [impl_DeadCatches.l0] at h
 | k + 1=>by
  have ih0:=impl_DeadCatches.mono_l k
  ·intro y0 y1 y2 y3 y4 y5
   unfold impl_DeadCatches.l0
   repeat' first
   | (with_reducible exact ih0 _ _ _ _ _ _)
   | (with_reducible exact LeO.refl _)
   | (with_reducible exact LeO.none _)
   | (with_reducible refine LeO.ite ?_ ?_)
   | (with_reducible refine LeO.bind ?_ (fun _=>?_))
   | exact ih0 _ _ _ _ _ _
   | exact LeO.none _
   | refine LeO.ite ?_ ?_
   | refine LeO.bind ?_ (fun _=>?_)
theorem impl_DeadCatches.mono : ∀ a0 a1 k,LeO (impl_DeadCatches.f k a0 a1) (impl_DeadCatches.f (k + 1) a0 a1):=by
 intro a0 a1 k
 have ih0:=impl_DeadCatches.mono_l k
 unfold impl_DeadCatches.f
 repeat' first
   | (with_reducible exact ih0 _ _ _ _ _ _)
   | (with_reducible exact LeO.refl _)
   | (with_reducible exact LeO.none _)
   | (with_reducible refine LeO.ite ?_ ?_)
   | (with_reducible refine LeO.bind ?_ (fun _=>?_))
   | exact ih0 _ _ _ _ _ _
   | exact LeO.none _
   | refine LeO.ite ?_ ?_
   | refine LeO.bind ?_ (fun _=>?_)
set_option maxHeartbeats 8000000 in
set_option maxRecDepth 100000 in
theorem impl_DeadCatches.calls (k : Nat) (A0_0 : Option Addr) (c0_0 : Nat) (l0_0 : List (S85)) (A1 : Option Addr) (c1 : Nat) (l1 : List Int) (r : List Int) (w : World) (hr0_0 : Kd.C k85 w A0_0 l0_0.length l0_0) (hc0_0 : l0_0.length ≤ c0_0) (hr1 : Kd.C (Kd.int .i64) w A1 l1.length l1) (hc1 : l1.length ≤ c1) (h : impl_DeadCatches.f k l0_0 l1 = some r) :
  Calls Try.prog 32 #[.agg #[.slice A0_0 l0_0.length c0_0],.slice A1 l1.length c1] w fun e w'=>∃ v0_ : Value,e = .returned (v0_) ∧ Kd.R (Kd.int .i64) 3 w' w.heap.size (fun _=>True) v0_ r ∧ Below w.heap.size w w':=by
 have hu25:=Try.underlying25
 have HR0_0:=a0_ hr0_0
 have HC0_0:=a0_ hc0_0
 clear hr0_0 hc0_0
 have HR1:=a0_ hr1
 have HC1:=a0_ hc1
 clear hr1 hc1
 have HB:=a0_ (Below.refl w.heap.size w)
 have H : ((impl_catchesOk.f l0_0 l1).bind fun t2=>(if t2 = true then (if 0 ≤ (l1.length : Int) then (if ((l1.length : Int) : Int).toNat ≤ 35184372088832 then (impl_DeadCatches.l0 k l1 (([] : List Int)) l1 (l1.length : Int) 0 l0_0) else (none)) else (none)) else (some ([] : List Int)))) = some r:=h
 clear h
 replace H:=Option.bind_eq_some_iff.mp H
 obtain ⟨t2,A30,H⟩:=H
 try dsimp only at H
 have A3:=a0_ A30
 clear A30
 by_cases c4 : t2 = true
 ·subst c4
  have H1 : (if 0 ≤ (l1.length : Int) then (if ((l1.length : Int) : Int).toNat ≤ 35184372088832 then (impl_DeadCatches.l0 k l1 (([] : List Int)) l1 (l1.length : Int) 0 l0_0) else (none)) else (none)) = some r:=by rw [if_pos rfl] at H;exact H
  clear H
  have H:=H1
  clear H1
  by_cases c5 : 0 ≤ (l1.length : Int)
  ·rw [if_pos c5] at H
   have c5b0:=eq_true c5
   have c5b1 : decide (0 ≤ (l1.length : Int)) = true:=decide_eq_true c5
   clear c5
   by_cases c6 : ((l1.length : Int) : Int).toNat ≤ 35184372088832
   ·rw [if_pos c6] at H
    have c6b0:=eq_true c6
    have c6b1 : decide (((l1.length : Int) : Int).toNat ≤ 35184372088832) = true:=decide_eq_true c6
    clear c6
    obtain ⟨y3,hy3⟩ : ∃ y_ : List Int,y_ = (([] : List Int)):=⟨_,rfl⟩
    replace H : (impl_DeadCatches.l0 k l1 y3 l1 (l1.length : Int) 0 l0_0) = some r:=by first | (rw [hy3];with_reducible exact H) | (have H2_:=(Option.bind_some _ _).symm.trans H;rw [hy3];with_reducible exact H2_) | (have H2_:=(Option.bind_some _ _).symm.trans H;with_reducible exact H2_) | with_reducible exact H | (rw [hy3];exact H) | exact H
    have Ny3:=a0_ hy3
    clear hy3
    have H':=a0_ H
    clear H
    go_enter Try.func32,Try.ntmps32
    go_wp2_with (first | ((with_reducible refine gate_dst (N:=2) rfl ?_);refine box_event ?hg (N:=2) ?hd (cs:=#[.slice A0_0 l0_0.length c0_0]) (t:=25) ?hr ?_;(case hd=>rfl);(case hg=>rfl);(case hr=>first | (go_simp;done) | (go_simp;rfl));intro gb1 hg w7 hbox hb;have BK1:=a0_ (hbox);have GW1:=a0_ ((by rw [hg];exact (below_size hb_) : w.heap.size ≤ gb1));have GE1:=a0_ ((by rw [hg];exact (below_size hb_) : w.heap.size ≤ gb1));replace HB:=a0_ (below_step hb_ hb);clear hb hbox hg;have hcz8_0 : w7.cell? ⟨gb1,0,none⟩ = some (.slice A0_0 l0_0.length c0_0):=(blk_cell BK1.out 0).trans rfl;have hfz8_0:=blk_frozen BK1.out 0) | ((with_reducible refine gate_callee (f:=53) rfl ?_);refine goesL_ (some 10) rfl rfl Try.func53 (by kernel_rfl) rfl #[.agg #[.slice A0_0 l0_0.length c0_0],.slice A1 l1.length c1] rfl lm_ ?_;(with_reducible refine (impl_catchesOk.calls _ _ l0_0 _ _ l1 true _ ?side1 ?side2 ?side3 ?side4 A3.out).mono ?_);(case side1=>exact cc_ (Kd.C_below HR0_0.out HB.out));(case side2=>exact HC0_0.out);(case side3=>exact cc_ (Kd.C_below HR1.out HB.out));(case side4=>exact HC1.out);rintro e w9 ⟨rfl,hb⟩;refine ⟨_,rfl,?_⟩;replace BK1:=kb_ BK1 hb;replace HB:=a0_ (below_step hb_ hb);(try clear hb);(try clear hb2);(try clear hk);(try clear hi)) | ((with_reducible refine gate_dst (N:=14) rfl ?_);refine Kd.R_make0 (Kd.int .i64) _ 3 rfl (N:=14) rfl 49 _ _ rfl (l1.length : Int) rfl rfl Try.underlying49 (.int .i64 0) 8 info3 rfl (by decide) (by omega) 0 (ok:=fun _=>True) (okp:=fun _=>True) rfl (fun _ hk=>hk) trivial (of_decide_eq_true (by first | (with_reducible assumption) | assumption)) (Nat.le_trans (Nat.mul_le_mul_right _ (of_decide_eq_true (by first | (with_reducible assumption) | assumption) : (l1.length : Int).toNat ≤ 35184372088832)) (by omega)) (Below.refl _ _) (Nat.le_refl _) ?_;intro v4 w10 ho11 hb hg_ hnew_;clear hg_ hnew_;(first | rw [← Ny3.out] at ho11 | (simp only [Int.reduceToNat] at ho11;rw [← Ny3.out] at ho11));have HO5:=a0_ (Kd.R_lower ho11 (below_size hb_));replace BK1:=kb_ BK1 hb;replace HB:=a0_ (below_step hb_ hb);clear hb ho11))
    go_loopg [5,17] k (fun kq v5 v17 w'=>∃ (x5_1 : List Int) (x17_1 : Int),v17 = .int .i64 x17_1 ∧ Aside0 (impl_DeadCatches.l0 kq l1 x5_1 l1 (l1.length : Int) x17_1 l0_0 = some r) ∧ Aside0 (kq ≤ k) ∧ Aside0 (Kd.R (Kd.int .i64) 3 w' w.heap.size (fun _=>True) v5 x5_1) ∧ Aside0 (w'.heap[gb1]? = some (.cells #[(.slice A0_0 l0_0.length c0_0)] 25 (0,0))) ∧ Aside0 (Below w.heap.size w w'))
    case atStart=>exact ⟨(y3),(0),(by first | rfl | (simp;done) | (simp [*];done)),H',⟨Nat.le_refl _⟩,⟨by (with_reducible repeat (first | apply Kd.R_alloc | apply Kd.R_drewN | apply Kd.R_drew));exact HO5.out⟩,⟨by (with_reducible repeat (first | refine blk_drewN ?_ _ | refine blk_drew ?_ | refine blk_alloc ?_ _));exact BK1.out⟩,⟨hb_⟩⟩
    case round =>
     clear H'
     try clear c1
     try clear p2
     try clear c3
     try clear c4
     try clear c5
     try clear c5b0
     try clear c5b1
     try clear c6
     try clear c6b0
     try clear c6b1
     try clear hcz8_0
     try clear hfz8_0
     obtain ⟨x5_1,x17_1,rfl,HA,HK1,HO_5,BK1,HB⟩:=hrel
     cases gk with
     | zero=>exact absurd HA.out (by simp [impl_DeadCatches.l0])
     | succ k1 =>
      have H:=HA.out
      clear HA
      simp only [impl_DeadCatches.l0] at H
      by_cases c12 : x17_1 < (l1.length : Int)
      ·rw [if_pos c12] at H
       have c12b0 : decide (x17_1 < (l1.length : Int)) = true:=decide_eq_true c12
       clear c12
       by_cases c13 : 0 ≤ x17_1
       ·rw [if_pos c13] at H
        have c13b0 : decide (0 ≤ x17_1) = true:=decide_eq_true c13
        clear c13
        by_cases c14 : x17_1 < (l1.length : Int)
        ·rw [if_pos c14] at H
         have c14b0 : decide (x17_1 < (l1.length : Int)) = true:=decide_eq_true c14
         clear c14
         have c15b0:=eq_true (of_decide_eq_true (by first | (with_reducible assumption) | assumption) : 0 ≤ x17_1)
         by_cases c16 : x17_1 ≤ (l1.length : Int)
         ·rw [if_pos c16] at H
          have c16b0:=eq_true c16
          have c16b1 : decide (x17_1 ≤ (l1.length : Int)) = true:=decide_eq_true c16
          clear c16
          replace H:=Option.bind_eq_some_iff.mp H
          obtain ⟨t8,A170,H⟩:=H
          try dsimp only at H
          have A17:=a0_ A170
          clear A170
          by_cases c18 : t8 ≥ 0
          ·rw [if_pos c18] at H
           have c18b0 : decide (0 ≤ t8) = true:=decide_eq_true c18
           clear c18
           by_cases c19 : x5_1.length < 17592186044416
           ·rw [if_pos c19] at H
            have LMc19:=a0_ c19
            clear c19
            obtain ⟨y9,hy9⟩ : ∃ y_ : List Int,y_ = (x5_1 ++ [x17_1]):=⟨_,rfl⟩
            replace H : (impl_DeadCatches.l0 k1 l1 y9 l1 (l1.length : Int) (wrap64 (x17_1 + 1)) l0_0) = some r:=by first | (rw [hy9];with_reducible exact H) | (have H2_:=(Option.bind_some _ _).symm.trans H;rw [hy9];with_reducible exact H2_) | (have H2_:=(Option.bind_some _ _).symm.trans H;with_reducible exact H2_) | with_reducible exact H | (rw [hy9];exact H) | exact H
            have Ny9:=a0_ hy9
            clear hy9
            have H':=a0_ H
            clear H
            have p6 : 0 ≤ (x17_1 : Int):=of_decide_eq_true (by first | (with_reducible assumption) | assumption)
            have q6 : x17_1 < (l1.length : Int):=of_decide_eq_true (by first | (with_reducible assumption) | assumption)
            obtain ⟨ad6,e6,hx6_0⟩:=Kd.at_int HR1.out x17_1 p6 q6
            cases e6
            replace hx6_0:=(HB.out.cell (World.block_lt_of_cell? w _ hx6_0)).trans hx6_0
            replace p6:=eq_true p6
            replace q6:=eq_true q6
            try go_wp2
            have n0_:=a0_ (Kd.R_drew HO_5.out)
            have n1_:=a0_ (blk_drew BK1.out)
            have n2_:=a0_ (below_drew1 HB.out)
            clear HO_5
            clear BK1
            clear HB
            have HO_5:=n0_
            have BK1:=n1_
            have HB:=n2_
            clear n0_ n1_ n2_
            obtain ⟨i021,hi021,_,hsz21,_⟩:=info_parts info3
            obtain ⟨hcut21,hA21,hC21⟩:=print_take_of (P:=Try.prog) (Value.int .i64) 0 49 3 .i64 Try.underlying49 hi021 hsz21 (some ad6) c1 l1 x17_1 (of_decide_eq_true (by first | (with_reducible assumption) | assumption)) (of_decide_eq_true (by first | (with_reducible assumption) | assumption)) HC1.out
            have HR7:=a0_ (Kd.C_of_reads (h1:=fun _=>rfl) (hA21 _ (Kd.reads_of_C HR1.out)))
            have HC7:=a0_ hC21
            clear hA21 hC21 hi021 hsz21
            refine start_ (n:=7) (S:=fun w'=>w'.cell? ⟨gb1,0,none⟩ = some (.slice A0_0 l0_0.length c0_0)) (ds:=[]) #[false,false,false,false,false,false,false] (by kernel_rfl) rfl rfl ((blk_cell BK1.out 0).trans rfl) (fun hHeld=>?_)
            generalize wr.drew = w20 at HO_5 BK1 HB HR7 hHeld ⊢
            refine pure_ (i:=1) (N:=some 23) (v:=?_) (a':=?_) #[false,true,false,false,false,false,false] rfl rfl (by kernel_rfl) (fun _ _ _ h=>h) (Or.inl ⟨by rfl,?_⟩) ?_ ?_
            rotate_left
            ·intro w'
             go_simp
             with_reducible rfl
            rotate_left
            ·simp only [Act.put,s1_,s2_,s3_,i64_w,i32_w]
             rfl
            refine pure_ (i:=2) (N:=some 24) (v:=?_) (a':=?_) #[false,true,true,false,false,false,false] rfl rfl (by kernel_rfl) (fun _ _ _ h=>h) (Or.inl ⟨by rfl,?_⟩) ?_ ?_
            rotate_left
            ·intro w'
             go_simp
             with_reducible rfl
            rotate_left
            ·simp only [Act.put,s1_,s2_,s3_,i64_w,i32_w]
             rfl
            refine pure_ (i:=3) (N:=some 25) (v:=?_) (a':=?_) #[false,true,true,true,false,false,false] rfl rfl (by kernel_rfl) (fun _ _ _ h=>h) (Or.inl ⟨by rfl,?_⟩) ?_ ?_
            rotate_left
            ·intro w'
             go_simp
             with_reducible rfl
            rotate_left
            ·simp only [Act.put,s1_,s2_,s3_,i64_w,i32_w]
             rfl
            refine pure_ (i:=4) (N:=some 26) (v:=?_) (a':=?_) #[false,true,true,true,true,false,false] rfl rfl (by kernel_rfl) (fun _ _ _ h=>h) (Or.inl ⟨by rfl,?_⟩) ?_ ?_
            rotate_left
            ·intro w'
             go_simp
             with_reducible rfl
            rotate_left
            ·simp only [Act.put,s1_,s2_,s3_,i64_w,i32_w]
             rfl
            refine take_ (i:=0) (N:=some 22) (v:=?_) (a':=?_) #[true,true,true,true,true,false,false] rfl rfl (by kernel_rfl) (fun _ _ _ h=>h) (Or.inl ⟨by rfl,?_⟩) hHeld ?_ ?_
            rotate_left
            ·intro w' s0
             go_simp
             with_reducible rfl
            rotate_left
            ·simp only [Act.put,s1_,s2_,s3_,i64_w,i32_w]
             rfl
            refine one_ (i:=5) (N:=some 27) #[true,true,true,true,true,true,false] rfl rfl (by kernel_rfl) (by decide) (fun K hK=>?_)
            refine goes_ Try.func55 (by kernel_rfl) rfl #[.agg #[.slice A0_0 l0_0.length c0_0],.slice (some ad6) (l1.take (x17_1 : Int).toNat).length c1,.int .i64 (rd l1 x17_1)] (by rfl) rfl rfl (by (try simp only [List.map_toArray,List.map_cons,List.map_nil]);first | done | (rw [show (l1.take (x17_1 : Int).toNat).length = x17_1.toNat from (by rw [List.length_take];have h_ : (x17_1 : Int) ≤ (l1.length : Int):=of_decide_eq_true (by first | (with_reducible assumption) | assumption);omega)] <;> rfl) | rfl | (simp only [List.length_drop,List.length_take];rfl)) ?_
            with_reducible refine (impl_Tree_first.calls _ _ l0_0 _ _ (l1.take (x17_1 : Int).toNat) (rd l1 x17_1) t8 _ ?side1 ?side2 ?side3 ?side4 A17.out).mono ?_
            (case side1=>exact cc_ (Kd.C_below HR0_0.out HB.out))
            (case side2=>exact HC0_0.out)
            (case side3=>exact cc_ (Kd.C_below HR7.out HB.out))
            (case side4=>exact HC7.out)
            rintro e w22 ⟨rfl,hb⟩
            refine ⟨_,rfl,?_⟩
            have n0_:=rb_ HO_5 hb
            have n1_:=kb_ BK1 hb
            have n2_:=a0_ (below_step hb_ hb)
            clear HO_5
            clear BK1
            clear HB
            have HO_5:=n0_
            have BK1:=n1_
            have HB:=n2_
            clear n0_ n1_ n2_
            (try clear hb)
            (try clear hb2)
            (try clear hk)
            (try clear hi)
            refine hK.out _ _ ((blk_cell BK1.out 0).trans rfl) (fun hHeld=>?_)
            clear hK K
            refine norm_ (a':=?_) ?_ ?_
            rotate_left
            ·show Act.put _ (some 27) _ = _
             simp only [Act.put,s1_,s2_,s3_,i64_w,i32_w]
             rfl
            refine pure_ (i:=6) (N:=some 28) (v:=?_) (a':=?_) #[true,true,true,true,true,true,true] rfl rfl (by kernel_rfl) (fun _ _ _ h=>h) (Or.inl ⟨by rfl,?_⟩) ?_ ?_
            rotate_left
            ·intro w'
             go_simp
             with_reducible rfl
            rotate_left
            ·simp only [Act.put,s1_,s2_,s3_,i64_w,i32_w]
             rfl
            refine done_ (by kernel_rfl) ?_
            try go_wp2_with (first | ((with_reducible refine gate_builtin (b:=.append) (xs:=#[.tmp 29,.tmp 31]) rfl ?_);at_builtin;refine Kd.R_append (Kd.int .i64) (w0:=w) w.heap.size rfl (.tmp 29) (.tmp 31) 49 3 (.int .i64 0) 8 rfl Try.underlying49 info3 rfl (by decide) (by omega) u5 x5_1 x17_1 [.int .i64 x17_1] (fun _=>True) (fun _=>False) rfl rfl ?aP (fun _ hk=>hk.elim) ?aF ?aO ?aB ?aS ?aL ?_;(case aP=>exact rfl);(case aB=>exact hb_);(case aF=>exact (fun _ _=>trivial));(case aO=>exact (rr_ HO_5.out));(case aS=>exact (below_size hb_));(case aL=>have:=LMc19.out;omega);intro v10 w23 ho hb hg hat;rw [← Ny9.out] at ho;replace BK1:=a0_ (blk_grown (bb_ BK1.out) hg (Kd.R_ne HO_5.out BK1.out (by decide)));have HO11:=a0_ (ho);replace HB:=a0_ (hb);clear HO_5;clear ho hb hg hat))
            go_roundg k1
            case measure=>have:=HK1.out;omega
            case rel=>exact ⟨(y9),(wrap64 (x17_1 + 1)),(by first | rfl | (simp;done) | (simp [*];done)),H',⟨by have:=HK1.out;omega⟩,⟨by (with_reducible repeat (first | apply Kd.R_alloc | apply Kd.R_drewN | apply Kd.R_drew));exact HO11.out⟩,⟨by (with_reducible repeat (first | refine blk_drewN ?_ _ | refine blk_drew ?_ | refine blk_alloc ?_ _));exact BK1.out⟩,⟨hb_⟩⟩
           ·rw [if_neg c19] at H
            exact absurd H (by simp)
          ·rw [if_neg c18] at H
           have c18b0 : decide (0 ≤ t8) = false:=decide_eq_false c18
           clear c18
           have H':=a0_ H
           clear H
           have p6 : 0 ≤ (x17_1 : Int):=of_decide_eq_true (by first | (with_reducible assumption) | assumption)
           have q6 : x17_1 < (l1.length : Int):=of_decide_eq_true (by first | (with_reducible assumption) | assumption)
           obtain ⟨ad6,e6,hx6_0⟩:=Kd.at_int HR1.out x17_1 p6 q6
           cases e6
           replace hx6_0:=(HB.out.cell (World.block_lt_of_cell? w _ hx6_0)).trans hx6_0
           replace p6:=eq_true p6
           replace q6:=eq_true q6
           try go_wp2
           have n0_:=a0_ (Kd.R_drew HO_5.out)
           have n1_:=a0_ (blk_drew BK1.out)
           have n2_:=a0_ (below_drew1 HB.out)
           clear HO_5
           clear BK1
           clear HB
           have HO_5:=n0_
           have BK1:=n1_
           have HB:=n2_
           clear n0_ n1_ n2_
           obtain ⟨i025,hi025,_,hsz25,_⟩:=info_parts info3
           obtain ⟨hcut25,hA25,hC25⟩:=print_take_of (P:=Try.prog) (Value.int .i64) 0 49 3 .i64 Try.underlying49 hi025 hsz25 (some ad6) c1 l1 x17_1 (of_decide_eq_true (by first | (with_reducible assumption) | assumption)) (of_decide_eq_true (by first | (with_reducible assumption) | assumption)) HC1.out
           have HR7:=a0_ (Kd.C_of_reads (h1:=fun _=>rfl) (hA25 _ (Kd.reads_of_C HR1.out)))
           have HC7:=a0_ hC25
           clear hA25 hC25 hi025 hsz25
           refine start_ (n:=7) (S:=fun w'=>w'.cell? ⟨gb1,0,none⟩ = some (.slice A0_0 l0_0.length c0_0)) (ds:=[]) #[false,false,false,false,false,false,false] (by kernel_rfl) rfl rfl ((blk_cell BK1.out 0).trans rfl) (fun hHeld=>?_)
           generalize wr.drew = w24 at HO_5 BK1 HB HR7 hHeld ⊢
           refine pure_ (i:=1) (N:=some 23) (v:=?_) (a':=?_) #[false,true,false,false,false,false,false] rfl rfl (by kernel_rfl) (fun _ _ _ h=>h) (Or.inl ⟨by rfl,?_⟩) ?_ ?_
           rotate_left
           ·intro w'
            go_simp
            with_reducible rfl
           rotate_left
           ·simp only [Act.put,s1_,s2_,s3_,i64_w,i32_w]
            rfl
           refine pure_ (i:=2) (N:=some 24) (v:=?_) (a':=?_) #[false,true,true,false,false,false,false] rfl rfl (by kernel_rfl) (fun _ _ _ h=>h) (Or.inl ⟨by rfl,?_⟩) ?_ ?_
           rotate_left
           ·intro w'
            go_simp
            with_reducible rfl
           rotate_left
           ·simp only [Act.put,s1_,s2_,s3_,i64_w,i32_w]
            rfl
           refine pure_ (i:=3) (N:=some 25) (v:=?_) (a':=?_) #[false,true,true,true,false,false,false] rfl rfl (by kernel_rfl) (fun _ _ _ h=>h) (Or.inl ⟨by rfl,?_⟩) ?_ ?_
           rotate_left
           ·intro w'
            go_simp
            with_reducible rfl
           rotate_left
           ·simp only [Act.put,s1_,s2_,s3_,i64_w,i32_w]
            rfl
           refine pure_ (i:=4) (N:=some 26) (v:=?_) (a':=?_) #[false,true,true,true,true,false,false] rfl rfl (by kernel_rfl) (fun _ _ _ h=>h) (Or.inl ⟨by rfl,?_⟩) ?_ ?_
           rotate_left
           ·intro w'
            go_simp
            with_reducible rfl
           rotate_left
           ·simp only [Act.put,s1_,s2_,s3_,i64_w,i32_w]
            rfl
           refine take_ (i:=0) (N:=some 22) (v:=?_) (a':=?_) #[true,true,true,true,true,false,false] rfl rfl (by kernel_rfl) (fun _ _ _ h=>h) (Or.inl ⟨by rfl,?_⟩) hHeld ?_ ?_
           rotate_left
           ·intro w' s0
            go_simp
            with_reducible rfl
           rotate_left
           ·simp only [Act.put,s1_,s2_,s3_,i64_w,i32_w]
            rfl
           refine one_ (i:=5) (N:=some 27) #[true,true,true,true,true,true,false] rfl rfl (by kernel_rfl) (by decide) (fun K hK=>?_)
           refine goes_ Try.func55 (by kernel_rfl) rfl #[.agg #[.slice A0_0 l0_0.length c0_0],.slice (some ad6) (l1.take (x17_1 : Int).toNat).length c1,.int .i64 (rd l1 x17_1)] (by rfl) rfl rfl (by (try simp only [List.map_toArray,List.map_cons,List.map_nil]);first | done | (rw [show (l1.take (x17_1 : Int).toNat).length = x17_1.toNat from (by rw [List.length_take];have h_ : (x17_1 : Int) ≤ (l1.length : Int):=of_decide_eq_true (by first | (with_reducible assumption) | assumption);omega)] <;> rfl) | rfl | (simp only [List.length_drop,List.length_take];rfl)) ?_
           with_reducible refine (impl_Tree_first.calls _ _ l0_0 _ _ (l1.take (x17_1 : Int).toNat) (rd l1 x17_1) t8 _ ?side1 ?side2 ?side3 ?side4 A17.out).mono ?_
           (case side1=>exact cc_ (Kd.C_below HR0_0.out HB.out))
           (case side2=>exact HC0_0.out)
           (case side3=>exact cc_ (Kd.C_below HR7.out HB.out))
           (case side4=>exact HC7.out)
           rintro e w26 ⟨rfl,hb⟩
           refine ⟨_,rfl,?_⟩
           have n0_:=rb_ HO_5 hb
           have n1_:=kb_ BK1 hb
           have n2_:=a0_ (below_step hb_ hb)
           clear HO_5
           clear BK1
           clear HB
           have HO_5:=n0_
           have BK1:=n1_
           have HB:=n2_
           clear n0_ n1_ n2_
           (try clear hb)
           (try clear hb2)
           (try clear hk)
           (try clear hi)
           refine hK.out _ _ ((blk_cell BK1.out 0).trans rfl) (fun hHeld=>?_)
           clear hK K
           refine norm_ (a':=?_) ?_ ?_
           rotate_left
           ·show Act.put _ (some 27) _ = _
            simp only [Act.put,s1_,s2_,s3_,i64_w,i32_w]
            rfl
           refine pure_ (i:=6) (N:=some 28) (v:=?_) (a':=?_) #[true,true,true,true,true,true,true] rfl rfl (by kernel_rfl) (fun _ _ _ h=>h) (Or.inl ⟨by rfl,?_⟩) ?_ ?_
           rotate_left
           ·intro w'
            go_simp
            with_reducible rfl
           rotate_left
           ·simp only [Act.put,s1_,s2_,s3_,i64_w,i32_w]
            rfl
           refine done_ (by kernel_rfl) ?_
           try go_wp2
           go_roundg k1
           case measure=>have:=HK1.out;omega
           case rel=>exact ⟨(x5_1),(wrap64 (x17_1 + 1)),(by first | rfl | (simp;done) | (simp [*];done)),H',⟨by have:=HK1.out;omega⟩,⟨by (with_reducible repeat (first | apply Kd.R_alloc | apply Kd.R_drewN | apply Kd.R_drew));exact HO_5.out⟩,⟨by (with_reducible repeat (first | refine blk_drewN ?_ _ | refine blk_drew ?_ | refine blk_alloc ?_ _));exact BK1.out⟩,⟨hb_⟩⟩
         ·rw [if_neg c16] at H
          exact absurd H (by simp)
        ·rw [if_neg c14] at H
         exact absurd H (by simp)
       ·rw [if_neg c13] at H
        exact absurd H (by simp)
      ·rw [if_neg c12] at H
       have c12b0 : decide (x17_1 < (l1.length : Int)) = false:=decide_eq_false c12
       clear c12
       by_cases c27 : 0 ≤ (x5_1.length : Int)
       ·rw [if_pos c27] at H
        have c27b0:=eq_true c27
        have c27b1 : decide (0 ≤ (x5_1.length : Int)) = true:=decide_eq_true c27
        clear c27
        by_cases c28 : (x5_1.length : Int) ≤ (x5_1.length : Int)
        ·rw [if_pos c28] at H
         have c28b0:=eq_true c28
         have c28b1 : decide ((x5_1.length : Int) ≤ (x5_1.length : Int)) = true:=decide_eq_true c28
         clear c28
         obtain ⟨y12,hy12⟩ : ∃ y_ : List Int,y_ = (x5_1.take ((x5_1.length : Int) : Int).toNat):=⟨_,rfl⟩
         replace H : (some y12) = some r:=by first | (rw [hy12];with_reducible exact H) | (have H2_:=(Option.bind_some _ _).symm.trans H;rw [hy12];with_reducible exact H2_) | (have H2_:=(Option.bind_some _ _).symm.trans H;with_reducible exact H2_) | with_reducible exact H | (rw [hy12];exact H) | exact H
         have Ny12:=a0_ hy12
         clear hy12
         obtain rfl:=Option.some.inj H
         obtain ⟨Ao29,co29,eo29⟩:=Kd.R_slice HO_5.out
         subst eo29
         have q30 : x5_1.length ≤ co29:=(Kd.R_reads' HO_5.out).2.1
         have hr30:=Kd.R_clip2 HO_5.out (((x5_1.length : Int) : Int).toNat) (by omega)
         rw [← Ny12.out] at hr30
         clear HO_5
         have HO14:=a0_ hr30
         clear hr30
         go_wp2
         go_ret
         exact ⟨_,by first | rfl | (simp [errW_none,errW_some] <;> rfl) | (simp [*,errW_none,errW_some] <;> rfl),by (with_reducible repeat (first | apply Kd.R_alloc | apply Kd.R_drewN | apply Kd.R_drew));exact HO14.out,hb_⟩
        ·rw [if_neg c28] at H
         exact absurd H (by simp)
       ·rw [if_neg c27] at H
        exact absurd H (by simp)
   ·rw [if_neg c6] at H
    exact absurd H (by simp)
  ·rw [if_neg c5] at H
   exact absurd H (by simp)
 ·replace c4:=Bool.eq_false_iff.mpr c4
  subst c4
  have H1 : (some ([] : List Int)) = some r:=by rw [if_neg (show ¬ (false = true) by decide)] at H;exact H
  clear H
  have H:=H1
  clear H1
  obtain rfl:=Option.some.inj H
  go_enter Try.func32,Try.ntmps32
  go_wp2_with (first | ((with_reducible refine gate_dst (N:=2) rfl ?_);refine box_event ?hg (N:=2) ?hd (cs:=#[.slice A0_0 l0_0.length c0_0]) (t:=25) ?hr ?_;(case hd=>rfl);(case hg=>rfl);(case hr=>first | (go_simp;done) | (go_simp;rfl));intro gb1 hg w31 hbox hb;have BK1:=a0_ (hbox);have GW1:=a0_ ((by rw [hg];exact (below_size hb_) : w.heap.size ≤ gb1));have GE1:=a0_ ((by rw [hg];exact (below_size hb_) : w.heap.size ≤ gb1));replace HB:=a0_ (below_step hb_ hb);clear hb hbox hg;have hcz32_0 : w31.cell? ⟨gb1,0,none⟩ = some (.slice A0_0 l0_0.length c0_0):=(blk_cell BK1.out 0).trans rfl;have hfz32_0:=blk_frozen BK1.out 0) | ((with_reducible refine gate_callee (f:=53) rfl ?_);refine goesL_ (some 10) rfl rfl Try.func53 (by kernel_rfl) rfl #[.agg #[.slice A0_0 l0_0.length c0_0],.slice A1 l1.length c1] rfl lm_ ?_;(with_reducible refine (impl_catchesOk.calls _ _ l0_0 _ _ l1 false _ ?side1 ?side2 ?side3 ?side4 A3.out).mono ?_);(case side1=>exact cc_ (Kd.C_below HR0_0.out HB.out));(case side2=>exact HC0_0.out);(case side3=>exact cc_ (Kd.C_below HR1.out HB.out));(case side4=>exact HC1.out);rintro e w33 ⟨rfl,hb⟩;refine ⟨_,rfl,?_⟩;replace BK1:=kb_ BK1 hb;replace HB:=a0_ (below_step hb_ hb);(try clear hb);(try clear hb2);(try clear hk);(try clear hi)))
  go_ret
  exact ⟨_,by first | rfl | (simp [errW_none,errW_some] <;> rfl) | (simp [*,errW_none,errW_some] <;> rfl),by first | exact Kd.R_nil _ _ _ _ _ | exact Kd.N_nil _ _ _ _ _ | exact Kd.V_nil _ _ _ _ _ | exact Kd.Q_nil _ _ _ _ _ | exact Kd.S_nil _ _ _ _ _,hb_⟩
theorem impl_DeadCatches_l0 {t : List Cls} (h : vT t = true) (l : List Int) (hl : l.length ≤ 6) (hc : ∀ x ∈ l,x < (t.length : Int)) : Ev (fun k=>impl_DeadCatches.l0 k l [] l (l.length : Int) 0 t) (deadN t l l.length):=by
 have key : ∀ d i,i + d = l.length → Ev (fun k=>impl_DeadCatches.l0 k l (deadN t l i) l (l.length : Int) (i : Int) t) (deadN t l l.length):=by
  intro d
  induction d with
  | zero =>
   intro i hi
   obtain rfl : i = l.length:=by omega
   refine Ev.succ (Ev.congr (F:=fun _=>some (deadN t l l.length)) (Ev.const rfl) (fun k=>?_))
   simp only [impl_DeadCatches.l0]
   rw [if_neg (by omega),if_pos (by omega),if_pos (by omega)]
   rw [show (((deadN t l l.length).length : Int) : Int).toNat = (deadN t l l.length).length by omega,List.take_length]
  | succ d ih =>
   intro i hi
   have hlt : i < l.length:=by omega
   have hd:=deadN_len t l i
   refine Ev.succ (Ev.congr (F:=fun k=>if 0 ≤ idxP (fun b=>isA t (l.getD i 0) b) (l.take i) then impl_DeadCatches.l0 k l (deadN t l i ++ [(i : Int)]) l (l.length : Int) ((i + 1 : Nat) : Int) t else impl_DeadCatches.l0 k l (deadN t l i) l (l.length : Int) ((i + 1 : Nat) : Int) t) ?_ (fun k=>?_))
   ·have h1:=idxP_nonneg (fun b=>isA t (l.getD i 0) b) (l.take i)
    have h2:=deadN_succ t l i
    have h3:=ih (i + 1) (by omega)
    by_cases hb : 0 ≤ idxP (fun b=>isA t (l.getD i 0) b) (l.take i)
    ·rw [decide_eq_true hb] at h1
     rw [← h1,if_pos rfl] at h2
     rw [h2] at h3
     exact Ev.pos hb h3
    ·rw [decide_eq_false hb] at h1
     rw [← h1,if_neg (by simp),List.append_nil] at h2
     rw [h2] at h3
     exact Ev.neg hb h3
   ·simp only [impl_DeadCatches.l0,impl_Tree_first.f]
    rw [if_pos (by omega),if_pos (by omega),if_pos (by omega),if_pos (by omega),show rd l (i : Int) = l.getD i 0 by simp [rd],if_pos ⟨h,hc _ (by simp [hlt])⟩,wrap_succ (i:=(i : Int)) (n:=l.length) (by omega) (by omega) (by omega)]
    simp only [Option.bind_some]
    rw [if_pos (show (deadN t l i).length < 17592186044416 by omega)]
    rfl
 exact key l.length 0 (by omega)
theorem impl_DeadCatches_ev (t : List Cls) (l : List Int) (hl : l.length ≤ 35184372088832) (hs : smT t = true) : Ev (fun k=>impl_DeadCatches.f k t l) (deadP t l):=by
 refine Ev.bind (Ev.const (impl_catchesOk_ev t l hs)) ?_
 unfold deadP
 by_cases h : okCat t l = true
 ·obtain ⟨h1,h2,h3⟩:=okCat_parts h
  rw [if_pos h]
  exact Ev.pos h (Ev.pos (by omega) (Ev.pos (by omega) (impl_DeadCatches_l0 h1 l h2 (fun x hx=>(h3 x hx).2))))
 ·rw [if_neg h]
  exact Ev.neg h (Ev.const rfl)
end Go.Proofs.Ytfphcdbnnienhaa.P
namespace Go.Proofs.Ytfphcdbnnienhaa.P
open Go.RowKit Go.Proofs.YtfphcdbnnienhaaW.PrintWords Go.Proofs.YtfphcdbnnienhaaW.PrintLast Go.Proofs.YtfphcdbnnienhaaW.PrintMore
attribute [local go_sem] max2_int min2_int max_two min_two max_three min_three max_four min_four
set_option linter.unusedVariables false
set_option linter.unusedSimpArgs false
def laws_isIn.l0 : Nat → List Int → Int → Int → Option (Bool)
 | 0,_,_,_=>none
 | k + 1,x0,x1,x5=>if x5 < (x0.length : Int) then (if 0 ≤ x5 then (if (rd x0 x5) = x1 then (some true) else (laws_isIn.l0 k x0 x1 (wrap64 (x5 + 1)))) else (none)) else (some false)
def laws_isIn.f (k : Nat) (l0 : List Int) (a1 : Int) : Option (Bool):=laws_isIn.l0 k l0 a1 0
theorem laws_isIn.mono_l : ∀ k,(∀ y0 y1 y2,LeO (laws_isIn.l0 k y0 y1 y2) (laws_isIn.l0 (k + 1) y0 y1 y2))
 | 0=>fun _ _ _ r h=>by simp [laws_isIn.l0] at h
 | k + 1=>by
  have ih0:=laws_isIn.mono_l k
  ·intro y0 y1 y2
   unfold laws_isIn.l0
   repeat' first
   | (with_reducible exact ih0 _ _ _)
   | (with_reducible exact LeO.refl _)
   | (with_reducible exact LeO.none _)
   | (with_reducible refine LeO.ite ?_ ?_)
   | (with_reducible refine LeO.bind ?_ (fun _=>?_))
   | exact ih0 _ _ _
   | exact LeO.none _
   | refine LeO.ite ?_ ?_
   | refine LeO.bind ?_ (fun _=>?_)
theorem laws_isIn.mono : ∀ a0 a1 k,LeO (laws_isIn.f k a0 a1) (laws_isIn.f (k + 1) a0 a1):=by
 intro a0 a1 k
 have ih0:=laws_isIn.mono_l k
 unfold laws_isIn.f
 repeat' first
   | (with_reducible exact ih0 _ _ _)
   | (with_reducible exact LeO.refl _)
   | (with_reducible exact LeO.none _)
   | (with_reducible refine LeO.ite ?_ ?_)
   | (with_reducible refine LeO.bind ?_ (fun _=>?_))
   | exact ih0 _ _ _
   | exact LeO.none _
   | refine LeO.ite ?_ ?_
   | refine LeO.bind ?_ (fun _=>?_)
set_option maxHeartbeats 8000000 in
set_option maxRecDepth 100000 in
theorem laws_isIn.calls (k : Nat) (A0 : Option Addr) (c0 : Nat) (l0 : List Int) (a1 : Int) (r : Bool) (w : World) (hr0 : Kd.C (Kd.int .i64) w A0 l0.length l0) (hc0 : l0.length ≤ c0) (h : laws_isIn.f k l0 a1 = some r) :
  Calls Try.prog 33 #[.slice A0 l0.length c0,.int .i64 a1] w fun e w'=>e = .returned (.bool r) ∧ Drawn0 w w':=by
 have HR0:=a0_ hr0
 have HC0:=a0_ hc0
 clear hr0 hc0
 have H : (laws_isIn.l0 k l0 a1 0) = some r:=h
 clear h
 have H':=a0_ H
 clear H
 go_enter Try.func33,Try.ntmps33
 go_wp2
 go_loopg [5] k (fun kq v5 w'=>∃ (x5_1 : Int),v5 = .int .i64 x5_1 ∧ Aside0 (laws_isIn.l0 kq l0 a1 x5_1 = some r) ∧ Aside0 (kq ≤ k) ∧ Drawn0 w w')
 case atStart=>exact ⟨(0),(by first | rfl | (simp;done) | (simp [*];done)),H',⟨Nat.le_refl _⟩,by repeat (first | exact Drawn0.refl _ | apply Drawn0.step)⟩
 case round =>
  clear H'
  try clear p2
  obtain ⟨x5_1,rfl,HA,HK1,⟨m1,rfl⟩⟩:=hrel
  cases gk with
  | zero=>exact absurd HA.out (by simp [laws_isIn.l0])
  | succ k1 =>
   have H:=HA.out
   clear HA
   simp only [laws_isIn.l0] at H
   by_cases c3 : x5_1 < (l0.length : Int)
   ·rw [if_pos c3] at H
    have c3b0 : decide (x5_1 < (l0.length : Int)) = true:=decide_eq_true c3
    clear c3
    by_cases c4 : 0 ≤ x5_1
    ·rw [if_pos c4] at H
     have c4b0 : decide (0 ≤ x5_1) = true:=decide_eq_true c4
     clear c4
     by_cases c5 : (rd l0 x5_1) = a1
     ·rw [if_pos c5] at H
      have c5b0 : ((rd l0 x5_1) == a1) = true:=beq_iff_eq.mpr c5
      have c5b1 : ((rd l0 x5_1) != a1) = false:=bne_eq_false_iff_eq.mpr c5
      clear c5
      obtain rfl:=Option.some.inj H
      have p1 : 0 ≤ (x5_1 : Int):=of_decide_eq_true (by first | (with_reducible assumption) | assumption)
      have q1 : x5_1 < (l0.length : Int):=of_decide_eq_true (by first | (with_reducible assumption) | assumption)
      obtain ⟨ad1,e1,hx1_0⟩:=Kd.at_int HR0.out x5_1 p1 q1
      cases e1
      replace p1:=eq_true p1
      replace q1:=eq_true q1
      go_wp2
      go_ret
      exact ⟨by first | rfl | (simp;done) | (simp [*];done),by repeat (first | exact Drawn0.refl _ | apply Drawn0.step)⟩
     ·rw [if_neg c5] at H
      have c5b0 : ((rd l0 x5_1) == a1) = false:=beq_eq_false_iff_ne.mpr c5
      have c5b1 : ((rd l0 x5_1) != a1) = true:=bne_iff_ne.mpr c5
      have H':=a0_ H
      clear H
      have p1 : 0 ≤ (x5_1 : Int):=of_decide_eq_true (by first | (with_reducible assumption) | assumption)
      have q1 : x5_1 < (l0.length : Int):=of_decide_eq_true (by first | (with_reducible assumption) | assumption)
      obtain ⟨ad1,e1,hx1_0⟩:=Kd.at_int HR0.out x5_1 p1 q1
      cases e1
      replace p1:=eq_true p1
      replace q1:=eq_true q1
      go_wp2
      go_roundg k1
      case measure=>have:=HK1.out;omega
      case rel=>exact ⟨(wrap64 (x5_1 + 1)),(by first | rfl | (simp;done) | (simp [*];done)),H',⟨by have:=HK1.out;omega⟩,by repeat (first | exact Drawn0.refl _ | apply Drawn0.step)⟩
    ·rw [if_neg c4] at H
     exact absurd H (by simp)
   ·rw [if_neg c3] at H
    have c3b0 : decide (x5_1 < (l0.length : Int)) = false:=decide_eq_false c3
    clear c3
    obtain rfl:=Option.some.inj H
    go_wp2
    go_ret
    exact ⟨by first | rfl | (simp;done) | (simp [*];done),by repeat (first | exact Drawn0.refl _ | apply Drawn0.step)⟩
theorem laws_isIn_ev (l : List Int) (x : Int) (hl : l.length ≤ 9223372036854775806) : Ev (fun k=>laws_isIn.f k l x) (l.contains x):=by
 have key : ∀ d j,j + d = l.length → Ev (fun k=>laws_isIn.l0 k l x (j : Int)) ((l.drop j).contains x):=by
  intro d
  induction d with
  | zero =>
   intro j hj
   refine Ev.succ ?_
   simp only [laws_isIn.l0]
   rw [List.drop_eq_nil_of_le (by omega)]
   exact Ev.neg (by omega) (Ev.const rfl)
  | succ d ih =>
   intro j hj
   refine Ev.succ ?_
   simp only [laws_isIn.l0]
   have hlt : j < l.length:=by omega
   have hr : rd l (j : Int) = l[j]:=by simp [rd,hlt]
   rw [List.drop_eq_getElem_cons hlt,List.contains_cons,hr]
   refine Ev.pos (by omega) (Ev.pos (by omega) ?_)
   by_cases e : l[j] = x
   ·refine Ev.pos e (Ev.const ?_)
    simp [e]
   ·refine Ev.neg e ?_
    rw [show (x == l[j]) = false from beq_eq_false_iff_ne.2 (fun hh=>e hh.symm),Bool.false_or,wrap_succ (i:=(j : Int)) (n:=l.length) (by omega) (by omega) (by omega)]
    exact ih (j + 1) (by omega)
 have:=key l.length 0 (by omega)
 rw [List.drop_zero] at this
 exact this
end Go.Proofs.Ytfphcdbnnienhaa.P
