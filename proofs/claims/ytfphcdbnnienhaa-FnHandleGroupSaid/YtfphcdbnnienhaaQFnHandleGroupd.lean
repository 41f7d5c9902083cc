/- Texts under the proof of FnHandleGroup: helper words, the functions' contracts and the plain laws. No condition. -/
import Derived.Test.YtfphcdbnnienhaaQFnHandleGroupa
import Derived.Test.YtfphcdbnnienhaaQFnHandleGroupc
namespace Go.Proofs.Ytfphcdbnnienhaa.P
open Go.RowKit Go.Proofs.YtfphcdbnnienhaaW.PrintWords Go.Proofs.YtfphcdbnnienhaaW.PrintLast Go.Proofs.YtfphcdbnnienhaaW.PrintMore
attribute [local go_sem] max2_int min2_int max_two min_two max_three min_three max_four min_four
set_option linter.unusedVariables false
set_option linter.unusedSimpArgs false
mutual
def impl_HandleGroup.j0 : Nat → List (S47) → List Int → Bool → List (S85) → Option ((List (List (S47))) × (List (S47)))
 | 0,_,_,_,_=>none
 | k + 1,x1,x2,x23,x2000=>if x23 = true then (some (([] : List (List (S47))),([] : List (S47)))) else (if 0 ≤ (x2.length : Int) then (if ((x2.length : Int) : Int).toNat ≤ 11728124029610 then ((slices_Clone_Part.f x1).bind fun t7=>((slices_Clip_Part.f t7).bind fun t10=>(impl_HandleGroup.l0 k (([] : List (List (S47)))) t10 x2 (x2.length : Int) 0 x2000))) else (none)) else (none))
def impl_HandleGroup.l0 : Nat → List (List (S47)) → List (S47) → List Int → Int → Int → List (S85) → Option ((List (List (S47))) × (List (S47)))
 | 0,_,_,_,_,_,_=>none
 | k + 1,x8,x9,x30,x31,x32,x2000=>if x32 < x31 then (if 0 ≤ x32 then (if x32 < (x30.length : Int) then ((impl_Tree_split.f x2000 x9 (rd x30 x32)).bind fun bt14=>(if x8.length < 5864062014805 then (impl_HandleGroup.l0 k (x8 ++ [bt14.1]) bt14.2 x30 x31 (wrap64 (x32 + 1)) x2000) else (none))) else (none)) else (none)) else (some (x8,x9))
end
def impl_HandleGroup.f (k : Nat) (l0_0 : List (S85)) (l1 : List (S47)) (l2 : List Int) : Option ((List (List (S47))) × (List (S47))):=(impl_ValidGroup.f k l0_0 l1).bind fun t2=>(if t2 = true then ((impl_catchesOk.f l0_0 l2).bind fun t3=>(impl_HandleGroup.j0 k l1 l2 (!t3) l0_0)) else (impl_HandleGroup.j0 k l1 l2 true l0_0))
theorem impl_HandleGroup.mono_l : ∀ k,(∀ y0 y1 y2 y3,LeO (impl_HandleGroup.j0 k y0 y1 y2 y3) (impl_HandleGroup.j0 (k + 1) y0 y1 y2 y3)) ∧ (∀ y0 y1 y2 y3 y4 y5,LeO (impl_HandleGroup.l0 k y0 y1 y2 y3 y4 y5) (impl_HandleGroup.l0 (k + 1) y0 y1 y2 y3 y4 y5))
 | 0=>⟨fun _ _ _ _ r h=>by simp [impl_HandleGroup.j0] at h,fun _ _ _ _ _ _ r h=>by simp [impl_HandleGroup.l0] at h⟩
 | k + 1=>by
  obtain ⟨ih0,ih1⟩:=impl_HandleGroup.mono_l k
  refine ⟨?_,?_⟩
  ·intro y0 y1 y2 y3
   unfold impl_HandleGroup.j0
   repeat' first
   | (with_reducible exact ih0 _ _ _ _)
   | (with_reducible exact ih1 _ _ _ _ _ _)
   | (with_reducible exact impl_ValidGroup.mono _ _ _)
   | (with_reducible exact LeO.refl _)
   | (with_reducible exact LeO.none _)
   | (with_reducible refine LeO.ite ?_ ?_)
   | (with_reducible refine LeO.bind ?_ (fun _=>?_))
   | exact ih0 _ _ _ _
   | exact ih1 _ _ _ _ _ _
   | exact impl_ValidGroup.mono _ _ _
   | exact LeO.none _
   | refine LeO.ite ?_ ?_
   | refine LeO.bind ?_ (fun _=>?_)
  ·intro y0 y1 y2 y3 y4 y5
   unfold impl_HandleGroup.l0
   repeat' first
   | (with_reducible exact ih0 _ _ _ _)
   | (with_reducible exact ih1 _ _ _ _ _ _)
   | (with_reducible exact impl_ValidGroup.mono _ _ _)
   | (with_reducible exact LeO.refl _)
   | (with_reducible exact LeO.none _)
   | (with_reducible refine LeO.ite ?_ ?_)
   | (with_reducible refine LeO.bind ?_ (fun _=>?_))
   | exact ih0 _ _ _ _
   | exact ih1 _ _ _ _ _ _
   | exact impl_ValidGroup.mono _ _ _
   | exact LeO.none _
   | refine LeO.ite ?_ ?_
   | refine LeO.bind ?_ (fun _=>?_)
theorem impl_HandleGroup.mono : ∀ a0 a1 a2 k,LeO (impl_HandleGroup.f k a0 a1 a2) (impl_HandleGroup.f (k + 1) a0 a1 a2):=by
 intro a0 a1 a2 k
 obtain ⟨ih0,ih1⟩:=impl_HandleGroup.mono_l k
 unfold impl_HandleGroup.f
 repeat' first
   | (with_reducible exact ih0 _ _ _ _)
   | (with_reducible exact ih1 _ _ _ _ _ _)
   | (with_reducible exact impl_ValidGroup.mono _ _ _)
   | (with_reducible exact LeO.refl _)
   | (with_reducible exact LeO.none _)
   | (with_reducible refine LeO.ite ?_ ?_)
   | (with_reducible refine LeO.bind ?_ (fun _=>?_))
   | exact ih0 _ _ _ _
   | exact ih1 _ _ _ _ _ _
   | exact impl_ValidGroup.mono _ _ _
   | exact LeO.none _
   | refine LeO.ite ?_ ?_
   | refine LeO.bind ?_ (fun _=>?_)
set_option maxHeartbeats 8000000 in
set_option maxRecDepth 100000 in
theorem impl_HandleGroup.calls (k : Nat) (A0_0 : Option Addr) (c0_0 : Nat) (l0_0 : List (S85)) (A1 : Option Addr) (c1 : Nat) (l1 : List (S47)) (A2 : Option Addr) (c2 : Nat) (l2 : List Int) (r1 : List (List (S47))) (r2 : List (S47)) (w : World) (hr0_0 : Kd.C k85 w A0_0 l0_0.length l0_0) (hc0_0 : l0_0.length ≤ c0_0) (hr1 : Kd.C k47 w A1 l1.length l1) (hc1 : l1.length ≤ c1) (hr2 : Kd.C (Kd.int .i64) w A2 l2.length l2) (hc2 : l2.length ≤ c2) (h : impl_HandleGroup.f k l0_0 l1 l2 = some (r1,r2)) :
  Calls Try.prog 29 #[.agg #[.slice A0_0 l0_0.length c0_0],.slice A1 l1.length c1,.slice A2 l2.length c2] w fun e w'=>∃ v0_ v1_ : Value,e = .returned (.tuple #[v0_,v1_]) ∧ Kd.S (Kd.slice 47 k47) 26 w' w.heap.size (fun k_=>some k_ ≠ (v1_ : Value).ownBlock) v0_ r1 ∧ Kd.R k47 47 w' w.heap.size (fun _=>True) v1_ r2 ∧ Below w.heap.size w w':=by
 have hu25:=Try.underlying25
 have HR0_0:=a0_ hr0_0
 have HC0_0:=a0_ hc0_0
 clear hr0_0 hc0_0
 have HR1:=a0_ hr1
 have HC1:=a0_ hc1
 clear hr1 hc1
 have HR2:=a0_ hr2
 have HC2:=a0_ hc2
 clear hr2 hc2
 have HB:=a0_ (Below.refl w.heap.size w)
 have H : ((impl_ValidGroup.f k l0_0 l1).bind fun t2=>(if t2 = true then ((impl_catchesOk.f l0_0 l2).bind fun t3=>(impl_HandleGroup.j0 k l1 l2 (!t3) l0_0)) else (impl_HandleGroup.j0 k l1 l2 true l0_0))) = some (r1,r2):=h
 clear h
 have HC4:=a0_ H
 clear H
 go_enter Try.func29,Try.ntmps29
 go_upto_region 1 with (first | ((with_reducible refine gate_dst (N:=3) rfl ?_);refine box_event ?hg (N:=3) ?hd (cs:=#[.slice A0_0 l0_0.length c0_0]) (t:=25) ?hr ?_;(case hd=>rfl);(case hg=>rfl);(case hr=>first | (go_simp;done) | (go_simp;rfl));intro gb1 hg w5 hbox hb;have BK1:=a0_ (hbox);have GW1:=a0_ ((by rw [hg];exact (below_size hb_) : w.heap.size ≤ gb1));have GE1:=a0_ ((by rw [hg];exact (below_size hb_) : w.heap.size ≤ gb1));replace HB:=a0_ (below_step hb_ hb);clear hb hbox hg))
 (try simp only [Act.put,s1_,s2_,s3_])
 go_cut [23] (fun v23 wc=>∃ (kq : Nat) (x23_3 : Bool),v23 = .bool x23_3 ∧ Aside0 (impl_HandleGroup.j0 kq l1 l2 x23_3 l0_0 = some (r1,r2)) ∧ Aside0 (kq ≤ k) ∧ Aside0 (wc.heap[gb1]? = some (.cells #[(.slice A0_0 l0_0.length c0_0)] 25 (0,0))) ∧ Aside0 (Below w.heap.size w wc))
 case first =>
  have H:=HC4.out
  clear HC4
  replace H:=Option.bind_eq_some_iff.mp H
  obtain ⟨t2,A60,H⟩:=H
  try dsimp only at H
  have A6:=a0_ A60
  clear A60
  by_cases c7 : t2 = true
  ·subst c7
   have H1 : ((impl_catchesOk.f l0_0 l2).bind fun t3=>(impl_HandleGroup.j0 k l1 l2 (!t3) l0_0)) = some (r1,r2):=by rw [if_pos rfl] at H;exact H
   clear H
   have H:=H1
   clear H1
   replace H:=Option.bind_eq_some_iff.mp H
   obtain ⟨t3,A80,H⟩:=H
   replace H : (impl_HandleGroup.j0 k l1 l2 (!t3) l0_0) = some (r1,r2):=H
   have A8:=a0_ A80
   clear A80
   have H':=a0_ H
   clear H
   have hcz9_0 : w5.cell? ⟨gb1,0,none⟩ = some (.slice A0_0 l0_0.length c0_0):=(blk_cell BK1.out 0).trans rfl
   have hfz9_0:=blk_frozen BK1.out 0
   go_wp2_with (first | ((with_reducible refine gate_callee (f:=15) rfl ?_);refine goesL_ (some 16) rfl rfl Try.func15 (by kernel_rfl) rfl #[.agg #[.slice A0_0 l0_0.length c0_0],.slice A1 l1.length c1] rfl lm_ ?_;(with_reducible refine (impl_ValidGroup.calls k _ _ l0_0 _ _ l1 true _ ?side1 ?side2 ?side3 ?side4 A6.out).mono ?_);(case side1=>exact cc_ (Kd.C_below HR0_0.out HB.out));(case side2=>exact HC0_0.out);(case side3=>exact cc_ (Kd.C_below HR1.out HB.out));(case side4=>exact HC1.out);rintro e w10 ⟨rfl,hb⟩;refine ⟨_,rfl,?_⟩;replace BK1:=kb_ BK1 hb;replace HB:=a0_ (below_step hb_ hb);(try clear hb);have hcz11_0 : w10.cell? ⟨gb1,0,none⟩ = some (.slice A0_0 l0_0.length c0_0):=(blk_cell BK1.out 0).trans rfl;have hfz11_0:=blk_frozen BK1.out 0) | (go_at_call 53;(with_reducible refine (impl_catchesOk.calls _ _ l0_0 _ _ l2 t3 _ ?side1 ?side2 ?side3 ?side4 A8.out).mono ?_);(case side1=>exact cc_ (Kd.C_below HR0_0.out HB.out));(case side2=>exact HC0_0.out);(case side3=>exact cc_ (Kd.C_below HR2.out HB.out));(case side4=>exact HC2.out);rintro e w12 ⟨rfl,hb⟩;replace BK1:=kb_ BK1 hb;replace HB:=a0_ (below_step hb_ hb);(try clear hb);(try clear hb2);(try clear hk);(try clear hi)))
   go_meet
   case rel=>exact ⟨_,(!t3),(by first | rfl | (simp;done) | (simp [*];done)),H',⟨by first | omega | exact Nat.le_refl _⟩,⟨by (with_reducible repeat (first | refine blk_drewN ?_ _ | refine blk_drew ?_ | refine blk_alloc ?_ _));exact BK1.out⟩,⟨hb_⟩⟩
  ·replace c7:=Bool.eq_false_iff.mpr c7
   subst c7
   have H1 : (impl_HandleGroup.j0 k l1 l2 true l0_0) = some (r1,r2):=by rw [if_neg (show ¬ (false = true) by decide)] at H;exact H
   clear H
   have H:=H1
   clear H1
   have H':=a0_ H
   clear H
   have hcz13_0 : w5.cell? ⟨gb1,0,none⟩ = some (.slice A0_0 l0_0.length c0_0):=(blk_cell BK1.out 0).trans rfl
   have hfz13_0:=blk_frozen BK1.out 0
   go_wp2_with (first | ((with_reducible refine gate_callee (f:=15) rfl ?_);refine goesL_ (some 16) rfl rfl Try.func15 (by kernel_rfl) rfl #[.agg #[.slice A0_0 l0_0.length c0_0],.slice A1 l1.length c1] rfl lm_ ?_;(with_reducible refine (impl_ValidGroup.calls k _ _ l0_0 _ _ l1 false _ ?side1 ?side2 ?side3 ?side4 A6.out).mono ?_);(case side1=>exact cc_ (Kd.C_below HR0_0.out HB.out));(case side2=>exact HC0_0.out);(case side3=>exact cc_ (Kd.C_below HR1.out HB.out));(case side4=>exact HC1.out);rintro e w14 ⟨rfl,hb⟩;refine ⟨_,rfl,?_⟩;replace BK1:=kb_ BK1 hb;replace HB:=a0_ (below_step hb_ hb);(try clear hb);(try clear hb2);(try clear hk);(try clear hi)))
   go_meet
   case rel=>exact ⟨_,(true),(by first | rfl | (simp;done) | (simp [*];done)),H',⟨by first | omega | exact Nat.le_refl _⟩,⟨by (with_reducible repeat (first | refine blk_drewN ?_ _ | refine blk_drew ?_ | refine blk_alloc ?_ _));exact BK1.out⟩,⟨hb_⟩⟩
 case rest =>
  clear HC4
  try clear c1
  try clear c2
  try clear p2
  try clear c7
  try clear hcz11_0
  try clear hcz13_0
  try clear hcz9_0
  try clear hfz11_0
  try clear hfz13_0
  try clear hfz9_0
  obtain ⟨kq,x23_3,rfl,HA,HJ3,BK1,HB⟩:=hcut
  cases kq with
  | zero=>exact absurd HA.out (by simp [impl_HandleGroup.j0])
  | succ kj3 =>
   have H:=HA.out
   clear HA
   simp only [impl_HandleGroup.j0] at H
   by_cases c15 : x23_3 = true
   ·subst c15
    have H1 : (some (([] : List (List (S47))),([] : List (S47)))) = some (r1,r2):=by rw [if_pos rfl] at H;exact H
    clear H
    have H:=H1
    clear H1
    simp only [Option.some.injEq,Prod.mk.injEq] at H
    obtain ⟨rfl,rfl⟩:=H
    go_wp2
    go_ret2
    exact ⟨_,_,by first | rfl | (simp [errW_none,errW_some] <;> rfl) | (simp [*,errW_none,errW_some] <;> rfl),by first | exact Kd.S_nil _ _ _ _ _ | exact Kd.N_nil _ _ _ _ _ | exact Kd.V_nil _ _ _ _ _ | exact Kd.Q_nil _ _ _ _ _ | exact Kd.R_nil _ _ _ _ _,by first | exact Kd.R_nil _ _ _ _ _ | exact Kd.N_nil _ _ _ _ _ | exact Kd.V_nil _ _ _ _ _ | exact Kd.Q_nil _ _ _ _ _ | exact Kd.S_nil _ _ _ _ _,hb_⟩
   ·replace c15:=Bool.eq_false_iff.mpr c15
    subst c15
    have H1 : (if 0 ≤ (l2.length : Int) then (if ((l2.length : Int) : Int).toNat ≤ 11728124029610 then ((slices_Clone_Part.f l1).bind fun t7=>((slices_Clip_Part.f t7).bind fun t10=>(impl_HandleGroup.l0 kj3 (([] : List (List (S47)))) t10 l2 (l2.length : Int) 0 l0_0))) else (none)) else (none)) = some (r1,r2):=by rw [if_neg (show ¬ (false = true) by decide)] at H;exact H
    clear H
    have H:=H1
    clear H1
    by_cases c16 : 0 ≤ (l2.length : Int)
    ·rw [if_pos c16] at H
     have c16b0:=eq_true c16
     have c16b1 : decide (0 ≤ (l2.length : Int)) = true:=decide_eq_true c16
     clear c16
     by_cases c17 : ((l2.length : Int) : Int).toNat ≤ 11728124029610
     ·rw [if_pos c17] at H
      have c17b0:=eq_true c17
      have c17b1 : decide (((l2.length : Int) : Int).toNat ≤ 11728124029610) = true:=decide_eq_true c17
      clear c17
      obtain ⟨y4,hy4⟩ : ∃ y_ : List (List (S47)),y_ = (([] : List (List (S47)))):=⟨_,rfl⟩
      replace H : ((slices_Clone_Part.f l1).bind fun t7=>((slices_Clip_Part.f t7).bind fun t10=>(impl_HandleGroup.l0 kj3 y4 t10 l2 (l2.length : Int) 0 l0_0))) = some (r1,r2):=by first | (rw [hy4];with_reducible exact H) | (have H2_:=(Option.bind_some _ _).symm.trans H;rw [hy4];with_reducible exact H2_) | (have H2_:=(Option.bind_some _ _).symm.trans H;with_reducible exact H2_) | with_reducible exact H | (rw [hy4];exact H) | exact H
      have Ny4:=a0_ hy4
      clear hy4
      replace H:=Option.bind_eq_some_iff.mp H
      obtain ⟨t7,A180,H⟩:=H
      try dsimp only at H
      have A18:=a0_ A180
      clear A180
      replace H:=Option.bind_eq_some_iff.mp H
      obtain ⟨t10,A190,H⟩:=H
      try dsimp only at H
      have A19:=a0_ A190
      clear A190
      have H':=a0_ H
      clear H
      go_wp2_with (first | ((with_reducible refine gate_dst (N:=26) rfl ?_);refine Kd.S_make0 (Kd.slice 47 k47) _ 26 rfl (N:=26) rfl 52 _ _ rfl (l2.length : Int) rfl rfl Try.underlying52 (.slice none 0 0) 24 info26 rfl (by decide) (by omega) [] (ok:=fun _=>True) (okp:=fun _=>True) ⟨_,rfl,Kd.R_nil _ _ _ _ _⟩ (fun _ hk=>hk) trivial (of_decide_eq_true (by first | (with_reducible assumption) | assumption)) (Nat.le_trans (Nat.mul_le_mul_right _ (of_decide_eq_true (by first | (with_reducible assumption) | assumption) : (l2.length : Int).toNat ≤ 11728124029610)) (by omega)) (Below.refl _ _) (Nat.le_refl _) ?_;intro v5 w20 ho21 hb hg_ hnew_;clear hg_ hnew_;(first | rw [← Ny4.out] at ho21 | (simp only [Int.reduceToNat] at ho21;rw [← Ny4.out] at ho21));have HO6:=a0_ (Kd.S_lower ho21 (below_size hb_));replace BK1:=kb_ BK1 hb;replace HB:=a0_ (below_step hb_ hb);clear hb ho21) | ((with_reducible refine gate_callee (f:=38) rfl ?_);refine goesL_ (some 28) rfl rfl Try.func38 (by kernel_rfl) rfl #[.slice A1 l1.length c1] rfl lm_ ?_;(with_reducible refine (slices_Clone_Part.calls _ _ l1 t7 _ ?side1 ?side2 A18.out).mono ?_);(case side1=>exact cc_ (Kd.C_below HR1.out HB.out));(case side2=>exact HC1.out);rintro e w22 ⟨v8,rfl,ho0,hb⟩;refine ⟨_,rfl,?_⟩;replace HO6:=a0_ (Kd.S_elder' (by (with_reducible repeat (first | apply Kd.S_alloc | apply Kd.S_drewN | apply Kd.S_drew));exact HO6.out) (Kd.R_base ho0) hb);have HO9:=a0_ (Kd.R_lower ho0 (below_size hb_));replace BK1:=kb_ BK1 hb;replace HB:=a0_ (below_step hb_ hb);(try clear hb);(try clear ho0);obtain ⟨Ao23,co23,eo23⟩:=Kd.R_slice HO9.out;subst eo23) | ((with_reducible refine gate_callee (f:=39) rfl ?_);refine goesL_ (some 29) rfl rfl Try.func39 (by kernel_rfl) rfl #[.slice Ao23 t7.length co23] rfl lm_ ?_;(with_reducible refine (slices_Clip_Part.calls (fun k_=>some k_ = (.slice Ao23 t7.length co23 : Value).ownBlock) (.slice Ao23 t7.length co23) t7 t10 w _ ?side1 ?side2 A19.out).mono ?_);(case side1=>exact hb_);(case side2=>exact Kd.R_tight rfl HO9.out);rintro e w24 ⟨v11,rfl,ho0,hb,hkp⟩;refine ⟨_,rfl,?_⟩;replace BK1:=a0_ (blk_kept (bb_ BK1.out) hkp (fun hs_=>(fun e_=>(Kd.R_ne HO9.out BK1.out (by decide)) e_) hs_));replace HO6:=a0_ (Kd.S_mono (ok':=fun k_=>some k_ ≠ (v11 : Value).ownBlock) (Kd.S_keptB (HO6.out) hkp (fun k_ hk_ hs_=>(hk_.2) hs_)) (fun k_ hk_=>fun e_=>Or.elim (ho0.1 k_ e_.symm) (fun hs_=>hk_.2.1 hs_) (fun hn_=>Nat.not_le.2 hk_.2.2 hn_)));have HO12:=a0_ (Kd.R_mono (ok':=fun k_=>True) ho0 (fun k_ hk_=>trivial));replace HB:=a0_ (hb);clear HO9;(try clear hb);(try clear hkp);(try clear ho0)))
      go_loopg [8,9,32] kj3 (fun kq v8 v9 v32 w'=>∃ (x8_2 : List (List (S47))) (x9_2 : List (S47)) (x32_2 : Int),v32 = .int .i64 x32_2 ∧ Aside0 (impl_HandleGroup.l0 kq x8_2 x9_2 l2 (l2.length : Int) x32_2 l0_0 = some (r1,r2)) ∧ Aside0 (kq ≤ kj3) ∧ Aside0 (Kd.S (Kd.slice 47 k47) 26 w' w.heap.size (fun k_=>some k_ ≠ (v9 : Value).ownBlock) v8 x8_2) ∧ Aside0 (Kd.R k47 47 w' w.heap.size (fun _=>True) v9 x9_2) ∧ Aside0 (w'.heap[gb1]? = some (.cells #[(.slice A0_0 l0_0.length c0_0)] 25 (0,0))) ∧ Aside0 (Below w.heap.size w w'))
      case atStart=>exact ⟨(y4),(t10),(0),(by first | rfl | (simp;done) | (simp [*];done)),H',⟨Nat.le_refl _⟩,⟨by (with_reducible repeat (first | apply Kd.S_alloc | apply Kd.S_drewN | apply Kd.S_drew));exact HO6.out⟩,⟨by (with_reducible repeat (first | apply Kd.R_alloc | apply Kd.R_drewN | apply Kd.R_drew));exact HO12.out⟩,⟨by (with_reducible repeat (first | refine blk_drewN ?_ _ | refine blk_drew ?_ | refine blk_alloc ?_ _));exact BK1.out⟩,⟨hb_⟩⟩
      case round =>
       clear H'
       try clear c1
       try clear c2
       try clear p2
       try clear c3
       try clear c7
       try clear c15
       try clear c16
       try clear c16b0
       try clear c16b1
       try clear c17
       try clear c17b0
       try clear c17b1
       try clear hcz11_0
       try clear hcz13_0
       try clear hcz9_0
       try clear hfz11_0
       try clear hfz13_0
       try clear hfz9_0
       try clear p2
       obtain ⟨x8_2,x9_2,x32_2,rfl,HA,HK2,HO_8,HO_9,BK1,HB⟩:=hrel
       cases gk with
       | zero=>exact absurd HA.out (by simp [impl_HandleGroup.l0])
       | succ k2 =>
        have H:=HA.out
        clear HA
        simp only [impl_HandleGroup.l0] at H
        by_cases c25 : x32_2 < (l2.length : Int)
        ·rw [if_pos c25] at H
         have c25b0 : decide (x32_2 < (l2.length : Int)) = true:=decide_eq_true c25
         clear c25
         by_cases c26 : 0 ≤ x32_2
         ·rw [if_pos c26] at H
          have c26b0 : decide (0 ≤ x32_2) = true:=decide_eq_true c26
          clear c26
          by_cases c27 : x32_2 < (l2.length : Int)
          ·rw [if_pos c27] at H
           have c27b0 : decide (x32_2 < (l2.length : Int)) = true:=decide_eq_true c27
           clear c27
           replace H:=Option.bind_eq_some_iff.mp H
           obtain ⟨⟨t14,t17⟩,A280,H⟩:=H
           try dsimp only at H
           have A28:=a0_ A280
           clear A280
           by_cases c29 : x8_2.length < 5864062014805
           ·rw [if_pos c29] at H
            have LMc29:=a0_ c29
            clear c29
            obtain ⟨y20,hy20⟩ : ∃ y_ : List (List (S47)),y_ = (x8_2 ++ [t14]):=⟨_,rfl⟩
            replace H : (impl_HandleGroup.l0 k2 y20 t17 l2 (l2.length : Int) (wrap64 (x32_2 + 1)) l0_0) = some (r1,r2):=by first | (rw [hy20];with_reducible exact H) | (have H2_:=(Option.bind_some _ _).symm.trans H;rw [hy20];with_reducible exact H2_) | (have H2_:=(Option.bind_some _ _).symm.trans H;with_reducible exact H2_) | with_reducible exact H | (rw [hy20];exact H) | exact H
            have Ny20:=a0_ hy20
            clear hy20
            have H':=a0_ H
            clear H
            have p13 : 0 ≤ (x32_2 : Int):=of_decide_eq_true (by first | (with_reducible assumption) | assumption)
            have q13 : x32_2 < (l2.length : Int):=of_decide_eq_true (by first | (with_reducible assumption) | assumption)
            obtain ⟨ad13,e13,hx13_0⟩:=Kd.at_int HR2.out x32_2 p13 q13
            cases e13
            replace hx13_0:=(HB.out.cell (World.block_lt_of_cell? w _ hx13_0)).trans hx13_0
            replace p13:=eq_true p13
            replace q13:=eq_true q13
            have hcz30_0 : wr.cell? ⟨gb1,0,none⟩ = some (.slice A0_0 l0_0.length c0_0):=(blk_cell BK1.out 0).trans rfl
            have hfz30_0:=blk_frozen BK1.out 0
            obtain ⟨Ao31,co31,eo31⟩:=Kd.R_slice HO_9.out
            subst eo31
            go_wp2_with (first | ((with_reducible refine gate_callee (f:=51) rfl ?_);refine goesL_ (some 40) rfl rfl Try.func51 (by kernel_rfl) rfl #[.agg #[.slice A0_0 l0_0.length c0_0],.slice Ao31 x9_2.length co31,.int .i64 (rd l2 x32_2)] rfl lm_ ?_;(with_reducible refine (impl_Tree_split.calls _ _ l0_0 _ _ x9_2 (rd l2 x32_2) t14 t17 _ ?side1 ?side2 ?side3 ?side4 A28.out).mono ?_);(case side1=>exact cc_ (Kd.C_below HR0_0.out HB.out));(case side2=>exact HC0_0.out);(case side3=>exact cc_ (Kd.R_reads' HO_9.out).2.2);(case side4=>exact (Kd.R_reads' HO_9.out).2.1);rintro e w32 ⟨v15,v18,rfl,ho0,ho1,hb⟩;refine ⟨_,rfl,?_⟩;have n0_:=a0_ (Kd.S_mono (Kd.S_told (Kd.S_told (Kd.S_old (by (with_reducible repeat (first | apply Kd.S_alloc | apply Kd.S_drewN | apply Kd.S_drew));exact HO_8.out) hb) (Kd.R_base ho0)) (Kd.R_base ho1)) (fun _ h_=>h_.1));have n1_:=a0_ (Kd.R_mono (Kd.R_told (Kd.R_told (Kd.R_old (rr_ HO_9.out) hb) (Kd.R_base ho0)) (Kd.R_base ho1)) (fun _ h_=>h_.1));have n2_:=a0_ (Kd.R_lower (Kd.R_new' ho0 (Kd.R_lt (rr_ HO_9.out))) (below_size hb_));have n3_:=a0_ (Kd.R_lower (Kd.R_new' ho1 (Kd.R_lt (rr_ HO_9.out))) (below_size hb_));have n4_:=kb_ BK1 hb;have n5_:=a0_ (below_step hb_ hb);clear HO_8 HO_9;clear BK1 HB;have HO_8:=n0_;have HO_9:=n1_;have HO16:=n2_;have HO19:=n3_;have BK1:=n4_;have HB:=n5_;clear n0_ n1_ n2_ n3_ n4_ n5_;(try clear hb);(try clear ho0);(try clear ho1);obtain ⟨Ao34,co34,eo34⟩:=Kd.R_slice HO16.out;subst eo34) | ((with_reducible refine gate_builtin (b:=.append) (xs:=#[.tmp 43,.tmp 45]) rfl ?_);at_builtin;refine Kd.S_append (Kd.slice 47 k47) (w0:=w) w.heap.size rfl (.tmp 43) (.tmp 45) 52 26 (.slice none 0 0) 24 rfl Try.underlying52 info26 rfl (by decide) (by omega) u8 x8_2 t14 [.slice Ao34 t14.length co34] (fun k_=>some k_ ≠ (.slice Ao31 x9_2.length co31 : Value).ownBlock ∧ some k_ ≠ (v18 : Value).ownBlock) (fun k_=>some k_ = (.slice Ao34 t14.length co34 : Value).ownBlock) rfl rfl ?aP (fun k_ hk_=>((Kd.R_mono (ok':=fun k_=>((fun k_=>some k_ ≠ (.slice Ao31 x9_2.length co31 : Value).ownBlock ∧ some k_ ≠ (v18 : Value).ownBlock)) k_ ∧ some k_ ≠ (u8 : Value).ownBlock) (Kd.R_apart' (HO16.out) (Kd.S_typed HO_8.out) (by decide)) (fun k_ hk=>⟨⟨hk.1.2,hk.1.1⟩,hk.2⟩))).1 k_ hk_.symm) ?aF ?aO ?aB ?aS ?aL ?_;(case aP=>exact Kd.M_row (Kd.R_mono (Kd.R_tight rfl (Kd.R_mono (ok':=fun k_=>((fun k_=>some k_ ≠ (.slice Ao31 x9_2.length co31 : Value).ownBlock ∧ some k_ ≠ (v18 : Value).ownBlock)) k_ ∧ some k_ ≠ (u8 : Value).ownBlock) (Kd.R_apart' (HO16.out) (Kd.S_typed HO_8.out) (by decide)) (fun k_ hk=>⟨⟨hk.1.2,hk.1.1⟩,hk.2⟩))) (fun _ h_=>h_)));(case aB=>exact hb_);(case aF=>exact (fun k_ hk=>⟨Kd.fresh' (Kd.R_lt (rr_ HO_9.out)) k_ hk,Kd.fresh' (Kd.R_lt (rr_ HO19.out)) k_ hk⟩));(case aO=>exact (by (with_reducible repeat (first | apply Kd.S_alloc | apply Kd.S_drewN | apply Kd.S_drew));exact Kd.S_mono HO_8.out (fun k_ hk=>⟨⟨hk.1.1,hk.2⟩,fun e_=>hk.1.2 e_⟩)));(case aS=>exact (below_size hb_));(case aL=>have:=LMc29.out;omega);intro v21 w33 ho hb hg hat;rw [← Ny20.out] at ho;replace HO_9:=a0_ (Kd.R_over' (rr_ HO_9.out) (Kd.S_typed (by (with_reducible repeat (first | apply Kd.S_alloc | apply Kd.S_drewN | apply Kd.S_drew));exact HO_8.out)) (by decide) hg);replace BK1:=a0_ (blk_grown (bb_ BK1.out) hg (Kd.S_ne HO_8.out BK1.out (by decide)));replace HO19:=a0_ (Kd.R_over' (rr_ HO19.out) (Kd.S_typed (by (with_reducible repeat (first | apply Kd.S_alloc | apply Kd.S_drewN | apply Kd.S_drew));exact HO_8.out)) (by decide) hg);have HO22:=a0_ (ho);replace HB:=a0_ (hb);clear HO_8 HO16;clear ho hb hg hat))
            go_roundg k2
            case measure=>have:=HJ3.out;have:=HK2.out;omega
            case rel=>exact ⟨(y20),(t17),(wrap64 (x32_2 + 1)),(by first | rfl | (simp;done) | (simp [*];done)),H',⟨by have:=HJ3.out;have:=HK2.out;omega⟩,⟨by (with_reducible repeat (first | apply Kd.S_alloc | apply Kd.S_drewN | apply Kd.S_drew));exact Kd.S_mono HO22.out (fun _ hk=>hk.2)⟩,⟨by (with_reducible repeat (first | apply Kd.R_alloc | apply Kd.R_drewN | apply Kd.R_drew));exact Kd.R_mono HO19.out (fun _ hk=>trivial)⟩,⟨by (with_reducible repeat (first | refine blk_drewN ?_ _ | refine blk_drew ?_ | refine blk_alloc ?_ _));exact BK1.out⟩,⟨hb_⟩⟩
           ·rw [if_neg c29] at H
            exact absurd H (by simp)
          ·rw [if_neg c27] at H
           exact absurd H (by simp)
         ·rw [if_neg c26] at H
          exact absurd H (by simp)
        ·rw [if_neg c25] at H
         have c25b0 : decide (x32_2 < (l2.length : Int)) = false:=decide_eq_false c25
         clear c25
         simp only [Option.some.injEq,Prod.mk.injEq] at H
         obtain ⟨rfl,rfl⟩:=H
         go_wp2
         go_ret2
         exact ⟨_,_,by first | rfl | (simp [errW_none,errW_some] <;> rfl) | (simp [*,errW_none,errW_some] <;> rfl),by (with_reducible repeat (first | apply Kd.S_alloc | apply Kd.S_drewN | apply Kd.S_drew));exact HO_8.out,by (with_reducible repeat (first | apply Kd.R_alloc | apply Kd.R_drewN | apply Kd.R_drew));exact HO_9.out,hb_⟩
     ·rw [if_neg c17] at H
      exact absurd H (by simp)
    ·rw [if_neg c16] at H
     exact absurd H (by simp)
theorem impl_HandleGroup_l0 {t : List Cls} (hv : vT t = true) (l : List Int) (hl : l.length ≤ 1000) : ∀ (d j : Nat) (out : List (List Prt)) (g : List Prt),j + d = l.length → out.length ≤ j → lfOk t g → g.length ≤ 1048576 → Ev (fun k=>impl_HandleGroup.l0 k out g l (l.length : Int) (j : Int) t) (out ++ takP t (l.drop j) g,lefP t (l.drop j) g):=by
 intro d
 induction d with
 | zero =>
  intro j out g hj ho hg hgl
  refine Ev.succ ?_
  simp only [impl_HandleGroup.l0]
  rw [List.drop_eq_nil_of_le (by omega)]
  exact Ev.neg (by omega) (Ev.const (by simp [takP,lefP]))
 | succ d ih =>
  intro j out g hj ho hg hgl
  refine Ev.succ ?_
  have hlt : j < l.length:=by omega
  have hr : rd l (j : Int) = l[j]:=by simp [rd,hlt]
  have hs:=impl_Tree_split_ev t g l[j] hv hg hgl
  rw [selN_selR,selN_selR] at hs
  have hsub:=selR_sub (fun q=>isA t q.f2 l[j] == false) g
  have hi:=ih (j + 1) (out ++ [selR (fun q=>isA t q.f2 l[j] == true) g]) (selR (fun q=>isA t q.f2 l[j] == false) g) (by omega) (by simp;omega) (fun p hp h1=>hg p (hsub.subset hp) h1) (Nat.le_trans hsub.length_le hgl)
  simp only [impl_HandleGroup.l0,hr]
  rw [wrap_succ (i:=(j : Int)) (n:=l.length) (by omega) (by omega) (by omega),List.drop_eq_getElem_cons hlt,takP,lefP]
  rw [List.append_assoc,List.singleton_append] at hi
  exact Ev.pos (by omega) (Ev.pos (by omega) (Ev.pos (by omega) (Ev.bind (Ev.const hs) (Ev.pos (by omega) hi))))
theorem impl_HandleGroup_ev (t : List Cls) (g : List Prt) (l : List Int) (hs : smT t = true) (ht : t.length ≤ 9223372036854775807) (hl : l.length ≤ 1000) (hg : g.length ≤ 1048576) : Ev (fun k=>impl_HandleGroup.f k t g l) (hanP t g l):=by
 have no : Ev (fun k=>impl_HandleGroup.j0 k g l true t) ([],[]):=by
  refine Ev.succ ?_
  simp only [impl_HandleGroup.j0]
  exact Ev.pos trivial (Ev.const rfl)
 refine Ev.bind (impl_ValidGroup_ev t g ht (by omega) hs) ?_
 unfold hanP
 cases hv : vG t g with
 | false=>exact Ev.neg (by simp) no
 | true =>
  refine Ev.pos rfl (Ev.bind (Ev.const (impl_catchesOk_ev t l hs)) ?_)
  cases hk : okCat t l with
  | false=>exact no
  | true =>
   have hT:=(vG_tree hv).1
   rw [Bool.true_and,if_pos rfl]
   refine Ev.succ ?_
   simp only [impl_HandleGroup.j0]
   have hcl : slices_Clone_Part.f g = some g:=by rw [slices_Clone_Part.f,if_pos (by omega)]
   exact Ev.neg (by simp) (Ev.pos (by omega) (Ev.pos (by omega) (Ev.bind (Ev.const hcl) (Ev.bind (Ev.const (slices_Clip_Part_ev g)) (impl_HandleGroup_l0 hT l hl l.length 0 [] g (by omega) (by simp) (fun p hp h1=>(vG_leaf hv p hp h1).2) hg)))))
end Go.Proofs.Ytfphcdbnnienhaa.P
namespace Go.Proofs.Ytfphcdbnnienhaa.P
open Go.RowKit Go.Proofs.YtfphcdbnnienhaaW.PrintWords Go.Proofs.YtfphcdbnnienhaaW.PrintLast Go.Proofs.YtfphcdbnnienhaaW.PrintMore
attribute [local go_sem] max2_int min2_int max_two min_two max_three min_three max_four min_four
set_option linter.unusedVariables false
set_option linter.unusedSimpArgs false
def spec_inRange.f (a0 : Int) (a1 : Int) (a2 : Int) : Option (Bool):=if a1 ≤ a0 then (some (decide (a0 ≤ a2))) else (some false)
set_option maxHeartbeats 8000000 in
set_option maxRecDepth 100000 in
theorem spec_inRange.calls (a0 : Int) (a1 : Int) (a2 : Int) (r : Bool) (w : World) (h : spec_inRange.f a0 a1 a2 = some r) :
  Calls Try.prog 65 #[.int .i64 a0,.int .i64 a1,.int .i64 a2] w fun e w'=>e = .returned (.bool r) ∧ Drawn0 w w':=by
 have H : (if a1 ≤ a0 then (some (decide (a0 ≤ a2))) else (some false)) = some r:=h
 clear h
 by_cases c4 : a1 ≤ a0
 ·rw [if_pos c4] at H
  have c4b0 : decide (a1 ≤ a0) = true:=decide_eq_true c4
  clear c4
  obtain rfl:=Option.some.inj H
  go_enter Try.func65,Try.ntmps65
  go_wp2
  go_ret
  exact ⟨by first | rfl | (simp;done) | (simp [*];done),by repeat (first | exact Drawn0.refl _ | apply Drawn0.step)⟩
 ·rw [if_neg c4] at H
  have c4b0 : decide (a1 ≤ a0) = false:=decide_eq_false c4
  clear c4
  obtain rfl:=Option.some.inj H
  go_enter Try.func65,Try.ntmps65
  go_wp2
  go_ret
  exact ⟨by first | rfl | (simp;done) | (simp [*];done),by repeat (first | exact Drawn0.refl _ | apply Drawn0.step)⟩
theorem spec_inRange_ev (a b c : Int) : spec_inRange.f a b c = some (decide (b ≤ a) && decide (a ≤ c)):=by
 unfold spec_inRange.f
 by_cases h : b ≤ a
 ·rw [if_pos h];simp [h]
 ·rw [if_neg h];simp [h]
end Go.Proofs.Ytfphcdbnnienhaa.P
namespace Go.Proofs.Ytfphcdbnnienhaa.P
open Go.RowKit Go.Proofs.YtfphcdbnnienhaaW.PrintWords Go.Proofs.YtfphcdbnnienhaaW.PrintLast Go.Proofs.YtfphcdbnnienhaaW.PrintMore
attribute [local go_sem] max2_int min2_int max_two min_two max_three min_three max_four min_four
set_option linter.unusedVariables false
set_option linter.unusedSimpArgs false
def spec_hasClass.f (l0_0 : List (S85)) (a1 : Int) : Option (Bool):=(spec_inRange.f a1 0 (wrap64 ((l0_0.length : Int) - 1))).bind fun t2=>(some t2)
set_option maxHeartbeats 8000000 in
set_option maxRecDepth 100000 in
theorem spec_hasClass.calls (A0_0 : Option Addr) (c0_0 : Nat) (l0_0 : List (S85)) (a1 : Int) (r : Bool) (w : World) (hr0_0 : Kd.C k85 w A0_0 l0_0.length l0_0) (hc0_0 : l0_0.length ≤ c0_0) (h : spec_hasClass.f l0_0 a1 = some r) :
  Calls Try.prog 48 #[.agg #[.slice A0_0 l0_0.length c0_0],.int .i64 a1] w fun e w'=>e = .returned (.bool r) ∧ Below w.heap.size w w':=by
 have hu25:=Try.underlying25
 have HR0_0:=a0_ hr0_0
 have HC0_0:=a0_ hc0_0
 clear hr0_0 hc0_0
 have HB:=a0_ (Below.refl w.heap.size w)
 have H : ((spec_inRange.f a1 0 (wrap64 ((l0_0.length : Int) - 1))).bind fun t2=>(some t2)) = some r:=h
 clear h
 replace H:=Option.bind_eq_some_iff.mp H
 obtain ⟨t2,A30,H⟩:=H
 replace H : (some t2) = some r:=H
 have A3:=a0_ A30
 clear A30
 obtain rfl:=Option.some.inj H
 go_enter Try.func48,Try.ntmps48
 go_wp2_with (first | ((with_reducible refine gate_dst (N:=2) rfl ?_);refine box_event ?hg (N:=2) ?hd (cs:=#[.slice A0_0 l0_0.length c0_0]) (t:=25) ?hr ?_;(case hd=>rfl);(case hg=>rfl);(case hr=>first | (go_simp;done) | (go_simp;rfl));intro gb1 hg w4 hbox hb;have BK1:=a0_ (hbox);have GW1:=a0_ ((by rw [hg];exact (below_size hb_) : w.heap.size ≤ gb1));have GE1:=a0_ ((by rw [hg];exact (below_size hb_) : w.heap.size ≤ gb1));replace HB:=a0_ (below_step hb_ hb);clear hb hbox hg;have hcz5_0 : w4.cell? ⟨gb1,0,none⟩ = some (.slice A0_0 l0_0.length c0_0):=(blk_cell BK1.out 0).trans rfl;have hfz5_0:=blk_frozen BK1.out 0) | ((with_reducible refine gate_callee (f:=65) rfl ?_);refine goesL_ (some 10) rfl rfl Try.func65 (by kernel_rfl) rfl #[.int .i64 a1,.int .i64 0,.int .i64 (wrap64 ((l0_0.length : Int) - 1))] rfl lm_ ?_;(with_reducible refine (spec_inRange.calls a1 0 (wrap64 ((l0_0.length : Int) - 1)) t2 _ A3.out).mono ?_);rintro e w' ⟨rfl,⟨nd,rfl⟩⟩;refine ⟨_,rfl,?_⟩))
 go_ret
 exact ⟨by first | rfl | (simp [errW_none,errW_some] <;> rfl) | (simp [*,errW_none,errW_some] <;> rfl),hb_⟩
theorem spec_hasClass_ev (t : List Cls) (a : Int) (hl : t.length ≤ 9223372036854775807) : spec_hasClass.f t a = some (hasC t a):=by
 unfold spec_hasClass.f spec_inRange.f hasC
 rw [wrap_pred (by omega) (by omega)]
 by_cases h0 : 0 ≤ a
 ·rw [if_pos h0]
  simp only [Option.bind_some,Option.some.injEq,decide_eq_true h0,Bool.true_and]
  by_cases h1 : a < (t.length : Int)
  ·rw [decide_eq_true h1,decide_eq_true (by omega)]
  ·rw [decide_eq_false h1,decide_eq_false (by omega)]
 ·rw [if_neg h0]
  simp [decide_eq_false h0]
end Go.Proofs.Ytfphcdbnnienhaa.P
namespace Go.Proofs.Ytfphcdbnnienhaa.P
open Go.RowKit Go.Proofs.YtfphcdbnnienhaaW.PrintWords Go.Proofs.YtfphcdbnnienhaaW.PrintLast Go.Proofs.YtfphcdbnnienhaaW.PrintMore
attribute [local go_sem] max2_int min2_int max_two min_two max_three min_three max_four min_four
set_option linter.unusedVariables false
set_option linter.unusedSimpArgs false
def spec_endOf.l0 : Nat → List (S47) → Int → Int → Option (Int)
 | 0,_,_,_=>none
 | k + 1,x0,x1,x5=>if x5 < (x0.length : Int) then (if 0 ≤ x5 then (if 0 ≤ x1 then (if x1 < (x0.length : Int) then (if ((rd_T47 x0 x5).f0) > ((rd_T47 x0 x1).f0) then (spec_endOf.l0 k x0 x1 (wrap64 (x5 + 1))) else (some x5)) else (none)) else (none)) else (none)) else (some x5)
def spec_endOf.f (k : Nat) (l0 : List (S47)) (a1 : Int) : Option (Int):=spec_endOf.l0 k l0 a1 (wrap64 (a1 + 1))
theorem spec_endOf.mono_l : ∀ k,(∀ y0 y1 y2,LeO (spec_endOf.l0 k y0 y1 y2) (spec_endOf.l0 (k + 1) y0 y1 y2))
 | 0=>fun _ _ _ r h=>by simp [spec_endOf.l0] at h
 | k + 1=>by
  have ih0:=spec_endOf.mono_l k
  ·intro y0 y1 y2
   unfold spec_endOf.l0
   repeat' first
   | (with_reducible exact ih0 _ _ _)
   | (with_reducible exact LeO.refl _)
   | (with_reducible exact LeO.none _)
   | (with_reducible refine LeO.ite ?_ ?_)
   | (with_reducible refine LeO.bind ?_ (fun _=>?_))
   | exact ih0 _ _ _
   | exact LeO.none _
   | refine LeO.ite ?_ ?_
   | refine LeO.bind ?_ (fun _=>?_)
theorem spec_endOf.mono : ∀ a0 a1 k,LeO (spec_endOf.f k a0 a1) (spec_endOf.f (k + 1) a0 a1):=by
 intro a0 a1 k
 have ih0:=spec_endOf.mono_l k
 unfold spec_endOf.f
 repeat' first
   | (with_reducible exact ih0 _ _ _)
   | (with_reducible exact LeO.refl _)
   | (with_reducible exact LeO.none _)
   | (with_reducible refine LeO.ite ?_ ?_)
   | (with_reducible refine LeO.bind ?_ (fun _=>?_))
   | exact ih0 _ _ _
   | exact LeO.none _
   | refine LeO.ite ?_ ?_
   | refine LeO.bind ?_ (fun _=>?_)
set_option maxHeartbeats 8000000 in
set_option maxRecDepth 100000 in
theorem spec_endOf.calls (k : Nat) (A0 : Option Addr) (c0 : Nat) (l0 : List (S47)) (a1 : Int) (r : Int) (w : World) (hr0 : Kd.C k47 w A0 l0.length l0) (hc0 : l0.length ≤ c0) (h : spec_endOf.f k l0 a1 = some r) :
  Calls Try.prog 66 #[.slice A0 l0.length c0,.int .i64 a1] w fun e w'=>e = .returned (.int .i64 r) ∧ Drawn0 w w':=by
 have HR0:=a0_ hr0
 have HC0:=a0_ hc0
 clear hr0 hc0
 have H : (spec_endOf.l0 k l0 a1 (wrap64 (a1 + 1))) = some r:=h
 clear h
 have H':=a0_ H
 clear H
 go_enter Try.func66,Try.ntmps66
 go_wp2
 repeat (go_quiet (fail);try go_wp2)
 go_loopg [5] k (fun kq v5 w'=>∃ (x5_1 : Int),v5 = .int .i64 x5_1 ∧ Aside0 (spec_endOf.l0 kq l0 a1 x5_1 = some r) ∧ Aside0 (kq ≤ k) ∧ Drawn0 w w')
 case atStart=>exact ⟨(wrap64 (a1 + 1)),(by first | rfl | (simp;done) | (simp [*];done)),H',⟨Nat.le_refl _⟩,by repeat (first | exact Drawn0.refl _ | apply Drawn0.step)⟩
 case round =>
  clear H'
  try clear p2
  obtain ⟨x5_1,rfl,HA,HK1,⟨m1,rfl⟩⟩:=hrel
  cases gk with
  | zero=>exact absurd HA.out (by simp [spec_endOf.l0])
  | succ k1 =>
   have H:=HA.out
   clear HA
   simp only [spec_endOf.l0] at H
   by_cases c3 : x5_1 < (l0.length : Int)
   ·rw [if_pos c3] at H
    have c3b0 : decide (x5_1 < (l0.length : Int)) = true:=decide_eq_true c3
    clear c3
    by_cases c4 : 0 ≤ x5_1
    ·rw [if_pos c4] at H
     have c4b0 : decide (0 ≤ x5_1) = true:=decide_eq_true c4
     clear c4
     by_cases c5 : 0 ≤ a1
     ·rw [if_pos c5] at H
      have c5b0 : decide (0 ≤ a1) = true:=decide_eq_true c5
      clear c5
      by_cases c6 : a1 < (l0.length : Int)
      ·rw [if_pos c6] at H
       have c6b0 : decide (a1 < (l0.length : Int)) = true:=decide_eq_true c6
       clear c6
       by_cases c7 : ((rd_T47 l0 x5_1).f0) > ((rd_T47 l0 a1).f0)
       ·rw [if_pos c7] at H
        have c7b0 : decide (((rd_T47 l0 a1).f0) < ((rd_T47 l0 x5_1).f0)) = true:=decide_eq_true c7
        clear c7
        have H':=a0_ H
        clear H
        have p1 : 0 ≤ (x5_1 : Int):=of_decide_eq_true (by first | (with_reducible assumption) | assumption)
        have q1 : x5_1 < (l0.length : Int):=of_decide_eq_true (by first | (with_reducible assumption) | assumption)
        obtain ⟨ad1,e1,hx1_0,hx1_1,hx1_2,hx1_3⟩:=at_T47 HR0.out x5_1 p1 q1
        cases e1
        replace p1:=eq_true p1
        replace q1:=eq_true q1
        have p2 : 0 ≤ (a1 : Int):=of_decide_eq_true (by first | (with_reducible assumption) | assumption)
        have q2 : a1 < (l0.length : Int):=of_decide_eq_true (by first | (with_reducible assumption) | assumption)
        obtain ⟨ad2,e2,hx2_0,hx2_1,hx2_2,hx2_3⟩:=at_T47 HR0.out a1 p2 q2
        obtain rfl : ad1 = ad2:=(by injection e2)
        replace p2:=eq_true p2
        replace q2:=eq_true q2
        go_wp2
        repeat (go_quiet (fail);try go_wp2)
        go_roundg k1
        case measure=>have:=HK1.out;omega
        case rel=>exact ⟨(wrap64 (x5_1 + 1)),(by first | rfl | (simp;done) | (simp [*];done)),H',⟨by have:=HK1.out;omega⟩,by repeat (first | exact Drawn0.refl _ | apply Drawn0.step)⟩
       ·rw [if_neg c7] at H
        have c7b0 : decide (((rd_T47 l0 a1).f0) < ((rd_T47 l0 x5_1).f0)) = false:=decide_eq_false c7
        clear c7
        obtain rfl:=Option.some.inj H
        have p1 : 0 ≤ (x5_1 : Int):=of_decide_eq_true (by first | (with_reducible assumption) | assumption)
        have q1 : x5_1 < (l0.length : Int):=of_decide_eq_true (by first | (with_reducible assumption) | assumption)
        obtain ⟨ad1,e1,hx1_0,hx1_1,hx1_2,hx1_3⟩:=at_T47 HR0.out x5_1 p1 q1
        cases e1
        replace p1:=eq_true p1
        replace q1:=eq_true q1
        have p2 : 0 ≤ (a1 : Int):=of_decide_eq_true (by first | (with_reducible assumption) | assumption)
        have q2 : a1 < (l0.length : Int):=of_decide_eq_true (by first | (with_reducible assumption) | assumption)
        obtain ⟨ad2,e2,hx2_0,hx2_1,hx2_2,hx2_3⟩:=at_T47 HR0.out a1 p2 q2
        obtain rfl : ad1 = ad2:=(by injection e2)
        replace p2:=eq_true p2
        replace q2:=eq_true q2
        go_wp2
        repeat (go_quiet (fail);try go_wp2)
        go_ret
        exact ⟨by first | rfl | (simp;done) | (simp [*];done),by repeat (first | exact Drawn0.refl _ | apply Drawn0.step)⟩
      ·rw [if_neg c6] at H
       exact absurd H (by simp)
     ·rw [if_neg c5] at H
      exact absurd H (by simp)
    ·rw [if_neg c4] at H
     exact absurd H (by simp)
   ·rw [if_neg c3] at H
    have c3b0 : decide (x5_1 < (l0.length : Int)) = false:=decide_eq_false c3
    clear c3
    obtain rfl:=Option.some.inj H
    go_wp2
    repeat (go_quiet (fail);try go_wp2)
    go_ret
    exact ⟨by first | rfl | (simp;done) | (simp [*];done),by repeat (first | exact Drawn0.refl _ | apply Drawn0.step)⟩
theorem spec_endOf_ev (g : List Prt) (i : Nat) (hi : i < g.length) (hl : g.length ≤ 9223372036854775807) : Ev (fun k=>spec_endOf.f k g (i : Int)) ((endG g i : Nat) : Int):=by
 have key : ∀ d j,j + d = g.length → Ev (fun k=>spec_endOf.l0 k g (i : Int) (j : Int)) ((j + ((g.drop j).takeWhile (fun p=>decide ((g.getD i z47).f0 < p.f0))).length : Nat) : Int):=by
  intro d
  induction d with
  | zero =>
   intro j hj
   rw [List.drop_eq_nil_of_le (by omega)]
   refine Ev.succ (Ev.congr (F:=fun _=>some ((j : Nat) : Int)) (Ev.const rfl) (fun k=>?_))
   simp only [spec_endOf.l0]
   rw [if_neg (by omega)]
  | succ d ih =>
   intro j hj
   have hlt : j < g.length:=by omega
   have hrd : rd_T47 g (j : Int) = g[j]:=by simp [rd_T47,hlt]
   have hri : rd_T47 g (i : Int) = g.getD i z47:=by simp [rd_T47]
   rw [List.drop_eq_getElem_cons hlt,List.takeWhile_cons]
   refine Ev.succ (Ev.congr (F:=fun k=>if (g.getD i z47).f0 < g[j].f0 then spec_endOf.l0 k g (i : Int) ((j + 1 : Nat) : Int) else some (j : Int)) ?_ (fun k=>?_))
   ·by_cases h : (g.getD i z47).f0 < g[j].f0
    ·refine Ev.pos h ?_
     rw [decide_eq_true h,if_pos rfl,List.length_cons]
     have:=ih (j + 1) (by omega)
     rw [show j + 1 + ((g.drop (j + 1)).takeWhile (fun p=>decide ((g.getD i z47).f0 < p.f0))).length = j + (((g.drop (j + 1)).takeWhile (fun p=>decide ((g.getD i z47).f0 < p.f0))).length + 1) by omega] at this
     exact this
    ·refine Ev.neg h ?_
     rw [decide_eq_false h,if_neg (by simp)]
     exact Ev.const rfl
   ·simp only [spec_endOf.l0]
    rw [if_pos (by omega),if_pos (by omega),if_pos (by omega),if_pos (by omega),hrd,hri,wrap_succ (i:=(j : Int)) (n:=g.length) (by omega) (by omega) (by omega)]
    rfl
 have:=key (g.length - (i + 1)) (i + 1) (by omega)
 refine Ev.congr this (fun k=>?_)
 unfold spec_endOf.f
 rw [wrap_succ (i:=(i : Int)) (n:=g.length) (by omega) (by omega) (by omega)]
 rfl
end Go.Proofs.Ytfphcdbnnienhaa.P
namespace Go.Proofs.Ytfphcdbnnienhaa.P
open Go.RowKit Go.Proofs.YtfphcdbnnienhaaW.PrintWords Go.Proofs.YtfphcdbnnienhaaW.PrintLast Go.Proofs.YtfphcdbnnienhaaW.PrintMore
attribute [local go_sem] max2_int min2_int max_two min_two max_three min_three max_four min_four
set_option linter.unusedVariables false
set_option linter.unusedSimpArgs false
def spec_validName.l0 : Nat → ByteArray → Int → Option (Bool)
 | 0,_,_=>none
 | k + 1,x0,x3=>if x3 < (x0.size : Int) then (if 0 ≤ x3 then (if (bt x0 x3) < 97 then (some false) else (if (bt x0 x3) > 122 then (some false) else (spec_validName.l0 k x0 (wrap64 (x3 + 1))))) else (none)) else ((spec_inRange.f (x0.size : Int) 1 6).bind fun t1=>(some t1))
def spec_validName.f (k : Nat) (a0 : ByteArray) : Option (Bool):=spec_validName.l0 k a0 0
theorem spec_validName.mono_l : ∀ k,(∀ y0 y1,LeO (spec_validName.l0 k y0 y1) (spec_validName.l0 (k + 1) y0 y1))
 | 0=>fun _ _ r h=>by simp [spec_validName.l0] at h
 | k + 1=>by
  have ih0:=spec_validName.mono_l k
  ·intro y0 y1
   unfold spec_validName.l0
   repeat' first
   | (with_reducible exact ih0 _ _)
   | (with_reducible exact LeO.refl _)
   | (with_reducible exact LeO.none _)
   | (with_reducible refine LeO.ite ?_ ?_)
   | (with_reducible refine LeO.bind ?_ (fun _=>?_))
   | exact ih0 _ _
   | exact LeO.none _
   | refine LeO.ite ?_ ?_
   | refine LeO.bind ?_ (fun _=>?_)
theorem spec_validName.mono : ∀ a0 k,LeO (spec_validName.f k a0) (spec_validName.f (k + 1) a0):=by
 intro a0 k
 have ih0:=spec_validName.mono_l k
 unfold spec_validName.f
 repeat' first
   | (with_reducible exact ih0 _ _)
   | (with_reducible exact LeO.refl _)
   | (with_reducible exact LeO.none _)
   | (with_reducible refine LeO.ite ?_ ?_)
   | (with_reducible refine LeO.bind ?_ (fun _=>?_))
   | exact ih0 _ _
   | exact LeO.none _
   | refine LeO.ite ?_ ?_
   | refine LeO.bind ?_ (fun _=>?_)
set_option maxHeartbeats 8000000 in
set_option maxRecDepth 100000 in
theorem spec_validName.calls (k : Nat) (a0 : ByteArray) (r : Bool) (w : World) (h : spec_validName.f k a0 = some r) :
  Calls Try.prog 85 #[.string a0] w fun e w'=>e = .returned (.bool r) ∧ Drawn0 w w':=by
 have H : (spec_validName.l0 k a0 0) = some r:=h
 clear h
 have H':=a0_ H
 clear H
 go_enter Try.func85,Try.ntmps85
 go_wp2
 go_loopg [3] k (fun kq v3 w'=>∃ (x3_1 : Int),v3 = .int .i64 x3_1 ∧ Aside0 (spec_validName.l0 kq a0 x3_1 = some r) ∧ Aside0 (kq ≤ k) ∧ Drawn0 w w')
 case atStart=>exact ⟨(0),(by first | rfl | (simp;done) | (simp [*];done)),H',⟨Nat.le_refl _⟩,by repeat (first | exact Drawn0.refl _ | apply Drawn0.step)⟩
 case round =>
  clear H'
  obtain ⟨x3_1,rfl,HA,HK1,⟨m1,rfl⟩⟩:=hrel
  cases gk with
  | zero=>exact absurd HA.out (by simp [spec_validName.l0])
  | succ k1 =>
   have H:=HA.out
   clear HA
   simp only [spec_validName.l0] at H
   by_cases c2 : x3_1 < (a0.size : Int)
   ·rw [if_pos c2] at H
    have c2b0 : decide (x3_1 < (a0.size : Int)) = true:=decide_eq_true c2
    clear c2
    by_cases c3 : 0 ≤ x3_1
    ·rw [if_pos c3] at H
     have c3b0 : decide (0 ≤ x3_1) = true:=decide_eq_true c3
     clear c3
     by_cases c5 : (bt a0 x3_1) < 97
     ·rw [if_pos c5] at H
      have c5b0 : decide ((bt a0 x3_1) < 97) = true:=decide_eq_true c5
      clear c5
      obtain rfl:=Option.some.inj H
      have p4 : 0 ≤ (x3_1 : Int):=of_decide_eq_true (by first | (with_reducible assumption) | assumption)
      have q4 : x3_1 < (a0.size : Int):=of_decide_eq_true (by first | (with_reducible assumption) | assumption)
      have hx4:=bt_at a0 x3_1
      replace p4:=eq_true p4
      replace q4:=eq_true q4
      go_wp2
      go_ret
      exact ⟨by first | rfl | (simp;done) | (simp [*];done),by repeat (first | exact Drawn0.refl _ | apply Drawn0.step)⟩
     ·rw [if_neg c5] at H
      have c5b0 : decide ((bt a0 x3_1) < 97) = false:=decide_eq_false c5
      clear c5
      by_cases c7 : (bt a0 x3_1) > 122
      ·rw [if_pos c7] at H
       have c7b0 : decide (122 < (bt a0 x3_1)) = true:=decide_eq_true c7
       clear c7
       obtain rfl:=Option.some.inj H
       have p4 : 0 ≤ (x3_1 : Int):=of_decide_eq_true (by first | (with_reducible assumption) | assumption)
       have q4 : x3_1 < (a0.size : Int):=of_decide_eq_true (by first | (with_reducible assumption) | assumption)
       have hx4:=bt_at a0 x3_1
       replace p4:=eq_true p4
       replace q4:=eq_true q4
       have p6 : 0 ≤ (x3_1 : Int):=of_decide_eq_true (by first | (with_reducible assumption) | assumption)
       have q6 : x3_1 < (a0.size : Int):=of_decide_eq_true (by first | (with_reducible assumption) | assumption)
       have hx6:=bt_at a0 x3_1
       replace p6:=eq_true p6
       replace q6:=eq_true q6
       go_wp2
       go_ret
       exact ⟨by first | rfl | (simp;done) | (simp [*];done),by repeat (first | exact Drawn0.refl _ | apply Drawn0.step)⟩
      ·rw [if_neg c7] at H
       have c7b0 : decide (122 < (bt a0 x3_1)) = false:=decide_eq_false c7
       clear c7
       have H':=a0_ H
       clear H
       have p4 : 0 ≤ (x3_1 : Int):=of_decide_eq_true (by first | (with_reducible assumption) | assumption)
       have q4 : x3_1 < (a0.size : Int):=of_decide_eq_true (by first | (with_reducible assumption) | assumption)
       have hx4:=bt_at a0 x3_1
       replace p4:=eq_true p4
       replace q4:=eq_true q4
       have p6 : 0 ≤ (x3_1 : Int):=of_decide_eq_true (by first | (with_reducible assumption) | assumption)
       have q6 : x3_1 < (a0.size : Int):=of_decide_eq_true (by first | (with_reducible assumption) | assumption)
       have hx6:=bt_at a0 x3_1
       replace p6:=eq_true p6
       replace q6:=eq_true q6
       go_wp2
       go_roundg k1
       case measure=>have:=HK1.out;omega
       case rel=>exact ⟨(wrap64 (x3_1 + 1)),(by first | rfl | (simp;done) | (simp [*];done)),H',⟨by have:=HK1.out;omega⟩,by repeat (first | exact Drawn0.refl _ | apply Drawn0.step)⟩
    ·rw [if_neg c3] at H
     exact absurd H (by simp)
   ·rw [if_neg c2] at H
    have c2b0 : decide (x3_1 < (a0.size : Int)) = false:=decide_eq_false c2
    clear c2
    replace H:=Option.bind_eq_some_iff.mp H
    obtain ⟨t1,A80,H⟩:=H
    replace H : (some t1) = some r:=H
    have A8:=a0_ A80
    clear A80
    obtain rfl:=Option.some.inj H
    go_wp2_with (first | ((with_reducible refine gate_callee (f:=65) rfl ?_);refine goesL_ (some 22) rfl rfl Try.func65 (by kernel_rfl) rfl #[.int .i64 (a0.size : Int),.int .i64 1,.int .i64 6] rfl lm_ ?_;(with_reducible refine (spec_inRange.calls (a0.size : Int) 1 6 t1 _ A8.out).mono ?_);rintro e w' ⟨rfl,⟨nd,rfl⟩⟩;refine ⟨_,rfl,?_⟩))
    go_ret
    exact ⟨by first | rfl | (simp;done) | (simp [*];done),by repeat (first | exact Drawn0.refl _ | apply Drawn0.step)⟩
theorem spec_validName_l0 (s : ByteArray) (hs : s.size ≤ 9223372036854775807) (d : Nat) : ∀ (k : Nat) (i : Nat),i ≤ s.size → s.size - i = d → d < k → spec_validName.l0 k s (i : Int) = some ((s.data.toList.drop i).all (fun c=>decide (97 ≤ c.toNat) && decide (c.toNat ≤ 122)) && (decide (1 ≤ s.size) && decide (s.size ≤ 6))):=by
 induction d with
 | zero =>
  intro k i hi hd hk
  obtain ⟨k,rfl⟩ : ∃ m,k = m + 1:=⟨k - 1,by omega⟩
  simp only [spec_validName.l0]
  rw [if_neg (by omega)]
  have : s.data.toList.drop i = []:=by
   apply List.drop_eq_nil_of_le
   have : s.data.toList.length = s.size:=toL_len s
   omega
  rw [this]
  simp only [spec_inRange.f,List.all_nil,Bool.true_and]
  by_cases h1 : 1 ≤ s.size
  ·rw [if_pos (show (s.size : Int) ≥ 1 by omega)]
   by_cases h2 : s.size ≤ 6
   ·simp [h1,h2];omega
   ·simp [h2];omega
  ·rw [if_neg (show ¬ (1 : Int) ≤ s.size by omega)];simp [h1]
 | succ d ih =>
  intro k i hi hd hk
  obtain ⟨k,rfl⟩ : ∃ m,k = m + 1:=⟨k - 1,by omega⟩
  have hlt : i < s.size:=by omega
  have hl : s.data.toList.length = s.size:=toL_len s
  simp only [spec_validName.l0]
  rw [if_pos (show (i : Int) < (s.size : Int) by omega),if_pos (show (0 : Int) ≤ (i : Int) by omega),bt_getElem s i hlt]
  have hd2 : s.data.toList.drop i = s[i] :: s.data.toList.drop (i + 1):=by
   rw [List.drop_eq_getElem_cons (by omega)]
   congr 1
  rw [hd2,List.all_cons]
  by_cases h1 : (s[i].toNat : Int) < 97
  ·rw [if_pos h1];have : ¬ 97 ≤ s[i].toNat:=by omega
   simp [this]
  ·rw [if_neg h1]
   by_cases h2 : (s[i].toNat : Int) > 122
   ·rw [if_pos h2];have : ¬ s[i].toNat ≤ 122:=by omega
    simp [this]
   ·rw [if_neg h2,wrap_succ (n:=s.size) (by omega) (by omega) (by omega)]
    have:=ih k (i + 1) (by omega) (by omega) (by omega)
    rw [show ((i : Int) + 1) = ((i + 1 : Nat) : Int) by omega,this]
    have a : 97 ≤ s[i].toNat:=by omega
    have b : s[i].toNat ≤ 122:=by omega
    simp [a,b]
theorem spec_validName_ev (s : ByteArray) (hs : s.size ≤ 9223372036854775807) : spec_validName.f (s.size + 1) s = some (okName s):=by
 unfold spec_validName.f okName
 have:=spec_validName_l0 s hs s.size (s.size + 1) 0 (by omega) (by omega) (by omega)
 simpa using this
end Go.Proofs.Ytfphcdbnnienhaa.P
namespace Go.Proofs.Ytfphcdbnnienhaa.P
open Go.RowKit Go.Proofs.YtfphcdbnnienhaaW.PrintWords Go.Proofs.YtfphcdbnnienhaaW.PrintLast Go.Proofs.YtfphcdbnnienhaaW.PrintMore
attribute [local go_sem] max2_int min2_int max_two min_two max_three min_three max_four min_four
set_option linter.unusedVariables false
set_option linter.unusedSimpArgs false
def spec_classNamed.l0 : Nat → List (S85) → ByteArray → Int → Option (Int)
 | 0,_,_,_=>none
 | k + 1,x0,x1,x5=>if x5 < (x0.length : Int) then (if 0 ≤ x5 then (if ((rd_T85 x0 x5).f0).toList = x1.toList then (some x5) else (spec_classNamed.l0 k x0 x1 (wrap64 (x5 + 1)))) else (none)) else (some (-1))
def spec_classNamed.f (k : Nat) (l0 : List (S85)) (a1 : ByteArray) : Option (Int):=spec_classNamed.l0 k l0 a1 0
theorem spec_classNamed.mono_l : ∀ k,(∀ y0 y1 y2,LeO (spec_classNamed.l0 k y0 y1 y2) (spec_classNamed.l0 (k + 1) y0 y1 y2))
 | 0=>fun _ _ _ r h=>by simp [spec_classNamed.l0] at h
 | k + 1=>by
  have ih0:=spec_classNamed.mono_l k
  ·intro y0 y1 y2
   unfold spec_classNamed.l0
   repeat' first
   | (with_reducible exact ih0 _ _ _)
   | (with_reducible exact LeO.refl _)
   | (with_reducible exact LeO.none _)
   | (with_reducible refine LeO.ite ?_ ?_)
   | (with_reducible refine LeO.bind ?_ (fun _=>?_))
   | exact ih0 _ _ _
   | exact LeO.none _
   | refine LeO.ite ?_ ?_
   | refine LeO.bind ?_ (fun _=>?_)
theorem spec_classNamed.mono : ∀ a0 a1 k,LeO (spec_classNamed.f k a0 a1) (spec_classNamed.f (k + 1) a0 a1):=by
 intro a0 a1 k
 have ih0:=spec_classNamed.mono_l k
 unfold spec_classNamed.f
 repeat' first
   | (with_reducible exact ih0 _ _ _)
   | (with_reducible exact LeO.refl _)
   | (with_reducible exact LeO.none _)
   | (with_reducible refine LeO.ite ?_ ?_)
   | (with_reducible refine LeO.bind ?_ (fun _=>?_))
   | exact ih0 _ _ _
   | exact LeO.none _
   | refine LeO.ite ?_ ?_
   | refine LeO.bind ?_ (fun _=>?_)
set_option maxHeartbeats 8000000 in
set_option maxRecDepth 100000 in
theorem spec_classNamed.calls (k : Nat) (A0 : Option Addr) (c0 : Nat) (l0 : List (S85)) (a1 : ByteArray) (r : Int) (w : World) (hr0 : Kd.C k85 w A0 l0.length l0) (hc0 : l0.length ≤ c0) (h : spec_classNamed.f k l0 a1 = some r) :
  Calls Try.prog 86 #[.slice A0 l0.length c0,.string a1] w fun e w'=>e = .returned (.int .i64 r) ∧ Drawn0 w w':=by
 have HR0:=a0_ hr0
 have HC0:=a0_ hc0
 clear hr0 hc0
 have H : (spec_classNamed.l0 k l0 a1 0) = some r:=h
 clear h
 have H':=a0_ H
 clear H
 go_enter Try.func86,Try.ntmps86
 go_wp2
 go_loopg [5] k (fun kq v5 w'=>∃ (x5_1 : Int),v5 = .int .i64 x5_1 ∧ Aside0 (spec_classNamed.l0 kq l0 a1 x5_1 = some r) ∧ Aside0 (kq ≤ k) ∧ Drawn0 w w')
 case atStart=>exact ⟨(0),(by first | rfl | (simp;done) | (simp [*];done)),H',⟨Nat.le_refl _⟩,by repeat (first | exact Drawn0.refl _ | apply Drawn0.step)⟩
 case round =>
  clear H'
  try clear p2
  obtain ⟨x5_1,rfl,HA,HK1,⟨m1,rfl⟩⟩:=hrel
  cases gk with
  | zero=>exact absurd HA.out (by simp [spec_classNamed.l0])
  | succ k1 =>
   have H:=HA.out
   clear HA
   simp only [spec_classNamed.l0] at H
   by_cases c3 : x5_1 < (l0.length : Int)
   ·rw [if_pos c3] at H
    have c3b0 : decide (x5_1 < (l0.length : Int)) = true:=decide_eq_true c3
    clear c3
    by_cases c4 : 0 ≤ x5_1
    ·rw [if_pos c4] at H
     have c4b0 : decide (0 ≤ x5_1) = true:=decide_eq_true c4
     clear c4
     by_cases c5 : ((rd_T85 l0 x5_1).f0).toList = a1.toList
     ·rw [if_pos c5] at H
      have c5b0 : (((rd_T85 l0 x5_1).f0).toList == a1.toList) = true:=beq_iff_eq.mpr c5
      have c5b1 : (((rd_T85 l0 x5_1).f0).toList != a1.toList) = false:=bne_eq_false_iff_eq.mpr c5
      clear c5
      obtain rfl:=Option.some.inj H
      have p1 : 0 ≤ (x5_1 : Int):=of_decide_eq_true (by first | (with_reducible assumption) | assumption)
      have q1 : x5_1 < (l0.length : Int):=of_decide_eq_true (by first | (with_reducible assumption) | assumption)
      obtain ⟨ad1,e1,hx1_0,hx1_1⟩:=at_T85 HR0.out x5_1 p1 q1
      cases e1
      replace p1:=eq_true p1
      replace q1:=eq_true q1
      go_wp2
      go_ret
      exact ⟨by first | rfl | (simp;done) | (simp [*];done),by repeat (first | exact Drawn0.refl _ | apply Drawn0.step)⟩
     ·rw [if_neg c5] at H
      have c5b0 : (((rd_T85 l0 x5_1).f0).toList == a1.toList) = false:=beq_eq_false_iff_ne.mpr c5
      have c5b1 : (((rd_T85 l0 x5_1).f0).toList != a1.toList) = true:=bne_iff_ne.mpr c5
      have H':=a0_ H
      clear H
      have p1 : 0 ≤ (x5_1 : Int):=of_decide_eq_true (by first | (with_reducible assumption) | assumption)
      have q1 : x5_1 < (l0.length : Int):=of_decide_eq_true (by first | (with_reducible assumption) | assumption)
      obtain ⟨ad1,e1,hx1_0,hx1_1⟩:=at_T85 HR0.out x5_1 p1 q1
      cases e1
      replace p1:=eq_true p1
      replace q1:=eq_true q1
      go_wp2
      go_roundg k1
      case measure=>have:=HK1.out;omega
      case rel=>exact ⟨(wrap64 (x5_1 + 1)),(by first | rfl | (simp;done) | (simp [*];done)),H',⟨by have:=HK1.out;omega⟩,by repeat (first | exact Drawn0.refl _ | apply Drawn0.step)⟩
    ·rw [if_neg c4] at H
     exact absurd H (by simp)
   ·rw [if_neg c3] at H
    have c3b0 : decide (x5_1 < (l0.length : Int)) = false:=decide_eq_false c3
    clear c3
    obtain rfl:=Option.some.inj H
    go_wp2
    go_ret
    exact ⟨by first | rfl | (simp;done) | (simp [*];done),by repeat (first | exact Drawn0.refl _ | apply Drawn0.step)⟩
theorem spec_classNamed_l0 (t : List Cls) (n : ByteArray) (hs : t.length ≤ 9223372036854775807) (d : Nat) : ∀ (k : Nat) (i : Nat),i ≤ t.length → t.length - i = d → d < k → (∀ j (hj : j < t.length),j < i → (t[j].f0.toList == n.toList) = false) → spec_classNamed.l0 k t n (i : Int) = some (named t n):=by
 induction d with
 | zero =>
  intro k i hi hd hk hA
  obtain ⟨k,rfl⟩ : ∃ m,k = m + 1:=⟨k - 1,by omega⟩
  simp only [spec_classNamed.l0]
  rw [if_neg (show ¬ (i : Int) < (t.length : Int) by omega)]
  unfold named
  rw [idxP_miss _ t (fun j hj=>hA j hj (by omega))]
 | succ d ih =>
  intro k i hi hd hk hA
  obtain ⟨k,rfl⟩ : ∃ m,k = m + 1:=⟨k - 1,by omega⟩
  have hlt : i < t.length:=by omega
  simp only [spec_classNamed.l0]
  have hrd : rd_T85 t (i : Int) = t[i]:=by simp [rd_T85,hlt]
  rw [if_pos (show (i : Int) < (t.length : Int) by omega),if_pos (show (0 : Int) ≤ (i : Int) by omega),hrd]
  by_cases h1 : t[i].f0.toList = n.toList
  ·rw [if_pos h1]
   unfold named
   rw [idxP_hit (fun x : Cls=>x.f0.toList == n.toList) t i hlt (beq_iff_eq.2 h1) hA]
  ·rw [if_neg h1,wrap_succ (n:=t.length) (by omega) (by omega) (by omega)]
   rw [show ((i : Int) + 1) = ((i + 1 : Nat) : Int) by omega]
   refine ih k (i + 1) (by omega) (by omega) (by omega) (fun j hj hji=>?_)
   by_cases e : j = i
   ·subst e;exact beq_eq_false_iff_ne.2 h1
   ·exact hA j hj (by omega)
theorem spec_classNamed_ev (t : List Cls) (n : ByteArray) (hs : t.length ≤ 9223372036854775807) : spec_classNamed.f (t.length + 1) t n = some (named t n):=by
 unfold spec_classNamed.f
 exact spec_classNamed_l0 t n hs t.length (t.length + 1) 0 (by omega) (by omega) (by omega) (fun j _ hj=>absurd hj (Nat.not_lt_zero _))
end Go.Proofs.Ytfphcdbnnienhaa.P
namespace Go.Proofs.Ytfphcdbnnienhaa.P
open Go.RowKit Go.Proofs.YtfphcdbnnienhaaW.PrintWords Go.Proofs.YtfphcdbnnienhaaW.PrintLast Go.Proofs.YtfphcdbnnienhaaW.PrintMore
attribute [local go_sem] max2_int min2_int max_two min_two max_three min_three max_four min_four
set_option linter.unusedVariables false
set_option linter.unusedSimpArgs false
theorem named_ahead (t : List Cls) (i : Nat) (hi : i < t.length) : (named (t.take i) t[i].f0 ≥ 0) ↔ ¬ named t t[i].f0 = (i : Int):=by
 have hself : (t[i].f0.toList == t[i].f0.toList) = true:=beq_self_eq_true _
 have hd:=idxP_nonneg (fun x : Cls=>x.f0.toList == t[i].f0.toList) (t.take i)
 unfold named
 by_cases hA : ∀ j (hj : j < t.length),j < i → (t[j].f0.toList == t[i].f0.toList) = false
 ·have h1 : idxP (fun x : Cls=>x.f0.toList == t[i].f0.toList) t = (i : Int):=idxP_hit _ t i hi hself hA
  have h2 : (t.take i).any (fun x : Cls=>x.f0.toList == t[i].f0.toList) = false:=by
   rw [List.any_eq_false]
   intro x hx
   obtain ⟨j,hj,rfl⟩:=List.getElem_of_mem hx
   have hj2 : j < i ∧ j < t.length:=by simp at hj;omega
   rw [List.getElem_take]
   simp [hA j hj2.2 hj2.1]
  rw [h2,decide_eq_false_iff_not] at hd
  constructor
  ·intro h;exact absurd h hd
  ·intro h;exact absurd h1 h
 ·have hex : ∃ j,∃ hj : j < t.length,j < i ∧ (t[j].f0.toList == t[i].f0.toList) = true:=by
   apply Classical.byContradiction
   intro hn
   apply hA
   intro j hj hji
   cases hb : (t[j].f0.toList == t[i].f0.toList) with
   | false=>rfl
   | true=>exact absurd ⟨j,hj,hji,hb⟩ hn
  obtain ⟨j,hj,hji,hb⟩:=hex
  have h2 : (t.take i).any (fun x : Cls=>x.f0.toList == t[i].f0.toList) = true:=by
   rw [List.any_eq_true]
   exact ⟨t[j],List.mem_take_iff_getElem.2 ⟨j,by omega,rfl⟩,hb⟩
  rw [h2,decide_eq_true_eq] at hd
  constructor
  ·intro _ h
   unfold idxP at h
   cases hf : t.findIdx? (fun x : Cls=>x.f0.toList == t[i].f0.toList) with
   | none=>rw [hf] at h;simp at h
   | some m =>
    rw [hf] at h
    have hm : m = i:=by have h' : (m : Int) = (i : Int):=h;omega
    subst hm
    rw [List.findIdx?_eq_some_iff_getElem] at hf
    obtain ⟨_,_,hf⟩:=hf
    exact absurd hb (by simpa using hf j hji)
  ·intro _;exact hd
def spec_validTree.f (l0_0 : List (S85)) : Option Bool:=if smT l0_0 = true then some (vT l0_0) else none
set_option maxHeartbeats 4000000 in
set_option maxRecDepth 100000 in
theorem spec_validTree.calls (A0_0 : Option Addr) (c0_0 : Nat) (l0_0 : List (S85)) (r : Bool) (w : World) (hr0_0 : Kd.C k85 w A0_0 l0_0.length l0_0) (hc0_0 : l0_0.length ≤ c0_0) (h : spec_validTree.f l0_0 = some r) :
  Calls Try.prog 67 #[.agg #[.slice A0_0 l0_0.length c0_0]] w fun e w'=>e = .returned (.bool r) ∧ Below w.heap.size w w':=by
 have hu31:=Try.underlying25
 have hsm : smT l0_0 = true:=by
  apply Classical.byContradiction
  intro hn
  rw [spec_validTree.f,if_neg hn] at h
  cases h
 rw [spec_validTree.f,if_pos hsm] at h
 have HRr:=a0_ (Option.some.inj h)
 have HSM:=a0_ hsm
 have HR:=a0_ hr0_0
 have hmax : l0_0.length ≤ 9223372036854775807:=hr0_0.2.1
 clear h hsm hr0_0
 go_enter Try.func67,Try.ntmps67
 go_wp2
 go_loopg [3] l0_0.length (fun gg s3 wr=>∃ kk : Nat,kk ≤ l0_0.length ∧ l0_0.length - kk ≤ gg ∧ s3 = .int .i64 kk ∧ Aside0 (Below w.heap.size w wr) ∧ Aside0 (wr.heap[w.heap.size]? = some (.cells #[.slice A0_0 l0_0.length c0_0] 25 (0,0))) ∧ Aside0 (∀ j,j < kk → okCls l0_0 j (l0_0.getD j z85) = true))
 case atStart=>exact ⟨0,Nat.zero_le _,by omega,rfl,⟨below1 w _⟩,⟨heap_new1 w _⟩,⟨fun j hj=>absurd hj (Nat.not_lt_zero _)⟩⟩
 case round =>
  obtain ⟨kk,hkk,hg,rfl,BW,BK,HA⟩:=hrel
  have hcz : wr.cell? ⟨w.heap.size,0,none⟩ = some (.slice A0_0 l0_0.length c0_0):=(blk_cell BK.out 0).trans rfl
  by_cases hlt : kk < l0_0.length
  ·have hltz : (kk : Int) < (l0_0.length : Int):=by omega
   obtain ⟨ad,ea,hx0,hx1⟩:=at_T85 HR.out (kk : Int) (by omega) (by omega)
   cases ea
   have hrd : rd_T85 l0_0 (kk : Int) = l0_0[kk]:=by simp [rd_T85,hlt]
   rw [hrd] at hx0 hx1
   rw [Int.toNat_natCast] at hx0 hx1
   replace hx0:=(BW.out.cell (World.block_lt_of_cell? w _ hx0)).trans hx0
   replace hx1:=(BW.out.cell (World.block_lt_of_cell? w _ hx1)).trans hx1
   clear hrd
   generalize hy : l0_0[kk] = y at hx0 hx1
   have B:=a0_ hy
   clear hy
   go_upto_region 5 with (fail)
   have hW1:=a0_ (below_alloc BW.out (.cells #[.string y.f0,.int .i64 y.f1] 85))
   have hW2:=a0_ (blk_alloc BK.out (.cells #[.string y.f0,.int .i64 y.f1] 85))
   have hW3:=(blk_cell hW2.out 0).trans rfl
   have hW4:=(blk_cell (heap_new1 wr (.cells #[.string y.f0,.int .i64 y.f1] 85)) 0).trans rfl
   have hW5:=(blk_cell (heap_new1 wr (.cells #[.string y.f0,.int .i64 y.f1] 85)) 1).trans rfl
   clear hcz hx0 hx1 BW BK
   generalize wr.alloc (.cells #[.string y.f0,.int .i64 y.f1] 85) = W1 at hW1 hW2 hW3 hW4 hW5 ⊢
   generalize wr.heap.size = gb at hW4 hW5 ⊢
   have hy1 : y.f0.size ≤ 9223372036854775806:=by rw [← B.out];exact smT_at HSM.out kk hlt
   have A1:=a0_ (spec_validName_ev y.f0 (by omega))
   have hlen : (l0_0.take kk).length = kk:=by simp;omega
   have hcn0:=fun (W : World) (hW : Below w.heap.size w W)=>spec_classNamed.calls _ (some ad) c0_0 (l0_0.take kk) y.f0 _ W (by
    have h1:=Kd.C_take (Kd.C_below HR.out hW) (show kk ≤ l0_0.length by omega)
    exact h1) (by rw [hlen];omega) (spec_classNamed_ev (l0_0.take kk) y.f0 (by rw [hlen];omega))
   rw [hlen] at hcn0
   have hahead:=named_ahead l0_0 kk hlt
   rw [B.out] at hahead
   have hok : okCls l0_0 kk (l0_0.getD kk z85) = okCls l0_0 kk y:=by
    rw [← B.out];simp [List.getD,hlt]
   have hdef : okCls l0_0 kk y = (okName y.f0 && (decide (named l0_0 y.f0 = (kk : Int)) && (if kk = 0 then decide (y.f1 = -1) else decide (0 ≤ y.f1) && decide (y.f1 ≤ (kk : Int) - 1)))):=rfl
   generalize hnn : named (l0_0.take kk) y.f0 = nn at hcn0 hahead
   have HCN:=a0_ hcn0
   have HAH:=a0_ hahead
   have HOK:=a0_ hok
   have HDF:=a0_ hdef
   clear hcn0 hahead hok hdef hnn hlen hy1
   have hcut : ∀ W : World,(Instr.slice 23 (.slice (some ad) l0_0.length c0_0) none (some (.int .i64 (kk : Int))) none).run Try.prog W = .ok (.slice (some ad) kk c0_0) W:=by
    obtain ⟨i0,hi0,_,hsz,_⟩:=info_parts info85
    have h1:=cut_to (P:=Try.prog) 23 85 .i64 Try.underlying23 hi0 (some ad) l0_0.length c0_0 (kk : Int) (by omega) (by omega) hc0_0
    rw [Int.toNat_natCast] at h1
    exact h1
   go_cut [51] (fun v51 wc=>v51 = .bool (!okCls l0_0 kk y) ∧ Aside0 (Below w.heap.size w wc) ∧ Aside0 (wc.heap[w.heap.size]? = some (.cells #[.slice (some ad) l0_0.length c0_0] 25 (0,0))))
   case first =>
    have hw1 : IntKind.i64.wrap ((kk : Int) - 1) = (kk : Int) - 1:=by rw [IntKind.wrap_i64];omega
    have A2:=a0_ (show spec_inRange.f y.f1 0 ((kk : Int) - 1) = some (decide (0 ≤ y.f1) && decide (y.f1 ≤ (kk : Int) - 1)) by
     unfold spec_inRange.f
     by_cases h0 : 0 ≤ y.f1
     ·rw [if_pos h0];simp [h0]
     ·rw [if_neg h0];simp [h0])
    cases hb1 : okName y.f0 with
    | false =>
     rw [hb1] at A1
     have BV : okCls l0_0 kk y = false:=by rw [HDF.out,hb1];rfl
     clear HDF HAH HOK
     go_quiet (first
     | (go_at_call 85;(with_reducible refine (spec_validName.calls _ y.f0 _ _ A1.out).mono ?_);rintro e w' ⟨rfl,⟨nd,rfl⟩⟩;exact ⟨rfl,_,World.drewN_drewN _ _ _⟩)
     | (go_at_call 86;(with_reducible refine (HCN.out _ (pw_below_drewN hW1.out _)).mono ?_);rintro e w' ⟨rfl,⟨nd,rfl⟩⟩;exact ⟨rfl,_,World.drewN_drewN _ _ _⟩)
     | (go_at_call 65;(with_reducible refine (spec_inRange.calls y.f1 0 ((kk : Int) - 1) _ _ A2.out).mono ?_);rintro e w' ⟨rfl,⟨nd,rfl⟩⟩;exact ⟨rfl,_,World.drewN_drewN _ _ _⟩))
     go_wp2
     go_meet
     case rel=>exact ⟨by (rw [BV]);first | rfl | (simp [*];done),⟨pw_below_drewN hW1.out _⟩,⟨blk_drewN hW2.out _⟩⟩
    | true =>
     rw [hb1] at A1
     by_cases hb2 : nn ≥ 0
     ·have BV : okCls l0_0 kk y = false:=by rw [HDF.out,hb1,decide_eq_false (HAH.out.1 hb2)];rfl
      have d2 : decide (0 ≤ nn) = true:=decide_eq_true hb2
      clear HDF HAH HOK hb2
      go_quiet (first
     | (go_at_call 85;(with_reducible refine (spec_validName.calls _ y.f0 _ _ A1.out).mono ?_);rintro e w' ⟨rfl,⟨nd,rfl⟩⟩;exact ⟨rfl,_,World.drewN_drewN _ _ _⟩)
     | (go_at_call 86;(with_reducible refine (HCN.out _ (pw_below_drewN hW1.out _)).mono ?_);rintro e w' ⟨rfl,⟨nd,rfl⟩⟩;exact ⟨rfl,_,World.drewN_drewN _ _ _⟩)
     | (go_at_call 65;(with_reducible refine (spec_inRange.calls y.f1 0 ((kk : Int) - 1) _ _ A2.out).mono ?_);rintro e w' ⟨rfl,⟨nd,rfl⟩⟩;exact ⟨rfl,_,World.drewN_drewN _ _ _⟩))
      go_wp2
      go_meet
      case rel=>exact ⟨by (rw [BV]);first | rfl | (simp [*];done),⟨pw_below_drewN hW1.out _⟩,⟨blk_drewN hW2.out _⟩⟩
     ·have hnm : named l0_0 y.f0 = (kk : Int):=Classical.byContradiction fun hn=>hb2 (HAH.out.2 hn)
      have d2 : decide (0 ≤ nn) = false:=decide_eq_false hb2
      have BV0 : okCls l0_0 kk y = (if kk = 0 then decide (y.f1 = -1) else decide (0 ≤ y.f1) && decide (y.f1 ≤ (kk : Int) - 1)):=by rw [HDF.out,hb1,decide_eq_true hnm];rfl
      clear HDF HAH HOK hb2 hnm
      by_cases hk0 : kk = 0
      ·have BV : okCls l0_0 kk y = decide (y.f1 = -1):=by rw [BV0,if_pos hk0]
       have e0 : ((kk : Int) == 0) = true:=beq_iff_eq.2 (by omega)
       have e1 : decide (0 < (kk : Int)) = false:=decide_eq_false (by omega)
       have e1n : decide (0 < kk) = false:=decide_eq_false (by omega)
       clear BV0
       by_cases hp : y.f1 = -1
       ·have e2 : (y.f1 != -1) = false:=by rw [hp];rfl
        have e3 : (y.f1 == -1) = true:=by rw [hp];rfl
        rw [decide_eq_true hp] at BV
        clear hp hk0
        go_quiet (first
     | (go_at_call 85;(with_reducible refine (spec_validName.calls _ y.f0 _ _ A1.out).mono ?_);rintro e w' ⟨rfl,⟨nd,rfl⟩⟩;exact ⟨rfl,_,World.drewN_drewN _ _ _⟩)
     | (go_at_call 86;(with_reducible refine (HCN.out _ (pw_below_drewN hW1.out _)).mono ?_);rintro e w' ⟨rfl,⟨nd,rfl⟩⟩;exact ⟨rfl,_,World.drewN_drewN _ _ _⟩)
     | (go_at_call 65;(with_reducible refine (spec_inRange.calls y.f1 0 ((kk : Int) - 1) _ _ A2.out).mono ?_);rintro e w' ⟨rfl,⟨nd,rfl⟩⟩;exact ⟨rfl,_,World.drewN_drewN _ _ _⟩))
        go_wp2
        go_meet
        case rel=>exact ⟨by (rw [BV]);first | rfl | (simp [*];done),⟨pw_below_drewN hW1.out _⟩,⟨blk_drewN hW2.out _⟩⟩
       ·have e2 : (y.f1 != -1) = true:=bne_iff_ne.2 hp
        have e3 : (y.f1 == -1) = false:=beq_eq_false_iff_ne.2 hp
        rw [decide_eq_false hp] at BV
        clear hp hk0
        go_quiet (first
     | (go_at_call 85;(with_reducible refine (spec_validName.calls _ y.f0 _ _ A1.out).mono ?_);rintro e w' ⟨rfl,⟨nd,rfl⟩⟩;exact ⟨rfl,_,World.drewN_drewN _ _ _⟩)
     | (go_at_call 86;(with_reducible refine (HCN.out _ (pw_below_drewN hW1.out _)).mono ?_);rintro e w' ⟨rfl,⟨nd,rfl⟩⟩;exact ⟨rfl,_,World.drewN_drewN _ _ _⟩)
     | (go_at_call 65;(with_reducible refine (spec_inRange.calls y.f1 0 ((kk : Int) - 1) _ _ A2.out).mono ?_);rintro e w' ⟨rfl,⟨nd,rfl⟩⟩;exact ⟨rfl,_,World.drewN_drewN _ _ _⟩))
        go_wp2
        go_meet
        case rel=>exact ⟨by (rw [BV]);first | rfl | (simp [*];done),⟨pw_below_drewN hW1.out _⟩,⟨blk_drewN hW2.out _⟩⟩
      ·have BV : okCls l0_0 kk y = (decide (0 ≤ y.f1) && decide (y.f1 ≤ (kk : Int) - 1)):=by rw [BV0,if_neg hk0]
       have e0 : ((kk : Int) == 0) = false:=beq_eq_false_iff_ne.2 (by omega)
       have e1 : decide (0 < (kk : Int)) = true:=decide_eq_true (by omega)
       have e1n : decide (0 < kk) = true:=decide_eq_true (by omega)
       rw [← BV] at A2
       clear BV BV0 hk0
       cases BV : okCls l0_0 kk y with
       | false =>
        rw [BV] at A2
        go_quiet (first
     | (go_at_call 85;(with_reducible refine (spec_validName.calls _ y.f0 _ _ A1.out).mono ?_);rintro e w' ⟨rfl,⟨nd,rfl⟩⟩;exact ⟨rfl,_,World.drewN_drewN _ _ _⟩)
     | (go_at_call 86;(with_reducible refine (HCN.out _ (pw_below_drewN hW1.out _)).mono ?_);rintro e w' ⟨rfl,⟨nd,rfl⟩⟩;exact ⟨rfl,_,World.drewN_drewN _ _ _⟩)
     | (go_at_call 65;(with_reducible refine (spec_inRange.calls y.f1 0 ((kk : Int) - 1) _ _ A2.out).mono ?_);rintro e w' ⟨rfl,⟨nd,rfl⟩⟩;exact ⟨rfl,_,World.drewN_drewN _ _ _⟩))
        go_wp2
        go_meet
        case rel=>exact ⟨by (rw [BV]);first | rfl | (simp [*];done),⟨pw_below_drewN hW1.out _⟩,⟨blk_drewN hW2.out _⟩⟩
       | true =>
        rw [BV] at A2
        go_quiet (first
     | (go_at_call 85;(with_reducible refine (spec_validName.calls _ y.f0 _ _ A1.out).mono ?_);rintro e w' ⟨rfl,⟨nd,rfl⟩⟩;exact ⟨rfl,_,World.drewN_drewN _ _ _⟩)
     | (go_at_call 86;(with_reducible refine (HCN.out _ (pw_below_drewN hW1.out _)).mono ?_);rintro e w' ⟨rfl,⟨nd,rfl⟩⟩;exact ⟨rfl,_,World.drewN_drewN _ _ _⟩)
     | (go_at_call 65;(with_reducible refine (spec_inRange.calls y.f1 0 ((kk : Int) - 1) _ _ A2.out).mono ?_);rintro e w' ⟨rfl,⟨nd,rfl⟩⟩;exact ⟨rfl,_,World.drewN_drewN _ _ _⟩))
        go_wp2
        go_meet
        case rel=>exact ⟨by (rw [BV]);first | rfl | (simp [*];done),⟨pw_below_drewN hW1.out _⟩,⟨blk_drewN hW2.out _⟩⟩
   case rest =>
    obtain ⟨rfl,hW,hK⟩:=hcut
    have hb:=HOK.out
    cases BV : okCls l0_0 kk y with
    | false =>
     go_wp2
     go_ret
     refine ⟨?_,hW.out⟩
     rw [← HRr.out]
     have : vT l0_0 = false:=by
      cases hv : vT l0_0 with
      | false=>rfl
      | true=>have:=vT_at hv kk hlt;rw [HOK.out,BV] at this;cases this
     rw [this];rfl
    | true =>
     go_wp2
     go_roundg (l0_0.length - (kk + 1))
     case measure=>omega
     case rel =>
      refine ⟨kk + 1,by omega,by omega,by go_num,⟨hW.out⟩,⟨hK.out⟩,⟨fun j hj=>?_⟩⟩
      by_cases e : j = kk
      ·subst e;rw [HOK.out,BV]
      ·exact HA.out j (by omega)
  ·have hltz : ¬ (kk : Int) < (l0_0.length : Int):=by omega
   have : kk = l0_0.length:=by omega
   subst this
   have A3:=a0_ (show spec_inRange.f (l0_0.length : Int) 1 8 = some (vT l0_0) by
    have hall : (List.range l0_0.length).all (fun i=>okCls l0_0 i (l0_0.getD i z85)) = true:=by
     rw [List.all_eq_true];intro i hi;exact HA.out i (by simpa using hi)
    unfold spec_inRange.f vT
    rw [hall]
    by_cases h1 : (1 : Int) ≤ l0_0.length
    ·rw [if_pos h1]
     have h1' : 1 ≤ l0_0.length:=by omega
     by_cases h8 : l0_0.length ≤ 8
     ·simp [h1',h8];omega
     ·simp [h8];omega
    ·rw [if_neg h1]
     have h1' : ¬ 1 ≤ l0_0.length:=by omega
     simp [h1'])
   rw [HRr.out] at A3
   go_wp2_with (go_at_call 65;(with_reducible refine (spec_inRange.calls (l0_0.length : Int) 1 8 _ _ A3.out).mono ?_);rintro e w' ⟨rfl,⟨nd,rfl⟩⟩)
   go_ret
   exact ⟨rfl,pw_below_drewN BW.out _⟩
end Go.Proofs.Ytfphcdbnnienhaa.P
namespace Go.Proofs.Ytfphcdbnnienhaa.P
open Go.RowKit Go.Proofs.YtfphcdbnnienhaaW.PrintWords Go.Proofs.YtfphcdbnnienhaaW.PrintLast Go.Proofs.YtfphcdbnnienhaaW.PrintMore
attribute [local go_sem] max2_int min2_int max_two min_two max_three min_three max_four min_four
set_option linter.unusedVariables false
set_option linter.unusedSimpArgs false
def spec_validGroup.f (l0_0 : List Cls) (l1 : List Prt) : Option Bool:=if smT l0_0 = true then some (vG l0_0 l1) else none
set_option maxHeartbeats 8000000 in
set_option maxRecDepth 100000 in
theorem spec_validGroup.calls (A0_0 : Option Addr) (c0_0 : Nat) (l0_0 : List (S85)) (A1 : Option Addr) (c1 : Nat) (l1 : List (S47)) (r : Bool) (w : World) (hr0_0 : Kd.C k85 w A0_0 l0_0.length l0_0) (hc0_0 : l0_0.length ≤ c0_0) (hr1 : Kd.C k47 w A1 l1.length l1) (hc1 : l1.length ≤ c1) (h : spec_validGroup.f l0_0 l1 = some r) :
  Calls Try.prog 40 #[.agg #[.slice A0_0 l0_0.length c0_0],.slice A1 l1.length c1] w fun e w'=>e = .returned (.bool r) ∧ Below w.heap.size w w':=by
 have hu31:=Try.underlying25
 have hu74:=Try.underlying47
 have hsm : smT l0_0 = true:=by
  apply Classical.byContradiction
  intro hn
  rw [spec_validGroup.f,if_neg hn] at h
  cases h
 rw [spec_validGroup.f,if_pos hsm] at h
 have HRr:=a0_ (Option.some.inj h)
 have HV:=a0_ (fun (W : World) (hb : Below w.heap.size w W)=>spec_validTree.calls A0_0 c0_0 l0_0 (vT l0_0) W (Kd.C_below hr0_0 hb) hc0_0 (by rw [spec_validTree.f,if_pos hsm]))
 have HH:=a0_ (fun (a : Int) (W : World) (hb : Below w.heap.size w W)=>spec_hasClass.calls A0_0 c0_0 l0_0 a (hasC l0_0 a) W (Kd.C_below hr0_0 hb) hc0_0 (spec_hasClass_ev l0_0 a hr0_0.2.1))
 have HR:=a0_ hr1
 have HC1:=a0_ hc1
 have hmax : l1.length ≤ 9223372036854775807:=hr1.2.1
 clear h hsm hr0_0 hr1
 go_enter Try.func40,Try.ntmps40
 go_wp2
 go_loopg [5] l1.length (fun gg s5 wr=>∃ kk : Nat,kk ≤ l1.length ∧ l1.length - kk ≤ gg ∧ s5 = .int .i64 kk ∧ Aside0 (Below w.heap.size w wr) ∧ Aside0 (wr.heap[w.heap.size]? = some (.cells #[.slice A0_0 l0_0.length c0_0] 25 (0,0))) ∧ Aside0 (∀ j,j < kk → okP l0_0 l1 j (l1.getD j z47) = true))
 case atStart=>exact ⟨0,Nat.zero_le _,by omega,rfl,⟨below1 w _⟩,⟨heap_new1 w _⟩,⟨fun j hj=>absurd hj (Nat.not_lt_zero _)⟩⟩
 case round =>
  obtain ⟨kk,hkk,hg,rfl,BW,BK,HA⟩:=hrel
  have hcz : wr.cell? ⟨w.heap.size,0,none⟩ = some (.slice A0_0 l0_0.length c0_0):=(blk_cell BK.out 0).trans rfl
  by_cases hlt : kk < l1.length
  ·have hltz : (kk : Int) < (l1.length : Int):=by omega
   obtain ⟨ad,ea,hx0,hx1,hx2,hx3⟩:=at_T47 HR.out (kk : Int) (by omega) (by omega)
   cases ea
   have hrd : rd_T47 l1 (kk : Int) = l1.getD kk z47:=by simp [rd_T47]
   rw [hrd] at hx0 hx1 hx2 hx3
   rw [Int.toNat_natCast] at hx0 hx1 hx2 hx3
   replace hx0:=(BW.out.cell (World.block_lt_of_cell? w _ hx0)).trans hx0
   replace hx1:=(BW.out.cell (World.block_lt_of_cell? w _ hx1)).trans hx1
   replace hx2:=(BW.out.cell (World.block_lt_of_cell? w _ hx2)).trans hx2
   replace hx3:=(BW.out.cell (World.block_lt_of_cell? w _ hx3)).trans hx3
   clear hrd
   obtain ⟨kE,hkE⟩:=Ev.out (spec_endOf_ev l1 kk hlt hmax)
   have HEN:=a0_ (fun (W : World) (hb : Below w.heap.size w W)=>spec_endOf.calls kE (some ad) c1 l1 (kk : Int) ((endG l1 kk : Nat) : Int) W (Kd.C_below HR.out hb) HC1.out hkE)
   clear hkE
   have hdf : okP l0_0 l1 kk (l1.getD kk z47) = (okP1 l0_0 kk (l1.getD kk z47) && ((if kk = 0 then true else okUp (l1.getD (kk - 1) z47) (l1.getD kk z47)) && !((l1.getD kk z47).f1 && ((endG l1 kk : Int) == (kk : Int) + 1)))):=rfl
   generalize hy : l1.getD kk z47 = y at hx0 hx1 hx2 hx3 hdf
   have B:=a0_ hy
   clear hy
   obtain ⟨y0,y1,y2,y3⟩:=y
   go_upto_region 5 with (fail)
   have hW1:=a0_ (below_alloc BW.out (.cells #[.int .i64 y0,.bool y1,.int .i64 y2,.int .i64 y3] 47))
   have hW2:=a0_ (blk_alloc BK.out (.cells #[.int .i64 y0,.bool y1,.int .i64 y2,.int .i64 y3] 47))
   have hW3:=a0_ (heap_new1 wr (.cells #[.int .i64 y0,.bool y1,.int .i64 y2,.int .i64 y3] 47))
   clear hcz hx0 hx1 hx2 hx3 BW BK
   generalize wr.alloc (.cells #[.int .i64 y0,.bool y1,.int .i64 y2,.int .i64 y3] 47) = W1 at hW1 hW2 hW3 ⊢
   generalize wr.heap.size = gb at hW3 ⊢
   generalize hq1 : okP1 l0_0 kk ⟨y0,y1,y2,y3⟩ = q1 at hdf
   have hdf1 : okP1 l0_0 kk ⟨y0,y1,y2,y3⟩ = ((decide (0 ≤ y3) && decide (y3 ≤ 99)) && ((decide (0 ≤ y0) && decide (y0 ≤ 5)) && (!(y1 && !(y2 == 0)) && (!(!y1 && !hasC l0_0 y2) && ((y0 == 0) == ((kk : Int) == 0)))))):=rfl
   rw [hq1] at hdf1
   have HDF:=a0_ hdf
   clear hdf hq1
   go_cut [55] (fun v55 WC=>v55 = .bool (!q1) ∧ Aside0 (Below w.heap.size w WC) ∧ Aside0 (WC.heap[w.heap.size]? = some (.cells #[.slice A0_0 l0_0.length c0_0] 25 (0,0))) ∧ Aside0 (WC.heap[gb]? = some (.cells #[.int .i64 y0,.bool y1,.int .i64 y2,.int .i64 y3] 47 (0,0))))
   case first =>
    have A1:=spec_inRange_ev y3 0 99
    have A2:=spec_inRange_ev y0 0 5
    have H3:=HH.out y2
    generalize (decide (0 ≤ y3) && decide (y3 ≤ 99)) = b1 at A1 hdf1
    generalize (decide (0 ≤ y0) && decide (y0 ≤ 5)) = b2 at A2 hdf1
    generalize hasC l0_0 y2 = b4 at H3 hdf1
    replace A1:=a0_ A1
    replace A2:=a0_ A2
    replace H3:=a0_ H3
    have HB:=hW1
    have BK:=hW2
    have BY:=hW3
    clear hW1 hW2 hW3 HDF HEN HH HV HA HRr
    have hcz : W1.cell? ⟨w.heap.size,0,none⟩ = some (.slice A0_0 l0_0.length c0_0):=(blk_cell BK.out 0).trans rfl
    have e0 : W1.cell? ⟨gb,0,none⟩ = some (.int .i64 y0):=(blk_cell BY.out 0).trans rfl
    have e1 : W1.cell? ⟨gb,1,none⟩ = some (.bool y1):=(blk_cell BY.out 1).trans rfl
    have e2 : W1.cell? ⟨gb,2,none⟩ = some (.int .i64 y2):=(blk_cell BY.out 2).trans rfl
    have e3 : W1.cell? ⟨gb,3,none⟩ = some (.int .i64 y3):=(blk_cell BY.out 3).trans rfl
    cases b1 with
    | false =>
     have BV:=a0_ (show q1 = false from hdf1.trans (by simp))
     clear hdf1
     go_wp2_with (first
     | (go_at_call 65;(first | (with_reducible refine (spec_inRange.calls y3 0 99 _ _ A1.out).mono ?_) | (with_reducible refine (spec_inRange.calls y0 0 5 _ _ A2.out).mono ?_));rintro e w' ⟨rfl,hd'⟩;have hb':=hd'.below;clear hd';replace HB:=a0_ (below_step HB.out hb');replace BK:=a0_ (blk_keptB BK.out hb');replace BY:=a0_ (blk_keptB BY.out hb');clear hb' hcz e0 e1 e2 e3;have hcz : w'.cell? ⟨w.heap.size,0,none⟩ = some (.slice A0_0 l0_0.length c0_0):=(blk_cell BK.out 0).trans rfl;have e0 : w'.cell? ⟨gb,0,none⟩ = some (.int .i64 y0):=(blk_cell BY.out 0).trans rfl;have e1 : w'.cell? ⟨gb,1,none⟩ = some (.bool y1):=(blk_cell BY.out 1).trans rfl;have e2 : w'.cell? ⟨gb,2,none⟩ = some (.int .i64 y2):=(blk_cell BY.out 2).trans rfl;have e3 : w'.cell? ⟨gb,3,none⟩ = some (.int .i64 y3):=(blk_cell BY.out 3).trans rfl)
     | (go_at_call 48;refine (H3.out _ HB.out).mono ?_;rintro e w' ⟨rfl,hb'⟩;replace HB:=a0_ (below_step HB.out hb');replace BK:=a0_ (blk_keptB BK.out hb');replace BY:=a0_ (blk_keptB BY.out hb');clear hb' hcz e0 e1 e2 e3;have hcz : w'.cell? ⟨w.heap.size,0,none⟩ = some (.slice A0_0 l0_0.length c0_0):=(blk_cell BK.out 0).trans rfl;have e0 : w'.cell? ⟨gb,0,none⟩ = some (.int .i64 y0):=(blk_cell BY.out 0).trans rfl;have e1 : w'.cell? ⟨gb,1,none⟩ = some (.bool y1):=(blk_cell BY.out 1).trans rfl;have e2 : w'.cell? ⟨gb,2,none⟩ = some (.int .i64 y2):=(blk_cell BY.out 2).trans rfl;have e3 : w'.cell? ⟨gb,3,none⟩ = some (.int .i64 y3):=(blk_cell BY.out 3).trans rfl))
     go_meet
     case rel=>exact ⟨by rw [BV.out];first | rfl | (simp;done),HB,BK,BY⟩
    | true =>
     cases b2 with
     | false =>
      have BV:=a0_ (show q1 = false from hdf1.trans (by simp))
      clear hdf1
      go_wp2_with (first
     | (go_at_call 65;(first | (with_reducible refine (spec_inRange.calls y3 0 99 _ _ A1.out).mono ?_) | (with_reducible refine (spec_inRange.calls y0 0 5 _ _ A2.out).mono ?_));rintro e w' ⟨rfl,hd'⟩;have hb':=hd'.below;clear hd';replace HB:=a0_ (below_step HB.out hb');replace BK:=a0_ (blk_keptB BK.out hb');replace BY:=a0_ (blk_keptB BY.out hb');clear hb' hcz e0 e1 e2 e3;have hcz : w'.cell? ⟨w.heap.size,0,none⟩ = some (.slice A0_0 l0_0.length c0_0):=(blk_cell BK.out 0).trans rfl;have e0 : w'.cell? ⟨gb,0,none⟩ = some (.int .i64 y0):=(blk_cell BY.out 0).trans rfl;have e1 : w'.cell? ⟨gb,1,none⟩ = some (.bool y1):=(blk_cell BY.out 1).trans rfl;have e2 : w'.cell? ⟨gb,2,none⟩ = some (.int .i64 y2):=(blk_cell BY.out 2).trans rfl;have e3 : w'.cell? ⟨gb,3,none⟩ = some (.int .i64 y3):=(blk_cell BY.out 3).trans rfl)
     | (go_at_call 48;refine (H3.out _ HB.out).mono ?_;rintro e w' ⟨rfl,hb'⟩;replace HB:=a0_ (below_step HB.out hb');replace BK:=a0_ (blk_keptB BK.out hb');replace BY:=a0_ (blk_keptB BY.out hb');clear hb' hcz e0 e1 e2 e3;have hcz : w'.cell? ⟨w.heap.size,0,none⟩ = some (.slice A0_0 l0_0.length c0_0):=(blk_cell BK.out 0).trans rfl;have e0 : w'.cell? ⟨gb,0,none⟩ = some (.int .i64 y0):=(blk_cell BY.out 0).trans rfl;have e1 : w'.cell? ⟨gb,1,none⟩ = some (.bool y1):=(blk_cell BY.out 1).trans rfl;have e2 : w'.cell? ⟨gb,2,none⟩ = some (.int .i64 y2):=(blk_cell BY.out 2).trans rfl;have e3 : w'.cell? ⟨gb,3,none⟩ = some (.int .i64 y3):=(blk_cell BY.out 3).trans rfl))
      go_meet
      case rel=>exact ⟨by rw [BV.out];first | rfl | (simp;done),HB,BK,BY⟩
     | true =>
      cases y1 with
      | true =>
       cases hz2 : (y2 == (0 : Int)) with
       | false =>
        have hz2n : (y2 != (0 : Int)) = true:=by rw [bne,hz2];rfl
        rw [hz2] at hdf1
        have BV:=a0_ (show q1 = false from hdf1.trans (by simp))
        clear hdf1
        go_wp2_with (first
     | (go_at_call 65;(first | (with_reducible refine (spec_inRange.calls y3 0 99 _ _ A1.out).mono ?_) | (with_reducible refine (spec_inRange.calls y0 0 5 _ _ A2.out).mono ?_));rintro e w' ⟨rfl,hd'⟩;have hb':=hd'.below;clear hd';replace HB:=a0_ (below_step HB.out hb');replace BK:=a0_ (blk_keptB BK.out hb');replace BY:=a0_ (blk_keptB BY.out hb');clear hb' hcz e0 e1 e2 e3;have hcz : w'.cell? ⟨w.heap.size,0,none⟩ = some (.slice A0_0 l0_0.length c0_0):=(blk_cell BK.out 0).trans rfl;have e0 : w'.cell? ⟨gb,0,none⟩ = some (.int .i64 y0):=(blk_cell BY.out 0).trans rfl;have e1 : w'.cell? ⟨gb,1,none⟩ = some (.bool true):=(blk_cell BY.out 1).trans rfl;have e2 : w'.cell? ⟨gb,2,none⟩ = some (.int .i64 y2):=(blk_cell BY.out 2).trans rfl;have e3 : w'.cell? ⟨gb,3,none⟩ = some (.int .i64 y3):=(blk_cell BY.out 3).trans rfl)
     | (go_at_call 48;refine (H3.out _ HB.out).mono ?_;rintro e w' ⟨rfl,hb'⟩;replace HB:=a0_ (below_step HB.out hb');replace BK:=a0_ (blk_keptB BK.out hb');replace BY:=a0_ (blk_keptB BY.out hb');clear hb' hcz e0 e1 e2 e3;have hcz : w'.cell? ⟨w.heap.size,0,none⟩ = some (.slice A0_0 l0_0.length c0_0):=(blk_cell BK.out 0).trans rfl;have e0 : w'.cell? ⟨gb,0,none⟩ = some (.int .i64 y0):=(blk_cell BY.out 0).trans rfl;have e1 : w'.cell? ⟨gb,1,none⟩ = some (.bool true):=(blk_cell BY.out 1).trans rfl;have e2 : w'.cell? ⟨gb,2,none⟩ = some (.int .i64 y2):=(blk_cell BY.out 2).trans rfl;have e3 : w'.cell? ⟨gb,3,none⟩ = some (.int .i64 y3):=(blk_cell BY.out 3).trans rfl))
        go_meet
        case rel=>exact ⟨by rw [BV.out];first | rfl | (simp;done),HB,BK,BY⟩
       | true =>
        have hz2n : (y2 != (0 : Int)) = false:=by rw [bne,hz2];rfl
        rw [hz2] at hdf1
        cases hz : (y0 == (0 : Int)) <;> cases hk : ((kk : Int) == 0) <;> rw [hz,hk] at hdf1
        ·
         have BV:=a0_ (show q1 = true from hdf1.trans (by first | rfl | (cases b4 <;> rfl) | simp))
         clear hdf1
         go_wp2_with (first
     | (go_at_call 65;(first | (with_reducible refine (spec_inRange.calls y3 0 99 _ _ A1.out).mono ?_) | (with_reducible refine (spec_inRange.calls y0 0 5 _ _ A2.out).mono ?_));rintro e w' ⟨rfl,hd'⟩;have hb':=hd'.below;clear hd';replace HB:=a0_ (below_step HB.out hb');replace BK:=a0_ (blk_keptB BK.out hb');replace BY:=a0_ (blk_keptB BY.out hb');clear hb' hcz e0 e1 e2 e3;have hcz : w'.cell? ⟨w.heap.size,0,none⟩ = some (.slice A0_0 l0_0.length c0_0):=(blk_cell BK.out 0).trans rfl;have e0 : w'.cell? ⟨gb,0,none⟩ = some (.int .i64 y0):=(blk_cell BY.out 0).trans rfl;have e1 : w'.cell? ⟨gb,1,none⟩ = some (.bool true):=(blk_cell BY.out 1).trans rfl;have e2 : w'.cell? ⟨gb,2,none⟩ = some (.int .i64 y2):=(blk_cell BY.out 2).trans rfl;have e3 : w'.cell? ⟨gb,3,none⟩ = some (.int .i64 y3):=(blk_cell BY.out 3).trans rfl)
     | (go_at_call 48;refine (H3.out _ HB.out).mono ?_;rintro e w' ⟨rfl,hb'⟩;replace HB:=a0_ (below_step HB.out hb');replace BK:=a0_ (blk_keptB BK.out hb');replace BY:=a0_ (blk_keptB BY.out hb');clear hb' hcz e0 e1 e2 e3;have hcz : w'.cell? ⟨w.heap.size,0,none⟩ = some (.slice A0_0 l0_0.length c0_0):=(blk_cell BK.out 0).trans rfl;have e0 : w'.cell? ⟨gb,0,none⟩ = some (.int .i64 y0):=(blk_cell BY.out 0).trans rfl;have e1 : w'.cell? ⟨gb,1,none⟩ = some (.bool true):=(blk_cell BY.out 1).trans rfl;have e2 : w'.cell? ⟨gb,2,none⟩ = some (.int .i64 y2):=(blk_cell BY.out 2).trans rfl;have e3 : w'.cell? ⟨gb,3,none⟩ = some (.int .i64 y3):=(blk_cell BY.out 3).trans rfl))
         go_meet
         case rel=>exact ⟨by rw [BV.out];first | rfl | (simp;done),HB,BK,BY⟩
        ·
         have BV:=a0_ (show q1 = false from hdf1.trans (by first | rfl | (cases b4 <;> rfl) | simp))
         clear hdf1
         go_wp2_with (first
     | (go_at_call 65;(first | (with_reducible refine (spec_inRange.calls y3 0 99 _ _ A1.out).mono ?_) | (with_reducible refine (spec_inRange.calls y0 0 5 _ _ A2.out).mono ?_));rintro e w' ⟨rfl,hd'⟩;have hb':=hd'.below;clear hd';replace HB:=a0_ (below_step HB.out hb');replace BK:=a0_ (blk_keptB BK.out hb');replace BY:=a0_ (blk_keptB BY.out hb');clear hb' hcz e0 e1 e2 e3;have hcz : w'.cell? ⟨w.heap.size,0,none⟩ = some (.slice A0_0 l0_0.length c0_0):=(blk_cell BK.out 0).trans rfl;have e0 : w'.cell? ⟨gb,0,none⟩ = some (.int .i64 y0):=(blk_cell BY.out 0).trans rfl;have e1 : w'.cell? ⟨gb,1,none⟩ = some (.bool true):=(blk_cell BY.out 1).trans rfl;have e2 : w'.cell? ⟨gb,2,none⟩ = some (.int .i64 y2):=(blk_cell BY.out 2).trans rfl;have e3 : w'.cell? ⟨gb,3,none⟩ = some (.int .i64 y3):=(blk_cell BY.out 3).trans rfl)
     | (go_at_call 48;refine (H3.out _ HB.out).mono ?_;rintro e w' ⟨rfl,hb'⟩;replace HB:=a0_ (below_step HB.out hb');replace BK:=a0_ (blk_keptB BK.out hb');replace BY:=a0_ (blk_keptB BY.out hb');clear hb' hcz e0 e1 e2 e3;have hcz : w'.cell? ⟨w.heap.size,0,none⟩ = some (.slice A0_0 l0_0.length c0_0):=(blk_cell BK.out 0).trans rfl;have e0 : w'.cell? ⟨gb,0,none⟩ = some (.int .i64 y0):=(blk_cell BY.out 0).trans rfl;have e1 : w'.cell? ⟨gb,1,none⟩ = some (.bool true):=(blk_cell BY.out 1).trans rfl;have e2 : w'.cell? ⟨gb,2,none⟩ = some (.int .i64 y2):=(blk_cell BY.out 2).trans rfl;have e3 : w'.cell? ⟨gb,3,none⟩ = some (.int .i64 y3):=(blk_cell BY.out 3).trans rfl))
         go_meet
         case rel=>exact ⟨by rw [BV.out];first | rfl | (simp;done),HB,BK,BY⟩
        ·
         have BV:=a0_ (show q1 = false from hdf1.trans (by first | rfl | (cases b4 <;> rfl) | simp))
         clear hdf1
         go_wp2_with (first
     | (go_at_call 65;(first | (with_reducible refine (spec_inRange.calls y3 0 99 _ _ A1.out).mono ?_) | (with_reducible refine (spec_inRange.calls y0 0 5 _ _ A2.out).mono ?_));rintro e w' ⟨rfl,hd'⟩;have hb':=hd'.below;clear hd';replace HB:=a0_ (below_step HB.out hb');replace BK:=a0_ (blk_keptB BK.out hb');replace BY:=a0_ (blk_keptB BY.out hb');clear hb' hcz e0 e1 e2 e3;have hcz : w'.cell? ⟨w.heap.size,0,none⟩ = some (.slice A0_0 l0_0.length c0_0):=(blk_cell BK.out 0).trans rfl;have e0 : w'.cell? ⟨gb,0,none⟩ = some (.int .i64 y0):=(blk_cell BY.out 0).trans rfl;have e1 : w'.cell? ⟨gb,1,none⟩ = some (.bool true):=(blk_cell BY.out 1).trans rfl;have e2 : w'.cell? ⟨gb,2,none⟩ = some (.int .i64 y2):=(blk_cell BY.out 2).trans rfl;have e3 : w'.cell? ⟨gb,3,none⟩ = some (.int .i64 y3):=(blk_cell BY.out 3).trans rfl)
     | (go_at_call 48;refine (H3.out _ HB.out).mono ?_;rintro e w' ⟨rfl,hb'⟩;replace HB:=a0_ (below_step HB.out hb');replace BK:=a0_ (blk_keptB BK.out hb');replace BY:=a0_ (blk_keptB BY.out hb');clear hb' hcz e0 e1 e2 e3;have hcz : w'.cell? ⟨w.heap.size,0,none⟩ = some (.slice A0_0 l0_0.length c0_0):=(blk_cell BK.out 0).trans rfl;have e0 : w'.cell? ⟨gb,0,none⟩ = some (.int .i64 y0):=(blk_cell BY.out 0).trans rfl;have e1 : w'.cell? ⟨gb,1,none⟩ = some (.bool true):=(blk_cell BY.out 1).trans rfl;have e2 : w'.cell? ⟨gb,2,none⟩ = some (.int .i64 y2):=(blk_cell BY.out 2).trans rfl;have e3 : w'.cell? ⟨gb,3,none⟩ = some (.int .i64 y3):=(blk_cell BY.out 3).trans rfl))
         go_meet
         case rel=>exact ⟨by rw [BV.out];first | rfl | (simp;done),HB,BK,BY⟩
        ·
         have BV:=a0_ (show q1 = true from hdf1.trans (by first | rfl | (cases b4 <;> rfl) | simp))
         clear hdf1
         go_wp2_with (first
     | (go_at_call 65;(first | (with_reducible refine (spec_inRange.calls y3 0 99 _ _ A1.out).mono ?_) | (with_reducible refine (spec_inRange.calls y0 0 5 _ _ A2.out).mono ?_));rintro e w' ⟨rfl,hd'⟩;have hb':=hd'.below;clear hd';replace HB:=a0_ (below_step HB.out hb');replace BK:=a0_ (blk_keptB BK.out hb');replace BY:=a0_ (blk_keptB BY.out hb');clear hb' hcz e0 e1 e2 e3;have hcz : w'.cell? ⟨w.heap.size,0,none⟩ = some (.slice A0_0 l0_0.length c0_0):=(blk_cell BK.out 0).trans rfl;have e0 : w'.cell? ⟨gb,0,none⟩ = some (.int .i64 y0):=(blk_cell BY.out 0).trans rfl;have e1 : w'.cell? ⟨gb,1,none⟩ = some (.bool true):=(blk_cell BY.out 1).trans rfl;have e2 : w'.cell? ⟨gb,2,none⟩ = some (.int .i64 y2):=(blk_cell BY.out 2).trans rfl;have e3 : w'.cell? ⟨gb,3,none⟩ = some (.int .i64 y3):=(blk_cell BY.out 3).trans rfl)
     | (go_at_call 48;refine (H3.out _ HB.out).mono ?_;rintro e w' ⟨rfl,hb'⟩;replace HB:=a0_ (below_step HB.out hb');replace BK:=a0_ (blk_keptB BK.out hb');replace BY:=a0_ (blk_keptB BY.out hb');clear hb' hcz e0 e1 e2 e3;have hcz : w'.cell? ⟨w.heap.size,0,none⟩ = some (.slice A0_0 l0_0.length c0_0):=(blk_cell BK.out 0).trans rfl;have e0 : w'.cell? ⟨gb,0,none⟩ = some (.int .i64 y0):=(blk_cell BY.out 0).trans rfl;have e1 : w'.cell? ⟨gb,1,none⟩ = some (.bool true):=(blk_cell BY.out 1).trans rfl;have e2 : w'.cell? ⟨gb,2,none⟩ = some (.int .i64 y2):=(blk_cell BY.out 2).trans rfl;have e3 : w'.cell? ⟨gb,3,none⟩ = some (.int .i64 y3):=(blk_cell BY.out 3).trans rfl))
         go_meet
         case rel=>exact ⟨by rw [BV.out];first | rfl | (simp;done),HB,BK,BY⟩
      | false =>
       cases b4 with
       | false =>
        have BV:=a0_ (show q1 = false from hdf1.trans (by simp))
        clear hdf1
        go_wp2_with (first
     | (go_at_call 65;(first | (with_reducible refine (spec_inRange.calls y3 0 99 _ _ A1.out).mono ?_) | (with_reducible refine (spec_inRange.calls y0 0 5 _ _ A2.out).mono ?_));rintro e w' ⟨rfl,hd'⟩;have hb':=hd'.below;clear hd';replace HB:=a0_ (below_step HB.out hb');replace BK:=a0_ (blk_keptB BK.out hb');replace BY:=a0_ (blk_keptB BY.out hb');clear hb' hcz e0 e1 e2 e3;have hcz : w'.cell? ⟨w.heap.size,0,none⟩ = some (.slice A0_0 l0_0.length c0_0):=(blk_cell BK.out 0).trans rfl;have e0 : w'.cell? ⟨gb,0,none⟩ = some (.int .i64 y0):=(blk_cell BY.out 0).trans rfl;have e1 : w'.cell? ⟨gb,1,none⟩ = some (.bool false):=(blk_cell BY.out 1).trans rfl;have e2 : w'.cell? ⟨gb,2,none⟩ = some (.int .i64 y2):=(blk_cell BY.out 2).trans rfl;have e3 : w'.cell? ⟨gb,3,none⟩ = some (.int .i64 y3):=(blk_cell BY.out 3).trans rfl)
     | (go_at_call 48;refine (H3.out _ HB.out).mono ?_;rintro e w' ⟨rfl,hb'⟩;replace HB:=a0_ (below_step HB.out hb');replace BK:=a0_ (blk_keptB BK.out hb');replace BY:=a0_ (blk_keptB BY.out hb');clear hb' hcz e0 e1 e2 e3;have hcz : w'.cell? ⟨w.heap.size,0,none⟩ = some (.slice A0_0 l0_0.length c0_0):=(blk_cell BK.out 0).trans rfl;have e0 : w'.cell? ⟨gb,0,none⟩ = some (.int .i64 y0):=(blk_cell BY.out 0).trans rfl;have e1 : w'.cell? ⟨gb,1,none⟩ = some (.bool false):=(blk_cell BY.out 1).trans rfl;have e2 : w'.cell? ⟨gb,2,none⟩ = some (.int .i64 y2):=(blk_cell BY.out 2).trans rfl;have e3 : w'.cell? ⟨gb,3,none⟩ = some (.int .i64 y3):=(blk_cell BY.out 3).trans rfl))
        go_meet
        case rel=>exact ⟨by rw [BV.out];first | rfl | (simp;done),HB,BK,BY⟩
       | true =>
        generalize (y2 == (0 : Int)) = z2 at hdf1
        cases hz : (y0 == (0 : Int)) <;> cases hk : ((kk : Int) == 0) <;> rw [hz,hk] at hdf1
        ·
         have BV:=a0_ (show q1 = true from hdf1.trans (by first | rfl | (cases b4 <;> rfl) | simp))
         clear hdf1
         go_wp2_with (first
     | (go_at_call 65;(first | (with_reducible refine (spec_inRange.calls y3 0 99 _ _ A1.out).mono ?_) | (with_reducible refine (spec_inRange.calls y0 0 5 _ _ A2.out).mono ?_));rintro e w' ⟨rfl,hd'⟩;have hb':=hd'.below;clear hd';replace HB:=a0_ (below_step HB.out hb');replace BK:=a0_ (blk_keptB BK.out hb');replace BY:=a0_ (blk_keptB BY.out hb');clear hb' hcz e0 e1 e2 e3;have hcz : w'.cell? ⟨w.heap.size,0,none⟩ = some (.slice A0_0 l0_0.length c0_0):=(blk_cell BK.out 0).trans rfl;have e0 : w'.cell? ⟨gb,0,none⟩ = some (.int .i64 y0):=(blk_cell BY.out 0).trans rfl;have e1 : w'.cell? ⟨gb,1,none⟩ = some (.bool false):=(blk_cell BY.out 1).trans rfl;have e2 : w'.cell? ⟨gb,2,none⟩ = some (.int .i64 y2):=(blk_cell BY.out 2).trans rfl;have e3 : w'.cell? ⟨gb,3,none⟩ = some (.int .i64 y3):=(blk_cell BY.out 3).trans rfl)
     | (go_at_call 48;refine (H3.out _ HB.out).mono ?_;rintro e w' ⟨rfl,hb'⟩;replace HB:=a0_ (below_step HB.out hb');replace BK:=a0_ (blk_keptB BK.out hb');replace BY:=a0_ (blk_keptB BY.out hb');clear hb' hcz e0 e1 e2 e3;have hcz : w'.cell? ⟨w.heap.size,0,none⟩ = some (.slice A0_0 l0_0.length c0_0):=(blk_cell BK.out 0).trans rfl;have e0 : w'.cell? ⟨gb,0,none⟩ = some (.int .i64 y0):=(blk_cell BY.out 0).trans rfl;have e1 : w'.cell? ⟨gb,1,none⟩ = some (.bool false):=(blk_cell BY.out 1).trans rfl;have e2 : w'.cell? ⟨gb,2,none⟩ = some (.int .i64 y2):=(blk_cell BY.out 2).trans rfl;have e3 : w'.cell? ⟨gb,3,none⟩ = some (.int .i64 y3):=(blk_cell BY.out 3).trans rfl))
         go_meet
         case rel=>exact ⟨by rw [BV.out];first | rfl | (simp;done),HB,BK,BY⟩
        ·
         have BV:=a0_ (show q1 = false from hdf1.trans (by first | rfl | (cases b4 <;> rfl) | simp))
         clear hdf1
         go_wp2_with (first
     | (go_at_call 65;(first | (with_reducible refine (spec_inRange.calls y3 0 99 _ _ A1.out).mono ?_) | (with_reducible refine (spec_inRange.calls y0 0 5 _ _ A2.out).mono ?_));rintro e w' ⟨rfl,hd'⟩;have hb':=hd'.below;clear hd';replace HB:=a0_ (below_step HB.out hb');replace BK:=a0_ (blk_keptB BK.out hb');replace BY:=a0_ (blk_keptB BY.out hb');clear hb' hcz e0 e1 e2 e3;have hcz : w'.cell? ⟨w.heap.size,0,none⟩ = some (.slice A0_0 l0_0.length c0_0):=(blk_cell BK.out 0).trans rfl;have e0 : w'.cell? ⟨gb,0,none⟩ = some (.int .i64 y0):=(blk_cell BY.out 0).trans rfl;have e1 : w'.cell? ⟨gb,1,none⟩ = some (.bool false):=(blk_cell BY.out 1).trans rfl;have e2 : w'.cell? ⟨gb,2,none⟩ = some (.int .i64 y2):=(blk_cell BY.out 2).trans rfl;have e3 : w'.cell? ⟨gb,3,none⟩ = some (.int .i64 y3):=(blk_cell BY.out 3).trans rfl)
     | (go_at_call 48;refine (H3.out _ HB.out).mono ?_;rintro e w' ⟨rfl,hb'⟩;replace HB:=a0_ (below_step HB.out hb');replace BK:=a0_ (blk_keptB BK.out hb');replace BY:=a0_ (blk_keptB BY.out hb');clear hb' hcz e0 e1 e2 e3;have hcz : w'.cell? ⟨w.heap.size,0,none⟩ = some (.slice A0_0 l0_0.length c0_0):=(blk_cell BK.out 0).trans rfl;have e0 : w'.cell? ⟨gb,0,none⟩ = some (.int .i64 y0):=(blk_cell BY.out 0).trans rfl;have e1 : w'.cell? ⟨gb,1,none⟩ = some (.bool false):=(blk_cell BY.out 1).trans rfl;have e2 : w'.cell? ⟨gb,2,none⟩ = some (.int .i64 y2):=(blk_cell BY.out 2).trans rfl;have e3 : w'.cell? ⟨gb,3,none⟩ = some (.int .i64 y3):=(blk_cell BY.out 3).trans rfl))
         go_meet
         case rel=>exact ⟨by rw [BV.out];first | rfl | (simp;done),HB,BK,BY⟩
        ·
         have BV:=a0_ (show q1 = false from hdf1.trans (by first | rfl | (cases b4 <;> rfl) | simp))
         clear hdf1
         go_wp2_with (first
     | (go_at_call 65;(first | (with_reducible refine (spec_inRange.calls y3 0 99 _ _ A1.out).mono ?_) | (with_reducible refine (spec_inRange.calls y0 0 5 _ _ A2.out).mono ?_));rintro e w' ⟨rfl,hd'⟩;have hb':=hd'.below;clear hd';replace HB:=a0_ (below_step HB.out hb');replace BK:=a0_ (blk_keptB BK.out hb');replace BY:=a0_ (blk_keptB BY.out hb');clear hb' hcz e0 e1 e2 e3;have hcz : w'.cell? ⟨w.heap.size,0,none⟩ = some (.slice A0_0 l0_0.length c0_0):=(blk_cell BK.out 0).trans rfl;have e0 : w'.cell? ⟨gb,0,none⟩ = some (.int .i64 y0):=(blk_cell BY.out 0).trans rfl;have e1 : w'.cell? ⟨gb,1,none⟩ = some (.bool false):=(blk_cell BY.out 1).trans rfl;have e2 : w'.cell? ⟨gb,2,none⟩ = some (.int .i64 y2):=(blk_cell BY.out 2).trans rfl;have e3 : w'.cell? ⟨gb,3,none⟩ = some (.int .i64 y3):=(blk_cell BY.out 3).trans rfl)
     | (go_at_call 48;refine (H3.out _ HB.out).mono ?_;rintro e w' ⟨rfl,hb'⟩;replace HB:=a0_ (below_step HB.out hb');replace BK:=a0_ (blk_keptB BK.out hb');replace BY:=a0_ (blk_keptB BY.out hb');clear hb' hcz e0 e1 e2 e3;have hcz : w'.cell? ⟨w.heap.size,0,none⟩ = some (.slice A0_0 l0_0.length c0_0):=(blk_cell BK.out 0).trans rfl;have e0 : w'.cell? ⟨gb,0,none⟩ = some (.int .i64 y0):=(blk_cell BY.out 0).trans rfl;have e1 : w'.cell? ⟨gb,1,none⟩ = some (.bool false):=(blk_cell BY.out 1).trans rfl;have e2 : w'.cell? ⟨gb,2,none⟩ = some (.int .i64 y2):=(blk_cell BY.out 2).trans rfl;have e3 : w'.cell? ⟨gb,3,none⟩ = some (.int .i64 y3):=(blk_cell BY.out 3).trans rfl))
         go_meet
         case rel=>exact ⟨by rw [BV.out];first | rfl | (simp;done),HB,BK,BY⟩
        ·
         have BV:=a0_ (show q1 = true from hdf1.trans (by first | rfl | (cases b4 <;> rfl) | simp))
         clear hdf1
         go_wp2_with (first
     | (go_at_call 65;(first | (with_reducible refine (spec_inRange.calls y3 0 99 _ _ A1.out).mono ?_) | (with_reducible refine (spec_inRange.calls y0 0 5 _ _ A2.out).mono ?_));rintro e w' ⟨rfl,hd'⟩;have hb':=hd'.below;clear hd';replace HB:=a0_ (below_step HB.out hb');replace BK:=a0_ (blk_keptB BK.out hb');replace BY:=a0_ (blk_keptB BY.out hb');clear hb' hcz e0 e1 e2 e3;have hcz : w'.cell? ⟨w.heap.size,0,none⟩ = some (.slice A0_0 l0_0.length c0_0):=(blk_cell BK.out 0).trans rfl;have e0 : w'.cell? ⟨gb,0,none⟩ = some (.int .i64 y0):=(blk_cell BY.out 0).trans rfl;have e1 : w'.cell? ⟨gb,1,none⟩ = some (.bool false):=(blk_cell BY.out 1).trans rfl;have e2 : w'.cell? ⟨gb,2,none⟩ = some (.int .i64 y2):=(blk_cell BY.out 2).trans rfl;have e3 : w'.cell? ⟨gb,3,none⟩ = some (.int .i64 y3):=(blk_cell BY.out 3).trans rfl)
     | (go_at_call 48;refine (H3.out _ HB.out).mono ?_;rintro e w' ⟨rfl,hb'⟩;replace HB:=a0_ (below_step HB.out hb');replace BK:=a0_ (blk_keptB BK.out hb');replace BY:=a0_ (blk_keptB BY.out hb');clear hb' hcz e0 e1 e2 e3;have hcz : w'.cell? ⟨w.heap.size,0,none⟩ = some (.slice A0_0 l0_0.length c0_0):=(blk_cell BK.out 0).trans rfl;have e0 : w'.cell? ⟨gb,0,none⟩ = some (.int .i64 y0):=(blk_cell BY.out 0).trans rfl;have e1 : w'.cell? ⟨gb,1,none⟩ = some (.bool false):=(blk_cell BY.out 1).trans rfl;have e2 : w'.cell? ⟨gb,2,none⟩ = some (.int .i64 y2):=(blk_cell BY.out 2).trans rfl;have e3 : w'.cell? ⟨gb,3,none⟩ = some (.int .i64 y3):=(blk_cell BY.out 3).trans rfl))
         go_meet
         case rel=>exact ⟨by rw [BV.out];first | rfl | (simp;done),HB,BK,BY⟩
   case rest =>
    clear hW1 hW2 hW3 hdf1
    obtain ⟨rfl,HB,BK,BY⟩:=hcut
    cases q1 with
    | false =>
     go_wp2
     go_ret
     refine ⟨?_,HB.out⟩
     rw [← HRr.out,vG_false hlt (by rw [B.out,HDF.out];rfl)]
     rfl
    | true =>
     go_upto_region 7 with (fail)
     have hdf2:=HDF.out
     rw [Bool.true_and] at hdf2
     clear HDF
     generalize hq2 : okP l0_0 l1 kk ⟨y0,y1,y2,y3⟩ = q2 at hdf2
     have HQ:=a0_ hq2
     clear hq2
     go_cut [101] (fun v101 wd=>v101 = .bool (!q2) ∧ Aside0 (Below w.heap.size w wd) ∧ Aside0 (wd.heap[w.heap.size]? = some (.cells #[.slice A0_0 l0_0.length c0_0] 25 (0,0))))
     case first =>
      have e0:=(blk_cell BY.out 0).trans rfl
      have e1:=(blk_cell BY.out 1).trans rfl
      have hw2 : IntKind.i64.wrap ((kk : Int) + 1) = (kk : Int) + 1:=by rw [IntKind.wrap_i64];omega
      generalize endG l1 kk = en at HEN hdf2
      by_cases hk0 : kk = 0
      ·
       have d0 : decide (0 < (kk : Int)) = false:=decide_eq_false (by omega)
       have d0n : decide (0 < kk) = false:=decide_eq_false (by omega)
       rw [if_pos hk0,Bool.true_and] at hdf2
       clear hk0 HA HRr HV HH
       cases y1 with
       | false =>
        have BV:=a0_ (show q2 = true from hdf2.trans (by first | rfl | simp))
        clear hdf2
        go_quiet (first | (go_at_call 66;(with_reducible refine (HEN.out _ (pw_below_drewN HB.out _)).mono ?_);rintro e w' ⟨rfl,⟨nd,rfl⟩⟩;exact ⟨rfl,_,World.drewN_drewN _ _ _⟩))
        go_wp2
        go_meet
        case rel=>exact ⟨by rw [BV.out];first | rfl | (simp [*];done),⟨pw_below_drewN HB.out _⟩,⟨blk_drewN BK.out _⟩⟩
       | true =>
        cases h7 : ((en : Int) == (kk : Int) + 1) <;> rw [h7] at hdf2
        ·
         have BV:=a0_ (show q2 = true from hdf2.trans (by first | rfl | simp))
         clear hdf2
         go_quiet (first | (go_at_call 66;(with_reducible refine (HEN.out _ (pw_below_drewN HB.out _)).mono ?_);rintro e w' ⟨rfl,⟨nd,rfl⟩⟩;exact ⟨rfl,_,World.drewN_drewN _ _ _⟩))
         go_wp2
         go_meet
         case rel=>exact ⟨by rw [BV.out];first | rfl | (simp [*];done),⟨pw_below_drewN HB.out _⟩,⟨blk_drewN BK.out _⟩⟩
        ·
         have BV:=a0_ (show q2 = false from hdf2.trans (by first | rfl | simp))
         clear hdf2
         go_quiet (first | (go_at_call 66;(with_reducible refine (HEN.out _ (pw_below_drewN HB.out _)).mono ?_);rintro e w' ⟨rfl,⟨nd,rfl⟩⟩;exact ⟨rfl,_,World.drewN_drewN _ _ _⟩))
         go_wp2
         go_meet
         case rel=>exact ⟨by rw [BV.out];first | rfl | (simp [*];done),⟨pw_below_drewN HB.out _⟩,⟨blk_drewN BK.out _⟩⟩
      ·
       have d0 : decide (0 < (kk : Int)) = true:=decide_eq_true (by omega)
       have d0n : decide (0 < kk) = true:=decide_eq_true (by omega)
       rw [if_neg hk0] at hdf2
       obtain ⟨m,hm⟩ : ∃ m,m = kk - 1:=⟨_,rfl⟩
       rw [← hm] at hdf2
       obtain ⟨ad',ea',hp0,hp1,hp2,hp3⟩:=at_T47 HR.out (m : Int) (by omega) (by omega)
       cases ea'
       have hrd : rd_T47 l1 (m : Int) = l1.getD m z47:=by simp [rd_T47]
       have hdep:=okP_depth (HA.out m (by omega))
       rw [hrd] at hp0 hp1
       rw [Int.toNat_natCast] at hp0 hp1
       generalize l1.getD m z47 = q at hp0 hp1 hdep hdf2
       obtain ⟨q0,q1,q2',q3⟩:=q
       replace hp0:=(HB.out.cell (World.block_lt_of_cell? w _ hp0)).trans hp0
       replace hp1:=(HB.out.cell (World.block_lt_of_cell? w _ hp1)).trans hp1
       have hw1 : IntKind.i64.wrap ((kk : Int) - 1) = (m : Int):=by rw [IntKind.wrap_i64];omega
       have hw3 : IntKind.i64.wrap (q0 + 1) = q0 + 1:=by have:=hdep.1;have:=hdep.2;simp only at *;rw [IntKind.wrap_i64];omega
       have g0 : (0 : Int) ≤ (m : Int):=by omega
       have g1 : (m : Int) < (l1.length : Int):=by omega
       clear hp2 hp3 hrd hdep hk0 hm HA HRr HV HH
       cases hu1 : decide (q0 + 1 < y0)
       ·
        cases hu2 : decide (q0 < y0)
        ·
         rw [show okUp ⟨q0,q1,q2',q3⟩ ⟨y0,y1,y2,y3⟩ = true from (by unfold okUp;simp only [hu1,hu2];rfl),Bool.true_and] at hdf2
         cases y1 with
         | false =>
          have BV:=a0_ (show q2 = true from hdf2.trans (by first | rfl | simp))
          clear hdf2
          go_quiet (first | (go_at_call 66;(with_reducible refine (HEN.out _ (pw_below_drewN HB.out _)).mono ?_);rintro e w' ⟨rfl,⟨nd,rfl⟩⟩;exact ⟨rfl,_,World.drewN_drewN _ _ _⟩))
          go_wp2
          go_meet
          case rel=>exact ⟨by rw [BV.out];first | rfl | (simp [*];done),⟨pw_below_drewN HB.out _⟩,⟨blk_drewN BK.out _⟩⟩
         | true =>
          cases h7 : ((en : Int) == (kk : Int) + 1) <;> rw [h7] at hdf2
          ·
           have BV:=a0_ (show q2 = true from hdf2.trans (by first | rfl | simp))
           clear hdf2
           go_quiet (first | (go_at_call 66;(with_reducible refine (HEN.out _ (pw_below_drewN HB.out _)).mono ?_);rintro e w' ⟨rfl,⟨nd,rfl⟩⟩;exact ⟨rfl,_,World.drewN_drewN _ _ _⟩))
           go_wp2
           go_meet
           case rel=>exact ⟨by rw [BV.out];first | rfl | (simp [*];done),⟨pw_below_drewN HB.out _⟩,⟨blk_drewN BK.out _⟩⟩
          ·
           have BV:=a0_ (show q2 = false from hdf2.trans (by first | rfl | simp))
           clear hdf2
           go_quiet (first | (go_at_call 66;(with_reducible refine (HEN.out _ (pw_below_drewN HB.out _)).mono ?_);rintro e w' ⟨rfl,⟨nd,rfl⟩⟩;exact ⟨rfl,_,World.drewN_drewN _ _ _⟩))
           go_wp2
           go_meet
           case rel=>exact ⟨by rw [BV.out];first | rfl | (simp [*];done),⟨pw_below_drewN HB.out _⟩,⟨blk_drewN BK.out _⟩⟩
        ·
         cases q1 with
         | false =>
          rw [show okUp ⟨q0,false,q2',q3⟩ ⟨y0,y1,y2,y3⟩ = false from (by unfold okUp;simp only [hu1,hu2];rfl),Bool.false_and] at hdf2
          have BV:=a0_ (show q2 = false from hdf2.trans (by first | rfl | simp))
          clear hdf2
          go_quiet (first | (go_at_call 66;(with_reducible refine (HEN.out _ (pw_below_drewN HB.out _)).mono ?_);rintro e w' ⟨rfl,⟨nd,rfl⟩⟩;exact ⟨rfl,_,World.drewN_drewN _ _ _⟩))
          go_wp2
          go_meet
          case rel=>exact ⟨by rw [BV.out];first | rfl | (simp [*];done),⟨pw_below_drewN HB.out _⟩,⟨blk_drewN BK.out _⟩⟩
         | true =>
          rw [show okUp ⟨q0,true,q2',q3⟩ ⟨y0,y1,y2,y3⟩ = true from (by unfold okUp;simp only [hu1,hu2];rfl),Bool.true_and] at hdf2
          cases y1 with
          | false =>
           have BV:=a0_ (show q2 = true from hdf2.trans (by first | rfl | simp))
           clear hdf2
           go_quiet (first | (go_at_call 66;(with_reducible refine (HEN.out _ (pw_below_drewN HB.out _)).mono ?_);rintro e w' ⟨rfl,⟨nd,rfl⟩⟩;exact ⟨rfl,_,World.drewN_drewN _ _ _⟩))
           go_wp2
           go_meet
           case rel=>exact ⟨by rw [BV.out];first | rfl | (simp [*];done),⟨pw_below_drewN HB.out _⟩,⟨blk_drewN BK.out _⟩⟩
          | true =>
           cases h7 : ((en : Int) == (kk : Int) + 1) <;> rw [h7] at hdf2
           ·
            have BV:=a0_ (show q2 = true from hdf2.trans (by first | rfl | simp))
            clear hdf2
            go_quiet (first | (go_at_call 66;(with_reducible refine (HEN.out _ (pw_below_drewN HB.out _)).mono ?_);rintro e w' ⟨rfl,⟨nd,rfl⟩⟩;exact ⟨rfl,_,World.drewN_drewN _ _ _⟩))
            go_wp2
            go_meet
            case rel=>exact ⟨by rw [BV.out];first | rfl | (simp [*];done),⟨pw_below_drewN HB.out _⟩,⟨blk_drewN BK.out _⟩⟩
           ·
            have BV:=a0_ (show q2 = false from hdf2.trans (by first | rfl | simp))
            clear hdf2
            go_quiet (first | (go_at_call 66;(with_reducible refine (HEN.out _ (pw_below_drewN HB.out _)).mono ?_);rintro e w' ⟨rfl,⟨nd,rfl⟩⟩;exact ⟨rfl,_,World.drewN_drewN _ _ _⟩))
            go_wp2
            go_meet
            case rel=>exact ⟨by rw [BV.out];first | rfl | (simp [*];done),⟨pw_below_drewN HB.out _⟩,⟨blk_drewN BK.out _⟩⟩
       ·
        rw [show okUp ⟨q0,q1,q2',q3⟩ ⟨y0,y1,y2,y3⟩ = false from (by unfold okUp;simp only [hu1];rfl),Bool.false_and] at hdf2
        have BV:=a0_ (show q2 = false from hdf2.trans (by first | rfl | simp))
        clear hdf2
        go_quiet (first | (go_at_call 66;(with_reducible refine (HEN.out _ (pw_below_drewN HB.out _)).mono ?_);rintro e w' ⟨rfl,⟨nd,rfl⟩⟩;exact ⟨rfl,_,World.drewN_drewN _ _ _⟩))
        go_wp2
        go_meet
        case rel=>exact ⟨by rw [BV.out];first | rfl | (simp [*];done),⟨pw_below_drewN HB.out _⟩,⟨blk_drewN BK.out _⟩⟩
     case rest =>
      clear HB BK hdf2
      obtain ⟨rfl,HB,BK⟩:=hcut
      cases q2 with
      | false =>
       go_wp2
       go_ret
       refine ⟨?_,HB.out⟩
       rw [← HRr.out,vG_false hlt (by rw [B.out,HQ.out])]
       rfl
      | true =>
       go_wp2
       go_roundg (l1.length - (kk + 1))
       case measure=>omega
       case rel =>
        refine ⟨kk + 1,by omega,by omega,by go_num,⟨HB.out⟩,⟨BK.out⟩,⟨fun j hj=>?_⟩⟩
        by_cases e : j = kk
        ·subst e;rw [B.out,HQ.out]
        ·exact HA.out j (by omega)
  ·have hltz : ¬ (kk : Int) < (l1.length : Int):=by omega
   have : kk = l1.length:=by omega
   subst this
   have hps:=psG_of HA.out
   have A3:=spec_inRange_ev (l1.length : Int) 1 16
   have hvg : vG l0_0 l1 = (vT l0_0 && (decide ((1 : Int) ≤ (l1.length : Int)) && decide ((l1.length : Int) ≤ 16))):=by unfold vG;rw [hps,Bool.true_and];congr 2 <;> exact decide_eq_decide.2 (by omega)
   rw [HRr.out] at hvg
   generalize (decide ((1 : Int) ≤ (l1.length : Int)) && decide ((l1.length : Int) ≤ 16)) = b16 at A3 hvg
   have A3:=a0_ A3
   have HVG:=a0_ hvg
   clear hvg hps HRr HA HH HR
   cases hv : vT l0_0 with
   | false =>
    rw [hv] at HV HVG
    clear hv
    go_wp2_with (first | (go_at_call 67;refine (HV.out _ BW.out).mono ?_;rintro e w1 ⟨rfl,hb1⟩;replace BW:=a0_ (below_step BW.out hb1)) | (go_at_call 65;(with_reducible refine (spec_inRange.calls (l1.length : Int) 1 16 _ _ A3.out).mono ?_);rintro e w' ⟨rfl,hd'⟩;replace BW:=a0_ (below_step BW.out hd'.below)))
    go_ret
    exact ⟨by rw [HVG.out];first | rfl | (simp;done),BW.out⟩
   | true =>
    rw [hv] at HV HVG
    clear hv
    go_wp2_with (first | (go_at_call 67;refine (HV.out _ BW.out).mono ?_;rintro e w1 ⟨rfl,hb1⟩;replace BW:=a0_ (below_step BW.out hb1)) | (go_at_call 65;(with_reducible refine (spec_inRange.calls (l1.length : Int) 1 16 _ _ A3.out).mono ?_);rintro e w' ⟨rfl,hd'⟩;replace BW:=a0_ (below_step BW.out hd'.below)))
    go_ret
    exact ⟨by rw [HVG.out];first | rfl | (simp;done),BW.out⟩
end Go.Proofs.Ytfphcdbnnienhaa.P
namespace Go.Proofs.Ytfphcdbnnienhaa.P
open Go.RowKit Go.Proofs.YtfphcdbnnienhaaW.PrintWords Go.Proofs.YtfphcdbnnienhaaW.PrintLast Go.Proofs.YtfphcdbnnienhaaW.PrintMore
attribute [local go_sem] max2_int min2_int max_two min_two max_three min_three max_four min_four
set_option linter.unusedVariables false
set_option linter.unusedSimpArgs false
def spec_hasInt.l0 : Nat → List Int → Int → Int → Option (Bool)
 | 0,_,_,_=>none
 | k + 1,x0,x1,x5=>if x5 < (x0.length : Int) then (if 0 ≤ x5 then (if (rd x0 x5) = x1 then (some true) else (spec_hasInt.l0 k x0 x1 (wrap64 (x5 + 1)))) else (none)) else (some false)
def spec_hasInt.f (k : Nat) (l0 : List Int) (a1 : Int) : Option (Bool):=spec_hasInt.l0 k l0 a1 0
theorem spec_hasInt.mono_l : ∀ k,(∀ y0 y1 y2,LeO (spec_hasInt.l0 k y0 y1 y2) (spec_hasInt.l0 (k + 1) y0 y1 y2))
 | 0=>fun _ _ _ r h=>by simp [spec_hasInt.l0] at h
 | k + 1=>by
  have ih0:=spec_hasInt.mono_l k
  ·intro y0 y1 y2
   unfold spec_hasInt.l0
   repeat' first
   | (with_reducible exact ih0 _ _ _)
   | (with_reducible exact LeO.refl _)
   | (with_reducible exact LeO.none _)
   | (with_reducible refine LeO.ite ?_ ?_)
   | (with_reducible refine LeO.bind ?_ (fun _=>?_))
   | exact ih0 _ _ _
   | exact LeO.none _
   | refine LeO.ite ?_ ?_
   | refine LeO.bind ?_ (fun _=>?_)
theorem spec_hasInt.mono : ∀ a0 a1 k,LeO (spec_hasInt.f k a0 a1) (spec_hasInt.f (k + 1) a0 a1):=by
 intro a0 a1 k
 have ih0:=spec_hasInt.mono_l k
 unfold spec_hasInt.f
 repeat' first
   | (with_reducible exact ih0 _ _ _)
   | (with_reducible exact LeO.refl _)
   | (with_reducible exact LeO.none _)
   | (with_reducible refine LeO.ite ?_ ?_)
   | (with_reducible refine LeO.bind ?_ (fun _=>?_))
   | exact ih0 _ _ _
   | exact LeO.none _
   | refine LeO.ite ?_ ?_
   | refine LeO.bind ?_ (fun _=>?_)
set_option maxHeartbeats 8000000 in
set_option maxRecDepth 100000 in
theorem spec_hasInt.calls (k : Nat) (A0 : Option Addr) (c0 : Nat) (l0 : List Int) (a1 : Int) (r : Bool) (w : World) (hr0 : Kd.C (Kd.int .i64) w A0 l0.length l0) (hc0 : l0.length ≤ c0) (h : spec_hasInt.f k l0 a1 = some r) :
  Calls Try.prog 92 #[.slice A0 l0.length c0,.int .i64 a1] w fun e w'=>e = .returned (.bool r) ∧ Drawn0 w w':=by
 have HR0:=a0_ hr0
 have HC0:=a0_ hc0
 clear hr0 hc0
 have H : (spec_hasInt.l0 k l0 a1 0) = some r:=h
 clear h
 have H':=a0_ H
 clear H
 go_enter Try.func92,Try.ntmps92
 go_wp2
 go_loopg [5] k (fun kq v5 w'=>∃ (x5_1 : Int),v5 = .int .i64 x5_1 ∧ Aside0 (spec_hasInt.l0 kq l0 a1 x5_1 = some r) ∧ Aside0 (kq ≤ k) ∧ Drawn0 w w')
 case atStart=>exact ⟨(0),(by first | rfl | (simp;done) | (simp [*];done)),H',⟨Nat.le_refl _⟩,by repeat (first | exact Drawn0.refl _ | apply Drawn0.step)⟩
 case round =>
  clear H'
  try clear p2
  obtain ⟨x5_1,rfl,HA,HK1,⟨m1,rfl⟩⟩:=hrel
  cases gk with
  | zero=>exact absurd HA.out (by simp [spec_hasInt.l0])
  | succ k1 =>
   have H:=HA.out
   clear HA
   simp only [spec_hasInt.l0] at H
   by_cases c3 : x5_1 < (l0.length : Int)
   ·rw [if_pos c3] at H
    have c3b0 : decide (x5_1 < (l0.length : Int)) = true:=decide_eq_true c3
    clear c3
    by_cases c4 : 0 ≤ x5_1
    ·rw [if_pos c4] at H
     have c4b0 : decide (0 ≤ x5_1) = true:=decide_eq_true c4
     clear c4
     by_cases c5 : (rd l0 x5_1) = a1
     ·rw [if_pos c5] at H
      have c5b0 : ((rd l0 x5_1) == a1) = true:=beq_iff_eq.mpr c5
      have c5b1 : ((rd l0 x5_1) != a1) = false:=bne_eq_false_iff_eq.mpr c5
      clear c5
      obtain rfl:=Option.some.inj H
      have p1 : 0 ≤ (x5_1 : Int):=of_decide_eq_true (by first | (with_reducible assumption) | assumption)
      have q1 : x5_1 < (l0.length : Int):=of_decide_eq_true (by first | (with_reducible assumption) | assumption)
      obtain ⟨ad1,e1,hx1_0⟩:=Kd.at_int HR0.out x5_1 p1 q1
      cases e1
      replace p1:=eq_true p1
      replace q1:=eq_true q1
      go_wp2
      go_ret
      exact ⟨by first | rfl | (simp;done) | (simp [*];done),by repeat (first | exact Drawn0.refl _ | apply Drawn0.step)⟩
     ·rw [if_neg c5] at H
      have c5b0 : ((rd l0 x5_1) == a1) = false:=beq_eq_false_iff_ne.mpr c5
      have c5b1 : ((rd l0 x5_1) != a1) = true:=bne_iff_ne.mpr c5
      have H':=a0_ H
      clear H
      have p1 : 0 ≤ (x5_1 : Int):=of_decide_eq_true (by first | (with_reducible assumption) | assumption)
      have q1 : x5_1 < (l0.length : Int):=of_decide_eq_true (by first | (with_reducible assumption) | assumption)
      obtain ⟨ad1,e1,hx1_0⟩:=Kd.at_int HR0.out x5_1 p1 q1
      cases e1
      replace p1:=eq_true p1
      replace q1:=eq_true q1
      go_wp2
      go_roundg k1
      case measure=>have:=HK1.out;omega
      case rel=>exact ⟨(wrap64 (x5_1 + 1)),(by first | rfl | (simp;done) | (simp [*];done)),H',⟨by have:=HK1.out;omega⟩,by repeat (first | exact Drawn0.refl _ | apply Drawn0.step)⟩
    ·rw [if_neg c4] at H
     exact absurd H (by simp)
   ·rw [if_neg c3] at H
    have c3b0 : decide (x5_1 < (l0.length : Int)) = false:=decide_eq_false c3
    clear c3
    obtain rfl:=Option.some.inj H
    go_wp2
    go_ret
    exact ⟨by first | rfl | (simp;done) | (simp [*];done),by repeat (first | exact Drawn0.refl _ | apply Drawn0.step)⟩
theorem spec_hasInt_l0 (l : List Int) (x : Int) (hs : l.length ≤ 9223372036854775807) (d : Nat) : ∀ (k : Nat) (i : Nat),i ≤ l.length → l.length - i = d → d < k → spec_hasInt.l0 k l x (i : Int) = some ((l.drop i).contains x):=by
 induction d with
 | zero =>
  intro k i hi hd hk
  obtain ⟨k,rfl⟩ : ∃ m,k = m + 1:=⟨k - 1,by omega⟩
  simp only [spec_hasInt.l0]
  rw [if_neg (show ¬ (i : Int) < (l.length : Int) by omega),List.drop_eq_nil_of_le (by omega)]
  rfl
 | succ d ih =>
  intro k i hi hd hk
  obtain ⟨k,rfl⟩ : ∃ m,k = m + 1:=⟨k - 1,by omega⟩
  have hlt : i < l.length:=by omega
  simp only [spec_hasInt.l0]
  have hrd : rd l (i : Int) = l[i]:=by simp [rd,hlt]
  rw [if_pos (show (i : Int) < (l.length : Int) by omega),if_pos (show (0 : Int) ≤ (i : Int) by omega),hrd,List.drop_eq_getElem_cons hlt]
  by_cases h1 : l[i] = x
  ·rw [if_pos h1];simp [h1]
  ·rw [if_neg h1,wrap_succ (n:=l.length) (by omega) (by omega) (by omega)]
   rw [show ((i : Int) + 1) = ((i + 1 : Nat) : Int) by omega,ih k (i + 1) (by omega) (by omega) (by omega)]
   have h2 : ¬ x = l[i]:=fun e=>h1 e.symm
   rw [List.contains_cons,beq_eq_false_iff_ne.2 h2,Bool.false_or]
theorem spec_hasInt_ev (l : List Int) (x : Int) (hs : l.length ≤ 9223372036854775807) (k : Nat) (hk : l.length < k) : spec_hasInt.f k l x = some (l.contains x):=by
 have:=spec_hasInt_l0 l x hs l.length k 0 (by omega) (by omega) hk
 rw [List.drop_zero] at this
 exact this
end Go.Proofs.Ytfphcdbnnienhaa.P
namespace Go.Proofs.Ytfphcdbnnienhaa.P
open Go.RowKit Go.Proofs.YtfphcdbnnienhaaW.PrintWords Go.Proofs.YtfphcdbnnienhaaW.PrintLast Go.Proofs.YtfphcdbnnienhaaW.PrintMore
attribute [local go_sem] max2_int min2_int max_two min_two max_three min_three max_four min_four
set_option linter.unusedVariables false
set_option linter.unusedSimpArgs false
def spec_above.l0 : Nat → Int → List Int → List (S85) → Option (List Int)
 | 0,_,_,_=>none
 | k + 1,x1,x5,x2000=>if x1 ≥ 0 then (if x5.length < 17592186044416 then (if 0 ≤ x1 then (if x1 < (x2000.length : Int) then (spec_above.l0 k ((rd_T85 x2000 x1).f1) (x5 ++ [x1]) x2000) else (none)) else (none)) else (none)) else (some x5)
def spec_above.f (k : Nat) (l0_0 : List (S85)) (a1 : Int) : Option (List Int):=spec_above.l0 k a1 (([] : List Int)) l0_0
theorem spec_above.mono_l : ∀ k,(∀ y0 y1 y2,LeO (spec_above.l0 k y0 y1 y2) (spec_above.l0 (k + 1) y0 y1 y2))
 | 0=>fun _ _ _ r h=>by simp [spec_above.l0] at h
 | k + 1=>by
  have ih0:=spec_above.mono_l k
  ·intro y0 y1 y2
   unfold spec_above.l0
   repeat' first
   | (with_reducible exact ih0 _ _ _)
   | (with_reducible exact LeO.refl _)
   | (with_reducible exact LeO.none _)
   | (with_reducible refine LeO.ite ?_ ?_)
   | (with_reducible refine LeO.bind ?_ (fun _=>?_))
   | exact ih0 _ _ _
   | exact LeO.none _
   | refine LeO.ite ?_ ?_
   | refine LeO.bind ?_ (fun _=>?_)
theorem spec_above.mono : ∀ a0 a1 k,LeO (spec_above.f k a0 a1) (spec_above.f (k + 1) a0 a1):=by
 intro a0 a1 k
 have ih0:=spec_above.mono_l k
 unfold spec_above.f
 repeat' first
   | (with_reducible exact ih0 _ _ _)
   | (with_reducible exact LeO.refl _)
   | (with_reducible exact LeO.none _)
   | (with_reducible refine LeO.ite ?_ ?_)
   | (with_reducible refine LeO.bind ?_ (fun _=>?_))
   | exact ih0 _ _ _
   | exact LeO.none _
   | refine LeO.ite ?_ ?_
   | refine LeO.bind ?_ (fun _=>?_)
set_option maxHeartbeats 8000000 in
set_option maxRecDepth 100000 in
theorem spec_above.calls (k : Nat) (A0_0 : Option Addr) (c0_0 : Nat) (l0_0 : List (S85)) (a1 : Int) (r : List Int) (w : World) (hr0_0 : Kd.C k85 w A0_0 l0_0.length l0_0) (hc0_0 : l0_0.length ≤ c0_0) (h : spec_above.f k l0_0 a1 = some r) :
  Calls Try.prog 93 #[.agg #[.slice A0_0 l0_0.length c0_0],.int .i64 a1] w fun e w'=>∃ v0_ : Value,e = .returned (v0_) ∧ Kd.R (Kd.int .i64) 3 w' w.heap.size (fun _=>True) v0_ r ∧ Below w.heap.size w w':=by
 have hu25:=Try.underlying25
 have HR0_0:=a0_ hr0_0
 have HC0_0:=a0_ hc0_0
 clear hr0_0 hc0_0
 have HB:=a0_ (Below.refl w.heap.size w)
 have H : (spec_above.l0 k a1 (([] : List Int)) l0_0) = some r:=h
 clear h
 obtain ⟨y2,hy2⟩ : ∃ y_ : List Int,y_ = (([] : List Int)):=⟨_,rfl⟩
 replace H : (spec_above.l0 k a1 y2 l0_0) = some r:=by first | (rw [hy2];with_reducible exact H) | (have H2_:=(Option.bind_some _ _).symm.trans H;rw [hy2];with_reducible exact H2_) | (have H2_:=(Option.bind_some _ _).symm.trans H;with_reducible exact H2_) | with_reducible exact H | (rw [hy2];exact H) | exact H
 have Ny2:=a0_ hy2
 clear hy2
 have H':=a0_ H
 clear H
 go_enter Try.func93,Try.ntmps93
 go_wp2_with (first | ((with_reducible refine gate_dst (N:=2) rfl ?_);refine box_event ?hg (N:=2) ?hd (cs:=#[.slice A0_0 l0_0.length c0_0]) (t:=25) ?hr ?_;(case hd=>rfl);(case hg=>rfl);(case hr=>first | (go_simp;done) | (go_simp;rfl));intro gb1 hg w3 hbox hb;have BK1:=a0_ (hbox);have GW1:=a0_ ((by rw [hg];exact (below_size hb_) : w.heap.size ≤ gb1));have GE1:=a0_ ((by rw [hg];exact (below_size hb_) : w.heap.size ≤ gb1));replace HB:=a0_ (below_step hb_ hb);clear hb hbox hg) | ((with_reducible refine gate_dst (N:=6) rfl ?_);refine Kd.R_lit (Kd.int .i64) _ 3 ?hg (N:=6) ?hd (xs:=([] : List Int)) (inner:=[]) (ok:=fun _=>True) (okp:=fun _=>True) ?hr ?hp (fun _ hk=>hk) trivial (Below.refl _ _) (Nat.le_refl _) (by simp) ?_;(case hd=>rfl);(case hg=>rfl);(case hr=>first | (go_simp;done) | (go_simp;rfl));(case hp=>exact (Reps.none _ _));intro v3 w4 ho5 hb hg_ hnew_;clear hg_ hnew_;(first | rw [← Ny2.out] at ho5 | (simp only [Int.reduceToNat] at ho5;rw [← Ny2.out] at ho5));have HO4:=a0_ (Kd.R_lower ho5 (below_size hb_));replace BK1:=kb_ BK1 hb;replace HB:=a0_ (below_step hb_ hb);clear hb ho5))
 go_loopg [1,5] k (fun kq v1 v5 w'=>∃ (x1_1 : Int) (x5_1 : List Int),v1 = .int .i64 x1_1 ∧ Aside0 (spec_above.l0 kq x1_1 x5_1 l0_0 = some r) ∧ Aside0 (kq ≤ k) ∧ Aside0 (Kd.R (Kd.int .i64) 3 w' w.heap.size (fun _=>True) v5 x5_1) ∧ Aside0 (w'.heap[gb1]? = some (.cells #[(.slice A0_0 l0_0.length c0_0)] 25 (0,0))) ∧ Aside0 (Below w.heap.size w w'))
 case atStart=>exact ⟨(a1),(y2),(by first | rfl | (simp;done) | (simp [*];done)),H',⟨Nat.le_refl _⟩,⟨by (with_reducible repeat (first | apply Kd.R_alloc | apply Kd.R_drewN | apply Kd.R_drew));exact HO4.out⟩,⟨by (with_reducible repeat (first | refine blk_drewN ?_ _ | refine blk_drew ?_ | refine blk_alloc ?_ _));exact BK1.out⟩,⟨hb_⟩⟩
 case round =>
  clear H'
  try clear p2
  obtain ⟨x1_1,x5_1,rfl,HA,HK1,HO_5,BK1,HB⟩:=hrel
  cases gk with
  | zero=>exact absurd HA.out (by simp [spec_above.l0])
  | succ k1 =>
   have H:=HA.out
   clear HA
   simp only [spec_above.l0] at H
   by_cases c6 : x1_1 ≥ 0
   ·rw [if_pos c6] at H
    have c6b0 : decide (0 ≤ x1_1) = true:=decide_eq_true c6
    clear c6
    by_cases c7 : x5_1.length < 17592186044416
    ·rw [if_pos c7] at H
     have LMc7:=a0_ c7
     clear c7
     obtain ⟨y5,hy5⟩ : ∃ y_ : List Int,y_ = (x5_1 ++ [x1_1]):=⟨_,rfl⟩
     replace H : (if 0 ≤ x1_1 then (if x1_1 < (l0_0.length : Int) then (spec_above.l0 k1 ((rd_T85 l0_0 x1_1).f1) y5 l0_0) else (none)) else (none)) = some r:=by first | (rw [hy5];with_reducible exact H) | (have H2_:=(Option.bind_some _ _).symm.trans H;rw [hy5];with_reducible exact H2_) | (have H2_:=(Option.bind_some _ _).symm.trans H;with_reducible exact H2_) | with_reducible exact H | (rw [hy5];exact H) | exact H
     have Ny5:=a0_ hy5
     clear hy5
     by_cases c8 : 0 ≤ x1_1
     ·rw [if_pos c8] at H
      have c8b0 : decide (0 ≤ x1_1) = true:=decide_eq_true c8
      clear c8
      by_cases c9 : x1_1 < (l0_0.length : Int)
      ·rw [if_pos c9] at H
       have c9b0 : decide (x1_1 < (l0_0.length : Int)) = true:=decide_eq_true c9
       clear c9
       have H':=a0_ H
       clear H
       go_wp2_with (first | ((with_reducible refine gate_builtin (b:=.append) (xs:=#[.tmp 15,.tmp 17]) rfl ?_);at_builtin;refine Kd.R_append (Kd.int .i64) (w0:=w) w.heap.size rfl (.tmp 15) (.tmp 17) 49 3 (.int .i64 0) 8 rfl Try.underlying49 info3 rfl (by decide) (by omega) u5 x5_1 x1_1 [.int .i64 x1_1] (fun _=>True) (fun _=>False) rfl rfl ?aP (fun _ hk=>hk.elim) ?aF ?aO ?aB ?aS ?aL ?_;(case aP=>exact rfl);(case aB=>exact hb_);(case aF=>exact (fun _ _=>trivial));(case aO=>exact (rr_ HO_5.out));(case aS=>exact (below_size hb_));(case aL=>have:=LMc7.out;omega);intro v6 w10 ho hb hg hat;rw [← Ny5.out] at ho;replace BK1:=a0_ (blk_grown (bb_ BK1.out) hg (Kd.R_ne HO_5.out BK1.out (by decide)));have HO7:=a0_ (ho);replace HB:=a0_ (hb);clear HO_5;clear ho hb hg hat;have hcz11_0 : w10.cell? ⟨gb1,0,none⟩ = some (.slice A0_0 l0_0.length c0_0):=(blk_cell BK1.out 0).trans rfl;have hfz11_0:=blk_frozen BK1.out 0;have p8 : 0 ≤ (x1_1 : Int):=of_decide_eq_true (by first | (with_reducible assumption) | assumption);have q8 : x1_1 < (l0_0.length : Int):=of_decide_eq_true (by first | (with_reducible assumption) | assumption);obtain ⟨ad8,e8,hx8_0,hx8_1⟩:=at_T85 HR0_0.out x1_1 p8 q8;cases e8;replace hx8_0:=(HB.out.cell (World.block_lt_of_cell? w _ hx8_0)).trans hx8_0;replace hx8_1:=(HB.out.cell (World.block_lt_of_cell? w _ hx8_1)).trans hx8_1;replace p8:=eq_true p8;replace q8:=eq_true q8))
       go_roundg k1
       case measure=>have:=HK1.out;omega
       case rel=>exact ⟨((rd_T85 l0_0 x1_1).f1),(y5),(by first | rfl | (simp;done) | (simp [*];done)),H',⟨by have:=HK1.out;omega⟩,⟨by (with_reducible repeat (first | apply Kd.R_alloc | apply Kd.R_drewN | apply Kd.R_drew));exact HO7.out⟩,⟨by (with_reducible repeat (first | refine blk_drewN ?_ _ | refine blk_drew ?_ | refine blk_alloc ?_ _));exact BK1.out⟩,⟨hb_⟩⟩
      ·rw [if_neg c9] at H
       exact absurd H (by simp)
     ·rw [if_neg c8] at H
      exact absurd H (by simp)
    ·rw [if_neg c7] at H
     exact absurd H (by simp)
   ·rw [if_neg c6] at H
    have c6b0 : decide (0 ≤ x1_1) = false:=decide_eq_false c6
    clear c6
    obtain rfl:=Option.some.inj H
    go_wp2
    go_ret
    exact ⟨_,by first | rfl | (simp [errW_none,errW_some] <;> rfl) | (simp [*,errW_none,errW_some] <;> rfl),by (with_reducible repeat (first | apply Kd.R_alloc | apply Kd.R_drewN | apply Kd.R_drew));exact HO_5.out,hb_⟩
theorem spec_above_l0 {t : List Cls} (h : vT t = true) : ∀ (k : Nat) (a : Int) (acc : List Int),a < (t.length : Int) → a + 1 < (k : Int) → 0 < k → acc.length + k ≤ 1000000 → spec_above.l0 k a acc t = some (acc ++ abv t a):=by
 intro k
 induction k with
 | zero=>intro a acc _ _ h0;exact absurd h0 (Nat.lt_irrefl 0)
 | succ k ih =>
  intro a acc ha hk _ hl
  simp only [spec_above.l0]
  by_cases h0 : a ≥ 0
  ·have hp:=vT_par' h a h0 ha
   rw [if_pos h0,if_pos (show acc.length < 17592186044416 by omega),if_pos (show 0 ≤ a from h0),if_pos ha,abv_step h a h0 ha,ih _ _ (by omega) (by omega) (by omega) (by simp;omega)]
   simp
  ·rw [if_neg h0,abv_neg t a (by omega),List.append_nil]
theorem spec_above_ev {t : List Cls} (h : vT t = true) (a : Int) (ha : a < (t.length : Int)) (k : Nat) (hk : 10 ≤ k) (hk2 : k ≤ 1000000) : spec_above.f k t a = some (abv t a):=by
 have h2:=vT_len h
 have:=spec_above_l0 h k a [] ha (by omega) (by omega) (by simp;omega)
 rw [List.nil_append] at this
 exact this
end Go.Proofs.Ytfphcdbnnienhaa.P
namespace Go.Proofs.Ytfphcdbnnienhaa.P
open Go.RowKit Go.Proofs.YtfphcdbnnienhaaW.PrintWords Go.Proofs.YtfphcdbnnienhaaW.PrintLast Go.Proofs.YtfphcdbnnienhaaW.PrintMore
attribute [local go_sem] max2_int min2_int max_two min_two max_three min_three max_four min_four
set_option linter.unusedVariables false
set_option linter.unusedSimpArgs false
def spec_isA.f (k : Nat) (l0_0 : List (S85)) (a1 : Int) (a2 : Int) : Option (Bool):=(spec_above.f k l0_0 a1).bind fun t2=>((spec_hasInt.f k t2 a2).bind fun t5=>(some t5))
theorem spec_isA.mono : ∀ a0 a1 a2 k,LeO (spec_isA.f k a0 a1 a2) (spec_isA.f (k + 1) a0 a1 a2):=by
 intro a0 a1 a2 k
 unfold spec_isA.f
 repeat' first
   | (with_reducible exact spec_above.mono _ _ _)
   | (with_reducible exact spec_hasInt.mono _ _ _)
   | (with_reducible exact LeO.refl _)
   | (with_reducible exact LeO.none _)
   | (with_reducible refine LeO.ite ?_ ?_)
   | (with_reducible refine LeO.bind ?_ (fun _=>?_))
   | exact spec_above.mono _ _ _
   | exact spec_hasInt.mono _ _ _
   | exact LeO.none _
   | refine LeO.ite ?_ ?_
   | refine LeO.bind ?_ (fun _=>?_)
set_option maxHeartbeats 8000000 in
set_option maxRecDepth 100000 in
theorem spec_isA.calls (k : Nat) (A0_0 : Option Addr) (c0_0 : Nat) (l0_0 : List (S85)) (a1 : Int) (a2 : Int) (r : Bool) (w : World) (hr0_0 : Kd.C k85 w A0_0 l0_0.length l0_0) (hc0_0 : l0_0.length ≤ c0_0) (h : spec_isA.f k l0_0 a1 a2 = some r) :
  Calls Try.prog 89 #[.agg #[.slice A0_0 l0_0.length c0_0],.int .i64 a1,.int .i64 a2] w fun e w'=>e = .returned (.bool r) ∧ Below w.heap.size w w':=by
 have hu25:=Try.underlying25
 have HR0_0:=a0_ hr0_0
 have HC0_0:=a0_ hc0_0
 clear hr0_0 hc0_0
 have HB:=a0_ (Below.refl w.heap.size w)
 have H : ((spec_above.f k l0_0 a1).bind fun t2=>((spec_hasInt.f k t2 a2).bind fun t5=>(some t5))) = some r:=h
 clear h
 replace H:=Option.bind_eq_some_iff.mp H
 obtain ⟨t2,A40,H⟩:=H
 replace H : ((spec_hasInt.f k t2 a2).bind fun t5=>(some t5)) = some r:=H
 have A4:=a0_ A40
 clear A40
 replace H:=Option.bind_eq_some_iff.mp H
 obtain ⟨t5,A50,H⟩:=H
 replace H : (some t5) = some r:=H
 have A5:=a0_ A50
 clear A50
 obtain rfl:=Option.some.inj H
 go_enter Try.func89,Try.ntmps89
 go_wp2_with (first | ((with_reducible refine gate_dst (N:=3) rfl ?_);refine box_event ?hg (N:=3) ?hd (cs:=#[.slice A0_0 l0_0.length c0_0]) (t:=25) ?hr ?_;(case hd=>rfl);(case hg=>rfl);(case hr=>first | (go_simp;done) | (go_simp;rfl));intro gb1 hg w6 hbox hb;have BK1:=a0_ (hbox);have GW1:=a0_ ((by rw [hg];exact (below_size hb_) : w.heap.size ≤ gb1));have GE1:=a0_ ((by rw [hg];exact (below_size hb_) : w.heap.size ≤ gb1));replace HB:=a0_ (below_step hb_ hb);clear hb hbox hg;have hcz7_0 : w6.cell? ⟨gb1,0,none⟩ = some (.slice A0_0 l0_0.length c0_0):=(blk_cell BK1.out 0).trans rfl;have hfz7_0:=blk_frozen BK1.out 0) | ((with_reducible refine gate_callee (f:=93) rfl ?_);refine goesL_ (some 9) rfl rfl Try.func93 (by kernel_rfl) rfl #[.agg #[.slice A0_0 l0_0.length c0_0],.int .i64 a1] rfl lm_ ?_;(with_reducible refine (spec_above.calls k _ _ l0_0 a1 t2 _ ?side1 ?side2 A4.out).mono ?_);(case side1=>exact cc_ (Kd.C_below HR0_0.out HB.out));(case side2=>exact HC0_0.out);rintro e w8 ⟨v3,rfl,ho0,hb⟩;refine ⟨_,rfl,?_⟩;have HO4:=a0_ (Kd.R_lower ho0 (below_size hb_));replace BK1:=kb_ BK1 hb;replace HB:=a0_ (below_step hb_ hb);(try clear hb);(try clear ho0);obtain ⟨Ao9,co9,eo9⟩:=Kd.R_slice HO4.out;subst eo9) | ((with_reducible refine gate_callee (f:=92) rfl ?_);refine goesL_ (some 11) rfl rfl Try.func92 (by kernel_rfl) rfl #[.slice Ao9 t2.length co9,.int .i64 a2] rfl lm_ ?_;(with_reducible refine (spec_hasInt.calls k _ _ t2 a2 t5 _ ?side1 ?side2 A5.out).mono ?_);(case side1=>exact cc_ (Kd.R_reads' HO4.out).2.2);(case side2=>exact (Kd.R_reads' HO4.out).2.1);rintro e w' ⟨rfl,⟨nd,rfl⟩⟩;refine ⟨_,rfl,?_⟩))
 go_ret
 exact ⟨by first | rfl | (simp [errW_none,errW_some] <;> rfl) | (simp [*,errW_none,errW_some] <;> rfl),hb_⟩
theorem spec_isA_ev {t : List Cls} (h : vT t = true) (a b : Int) (ha : a < (t.length : Int)) (k : Nat) (hk : 10 ≤ k) (hk2 : k ≤ 1000000) : spec_isA.f k t a b = some (isA t a b):=by
 have hl:=abv_len h a ha
 unfold spec_isA.f
 rw [spec_above_ev h a ha k hk hk2]
 simp only [Option.bind_some]
 rw [spec_hasInt_ev _ _ (by omega) k (by omega)]
 rfl
theorem spec_isA_Ev {t : List Cls} (h : vT t = true) (a b : Int) (ha : a < (t.length : Int)) : Ev (fun k=>spec_isA.f k t a b) (isA t a b) :=
 Ev.of_mono (spec_isA.mono t a b) (K:=10) (spec_isA_ev h a b ha 10 (by omega) (by omega))
end Go.Proofs.Ytfphcdbnnienhaa.P
namespace Go.Proofs.Ytfphcdbnnienhaa.P
open Go.RowKit Go.Proofs.YtfphcdbnnienhaaW.PrintWords Go.Proofs.YtfphcdbnnienhaaW.PrintLast Go.Proofs.YtfphcdbnnienhaaW.PrintMore
attribute [local go_sem] max2_int min2_int max_two min_two max_three min_three max_four min_four
set_option linter.unusedVariables false
set_option linter.unusedSimpArgs false
def spec_keeps.l0 : Nat → List (S47) → Int → Int → Bool → Int → List (S85) → Option (Bool)
 | 0,_,_,_,_,_,_=>none
 | k + 1,x1,x2,x3,x4,x11,x2000=>(spec_endOf.f k x1 x2).bind fun t2=>(if x11 < t2 then (if 0 ≤ x11 then (if x11 < (x1.length : Int) then (if ((rd_T47 x1 x11).f1 = true) then (spec_keeps.l0 k x1 x2 x3 x4 (wrap64 (x11 + 1)) x2000) else ((spec_isA.f k x2000 ((rd_T47 x1 x11).f2) x3).bind fun t5=>(if (t5 == x4) = true then (some true) else (spec_keeps.l0 k x1 x2 x3 x4 (wrap64 (x11 + 1)) x2000)))) else (none)) else (none)) else (some false))
def spec_keeps.f (k : Nat) (l0_0 : List (S85)) (l1 : List (S47)) (a2 : Int) (a3 : Int) (a4 : Bool) : Option (Bool):=spec_keeps.l0 k l1 a2 a3 a4 a2 l0_0
theorem spec_keeps.mono_l : ∀ k,(∀ y0 y1 y2 y3 y4 y5,LeO (spec_keeps.l0 k y0 y1 y2 y3 y4 y5) (spec_keeps.l0 (k + 1) y0 y1 y2 y3 y4 y5))
 | 0=>fun _ _ _ _ _ _ r h=>by simp [spec_keeps.l0] at h
 | k + 1=>by
  have ih0:=spec_keeps.mono_l k
  ·intro y0 y1 y2 y3 y4 y5
   unfold spec_keeps.l0
   repeat' first
   | (with_reducible exact ih0 _ _ _ _ _ _)
   | (with_reducible exact spec_endOf.mono _ _ _)
   | (with_reducible exact spec_isA.mono _ _ _ _)
   | (with_reducible exact LeO.refl _)
   | (with_reducible exact LeO.none _)
   | (with_reducible refine LeO.ite ?_ ?_)
   | (with_reducible refine LeO.bind ?_ (fun _=>?_))
   | exact ih0 _ _ _ _ _ _
   | exact spec_endOf.mono _ _ _
   | exact spec_isA.mono _ _ _ _
   | exact LeO.none _
   | refine LeO.ite ?_ ?_
   | refine LeO.bind ?_ (fun _=>?_)
theorem spec_keeps.mono : ∀ a0 a1 a2 a3 a4 k,LeO (spec_keeps.f k a0 a1 a2 a3 a4) (spec_keeps.f (k + 1) a0 a1 a2 a3 a4):=by
 intro a0 a1 a2 a3 a4 k
 have ih0:=spec_keeps.mono_l k
 unfold spec_keeps.f
 repeat' first
   | (with_reducible exact ih0 _ _ _ _ _ _)
   | (with_reducible exact spec_endOf.mono _ _ _)
   | (with_reducible exact spec_isA.mono _ _ _ _)
   | (with_reducible exact LeO.refl _)
   | (with_reducible exact LeO.none _)
   | (with_reducible refine LeO.ite ?_ ?_)
   | (with_reducible refine LeO.bind ?_ (fun _=>?_))
   | exact ih0 _ _ _ _ _ _
   | exact spec_endOf.mono _ _ _
   | exact spec_isA.mono _ _ _ _
   | exact LeO.none _
   | refine LeO.ite ?_ ?_
   | refine LeO.bind ?_ (fun _=>?_)
def spec_keeps.T4 : Bool × List (List Nat × List Nat):=(true,[([],[]),([],[]),([0,1],[0,1]),([2],[2]),([3],[3]),([4],[4]),([5],[5]),([6],[6]),([6],[6]),([6],[6]),([8,9,6],[6,8,9]),([10,6],[6,10]),([11,6],[6,11]),([6],[6]),([7,12,13,6,6],[6,7,12,13]),([6],[6]),([14,15,6],[6,14,15]),([6,16],[6,16])])
def spec_keeps.B4 : List Nat:=[0,0,3,7,15,31,63,127,127,127,895,1919,3967,127,16383,127,65535,131071]
theorem spec_keeps.tab4 : rtab .any (opsOf Try.f75 4) = spec_keeps.T4:=by kernel_rfl
theorem spec_keeps.bits4 : waitsOk spec_keeps.T4.2 spec_keeps.B4 = true:=by kernel_rfl
set_option maxHeartbeats 8000000 in
set_option maxRecDepth 100000 in
theorem spec_keeps.calls (k : Nat) (A0_0 : Option Addr) (c0_0 : Nat) (l0_0 : List (S85)) (A1 : Option Addr) (c1 : Nat) (l1 : List (S47)) (a2 : Int) (a3 : Int) (a4 : Bool) (r : Bool) (w : World) (hr0_0 : Kd.C k85 w A0_0 l0_0.length l0_0) (hc0_0 : l0_0.length ≤ c0_0) (hr1 : Kd.C k47 w A1 l1.length l1) (hc1 : l1.length ≤ c1) (h : spec_keeps.f k l0_0 l1 a2 a3 a4 = some r) :
  Calls Try.prog 75 #[.agg #[.slice A0_0 l0_0.length c0_0],.slice A1 l1.length c1,.int .i64 a2,.int .i64 a3,.bool a4] w fun e w'=>e = .returned (.bool r) ∧ Below w.heap.size w w':=by
 have hu25:=Try.underlying25
 have HR0_0:=a0_ hr0_0
 have HC0_0:=a0_ hc0_0
 clear hr0_0 hc0_0
 have HR1:=a0_ hr1
 have HC1:=a0_ hc1
 clear hr1 hc1
 have HB:=a0_ (Below.refl w.heap.size w)
 have H : (spec_keeps.l0 k l1 a2 a3 a4 a2 l0_0) = some r:=h
 clear h
 have H':=a0_ H
 clear H
 go_enter Try.func75,Try.ntmps75
 go_wp2_with (first | ((with_reducible refine gate_dst (N:=5) rfl ?_);refine box_event ?hg (N:=5) ?hd (cs:=#[.slice A0_0 l0_0.length c0_0]) (t:=25) ?hr ?_;(case hd=>rfl);(case hg=>rfl);(case hr=>first | (go_simp;done) | (go_simp;rfl));intro gb1 hg w6 hbox hb;have BK1:=a0_ (hbox);have GW1:=a0_ ((by rw [hg];exact (below_size hb_) : w.heap.size ≤ gb1));have GE1:=a0_ ((by rw [hg];exact (below_size hb_) : w.heap.size ≤ gb1));replace HB:=a0_ (below_step hb_ hb);clear hb hbox hg))
 go_loopg [11] k (fun kq v11 w'=>∃ (x11_1 : Int),v11 = .int .i64 x11_1 ∧ Aside0 (spec_keeps.l0 kq l1 a2 a3 a4 x11_1 l0_0 = some r) ∧ Aside0 (kq ≤ k) ∧ Aside0 (w'.heap[gb1]? = some (.cells #[(.slice A0_0 l0_0.length c0_0)] 25 (0,0))) ∧ Aside0 (Below w.heap.size w w'))
 case atStart=>exact ⟨(a2),(by first | rfl | (simp;done) | (simp [*];done)),H',⟨Nat.le_refl _⟩,⟨by (with_reducible repeat (first | refine blk_drewN ?_ _ | refine blk_drew ?_ | refine blk_alloc ?_ _));exact BK1.out⟩,⟨hb_⟩⟩
 case round =>
  clear H'
  try clear c1
  try clear p2
  obtain ⟨x11_1,rfl,HA,HK1,BK1,HB⟩:=hrel
  cases gk with
  | zero=>exact absurd HA.out (by simp [spec_keeps.l0])
  | succ k1 =>
   have H:=HA.out
   clear HA
   simp only [spec_keeps.l0] at H
   replace H:=Option.bind_eq_some_iff.mp H
   obtain ⟨t2,A70,H⟩:=H
   try dsimp only at H
   have A7:=a0_ A70
   clear A70
   by_cases c8 : x11_1 < t2
   ·rw [if_pos c8] at H
    have c8b0 : decide (x11_1 < t2) = true:=decide_eq_true c8
    clear c8
    by_cases c9 : 0 ≤ x11_1
    ·rw [if_pos c9] at H
     have c9b0 : decide (0 ≤ x11_1) = true:=decide_eq_true c9
     clear c9
     by_cases c10 : x11_1 < (l1.length : Int)
     ·rw [if_pos c10] at H
      have c10b0 : decide (x11_1 < (l1.length : Int)) = true:=decide_eq_true c10
      clear c10
      obtain ⟨bq11,hbq11⟩ : ∃ b_ : Bool,b_ = ((rd_T47 l1 x11_1).f1):=⟨_,rfl⟩
      replace H : (if (bq11 = true) then (spec_keeps.l0 k1 l1 a2 a3 a4 (wrap64 (x11_1 + 1)) l0_0) else ((spec_isA.f k1 l0_0 ((rd_T47 l1 x11_1).f2) a3).bind fun t5=>(if (t5 == a4) = true then (some true) else (spec_keeps.l0 k1 l1 a2 a3 a4 (wrap64 (x11_1 + 1)) l0_0)))) = some r:=by rw [← hbq11] at H;exact H
      have Nbq11:=a0_ hbq11
      clear hbq11
      by_cases c12 : (bq11 = true)
      ·subst c12
       have H1 : (spec_keeps.l0 k1 l1 a2 a3 a4 (wrap64 (x11_1 + 1)) l0_0) = some r:=by rw [if_pos rfl] at H;exact H
       clear H
       have H:=H1
       clear H1
       have H':=a0_ H
       clear H
       try go_wp2_with (first | ((with_reducible refine gate_callee (f:=66) rfl ?_);refine goesL_ (some 16) rfl rfl Try.func66 (by kernel_rfl) rfl #[.slice A1 l1.length c1,.int .i64 a2] rfl lm_ ?_;(with_reducible refine (spec_endOf.calls k1 _ _ l1 a2 t2 _ ?side1 ?side2 A7.out).mono ?_);(case side1=>exact cc_ (Kd.C_below HR1.out HB.out));(case side2=>exact HC1.out);rintro e w' ⟨rfl,⟨nd,rfl⟩⟩;refine ⟨_,rfl,?_⟩))
       (try (rw [drewN_self wr];generalize hq_ : World.drewN wr _ = wr;have n0_ : Aside0 (wr.heap[gb1]? = some (.cells #[.slice A0_0 l0_0.length c0_0] 25 (0,0))):=⟨by rw [← hq_];exact (bb_ BK1.out)⟩;have n1_ : Aside0 (Below w.heap.size w wr):=⟨by rw [← hq_];exact hb_⟩;clear BK1 HB hq_;have BK1:=n0_;have HB:=n1_;clear n0_ n1_))
       have n0_:=a0_ (blk_drew BK1.out)
       have n1_:=a0_ (below_drew1 HB.out)
       clear BK1
       clear HB
       have BK1:=n0_
       have HB:=n1_
       clear n0_ n1_
       have p3 : 0 ≤ (x11_1 : Int):=of_decide_eq_true (by first | (with_reducible assumption) | assumption)
       have q3 : x11_1 < (l1.length : Int):=of_decide_eq_true (by first | (with_reducible assumption) | assumption)
       obtain ⟨ad3,e3,hx3_0,hx3_1,hx3_2,hx3_3⟩:=at_T47 HR1.out x11_1 p3 q3
       have hw3_3:=hx3_3
       have hw3_2:=hx3_2
       have hw3_1:=hx3_1
       have hw3_0:=hx3_0
       (try rw [← Nbq11.out] at hx3_1)
       cases e3
       replace hx3_0:=(HB.out.cell (World.block_lt_of_cell? w _ hx3_0)).trans hx3_0
       replace hx3_1:=(HB.out.cell (World.block_lt_of_cell? w _ hx3_1)).trans hx3_1
       replace hx3_2:=(HB.out.cell (World.block_lt_of_cell? w _ hx3_2)).trans hx3_2
       replace hx3_3:=(HB.out.cell (World.block_lt_of_cell? w _ hx3_3)).trans hx3_3
       replace p3:=eq_true p3
       replace q3:=eq_true q3
       refine start_ (n:=18) (S:=fun w'=>w'.cell? (ad3.add ((x11_1).toNat * 4)) = some (.int .i64 ((rd_T47 l1 x11_1).f0)) ∧ w'.cell? ⟨(ad3.add ((x11_1).toNat * 4)).block,(ad3.add ((x11_1).toNat * 4)).off + 1,none⟩ = some (.bool true) ∧ w'.cell? ⟨(ad3.add ((x11_1).toNat * 4)).block,(ad3.add ((x11_1).toNat * 4)).off + 2,none⟩ = some (.int .i64 ((rd_T47 l1 x11_1).f2)) ∧ w'.cell? ⟨(ad3.add ((x11_1).toNat * 4)).block,(ad3.add ((x11_1).toNat * 4)).off + 3,none⟩ = some (.int .i64 ((rd_T47 l1 x11_1).f3))) (ds:=[]) #[false,false,false,false,false,false,false,false,false,false,false,false,false,false,false,false,false,false] (by kernel_rfl) rfl rfl ⟨((HB.out.cell (World.block_lt_of_cell? w _ hw3_0)).trans hw3_0),((HB.out.cell (World.block_lt_of_cell? w _ hw3_1)).trans (by first | exact hw3_1 | exact hw3_1.trans (congrArg (fun z_=>some (Value.bool z_)) Nbq11.out.symm))),((HB.out.cell (World.block_lt_of_cell? w _ hw3_2)).trans hw3_2),((HB.out.cell (World.block_lt_of_cell? w _ hw3_3)).trans hw3_3)⟩ (fun hHeld=>?_);refine with_tabW spec_keeps.tab4 spec_keeps.bits4 (fun HT_ HW_=>?_)
       generalize wr.drew = w13 at BK1 HB hx3_0 hx3_1 hx3_2 hx3_3 hHeld ⊢
       refine pure_ (i:=0) (N:=some 20) (v:=?_) (a':=?_) #[true,false,false,false,false,false,false,false,false,false,false,false,false,false,false,false,false,false] rfl rfl (any_of HT_.out (by kernel_rfl)) (fun _ _ _ h=>h) (Or.inl ⟨by rfl,?_⟩) ?_ ?_
       rotate_left
       ·intro w'
        go_simp
        with_reducible rfl
       rotate_left
       ·simp only [Act.put,s1_,s2_,s3_,i64_w,i32_w]
        rfl
       refine pure_ (i:=1) (N:=some 21) (v:=?_) (a':=?_) #[true,true,false,false,false,false,false,false,false,false,false,false,false,false,false,false,false,false] rfl rfl (any_of HT_.out (by kernel_rfl)) (fun _ _ _ h=>h) (Or.inl ⟨by rfl,?_⟩) ?_ ?_
       rotate_left
       ·intro w'
        go_simp
        with_reducible rfl
       rotate_left
       ·simp only [Act.put,s1_,s2_,s3_,i64_w,i32_w]
        rfl
       refine pure_ (i:=2) (N:=some 22) (v:=?_) (a':=?_) #[true,true,true,false,false,false,false,false,false,false,false,false,false,false,false,false,false,false] rfl rfl (any_of HT_.out (by kernel_rfl)) (fun _ _ _ h=>h) (Or.inl ⟨by rfl,?_⟩) ?_ ?_
       rotate_left
       ·intro w'
        go_simp
        with_reducible rfl
       rotate_left
       ·simp only [Act.put,s1_,s2_,s3_,i64_w,i32_w]
        rfl
       refine pure_ (i:=3) (N:=some 23) (v:=?_) (a':=?_) #[true,true,true,true,false,false,false,false,false,false,false,false,false,false,false,false,false,false] rfl rfl (any_of HT_.out (by kernel_rfl)) (fun _ _ _ h=>h) (Or.inl ⟨by rfl,?_⟩) ?_ ?_
       rotate_left
       ·intro w'
        go_simp
        with_reducible rfl
       rotate_left
       ·simp only [Act.put,s1_,s2_,s3_,i64_w,i32_w]
        rfl
       refine take_ (i:=4) (N:=some 24) (v:=?_) (a':=?_) #[true,true,true,true,true,false,false,false,false,false,false,false,false,false,false,false,false,false] rfl rfl (take_ofW HT_.out HW_.out (by kernel_rfl)) (fun _ _ _ h=>h) (Or.inl ⟨by rfl,?_⟩) hHeld ?_ ?_
       rotate_left
       ·rintro w' ⟨s0,s1,s2,s3⟩
        go_simp
        with_reducible rfl
       rotate_left
       ·simp only [Act.put,s1_,s2_,s3_,i64_w,i32_w]
        rfl
       refine pure_ (i:=5) (N:=some 25) (v:=?_) (a':=?_) #[true,true,true,true,true,true,false,false,false,false,false,false,false,false,false,false,false,false] rfl rfl (any_of HT_.out (by kernel_rfl)) (fun _ _ _ h=>h) (Or.inl ⟨by rfl,?_⟩) ?_ ?_
       rotate_left
       ·intro w'
        go_simp
        with_reducible rfl
       rotate_left
       ·simp only [Act.put,s1_,s2_,s3_,i64_w,i32_w]
        rfl
       refine pure_ (i:=6) (N:=some 26) (v:=?_) (a':=?_) #[true,true,true,true,true,true,true,false,false,false,false,false,false,false,false,false,false,false] rfl rfl (any_of HT_.out (by kernel_rfl)) (fun _ _ _ h=>h) (Or.inl ⟨by rfl,?_⟩) ?_ ?_
       rotate_left
       ·intro w'
        go_simp
        with_reducible rfl
       rotate_left
       ·simp only [Act.put,s1_,s2_,s3_,i64_w,i32_w]
        rfl
       refine pure_ (i:=7) (N:=some 27) (v:=undef) (a':=?_) #[true,true,true,true,true,true,true,true,false,false,false,false,false,false,false,false,false,false] rfl rfl (any_of HT_.out (by kernel_rfl)) (fun _ _ _ h=>h) (Or.inr ⟨by rfl,rfl⟩) ?_ ?_
       rotate_left
       ·simp only [Act.put,s1_,s2_,s3_,i64_w,i32_w]
        rfl
       refine pure_ (i:=8) (N:=some 28) (v:=undef) (a':=?_) #[true,true,true,true,true,true,true,true,true,false,false,false,false,false,false,false,false,false] rfl rfl (any_of HT_.out (by kernel_rfl)) (fun _ _ _ h=>h) (Or.inr ⟨by rfl,rfl⟩) ?_ ?_
       rotate_left
       ·simp only [Act.put,s1_,s2_,s3_,i64_w,i32_w]
        rfl
       refine pure_ (i:=9) (N:=some 29) (v:=undef) (a':=?_) #[true,true,true,true,true,true,true,true,true,true,false,false,false,false,false,false,false,false] rfl rfl (any_of HT_.out (by kernel_rfl)) (fun _ _ _ h=>h) (Or.inr ⟨by rfl,rfl⟩) ?_ ?_
       rotate_left
       ·simp only [Act.put,s1_,s2_,s3_,i64_w,i32_w]
        rfl
       refine pure_ (i:=10) (N:=some 30) (v:=undef) (a':=?_) #[true,true,true,true,true,true,true,true,true,true,true,false,false,false,false,false,false,false] rfl rfl (any_of HT_.out (by kernel_rfl)) (fun _ _ _ h=>h) (Or.inr ⟨by rfl,rfl⟩) ?_ ?_
       rotate_left
       ·simp only [Act.put,s1_,s2_,s3_,i64_w,i32_w]
        rfl
       refine pure_ (i:=11) (N:=some 31) (v:=undef) (a':=?_) #[true,true,true,true,true,true,true,true,true,true,true,true,false,false,false,false,false,false] rfl rfl (any_of HT_.out (by kernel_rfl)) (fun _ _ _ h=>h) (Or.inr ⟨by rfl,rfl⟩) ?_ ?_
       rotate_left
       ·simp only [Act.put,s1_,s2_,s3_,i64_w,i32_w]
        rfl
       refine pure_ (i:=12) (N:=some 32) (v:=undef) (a':=?_) #[true,true,true,true,true,true,true,true,true,true,true,true,true,false,false,false,false,false] rfl rfl (any_of HT_.out (by kernel_rfl)) (fun _ _ _ h=>h) (Or.inr ⟨by rfl,rfl⟩) ?_ ?_
       rotate_left
       ·simp only [Act.put,s1_,s2_,s3_,i64_w,i32_w]
        rfl
       refine pure_ (i:=13) (N:=some 33) (v:=undef) (a':=?_) #[true,true,true,true,true,true,true,true,true,true,true,true,true,true,false,false,false,false] rfl rfl (any_of HT_.out (by kernel_rfl)) (fun _ _ _ h=>h) (Or.inr ⟨by rfl,rfl⟩) ?_ ?_
       rotate_left
       ·simp only [Act.put,s1_,s2_,s3_,i64_w,i32_w]
        rfl
       refine pure_ (i:=14) (N:=some 34) (v:=undef) (a':=?_) #[true,true,true,true,true,true,true,true,true,true,true,true,true,true,true,false,false,false] rfl rfl (any_of HT_.out (by kernel_rfl)) (fun _ _ _ h=>h) (Or.inr ⟨by rfl,rfl⟩) ?_ ?_
       rotate_left
       ·simp only [Act.put,s1_,s2_,s3_,i64_w,i32_w]
        rfl
       refine pure_ (i:=15) (N:=some 35) (v:=undef) (a':=?_) #[true,true,true,true,true,true,true,true,true,true,true,true,true,true,true,true,false,false] rfl rfl (any_of HT_.out (by kernel_rfl)) (fun _ _ _ h=>h) (Or.inr ⟨by rfl,rfl⟩) ?_ ?_
       rotate_left
       ·simp only [Act.put,s1_,s2_,s3_,i64_w,i32_w]
        rfl
       refine pure_ (i:=16) (N:=some 36) (v:=undef) (a':=?_) #[true,true,true,true,true,true,true,true,true,true,true,true,true,true,true,true,true,false] rfl rfl (any_of HT_.out (by kernel_rfl)) (fun _ _ _ h=>h) (Or.inr ⟨by rfl,rfl⟩) ?_ ?_
       rotate_left
       ·simp only [Act.put,s1_,s2_,s3_,i64_w,i32_w]
        rfl
       refine pure_ (i:=17) (N:=some 37) (v:=?_) (a':=?_) #[true,true,true,true,true,true,true,true,true,true,true,true,true,true,true,true,true,true] rfl rfl (any_of HT_.out (by kernel_rfl)) (fun _ _ _ h=>h) (Or.inl ⟨by rfl,?_⟩) ?_ ?_
       rotate_left
       ·intro w'
        go_simp
        with_reducible rfl
       rotate_left
       ·simp only [Act.put,s1_,s2_,s3_,i64_w,i32_w]
        rfl
       refine done_ (done_of HT_.out (by kernel_rfl)) ?_
       try go_wp2
       go_roundg k1
       case measure=>have:=HK1.out;omega
       case rel=>exact ⟨(wrap64 (x11_1 + 1)),(by first | rfl | (simp;done) | (simp [*];done)),H',⟨by have:=HK1.out;omega⟩,⟨by (with_reducible repeat (first | refine blk_drewN ?_ _ | refine blk_drew ?_ | refine blk_alloc ?_ _));exact BK1.out⟩,⟨hb_⟩⟩
      ·replace c12:=Bool.eq_false_iff.mpr c12
       subst c12
       have H1 : ((spec_isA.f k1 l0_0 ((rd_T47 l1 x11_1).f2) a3).bind fun t5=>(if (t5 == a4) = true then (some true) else (spec_keeps.l0 k1 l1 a2 a3 a4 (wrap64 (x11_1 + 1)) l0_0))) = some r:=by rw [if_neg (show ¬ (false = true) by decide)] at H;exact H
       clear H
       have H:=H1
       clear H1
       replace H:=Option.bind_eq_some_iff.mp H
       obtain ⟨t5,A140,H⟩:=H
       try dsimp only at H
       have A14:=a0_ A140
       clear A140
       by_cases c15 : (t5 == a4) = true
       ·rw [if_pos c15] at H
        have c15b0 : (t5 == a4) = true:=c15
        (try (have c15b1 : decide (t5 = a4) = true:=by simpa using c15))
        (try (have c15b2 : (t5 == a4) = true:=by simpa using c15))
        clear c15
        obtain rfl:=Option.some.inj H
        try go_wp2_with (first | ((with_reducible refine gate_callee (f:=66) rfl ?_);refine goesL_ (some 16) rfl rfl Try.func66 (by kernel_rfl) rfl #[.slice A1 l1.length c1,.int .i64 a2] rfl lm_ ?_;(with_reducible refine (spec_endOf.calls k1 _ _ l1 a2 t2 _ ?side1 ?side2 A7.out).mono ?_);(case side1=>exact cc_ (Kd.C_below HR1.out HB.out));(case side2=>exact HC1.out);rintro e w' ⟨rfl,⟨nd,rfl⟩⟩;refine ⟨_,rfl,?_⟩))
        (try (rw [drewN_self wr];generalize hq_ : World.drewN wr _ = wr;have n0_ : Aside0 (wr.heap[gb1]? = some (.cells #[.slice A0_0 l0_0.length c0_0] 25 (0,0))):=⟨by rw [← hq_];exact (bb_ BK1.out)⟩;have n1_ : Aside0 (Below w.heap.size w wr):=⟨by rw [← hq_];exact hb_⟩;clear BK1 HB hq_;have BK1:=n0_;have HB:=n1_;clear n0_ n1_))
        have n0_:=a0_ (blk_drew BK1.out)
        have n1_:=a0_ (below_drew1 HB.out)
        clear BK1
        clear HB
        have BK1:=n0_
        have HB:=n1_
        clear n0_ n1_
        have p3 : 0 ≤ (x11_1 : Int):=of_decide_eq_true (by first | (with_reducible assumption) | assumption)
        have q3 : x11_1 < (l1.length : Int):=of_decide_eq_true (by first | (with_reducible assumption) | assumption)
        obtain ⟨ad3,e3,hx3_0,hx3_1,hx3_2,hx3_3⟩:=at_T47 HR1.out x11_1 p3 q3
        have hw3_3:=hx3_3
        have hw3_2:=hx3_2
        have hw3_1:=hx3_1
        have hw3_0:=hx3_0
        (try rw [← Nbq11.out] at hx3_1)
        cases e3
        replace hx3_0:=(HB.out.cell (World.block_lt_of_cell? w _ hx3_0)).trans hx3_0
        replace hx3_1:=(HB.out.cell (World.block_lt_of_cell? w _ hx3_1)).trans hx3_1
        replace hx3_2:=(HB.out.cell (World.block_lt_of_cell? w _ hx3_2)).trans hx3_2
        replace hx3_3:=(HB.out.cell (World.block_lt_of_cell? w _ hx3_3)).trans hx3_3
        replace p3:=eq_true p3
        replace q3:=eq_true q3
        have p4 : 0 ≤ (x11_1 : Int):=of_decide_eq_true (by first | (with_reducible assumption) | assumption)
        have q4 : x11_1 < (l1.length : Int):=of_decide_eq_true (by first | (with_reducible assumption) | assumption)
        obtain ⟨ad4,e4,hx4_0,hx4_1,hx4_2,hx4_3⟩:=at_T47 HR1.out x11_1 p4 q4
        have hw4_3:=hx4_3
        have hw4_2:=hx4_2
        have hw4_1:=hx4_1
        have hw4_0:=hx4_0
        (try rw [← Nbq11.out] at hx4_1)
        obtain rfl : ad3 = ad4:=(by injection e4)
        replace hx4_0:=(HB.out.cell (World.block_lt_of_cell? w _ hx4_0)).trans hx4_0
        replace hx4_1:=(HB.out.cell (World.block_lt_of_cell? w _ hx4_1)).trans hx4_1
        replace hx4_2:=(HB.out.cell (World.block_lt_of_cell? w _ hx4_2)).trans hx4_2
        replace hx4_3:=(HB.out.cell (World.block_lt_of_cell? w _ hx4_3)).trans hx4_3
        replace p4:=eq_true p4
        replace q4:=eq_true q4
        refine start_ (n:=18) (S:=fun w'=>w'.cell? ⟨gb1,0,none⟩ = some (.slice A0_0 l0_0.length c0_0) ∧ w'.cell? (ad3.add ((x11_1).toNat * 4)) = some (.int .i64 ((rd_T47 l1 x11_1).f0)) ∧ w'.cell? ⟨(ad3.add ((x11_1).toNat * 4)).block,(ad3.add ((x11_1).toNat * 4)).off + 1,none⟩ = some (.bool false) ∧ w'.cell? ⟨(ad3.add ((x11_1).toNat * 4)).block,(ad3.add ((x11_1).toNat * 4)).off + 2,none⟩ = some (.int .i64 ((rd_T47 l1 x11_1).f2)) ∧ w'.cell? ⟨(ad3.add ((x11_1).toNat * 4)).block,(ad3.add ((x11_1).toNat * 4)).off + 3,none⟩ = some (.int .i64 ((rd_T47 l1 x11_1).f3)) ∧ w'.cell? (ad3.add ((x11_1).toNat * 4)) = some (.int .i64 ((rd_T47 l1 x11_1).f0)) ∧ w'.cell? ⟨(ad3.add ((x11_1).toNat * 4)).block,(ad3.add ((x11_1).toNat * 4)).off + 1,none⟩ = some (.bool (false)) ∧ w'.cell? ⟨(ad3.add ((x11_1).toNat * 4)).block,(ad3.add ((x11_1).toNat * 4)).off + 2,none⟩ = some (.int .i64 ((rd_T47 l1 x11_1).f2)) ∧ w'.cell? ⟨(ad3.add ((x11_1).toNat * 4)).block,(ad3.add ((x11_1).toNat * 4)).off + 3,none⟩ = some (.int .i64 ((rd_T47 l1 x11_1).f3))) (ds:=[]) #[false,false,false,false,false,false,false,false,false,false,false,false,false,false,false,false,false,false] (by kernel_rfl) rfl rfl ⟨(blk_cell BK1.out 0).trans rfl,((HB.out.cell (World.block_lt_of_cell? w _ hw3_0)).trans hw3_0),((HB.out.cell (World.block_lt_of_cell? w _ hw3_1)).trans (by first | exact hw3_1 | exact hw3_1.trans (congrArg (fun z_=>some (Value.bool z_)) Nbq11.out.symm))),((HB.out.cell (World.block_lt_of_cell? w _ hw3_2)).trans hw3_2),((HB.out.cell (World.block_lt_of_cell? w _ hw3_3)).trans hw3_3),((HB.out.cell (World.block_lt_of_cell? w _ hw4_0)).trans hw4_0),((HB.out.cell (World.block_lt_of_cell? w _ hw4_1)).trans (by first | exact hw4_1 | exact hw4_1.trans (congrArg (fun z_=>some (Value.bool z_)) Nbq11.out.symm))),((HB.out.cell (World.block_lt_of_cell? w _ hw4_2)).trans hw4_2),((HB.out.cell (World.block_lt_of_cell? w _ hw4_3)).trans hw4_3)⟩ (fun hHeld=>?_);refine with_tabW spec_keeps.tab4 spec_keeps.bits4 (fun HT_ HW_=>?_)
        generalize wr.drew = w16 at BK1 HB hx3_0 hx3_1 hx3_2 hx3_3 hx4_0 hx4_1 hx4_2 hx4_3 hHeld ⊢
        refine pure_ (i:=0) (N:=some 20) (v:=?_) (a':=?_) #[true,false,false,false,false,false,false,false,false,false,false,false,false,false,false,false,false,false] rfl rfl (any_of HT_.out (by kernel_rfl)) (fun _ _ _ h=>h) (Or.inl ⟨by rfl,?_⟩) ?_ ?_
        rotate_left
        ·intro w'
         go_simp
         with_reducible rfl
        rotate_left
        ·simp only [Act.put,s1_,s2_,s3_,i64_w,i32_w]
         rfl
        refine pure_ (i:=1) (N:=some 21) (v:=?_) (a':=?_) #[true,true,false,false,false,false,false,false,false,false,false,false,false,false,false,false,false,false] rfl rfl (any_of HT_.out (by kernel_rfl)) (fun _ _ _ h=>h) (Or.inl ⟨by rfl,?_⟩) ?_ ?_
        rotate_left
        ·intro w'
         go_simp
         with_reducible rfl
        rotate_left
        ·simp only [Act.put,s1_,s2_,s3_,i64_w,i32_w]
         rfl
        refine pure_ (i:=2) (N:=some 22) (v:=?_) (a':=?_) #[true,true,true,false,false,false,false,false,false,false,false,false,false,false,false,false,false,false] rfl rfl (any_of HT_.out (by kernel_rfl)) (fun _ _ _ h=>h) (Or.inl ⟨by rfl,?_⟩) ?_ ?_
        rotate_left
        ·intro w'
         go_simp
         with_reducible rfl
        rotate_left
        ·simp only [Act.put,s1_,s2_,s3_,i64_w,i32_w]
         rfl
        refine pure_ (i:=3) (N:=some 23) (v:=?_) (a':=?_) #[true,true,true,true,false,false,false,false,false,false,false,false,false,false,false,false,false,false] rfl rfl (any_of HT_.out (by kernel_rfl)) (fun _ _ _ h=>h) (Or.inl ⟨by rfl,?_⟩) ?_ ?_
        rotate_left
        ·intro w'
         go_simp
         with_reducible rfl
        rotate_left
        ·simp only [Act.put,s1_,s2_,s3_,i64_w,i32_w]
         rfl
        refine take_ (i:=4) (N:=some 24) (v:=?_) (a':=?_) #[true,true,true,true,true,false,false,false,false,false,false,false,false,false,false,false,false,false] rfl rfl (take_ofW HT_.out HW_.out (by kernel_rfl)) (fun _ _ _ h=>h) (Or.inl ⟨by rfl,?_⟩) hHeld ?_ ?_
        rotate_left
        ·rintro w' ⟨s0,s1,s2,s3,s4,s5,s6,s7,s8⟩
         go_simp
         with_reducible rfl
        rotate_left
        ·simp only [Act.put,s1_,s2_,s3_,i64_w,i32_w]
         rfl
        refine pure_ (i:=5) (N:=some 25) (v:=?_) (a':=?_) #[true,true,true,true,true,true,false,false,false,false,false,false,false,false,false,false,false,false] rfl rfl (any_of HT_.out (by kernel_rfl)) (fun _ _ _ h=>h) (Or.inl ⟨by rfl,?_⟩) ?_ ?_
        rotate_left
        ·intro w'
         go_simp
         with_reducible rfl
        rotate_left
        ·simp only [Act.put,s1_,s2_,s3_,i64_w,i32_w]
         rfl
        refine pure_ (i:=6) (N:=some 26) (v:=?_) (a':=?_) #[true,true,true,true,true,true,true,false,false,false,false,false,false,false,false,false,false,false] rfl rfl (any_of HT_.out (by kernel_rfl)) (fun _ _ _ h=>h) (Or.inl ⟨by rfl,?_⟩) ?_ ?_
        rotate_left
        ·intro w'
         go_simp
         with_reducible rfl
        rotate_left
        ·simp only [Act.put,s1_,s2_,s3_,i64_w,i32_w]
         rfl
        refine pure_ (i:=8) (N:=some 28) (v:=?_) (a':=?_) #[true,true,true,true,true,true,true,false,true,false,false,false,false,false,false,false,false,false] rfl rfl (any_of HT_.out (by kernel_rfl)) (fun _ _ _ h=>h) (Or.inl ⟨by rfl,?_⟩) ?_ ?_
        rotate_left
        ·intro w'
         go_simp
         with_reducible rfl
        rotate_left
        ·simp only [Act.put,s1_,s2_,s3_,i64_w,i32_w]
         rfl
        refine pure_ (i:=9) (N:=some 29) (v:=?_) (a':=?_) #[true,true,true,true,true,true,true,false,true,true,false,false,false,false,false,false,false,false] rfl rfl (any_of HT_.out (by kernel_rfl)) (fun _ _ _ h=>h) (Or.inl ⟨by rfl,?_⟩) ?_ ?_
        rotate_left
        ·intro w'
         go_simp
         with_reducible rfl
        rotate_left
        ·simp only [Act.put,s1_,s2_,s3_,i64_w,i32_w]
         rfl
        refine pure_ (i:=10) (N:=some 30) (v:=?_) (a':=?_) #[true,true,true,true,true,true,true,false,true,true,true,false,false,false,false,false,false,false] rfl rfl (any_of HT_.out (by kernel_rfl)) (fun _ _ _ h=>h) (Or.inl ⟨by rfl,?_⟩) ?_ ?_
        rotate_left
        ·intro w'
         go_simp
         with_reducible rfl
        rotate_left
        ·simp only [Act.put,s1_,s2_,s3_,i64_w,i32_w]
         rfl
        refine pure_ (i:=11) (N:=some 31) (v:=?_) (a':=?_) #[true,true,true,true,true,true,true,false,true,true,true,true,false,false,false,false,false,false] rfl rfl (any_of HT_.out (by kernel_rfl)) (fun _ _ _ h=>h) (Or.inl ⟨by rfl,?_⟩) ?_ ?_
        rotate_left
        ·intro w'
         go_simp
         with_reducible rfl
        rotate_left
        ·simp only [Act.put,s1_,s2_,s3_,i64_w,i32_w]
         rfl
        refine pure_ (i:=13) (N:=some 33) (v:=?_) (a':=?_) #[true,true,true,true,true,true,true,false,true,true,true,true,false,true,false,false,false,false] rfl rfl (any_of HT_.out (by kernel_rfl)) (fun _ _ _ h=>h) (Or.inl ⟨by rfl,?_⟩) ?_ ?_
        rotate_left
        ·intro w'
         go_simp
         with_reducible rfl
        rotate_left
        ·simp only [Act.put,s1_,s2_,s3_,i64_w,i32_w]
         rfl
        refine pure_ (i:=15) (N:=some 35) (v:=?_) (a':=?_) #[true,true,true,true,true,true,true,false,true,true,true,true,false,true,false,true,false,false] rfl rfl (any_of HT_.out (by kernel_rfl)) (fun _ _ _ h=>h) (Or.inl ⟨by rfl,?_⟩) ?_ ?_
        rotate_left
        ·intro w'
         go_simp
         with_reducible rfl
        rotate_left
        ·simp only [Act.put,s1_,s2_,s3_,i64_w,i32_w]
         rfl
        refine take_ (i:=7) (N:=some 27) (v:=?_) (a':=?_) #[true,true,true,true,true,true,true,true,true,true,true,true,false,true,false,true,false,false] rfl rfl (take_ofW HT_.out HW_.out (by kernel_rfl)) (fun _ _ _ h=>h) (Or.inl ⟨by rfl,?_⟩) hHeld ?_ ?_
        rotate_left
        ·rintro w' ⟨s0,s1,s2,s3,s4,s5,s6,s7,s8⟩
         go_simp
         with_reducible rfl
        rotate_left
        ·simp only [Act.put,s1_,s2_,s3_,i64_w,i32_w]
         rfl
        refine take_ (i:=12) (N:=some 32) (v:=?_) (a':=?_) #[true,true,true,true,true,true,true,true,true,true,true,true,true,true,false,true,false,false] rfl rfl (take_ofW HT_.out HW_.out (by kernel_rfl)) (fun _ _ _ h=>h) (Or.inl ⟨by rfl,?_⟩) hHeld ?_ ?_
        rotate_left
        ·rintro w' ⟨s0,s1,s2,s3,s4,s5,s6,s7,s8⟩
         go_simp
         with_reducible rfl
        rotate_left
        ·simp only [Act.put,s1_,s2_,s3_,i64_w,i32_w]
         rfl
        refine one_ (i:=14) (N:=some 34) #[true,true,true,true,true,true,true,true,true,true,true,true,true,true,true,true,false,false] rfl rfl (one_of HT_.out (by kernel_rfl)) (by decide) (fun K hK=>?_)
        refine goes_ Try.func89 (by kernel_rfl) rfl #[.agg #[.slice A0_0 l0_0.length c0_0],.int .i64 ((rd_T47 l1 x11_1).f2),.int .i64 a3] (by rfl) rfl rfl lm_ ?_
        with_reducible refine (spec_isA.calls k1 _ _ l0_0 ((rd_T47 l1 x11_1).f2) a3 t5 _ ?side1 ?side2 A14.out).mono ?_
        (case side1=>exact cc_ (Kd.C_below HR0_0.out HB.out))
        (case side2=>exact HC0_0.out)
        rintro e w17 ⟨rfl,hb⟩
        refine ⟨_,rfl,?_⟩
        have n0_:=kb_ BK1 hb
        have n1_:=a0_ (below_step hb_ hb)
        clear BK1
        clear HB
        have BK1:=n0_
        have HB:=n1_
        clear n0_ n1_
        (try clear hb)
        (try clear hb2)
        (try clear hk)
        (try clear hi)
        refine hK.out _ _ ⟨(blk_cell BK1.out 0).trans rfl,((HB.out.cell (World.block_lt_of_cell? w _ hw3_0)).trans hw3_0),((HB.out.cell (World.block_lt_of_cell? w _ hw3_1)).trans (by first | exact hw3_1 | exact hw3_1.trans (congrArg (fun z_=>some (Value.bool z_)) Nbq11.out.symm))),((HB.out.cell (World.block_lt_of_cell? w _ hw3_2)).trans hw3_2),((HB.out.cell (World.block_lt_of_cell? w _ hw3_3)).trans hw3_3),((HB.out.cell (World.block_lt_of_cell? w _ hw4_0)).trans hw4_0),((HB.out.cell (World.block_lt_of_cell? w _ hw4_1)).trans (by first | exact hw4_1 | exact hw4_1.trans (congrArg (fun z_=>some (Value.bool z_)) Nbq11.out.symm))),((HB.out.cell (World.block_lt_of_cell? w _ hw4_2)).trans hw4_2),((HB.out.cell (World.block_lt_of_cell? w _ hw4_3)).trans hw4_3)⟩ (fun hHeld=>?_)
        clear hK K
        refine norm_ (a':=?_) ?_ ?_
        rotate_left
        ·show Act.put _ (some 34) _ = _
         simp only [Act.put,s1_,s2_,s3_,i64_w,i32_w]
         rfl
        refine pure_ (i:=16) (N:=some 36) (v:=?_) (a':=?_) #[true,true,true,true,true,true,true,true,true,true,true,true,true,true,true,true,true,false] rfl rfl (any_of HT_.out (by kernel_rfl)) (fun _ _ _ h=>h) (Or.inl ⟨by rfl,?_⟩) ?_ ?_
        rotate_left
        ·intro w'
         go_simp
         with_reducible rfl
        rotate_left
        ·simp only [Act.put,s1_,s2_,s3_,i64_w,i32_w]
         rfl
        refine pure_ (i:=17) (N:=some 37) (v:=?_) (a':=?_) #[true,true,true,true,true,true,true,true,true,true,true,true,true,true,true,true,true,true] rfl rfl (any_of HT_.out (by kernel_rfl)) (fun _ _ _ h=>h) (Or.inl ⟨by rfl,?_⟩) ?_ ?_
        rotate_left
        ·intro w'
         go_simp
         with_reducible rfl
        rotate_left
        ·simp only [Act.put,s1_,s2_,s3_,i64_w,i32_w]
         rfl
        refine done_ (done_of HT_.out (by kernel_rfl)) ?_
        try go_wp2
        go_ret
        exact ⟨by first | rfl | (simp [errW_none,errW_some] <;> rfl) | (simp [*,errW_none,errW_some] <;> rfl),hb_⟩
       ·rw [if_neg c15] at H
        have c15b0 : (t5 == a4) = false:=by simpa using c15
        (try (have c15b1 : decide (t5 = a4) = false:=by simpa using c15))
        (try (have c15b2 : (t5 == a4) = false:=by simpa using c15))
        (try (have c15b3 : ¬ (t5 = a4):=by simpa using c15))
        clear c15
        have H':=a0_ H
        clear H
        try go_wp2_with (first | ((with_reducible refine gate_callee (f:=66) rfl ?_);refine goesL_ (some 16) rfl rfl Try.func66 (by kernel_rfl) rfl #[.slice A1 l1.length c1,.int .i64 a2] rfl lm_ ?_;(with_reducible refine (spec_endOf.calls k1 _ _ l1 a2 t2 _ ?side1 ?side2 A7.out).mono ?_);(case side1=>exact cc_ (Kd.C_below HR1.out HB.out));(case side2=>exact HC1.out);rintro e w' ⟨rfl,⟨nd,rfl⟩⟩;refine ⟨_,rfl,?_⟩))
        (try (rw [drewN_self wr];generalize hq_ : World.drewN wr _ = wr;have n0_ : Aside0 (wr.heap[gb1]? = some (.cells #[.slice A0_0 l0_0.length c0_0] 25 (0,0))):=⟨by rw [← hq_];exact (bb_ BK1.out)⟩;have n1_ : Aside0 (Below w.heap.size w wr):=⟨by rw [← hq_];exact hb_⟩;clear BK1 HB hq_;have BK1:=n0_;have HB:=n1_;clear n0_ n1_))
        have n0_:=a0_ (blk_drew BK1.out)
        have n1_:=a0_ (below_drew1 HB.out)
        clear BK1
        clear HB
        have BK1:=n0_
        have HB:=n1_
        clear n0_ n1_
        have p3 : 0 ≤ (x11_1 : Int):=of_decide_eq_true (by first | (with_reducible assumption) | assumption)
        have q3 : x11_1 < (l1.length : Int):=of_decide_eq_true (by first | (with_reducible assumption) | assumption)
        obtain ⟨ad3,e3,hx3_0,hx3_1,hx3_2,hx3_3⟩:=at_T47 HR1.out x11_1 p3 q3
        have hw3_3:=hx3_3
        have hw3_2:=hx3_2
        have hw3_1:=hx3_1
        have hw3_0:=hx3_0
        (try rw [← Nbq11.out] at hx3_1)
        cases e3
        replace hx3_0:=(HB.out.cell (World.block_lt_of_cell? w _ hx3_0)).trans hx3_0
        replace hx3_1:=(HB.out.cell (World.block_lt_of_cell? w _ hx3_1)).trans hx3_1
        replace hx3_2:=(HB.out.cell (World.block_lt_of_cell? w _ hx3_2)).trans hx3_2
        replace hx3_3:=(HB.out.cell (World.block_lt_of_cell? w _ hx3_3)).trans hx3_3
        replace p3:=eq_true p3
        replace q3:=eq_true q3
        have p4 : 0 ≤ (x11_1 : Int):=of_decide_eq_true (by first | (with_reducible assumption) | assumption)
        have q4 : x11_1 < (l1.length : Int):=of_decide_eq_true (by first | (with_reducible assumption) | assumption)
        obtain ⟨ad4,e4,hx4_0,hx4_1,hx4_2,hx4_3⟩:=at_T47 HR1.out x11_1 p4 q4
        have hw4_3:=hx4_3
        have hw4_2:=hx4_2
        have hw4_1:=hx4_1
        have hw4_0:=hx4_0
        (try rw [← Nbq11.out] at hx4_1)
        obtain rfl : ad3 = ad4:=(by injection e4)
        replace hx4_0:=(HB.out.cell (World.block_lt_of_cell? w _ hx4_0)).trans hx4_0
        replace hx4_1:=(HB.out.cell (World.block_lt_of_cell? w _ hx4_1)).trans hx4_1
        replace hx4_2:=(HB.out.cell (World.block_lt_of_cell? w _ hx4_2)).trans hx4_2
        replace hx4_3:=(HB.out.cell (World.block_lt_of_cell? w _ hx4_3)).trans hx4_3
        replace p4:=eq_true p4
        replace q4:=eq_true q4
        refine start_ (n:=18) (S:=fun w'=>w'.cell? ⟨gb1,0,none⟩ = some (.slice A0_0 l0_0.length c0_0) ∧ w'.cell? (ad3.add ((x11_1).toNat * 4)) = some (.int .i64 ((rd_T47 l1 x11_1).f0)) ∧ w'.cell? ⟨(ad3.add ((x11_1).toNat * 4)).block,(ad3.add ((x11_1).toNat * 4)).off + 1,none⟩ = some (.bool false) ∧ w'.cell? ⟨(ad3.add ((x11_1).toNat * 4)).block,(ad3.add ((x11_1).toNat * 4)).off + 2,none⟩ = some (.int .i64 ((rd_T47 l1 x11_1).f2)) ∧ w'.cell? ⟨(ad3.add ((x11_1).toNat * 4)).block,(ad3.add ((x11_1).toNat * 4)).off + 3,none⟩ = some (.int .i64 ((rd_T47 l1 x11_1).f3)) ∧ w'.cell? (ad3.add ((x11_1).toNat * 4)) = some (.int .i64 ((rd_T47 l1 x11_1).f0)) ∧ w'.cell? ⟨(ad3.add ((x11_1).toNat * 4)).block,(ad3.add ((x11_1).toNat * 4)).off + 1,none⟩ = some (.bool (false)) ∧ w'.cell? ⟨(ad3.add ((x11_1).toNat * 4)).block,(ad3.add ((x11_1).toNat * 4)).off + 2,none⟩ = some (.int .i64 ((rd_T47 l1 x11_1).f2)) ∧ w'.cell? ⟨(ad3.add ((x11_1).toNat * 4)).block,(ad3.add ((x11_1).toNat * 4)).off + 3,none⟩ = some (.int .i64 ((rd_T47 l1 x11_1).f3))) (ds:=[]) #[false,false,false,false,false,false,false,false,false,false,false,false,false,false,false,false,false,false] (by kernel_rfl) rfl rfl ⟨(blk_cell BK1.out 0).trans rfl,((HB.out.cell (World.block_lt_of_cell? w _ hw3_0)).trans hw3_0),((HB.out.cell (World.block_lt_of_cell? w _ hw3_1)).trans (by first | exact hw3_1 | exact hw3_1.trans (congrArg (fun z_=>some (Value.bool z_)) Nbq11.out.symm))),((HB.out.cell (World.block_lt_of_cell? w _ hw3_2)).trans hw3_2),((HB.out.cell (World.block_lt_of_cell? w _ hw3_3)).trans hw3_3),((HB.out.cell (World.block_lt_of_cell? w _ hw4_0)).trans hw4_0),((HB.out.cell (World.block_lt_of_cell? w _ hw4_1)).trans (by first | exact hw4_1 | exact hw4_1.trans (congrArg (fun z_=>some (Value.bool z_)) Nbq11.out.symm))),((HB.out.cell (World.block_lt_of_cell? w _ hw4_2)).trans hw4_2),((HB.out.cell (World.block_lt_of_cell? w _ hw4_3)).trans hw4_3)⟩ (fun hHeld=>?_);refine with_tabW spec_keeps.tab4 spec_keeps.bits4 (fun HT_ HW_=>?_)
        generalize wr.drew = w18 at BK1 HB hx3_0 hx3_1 hx3_2 hx3_3 hx4_0 hx4_1 hx4_2 hx4_3 hHeld ⊢
        refine pure_ (i:=0) (N:=some 20) (v:=?_) (a':=?_) #[true,false,false,false,false,false,false,false,false,false,false,false,false,false,false,false,false,false] rfl rfl (any_of HT_.out (by kernel_rfl)) (fun _ _ _ h=>h) (Or.inl ⟨by rfl,?_⟩) ?_ ?_
        rotate_left
        ·intro w'
         go_simp
         with_reducible rfl
        rotate_left
        ·simp only [Act.put,s1_,s2_,s3_,i64_w,i32_w]
         rfl
        refine pure_ (i:=1) (N:=some 21) (v:=?_) (a':=?_) #[true,true,false,false,false,false,false,false,false,false,false,false,false,false,false,false,false,false] rfl rfl (any_of HT_.out (by kernel_rfl)) (fun _ _ _ h=>h) (Or.inl ⟨by rfl,?_⟩) ?_ ?_
        rotate_left
        ·intro w'
         go_simp
         with_reducible rfl
        rotate_left
        ·simp only [Act.put,s1_,s2_,s3_,i64_w,i32_w]
         rfl
        refine pure_ (i:=2) (N:=some 22) (v:=?_) (a':=?_) #[true,true,true,false,false,false,false,false,false,false,false,false,false,false,false,false,false,false] rfl rfl (any_of HT_.out (by kernel_rfl)) (fun _ _ _ h=>h) (Or.inl ⟨by rfl,?_⟩) ?_ ?_
        rotate_left
        ·intro w'
         go_simp
         with_reducible rfl
        rotate_left
        ·simp only [Act.put,s1_,s2_,s3_,i64_w,i32_w]
         rfl
        refine pure_ (i:=3) (N:=some 23) (v:=?_) (a':=?_) #[true,true,true,true,false,false,false,false,false,false,false,false,false,false,false,false,false,false] rfl rfl (any_of HT_.out (by kernel_rfl)) (fun _ _ _ h=>h) (Or.inl ⟨by rfl,?_⟩) ?_ ?_
        rotate_left
        ·intro w'
         go_simp
         with_reducible rfl
        rotate_left
        ·simp only [Act.put,s1_,s2_,s3_,i64_w,i32_w]
         rfl
        refine take_ (i:=4) (N:=some 24) (v:=?_) (a':=?_) #[true,true,true,true,true,false,false,false,false,false,false,false,false,false,false,false,false,false] rfl rfl (take_ofW HT_.out HW_.out (by kernel_rfl)) (fun _ _ _ h=>h) (Or.inl ⟨by rfl,?_⟩) hHeld ?_ ?_
        rotate_left
        ·rintro w' ⟨s0,s1,s2,s3,s4,s5,s6,s7,s8⟩
         go_simp
         with_reducible rfl
        rotate_left
        ·simp only [Act.put,s1_,s2_,s3_,i64_w,i32_w]
         rfl
        refine pure_ (i:=5) (N:=some 25) (v:=?_) (a':=?_) #[true,true,true,true,true,true,false,false,false,false,false,false,false,false,false,false,false,false] rfl rfl (any_of HT_.out (by kernel_rfl)) (fun _ _ _ h=>h) (Or.inl ⟨by rfl,?_⟩) ?_ ?_
        rotate_left
        ·intro w'
         go_simp
         with_reducible rfl
        rotate_left
        ·simp only [Act.put,s1_,s2_,s3_,i64_w,i32_w]
         rfl
        refine pure_ (i:=6) (N:=some 26) (v:=?_) (a':=?_) #[true,true,true,true,true,true,true,false,false,false,false,false,false,false,false,false,false,false] rfl rfl (any_of HT_.out (by kernel_rfl)) (fun _ _ _ h=>h) (Or.inl ⟨by rfl,?_⟩) ?_ ?_
        rotate_left
        ·intro w'
         go_simp
         with_reducible rfl
        rotate_left
        ·simp only [Act.put,s1_,s2_,s3_,i64_w,i32_w]
         rfl
        refine pure_ (i:=8) (N:=some 28) (v:=?_) (a':=?_) #[true,true,true,true,true,true,true,false,true,false,false,false,false,false,false,false,false,false] rfl rfl (any_of HT_.out (by kernel_rfl)) (fun _ _ _ h=>h) (Or.inl ⟨by rfl,?_⟩) ?_ ?_
        rotate_left
        ·intro w'
         go_simp
         with_reducible rfl
        rotate_left
        ·simp only [Act.put,s1_,s2_,s3_,i64_w,i32_w]
         rfl
        refine pure_ (i:=9) (N:=some 29) (v:=?_) (a':=?_) #[true,true,true,true,true,true,true,false,true,true,false,false,false,false,false,false,false,false] rfl rfl (any_of HT_.out (by kernel_rfl)) (fun _ _ _ h=>h) (Or.inl ⟨by rfl,?_⟩) ?_ ?_
        rotate_left
        ·intro w'
         go_simp
         with_reducible rfl
        rotate_left
        ·simp only [Act.put,s1_,s2_,s3_,i64_w,i32_w]
         rfl
        refine pure_ (i:=10) (N:=some 30) (v:=?_) (a':=?_) #[true,true,true,true,true,true,true,false,true,true,true,false,false,false,false,false,false,false] rfl rfl (any_of HT_.out (by kernel_rfl)) (fun _ _ _ h=>h) (Or.inl ⟨by rfl,?_⟩) ?_ ?_
        rotate_left
        ·intro w'
         go_simp
         with_reducible rfl
        rotate_left
        ·simp only [Act.put,s1_,s2_,s3_,i64_w,i32_w]
         rfl
        refine pure_ (i:=11) (N:=some 31) (v:=?_) (a':=?_) #[true,true,true,true,true,true,true,false,true,true,true,true,false,false,false,false,false,false] rfl rfl (any_of HT_.out (by kernel_rfl)) (fun _ _ _ h=>h) (Or.inl ⟨by rfl,?_⟩) ?_ ?_
        rotate_left
        ·intro w'
         go_simp
         with_reducible rfl
        rotate_left
        ·simp only [Act.put,s1_,s2_,s3_,i64_w,i32_w]
         rfl
        refine pure_ (i:=13) (N:=some 33) (v:=?_) (a':=?_) #[true,true,true,true,true,true,true,false,true,true,true,true,false,true,false,false,false,false] rfl rfl (any_of HT_.out (by kernel_rfl)) (fun _ _ _ h=>h) (Or.inl ⟨by rfl,?_⟩) ?_ ?_
        rotate_left
        ·intro w'
         go_simp
         with_reducible rfl
        rotate_left
        ·simp only [Act.put,s1_,s2_,s3_,i64_w,i32_w]
         rfl
        refine pure_ (i:=15) (N:=some 35) (v:=?_) (a':=?_) #[true,true,true,true,true,true,true,false,true,true,true,true,false,true,false,true,false,false] rfl rfl (any_of HT_.out (by kernel_rfl)) (fun _ _ _ h=>h) (Or.inl ⟨by rfl,?_⟩) ?_ ?_
        rotate_left
        ·intro w'
         go_simp
         with_reducible rfl
        rotate_left
        ·simp only [Act.put,s1_,s2_,s3_,i64_w,i32_w]
         rfl
        refine take_ (i:=7) (N:=some 27) (v:=?_) (a':=?_) #[true,true,true,true,true,true,true,true,true,true,true,true,false,true,false,true,false,false] rfl rfl (take_ofW HT_.out HW_.out (by kernel_rfl)) (fun _ _ _ h=>h) (Or.inl ⟨by rfl,?_⟩) hHeld ?_ ?_
        rotate_left
        ·rintro w' ⟨s0,s1,s2,s3,s4,s5,s6,s7,s8⟩
         go_simp
         with_reducible rfl
        rotate_left
        ·simp only [Act.put,s1_,s2_,s3_,i64_w,i32_w]
         rfl
        refine take_ (i:=12) (N:=some 32) (v:=?_) (a':=?_) #[true,true,true,true,true,true,true,true,true,true,true,true,true,true,false,true,false,false] rfl rfl (take_ofW HT_.out HW_.out (by kernel_rfl)) (fun _ _ _ h=>h) (Or.inl ⟨by rfl,?_⟩) hHeld ?_ ?_
        rotate_left
        ·rintro w' ⟨s0,s1,s2,s3,s4,s5,s6,s7,s8⟩
         go_simp
         with_reducible rfl
        rotate_left
        ·simp only [Act.put,s1_,s2_,s3_,i64_w,i32_w]
         rfl
        refine one_ (i:=14) (N:=some 34) #[true,true,true,true,true,true,true,true,true,true,true,true,true,true,true,true,false,false] rfl rfl (one_of HT_.out (by kernel_rfl)) (by decide) (fun K hK=>?_)
        refine goes_ Try.func89 (by kernel_rfl) rfl #[.agg #[.slice A0_0 l0_0.length c0_0],.int .i64 ((rd_T47 l1 x11_1).f2),.int .i64 a3] (by rfl) rfl rfl lm_ ?_
        with_reducible refine (spec_isA.calls k1 _ _ l0_0 ((rd_T47 l1 x11_1).f2) a3 t5 _ ?side1 ?side2 A14.out).mono ?_
        (case side1=>exact cc_ (Kd.C_below HR0_0.out HB.out))
        (case side2=>exact HC0_0.out)
        rintro e w19 ⟨rfl,hb⟩
        refine ⟨_,rfl,?_⟩
        have n0_:=kb_ BK1 hb
        have n1_:=a0_ (below_step hb_ hb)
        clear BK1
        clear HB
        have BK1:=n0_
        have HB:=n1_
        clear n0_ n1_
        (try clear hb)
        (try clear hb2)
        (try clear hk)
        (try clear hi)
        refine hK.out _ _ ⟨(blk_cell BK1.out 0).trans rfl,((HB.out.cell (World.block_lt_of_cell? w _ hw3_0)).trans hw3_0),((HB.out.cell (World.block_lt_of_cell? w _ hw3_1)).trans (by first | exact hw3_1 | exact hw3_1.trans (congrArg (fun z_=>some (Value.bool z_)) Nbq11.out.symm))),((HB.out.cell (World.block_lt_of_cell? w _ hw3_2)).trans hw3_2),((HB.out.cell (World.block_lt_of_cell? w _ hw3_3)).trans hw3_3),((HB.out.cell (World.block_lt_of_cell? w _ hw4_0)).trans hw4_0),((HB.out.cell (World.block_lt_of_cell? w _ hw4_1)).trans (by first | exact hw4_1 | exact hw4_1.trans (congrArg (fun z_=>some (Value.bool z_)) Nbq11.out.symm))),((HB.out.cell (World.block_lt_of_cell? w _ hw4_2)).trans hw4_2),((HB.out.cell (World.block_lt_of_cell? w _ hw4_3)).trans hw4_3)⟩ (fun hHeld=>?_)
        clear hK K
        refine norm_ (a':=?_) ?_ ?_
        rotate_left
        ·show Act.put _ (some 34) _ = _
         simp only [Act.put,s1_,s2_,s3_,i64_w,i32_w]
         rfl
        refine pure_ (i:=16) (N:=some 36) (v:=?_) (a':=?_) #[true,true,true,true,true,true,true,true,true,true,true,true,true,true,true,true,true,false] rfl rfl (any_of HT_.out (by kernel_rfl)) (fun _ _ _ h=>h) (Or.inl ⟨by rfl,?_⟩) ?_ ?_
        rotate_left
        ·intro w'
         go_simp
         with_reducible rfl
        rotate_left
        ·simp only [Act.put,s1_,s2_,s3_,i64_w,i32_w]
         rfl
        refine pure_ (i:=17) (N:=some 37) (v:=?_) (a':=?_) #[true,true,true,true,true,true,true,true,true,true,true,true,true,true,true,true,true,true] rfl rfl (any_of HT_.out (by kernel_rfl)) (fun _ _ _ h=>h) (Or.inl ⟨by rfl,?_⟩) ?_ ?_
        rotate_left
        ·intro w'
         go_simp
         with_reducible rfl
        rotate_left
        ·simp only [Act.put,s1_,s2_,s3_,i64_w,i32_w]
         rfl
        refine done_ (done_of HT_.out (by kernel_rfl)) ?_
        try go_wp2
        go_roundg k1
        case measure=>have:=HK1.out;omega
        case rel=>exact ⟨(wrap64 (x11_1 + 1)),(by first | rfl | (simp;done) | (simp [*];done)),H',⟨by have:=HK1.out;omega⟩,⟨by (with_reducible repeat (first | refine blk_drewN ?_ _ | refine blk_drew ?_ | refine blk_alloc ?_ _));exact BK1.out⟩,⟨hb_⟩⟩
     ·rw [if_neg c10] at H
      exact absurd H (by simp)
    ·rw [if_neg c9] at H
     exact absurd H (by simp)
   ·rw [if_neg c8] at H
    have c8b0 : decide (x11_1 < t2) = false:=decide_eq_false c8
    clear c8
    obtain rfl:=Option.some.inj H
    go_wp2_with (first | ((with_reducible refine gate_callee (f:=66) rfl ?_);refine goesL_ (some 16) rfl rfl Try.func66 (by kernel_rfl) rfl #[.slice A1 l1.length c1,.int .i64 a2] rfl lm_ ?_;(with_reducible refine (spec_endOf.calls k1 _ _ l1 a2 t2 _ ?side1 ?side2 A7.out).mono ?_);(case side1=>exact cc_ (Kd.C_below HR1.out HB.out));(case side2=>exact HC1.out);rintro e w' ⟨rfl,⟨nd,rfl⟩⟩;refine ⟨_,rfl,?_⟩))
    go_ret
    exact ⟨by first | rfl | (simp [errW_none,errW_some] <;> rfl) | (simp [*,errW_none,errW_some] <;> rfl),hb_⟩
theorem spec_keeps_ev {t : List Cls} (h : vT t = true) (g : List Prt) (hg : lfOk t g) (hl : g.length ≤ 9223372036854775807) (i : Nat) (hi : i < g.length) (a : Int) (yes : Bool) : Ev (fun k=>spec_keeps.f k t g (i : Int) a yes) (keepsB t g i a yes):=by
 have he:=endG_le g i hi
 have he2:=endG_gt g i
 have key : ∀ d j,j + d = endG g i → Ev (fun k=>spec_keeps.l0 k g (i : Int) a yes (j : Int) t) (((g.drop j).take d).any (lfB t a yes)):=by
  intro d
  induction d with
  | zero =>
   intro j hj
   refine Ev.succ ?_
   simp only [spec_keeps.l0]
   refine Ev.bind (spec_endOf_ev g i hi hl) (Ev.neg (by omega) ?_)
   exact Ev.const (by simp)
  | succ d ih =>
   intro j hj
   have hlt : j < g.length:=by omega
   have hrd : rd_T47 g (j : Int) = g[j]:=by simp [rd_T47,hlt]
   have hn:=ih (j + 1) (by omega)
   rw [List.drop_eq_getElem_cons hlt,List.take_succ_cons,List.any_cons]
   refine Ev.succ ?_
   simp only [spec_keeps.l0,hrd]
   rw [wrap_succ (i:=(j : Int)) (n:=g.length) (by omega) (by omega) (by omega)]
   refine Ev.bind (spec_endOf_ev g i hi hl) (Ev.pos (by omega) (Ev.pos (by omega) (Ev.pos (by omega) ?_)))
   unfold lfB at hn ⊢
   cases h1 : g[j].f1 with
   | true =>
    refine Ev.pos rfl ?_
    simpa using hn
   | false =>
    refine Ev.neg (by simp) (Ev.bind (spec_isA_Ev h g[j].f2 a (hg _ (List.getElem_mem hlt) h1)) ?_)
    cases h2 : (isA t g[j].f2 a == yes) with
    | true=>exact Ev.pos rfl (Ev.const rfl)
    | false =>
     refine Ev.neg (by simp) ?_
     simpa using hn
 exact key (endG g i - i) i (by omega)
end Go.Proofs.Ytfphcdbnnienhaa.P
namespace Go.Proofs.Ytfphcdbnnienhaa.P
open Go.RowKit Go.Proofs.YtfphcdbnnienhaaW.PrintWords Go.Proofs.YtfphcdbnnienhaaW.PrintLast Go.Proofs.YtfphcdbnnienhaaW.PrintMore
attribute [local go_sem] max2_int min2_int max_two min_two max_three min_three max_four min_four
set_option linter.unusedVariables false
set_option linter.unusedSimpArgs false
def spec_split.l0 : Nat → List (S47) → Int → List (S47) → List (S47) → Int → List (S85) → Option ((List (S47)) × (List (S47)))
 | 0,_,_,_,_,_,_=>none
 | k + 1,x1,x2,x8,x9,x10,x2000=>if x10 < (x1.length : Int) then ((spec_keeps.f k x2000 x1 x10 x2 true).bind fun t8=>(if t8 = true then (if 0 ≤ x10 then (if x8.length < 4398046511104 then ((some (x8 ++ [(⟨(rd_T47 x1 x10).f0,(rd_T47 x1 x10).f1,(rd_T47 x1 x10).f2,(rd_T47 x1 x10).f3⟩ : S47)] : List (S47))).bind fun y10=>((spec_keeps.f k x2000 x1 x10 x2 false).bind fun t13=>(if t13 = true then (if x9.length < 4398046511104 then (spec_split.l0 k x1 x2 y10 (x9 ++ [(⟨(rd_T47 x1 x10).f0,(rd_T47 x1 x10).f1,(rd_T47 x1 x10).f2,(rd_T47 x1 x10).f3⟩ : S47)]) (wrap64 (x10 + 1)) x2000) else (none)) else (spec_split.l0 k x1 x2 y10 x9 (wrap64 (x10 + 1)) x2000)))) else (none)) else (none)) else ((spec_keeps.f k x2000 x1 x10 x2 false).bind fun t18=>(if t18 = true then (if 0 ≤ x10 then (if x9.length < 4398046511104 then (spec_split.l0 k x1 x2 x8 (x9 ++ [(⟨(rd_T47 x1 x10).f0,(rd_T47 x1 x10).f1,(rd_T47 x1 x10).f2,(rd_T47 x1 x10).f3⟩ : S47)]) (wrap64 (x10 + 1)) x2000) else (none)) else (none)) else (spec_split.l0 k x1 x2 x8 x9 (wrap64 (x10 + 1)) x2000))))) else (some (x8,x9))
def spec_split.f (k : Nat) (l0_0 : List (S85)) (l1 : List (S47)) (a2 : Int) : Option ((List (S47)) × (List (S47))):=spec_split.l0 k l1 a2 (([] : List (S47))) (([] : List (S47))) 0 l0_0
theorem spec_split.mono_l : ∀ k,(∀ y0 y1 y2 y3 y4 y5,LeO (spec_split.l0 k y0 y1 y2 y3 y4 y5) (spec_split.l0 (k + 1) y0 y1 y2 y3 y4 y5))
 | 0=>fun _ _ _ _ _ _ r h=>by simp [spec_split.l0] at h
 | k + 1=>by
  have ih0:=spec_split.mono_l k
  ·intro y0 y1 y2 y3 y4 y5
   unfold spec_split.l0
   repeat' first
   | (with_reducible exact ih0 _ _ _ _ _ _)
   | (with_reducible exact spec_keeps.mono _ _ _ _ _ _)
   | (with_reducible exact LeO.refl _)
   | (with_reducible exact LeO.none _)
   | (with_reducible refine LeO.ite ?_ ?_)
   | (with_reducible refine LeO.bind ?_ (fun _=>?_))
   | exact ih0 _ _ _ _ _ _
   | exact spec_keeps.mono _ _ _ _ _ _
   | exact LeO.none _
   | refine LeO.ite ?_ ?_
   | refine LeO.bind ?_ (fun _=>?_)
theorem spec_split.mono : ∀ a0 a1 a2 k,LeO (spec_split.f k a0 a1 a2) (spec_split.f (k + 1) a0 a1 a2):=by
 intro a0 a1 a2 k
 have ih0:=spec_split.mono_l k
 unfold spec_split.f
 repeat' first
   | (with_reducible exact ih0 _ _ _ _ _ _)
   | (with_reducible exact spec_keeps.mono _ _ _ _ _ _)
   | (with_reducible exact LeO.refl _)
   | (with_reducible exact LeO.none _)
   | (with_reducible refine LeO.ite ?_ ?_)
   | (with_reducible refine LeO.bind ?_ (fun _=>?_))
   | exact ih0 _ _ _ _ _ _
   | exact spec_keeps.mono _ _ _ _ _ _
   | exact LeO.none _
   | refine LeO.ite ?_ ?_
   | refine LeO.bind ?_ (fun _=>?_)
set_option maxHeartbeats 8000000 in
set_option maxRecDepth 100000 in
theorem spec_split.calls (k : Nat) (A0_0 : Option Addr) (c0_0 : Nat) (l0_0 : List (S85)) (A1 : Option Addr) (c1 : Nat) (l1 : List (S47)) (a2 : Int) (r1 : List (S47)) (r2 : List (S47)) (w : World) (hr0_0 : Kd.C k85 w A0_0 l0_0.length l0_0) (hc0_0 : l0_0.length ≤ c0_0) (hr1 : Kd.C k47 w A1 l1.length l1) (hc1 : l1.length ≤ c1) (h : spec_split.f k l0_0 l1 a2 = some (r1,r2)) :
  Calls Try.prog 49 #[.agg #[.slice A0_0 l0_0.length c0_0],.slice A1 l1.length c1,.int .i64 a2] w fun e w'=>∃ v0_ v1_ : Value,e = .returned (.tuple #[v0_,v1_]) ∧ Kd.R k47 47 w' w.heap.size (fun k_=>some k_ ≠ (v1_ : Value).ownBlock) v0_ r1 ∧ Kd.R k47 47 w' w.heap.size (fun k_=>some k_ ≠ (v0_ : Value).ownBlock) v1_ r2 ∧ Below w.heap.size w w':=by
 have hu25:=Try.underlying25
 have hu47:=Try.underlying47
 have HR0_0:=a0_ hr0_0
 have HC0_0:=a0_ hc0_0
 clear hr0_0 hc0_0
 have HR1:=a0_ hr1
 have HC1:=a0_ hc1
 clear hr1 hc1
 have HB:=a0_ (Below.refl w.heap.size w)
 have H : (spec_split.l0 k l1 a2 (([] : List (S47))) (([] : List (S47))) 0 l0_0) = some (r1,r2):=h
 clear h
 obtain ⟨y2,hy2⟩ : ∃ y_ : List (S47),y_ = (([] : List (S47))):=⟨_,rfl⟩
 replace H : (spec_split.l0 k l1 a2 y2 (([] : List (S47))) 0 l0_0) = some (r1,r2):=by first | (rw [hy2];with_reducible exact H) | (have H2_:=(Option.bind_some _ _).symm.trans H;rw [hy2];with_reducible exact H2_) | (have H2_:=(Option.bind_some _ _).symm.trans H;with_reducible exact H2_) | with_reducible exact H | (rw [hy2];exact H) | exact H
 have Ny2:=a0_ hy2
 clear hy2
 obtain ⟨y5,hy5⟩ : ∃ y_ : List (S47),y_ = (([] : List (S47))):=⟨_,rfl⟩
 replace H : (spec_split.l0 k l1 a2 y2 y5 0 l0_0) = some (r1,r2):=by first | (rw [hy5];with_reducible exact H) | (have H2_:=(Option.bind_some _ _).symm.trans H;rw [hy5];with_reducible exact H2_) | (have H2_:=(Option.bind_some _ _).symm.trans H;with_reducible exact H2_) | with_reducible exact H | (rw [hy5];exact H) | exact H
 have Ny5:=a0_ hy5
 clear hy5
 have H':=a0_ H
 clear H
 go_enter Try.func49,Try.ntmps49
 go_wp2_with (first | ((with_reducible refine gate_dst (N:=3) rfl ?_);refine box_event ?hg (N:=3) ?hd (cs:=#[.slice A0_0 l0_0.length c0_0]) (t:=25) ?hr ?_;(case hd=>rfl);(case hg=>rfl);(case hr=>first | (go_simp;done) | (go_simp;rfl));intro gb1 hg w4 hbox hb;have BK1:=a0_ (hbox);have GW1:=a0_ ((by rw [hg];exact (below_size hb_) : w.heap.size ≤ gb1));have GE1:=a0_ ((by rw [hg];exact (below_size hb_) : w.heap.size ≤ gb1));replace HB:=a0_ (below_step hb_ hb);clear hb hbox hg) | ((with_reducible refine gate_dst (N:=11) rfl ?_);refine Kd.R_lit k47 _ 47 ?hg (N:=11) ?hd (xs:=([] : List (S47))) (inner:=[]) (ok:=fun _=>True) (okp:=fun _=>True) ?hr ?hp (fun _ hk=>hk) trivial (Below.refl _ _) (Nat.le_refl _) (by simp) ?_;(case hd=>rfl);(case hg=>rfl);(case hr=>first | (go_simp;done) | (go_simp;rfl));(case hp=>exact (Reps.none _ _));intro v3 w5 ho6 hb hg_ hnew_;clear hg_ hnew_;(first | rw [← Ny2.out] at ho6 | (simp only [Int.reduceToNat] at ho6;rw [← Ny2.out] at ho6));have HO4:=a0_ (Kd.R_lower ho6 (below_size hb_));replace BK1:=kb_ BK1 hb;replace HB:=a0_ (below_step hb_ hb);clear hb ho6) | ((with_reducible refine gate_dst (N:=12) rfl ?_);refine Kd.R_lit k47 _ 47 ?hg (N:=12) ?hd (xs:=([] : List (S47))) (inner:=[]) (ok:=fun _=>True) (okp:=fun _=>True) ?hr ?hp (fun _ hk=>hk) trivial (Below.refl _ _) (Nat.le_refl _) (by simp) ?_;(case hd=>rfl);(case hg=>rfl);(case hr=>first | (go_simp;done) | (go_simp;rfl));(case hp=>exact (Reps.none _ _));intro v6 w7 ho8 hb hg_ hnew_;clear hg_ hnew_;(first | rw [← Ny5.out] at ho8 | (simp only [Int.reduceToNat] at ho8;rw [← Ny5.out] at ho8));have n0_:=a0_ (Kd.R_elder' (rr_ HO4.out) (Kd.R_base ho8) hb);have n1_:=a0_ (Kd.R_lower (Kd.R_new' ho8 (Kd.R_lt (rr_ HO4.out))) (below_size hb_));have n2_:=kb_ BK1 hb;have n3_:=a0_ (below_step hb_ hb);clear HO4 BK1 HB;have HO4:=n0_;have HO7:=n1_;have BK1:=n2_;have HB:=n3_;clear n0_ n1_ n2_ n3_;clear hb ho8))
 go_loopg [8,9,10] k (fun kq v8 v9 v10 w'=>∃ (x8_1 : List (S47)) (x9_1 : List (S47)) (x10_1 : Int),v10 = .int .i64 x10_1 ∧ Aside0 (spec_split.l0 kq l1 a2 x8_1 x9_1 x10_1 l0_0 = some (r1,r2)) ∧ Aside0 (kq ≤ k) ∧ Aside0 (Kd.R k47 47 w' w.heap.size (fun k_=>some k_ ≠ (v9 : Value).ownBlock) v8 x8_1) ∧ Aside0 (Kd.R k47 47 w' w.heap.size (fun k_=>some k_ ≠ (v8 : Value).ownBlock) v9 x9_1) ∧ Aside0 (w'.heap[gb1]? = some (.cells #[(.slice A0_0 l0_0.length c0_0)] 25 (0,0))) ∧ Aside0 (Below w.heap.size w w'))
 case atStart=>exact ⟨(y2),(y5),(0),(by first | rfl | (simp;done) | (simp [*];done)),H',⟨Nat.le_refl _⟩,⟨by (with_reducible repeat (first | apply Kd.R_alloc | apply Kd.R_drewN | apply Kd.R_drew));exact Kd.R_mono HO4.out (fun _ hk=>hk.2)⟩,⟨by (with_reducible repeat (first | apply Kd.R_alloc | apply Kd.R_drewN | apply Kd.R_drew));exact Kd.R_mono HO7.out (fun _ hk=>hk.2)⟩,⟨by (with_reducible repeat (first | refine blk_drewN ?_ _ | refine blk_drew ?_ | refine blk_alloc ?_ _));exact BK1.out⟩,⟨hb_⟩⟩
 case round =>
  clear H'
  try clear c1
  try clear p2
  try clear c4
  obtain ⟨x8_1,x9_1,x10_1,rfl,HA,HK1,HO_8,HO_9,BK1,HB⟩:=hrel
  cases gk with
  | zero=>exact absurd HA.out (by simp [spec_split.l0])
  | succ k1 =>
   have H:=HA.out
   clear HA
   simp only [spec_split.l0] at H
   by_cases c9 : x10_1 < (l1.length : Int)
   ·rw [if_pos c9] at H
    have c9b0 : decide (x10_1 < (l1.length : Int)) = true:=decide_eq_true c9
    clear c9
    replace H:=Option.bind_eq_some_iff.mp H
    obtain ⟨t8,A100,H⟩:=H
    try dsimp only at H
    have A10:=a0_ A100
    clear A100
    by_cases c11 : t8 = true
    ·subst c11
     have H1 : (if 0 ≤ x10_1 then (if x8_1.length < 4398046511104 then ((some (x8_1 ++ [(⟨(rd_T47 l1 x10_1).f0,(rd_T47 l1 x10_1).f1,(rd_T47 l1 x10_1).f2,(rd_T47 l1 x10_1).f3⟩ : S47)] : List (S47))).bind fun y10=>((spec_keeps.f k1 l0_0 l1 x10_1 a2 false).bind fun t13=>(if t13 = true then (if x9_1.length < 4398046511104 then (spec_split.l0 k1 l1 a2 y10 (x9_1 ++ [(⟨(rd_T47 l1 x10_1).f0,(rd_T47 l1 x10_1).f1,(rd_T47 l1 x10_1).f2,(rd_T47 l1 x10_1).f3⟩ : S47)]) (wrap64 (x10_1 + 1)) l0_0) else (none)) else (spec_split.l0 k1 l1 a2 y10 x9_1 (wrap64 (x10_1 + 1)) l0_0)))) else (none)) else (none)) = some (r1,r2):=by rw [if_pos rfl] at H;exact H
     clear H
     have H:=H1
     clear H1
     by_cases c12 : 0 ≤ x10_1
     ·rw [if_pos c12] at H
      have c12b0 : decide (0 ≤ x10_1) = true:=decide_eq_true c12
      clear c12
      by_cases c13 : x8_1.length < 4398046511104
      ·rw [if_pos c13] at H
       have LMc13:=a0_ c13
       clear c13
       obtain ⟨y10,hy10⟩ : ∃ y_ : List (S47),y_ = (x8_1 ++ [(⟨(rd_T47 l1 x10_1).f0,(rd_T47 l1 x10_1).f1,(rd_T47 l1 x10_1).f2,(rd_T47 l1 x10_1).f3⟩ : S47)]):=⟨_,rfl⟩
       replace H : ((spec_keeps.f k1 l0_0 l1 x10_1 a2 false).bind fun t13=>(if t13 = true then (if x9_1.length < 4398046511104 then (spec_split.l0 k1 l1 a2 y10 (x9_1 ++ [(⟨(rd_T47 l1 x10_1).f0,(rd_T47 l1 x10_1).f1,(rd_T47 l1 x10_1).f2,(rd_T47 l1 x10_1).f3⟩ : S47)]) (wrap64 (x10_1 + 1)) l0_0) else (none)) else (spec_split.l0 k1 l1 a2 y10 x9_1 (wrap64 (x10_1 + 1)) l0_0))) = some (r1,r2):=by first | (rw [hy10];with_reducible exact H) | (have H2_:=(Option.bind_some _ _).symm.trans H;rw [hy10];with_reducible exact H2_) | (have H2_:=(Option.bind_some _ _).symm.trans H;with_reducible exact H2_) | with_reducible exact H | (rw [hy10];exact H) | exact H
       have Ny10:=a0_ hy10
       clear hy10
       replace H:=Option.bind_eq_some_iff.mp H
       obtain ⟨t13,A140,H⟩:=H
       try dsimp only at H
       have A14:=a0_ A140
       clear A140
       by_cases c15 : t13 = true
       ·subst c15
        have H1 : (if x9_1.length < 4398046511104 then (spec_split.l0 k1 l1 a2 y10 (x9_1 ++ [(⟨(rd_T47 l1 x10_1).f0,(rd_T47 l1 x10_1).f1,(rd_T47 l1 x10_1).f2,(rd_T47 l1 x10_1).f3⟩ : S47)]) (wrap64 (x10_1 + 1)) l0_0) else (none)) = some (r1,r2):=by rw [if_pos rfl] at H;exact H
        clear H
        have H:=H1
        clear H1
        by_cases c16 : x9_1.length < 4398046511104
        ·rw [if_pos c16] at H
         have LMc16:=a0_ c16
         clear c16
         obtain ⟨y15,hy15⟩ : ∃ y_ : List (S47),y_ = (x9_1 ++ [(⟨(rd_T47 l1 x10_1).f0,(rd_T47 l1 x10_1).f1,(rd_T47 l1 x10_1).f2,(rd_T47 l1 x10_1).f3⟩ : S47)]):=⟨_,rfl⟩
         replace H : (spec_split.l0 k1 l1 a2 y10 y15 (wrap64 (x10_1 + 1)) l0_0) = some (r1,r2):=by first | (rw [hy15];with_reducible exact H) | (have H2_:=(Option.bind_some _ _).symm.trans H;rw [hy15];with_reducible exact H2_) | (have H2_:=(Option.bind_some _ _).symm.trans H;with_reducible exact H2_) | with_reducible exact H | (rw [hy15];exact H) | exact H
         have Ny15:=a0_ hy15
         clear hy15
         have H':=a0_ H
         clear H
         have hcz17_0 : wr.cell? ⟨gb1,0,none⟩ = some (.slice A0_0 l0_0.length c0_0):=(blk_cell BK1.out 0).trans rfl
         have hfz17_0:=blk_frozen BK1.out 0
         go_wp2_with (first | ((with_reducible refine gate_callee (f:=75) rfl ?_);refine goesL_ (some 23) rfl rfl Try.func75 (by kernel_rfl) rfl #[.agg #[.slice A0_0 l0_0.length c0_0],.slice A1 l1.length c1,.int .i64 x10_1,.int .i64 a2,.bool true] rfl lm_ ?_;(with_reducible refine (spec_keeps.calls k1 _ _ l0_0 _ _ l1 x10_1 a2 true true _ ?side1 ?side2 ?side3 ?side4 A10.out).mono ?_);(case side1=>exact cc_ (Kd.C_below HR0_0.out HB.out));(case side2=>exact HC0_0.out);(case side3=>exact cc_ (Kd.C_below HR1.out HB.out));(case side4=>exact HC1.out);rintro e w18 ⟨rfl,hb⟩;refine ⟨_,rfl,?_⟩;replace HO_8:=rb_ HO_8 hb;replace HO_9:=rb_ HO_9 hb;replace BK1:=kb_ BK1 hb;replace HB:=a0_ (below_step hb_ hb);(try clear hb);have p9 : 0 ≤ (x10_1 : Int):=of_decide_eq_true (by first | (with_reducible assumption) | assumption);have q9 : x10_1 < (l1.length : Int):=of_decide_eq_true (by first | (with_reducible assumption) | assumption);obtain ⟨ad9,e9,hx9_0,hx9_1,hx9_2,hx9_3⟩:=at_T47 HR1.out x10_1 p9 q9;cases e9;replace hx9_0:=(HB.out.cell (World.block_lt_of_cell? w _ hx9_0)).trans hx9_0;replace hx9_1:=(HB.out.cell (World.block_lt_of_cell? w _ hx9_1)).trans hx9_1;replace hx9_2:=(HB.out.cell (World.block_lt_of_cell? w _ hx9_2)).trans hx9_2;replace hx9_3:=(HB.out.cell (World.block_lt_of_cell? w _ hx9_3)).trans hx9_3;replace p9:=eq_true p9;replace q9:=eq_true q9) | ((with_reducible refine gate_builtin (b:=.append) (xs:=#[.tmp 24,.tmp 29]) rfl ?_);at_builtin;refine Kd.R_append k47 (w0:=w) w.heap.size rfl (.tmp 24) (.tmp 29) 26 47 (.agg #[(.int .i64 0),(.bool false),(.int .i64 0),(.int .i64 0)]) 32 rfl Try.underlying26 info47 rfl (by decide) (by omega) u8 x8_1 (⟨(rd_T47 l1 x10_1).f0,(rd_T47 l1 x10_1).f1,(rd_T47 l1 x10_1).f2,(rd_T47 l1 x10_1).f3⟩ : S47) [.int .i64 ((rd_T47 l1 x10_1).f0),.bool ((rd_T47 l1 x10_1).f1),.int .i64 ((rd_T47 l1 x10_1).f2),.int .i64 ((rd_T47 l1 x10_1).f3)] (fun k_=>some k_ ≠ (u9 : Value).ownBlock) (fun _=>False) rfl rfl ?aP (fun _ hk=>hk.elim) ?aF ?aO ?aB ?aS ?aL ?_;(case aP=>exact k47_mkM _ _ _ (⟨(rd_T47 l1 x10_1).f0,(rd_T47 l1 x10_1).f1,(rd_T47 l1 x10_1).f2,(rd_T47 l1 x10_1).f3⟩ : S47));(case aB=>exact hb_);(case aF=>exact (fun k_ hk=>Kd.fresh' (Kd.R_lt (rr_ HO_9.out)) k_ hk));(case aO=>exact (rr_ HO_8.out));(case aS=>exact (below_size hb_));(case aL=>have:=LMc13.out;omega);intro v11 w19 ho hb hg hat;rw [← Ny10.out] at ho;replace HO_9:=a0_ (Kd.R_after (ok:=(fun _=>True)) (rm_ HO_9.out (fun _ hk=>⟨trivial,hk⟩)) hg hat);replace BK1:=a0_ (blk_grown (bb_ BK1.out) hg (Kd.R_ne HO_8.out BK1.out (by decide)));have HO12:=a0_ (ho);replace HB:=a0_ (hb);clear HO_8;clear ho hb hg hat;have hcz20_0 : w19.cell? ⟨gb1,0,none⟩ = some (.slice A0_0 l0_0.length c0_0):=(blk_cell BK1.out 0).trans rfl;have hfz20_0:=blk_frozen BK1.out 0) | ((with_reducible refine gate_callee (f:=75) rfl ?_);refine goesL_ (some 35) rfl rfl Try.func75 (by kernel_rfl) rfl #[.agg #[.slice A0_0 l0_0.length c0_0],.slice (some ad9) l1.length c1,.int .i64 x10_1,.int .i64 a2,.bool false] rfl lm_ ?_;(with_reducible refine (spec_keeps.calls k1 _ _ l0_0 _ _ l1 x10_1 a2 false true _ ?side1 ?side2 ?side3 ?side4 A14.out).mono ?_);(case side1=>exact cc_ (Kd.C_below HR0_0.out HB.out));(case side2=>exact HC0_0.out);(case side3=>exact cc_ (Kd.C_below HR1.out HB.out));(case side4=>exact HC1.out);rintro e w21 ⟨rfl,hb⟩;refine ⟨_,rfl,?_⟩;replace HO_9:=rb_ HO_9 hb;replace HO12:=rb_ HO12 hb;replace BK1:=kb_ BK1 hb;replace HB:=a0_ (below_step hb_ hb);(try clear hb);have p14 : 0 ≤ (x10_1 : Int):=of_decide_eq_true (by first | (with_reducible assumption) | assumption);have q14 : x10_1 < (l1.length : Int):=of_decide_eq_true (by first | (with_reducible assumption) | assumption);obtain ⟨ad14,e14,hx14_0,hx14_1,hx14_2,hx14_3⟩:=at_T47 HR1.out x10_1 p14 q14;obtain rfl : ad9 = ad14:=(by injection e14);replace hx14_0:=(HB.out.cell (World.block_lt_of_cell? w _ hx14_0)).trans hx14_0;replace hx14_1:=(HB.out.cell (World.block_lt_of_cell? w _ hx14_1)).trans hx14_1;replace hx14_2:=(HB.out.cell (World.block_lt_of_cell? w _ hx14_2)).trans hx14_2;replace hx14_3:=(HB.out.cell (World.block_lt_of_cell? w _ hx14_3)).trans hx14_3;replace p14:=eq_true p14;replace q14:=eq_true q14) | ((with_reducible refine gate_builtin (b:=.append) (xs:=#[.tmp 36,.tmp 41]) rfl ?_);at_builtin;refine Kd.R_append k47 (w0:=w) w.heap.size rfl (.tmp 36) (.tmp 41) 26 47 (.agg #[(.int .i64 0),(.bool false),(.int .i64 0),(.int .i64 0)]) 32 rfl Try.underlying26 info47 rfl (by decide) (by omega) u9 x9_1 (⟨(rd_T47 l1 x10_1).f0,(rd_T47 l1 x10_1).f1,(rd_T47 l1 x10_1).f2,(rd_T47 l1 x10_1).f3⟩ : S47) [.int .i64 ((rd_T47 l1 x10_1).f0),.bool ((rd_T47 l1 x10_1).f1),.int .i64 ((rd_T47 l1 x10_1).f2),.int .i64 ((rd_T47 l1 x10_1).f3)] (fun k_=>some k_ ≠ (v11 : Value).ownBlock) (fun _=>False) rfl rfl ?aP (fun _ hk=>hk.elim) ?aF ?aO ?aB ?aS ?aL ?_;(case aP=>exact k47_mkM _ _ _ (⟨(rd_T47 l1 x10_1).f0,(rd_T47 l1 x10_1).f1,(rd_T47 l1 x10_1).f2,(rd_T47 l1 x10_1).f3⟩ : S47));(case aB=>exact hb_);(case aF=>exact (fun k_ hk=>Kd.fresh' (Kd.R_lt (rr_ HO12.out)) k_ hk));(case aO=>exact (rm_ HO_9.out (fun _ hk=>hk.2)));(case aS=>exact (below_size hb_));(case aL=>have:=LMc16.out;omega);intro v16 w22 ho hb hg hat;rw [← Ny15.out] at ho;replace BK1:=a0_ (blk_grown (bb_ BK1.out) hg (Kd.R_ne HO_9.out BK1.out (by decide)));replace HO12:=a0_ (Kd.R_after (ok:=(fun _=>True)) (rm_ HO12.out (fun _ hk=>⟨trivial,hk⟩)) hg hat);have HO17:=a0_ (ho);replace HB:=a0_ (hb);clear HO_9;clear ho hb hg hat))
         go_roundg k1
         case measure=>have:=HK1.out;omega
         case rel=>exact ⟨(y10),(y15),(wrap64 (x10_1 + 1)),(by first | rfl | (simp;done) | (simp [*];done)),H',⟨by have:=HK1.out;omega⟩,⟨by (with_reducible repeat (first | apply Kd.R_alloc | apply Kd.R_drewN | apply Kd.R_drew));exact Kd.R_mono HO12.out (fun _ hk=>hk.2)⟩,⟨by (with_reducible repeat (first | apply Kd.R_alloc | apply Kd.R_drewN | apply Kd.R_drew));exact HO17.out⟩,⟨by (with_reducible repeat (first | refine blk_drewN ?_ _ | refine blk_drew ?_ | refine blk_alloc ?_ _));exact BK1.out⟩,⟨hb_⟩⟩
        ·rw [if_neg c16] at H
         exact absurd H (by simp)
       ·replace c15:=Bool.eq_false_iff.mpr c15
        subst c15
        have H1 : (spec_split.l0 k1 l1 a2 y10 x9_1 (wrap64 (x10_1 + 1)) l0_0) = some (r1,r2):=by rw [if_neg (show ¬ (false = true) by decide)] at H;exact H
        clear H
        have H:=H1
        clear H1
        have H':=a0_ H
        clear H
        have hcz23_0 : wr.cell? ⟨gb1,0,none⟩ = some (.slice A0_0 l0_0.length c0_0):=(blk_cell BK1.out 0).trans rfl
        have hfz23_0:=blk_frozen BK1.out 0
        go_wp2_with (first | ((with_reducible refine gate_callee (f:=75) rfl ?_);refine goesL_ (some 23) rfl rfl Try.func75 (by kernel_rfl) rfl #[.agg #[.slice A0_0 l0_0.length c0_0],.slice A1 l1.length c1,.int .i64 x10_1,.int .i64 a2,.bool true] rfl lm_ ?_;(with_reducible refine (spec_keeps.calls k1 _ _ l0_0 _ _ l1 x10_1 a2 true true _ ?side1 ?side2 ?side3 ?side4 A10.out).mono ?_);(case side1=>exact cc_ (Kd.C_below HR0_0.out HB.out));(case side2=>exact HC0_0.out);(case side3=>exact cc_ (Kd.C_below HR1.out HB.out));(case side4=>exact HC1.out);rintro e w24 ⟨rfl,hb⟩;refine ⟨_,rfl,?_⟩;replace HO_8:=rb_ HO_8 hb;replace HO_9:=rb_ HO_9 hb;replace BK1:=kb_ BK1 hb;replace HB:=a0_ (below_step hb_ hb);(try clear hb);have p9 : 0 ≤ (x10_1 : Int):=of_decide_eq_true (by first | (with_reducible assumption) | assumption);have q9 : x10_1 < (l1.length : Int):=of_decide_eq_true (by first | (with_reducible assumption) | assumption);obtain ⟨ad9,e9,hx9_0,hx9_1,hx9_2,hx9_3⟩:=at_T47 HR1.out x10_1 p9 q9;cases e9;replace hx9_0:=(HB.out.cell (World.block_lt_of_cell? w _ hx9_0)).trans hx9_0;replace hx9_1:=(HB.out.cell (World.block_lt_of_cell? w _ hx9_1)).trans hx9_1;replace hx9_2:=(HB.out.cell (World.block_lt_of_cell? w _ hx9_2)).trans hx9_2;replace hx9_3:=(HB.out.cell (World.block_lt_of_cell? w _ hx9_3)).trans hx9_3;replace p9:=eq_true p9;replace q9:=eq_true q9) | ((with_reducible refine gate_builtin (b:=.append) (xs:=#[.tmp 24,.tmp 29]) rfl ?_);at_builtin;refine Kd.R_append k47 (w0:=w) w.heap.size rfl (.tmp 24) (.tmp 29) 26 47 (.agg #[(.int .i64 0),(.bool false),(.int .i64 0),(.int .i64 0)]) 32 rfl Try.underlying26 info47 rfl (by decide) (by omega) u8 x8_1 (⟨(rd_T47 l1 x10_1).f0,(rd_T47 l1 x10_1).f1,(rd_T47 l1 x10_1).f2,(rd_T47 l1 x10_1).f3⟩ : S47) [.int .i64 ((rd_T47 l1 x10_1).f0),.bool ((rd_T47 l1 x10_1).f1),.int .i64 ((rd_T47 l1 x10_1).f2),.int .i64 ((rd_T47 l1 x10_1).f3)] (fun k_=>some k_ ≠ (u9 : Value).ownBlock) (fun _=>False) rfl rfl ?aP (fun _ hk=>hk.elim) ?aF ?aO ?aB ?aS ?aL ?_;(case aP=>exact k47_mkM _ _ _ (⟨(rd_T47 l1 x10_1).f0,(rd_T47 l1 x10_1).f1,(rd_T47 l1 x10_1).f2,(rd_T47 l1 x10_1).f3⟩ : S47));(case aB=>exact hb_);(case aF=>exact (fun k_ hk=>Kd.fresh' (Kd.R_lt (rr_ HO_9.out)) k_ hk));(case aO=>exact (rr_ HO_8.out));(case aS=>exact (below_size hb_));(case aL=>have:=LMc13.out;omega);intro v11 w25 ho hb hg hat;rw [← Ny10.out] at ho;replace HO_9:=a0_ (Kd.R_after (ok:=(fun _=>True)) (rm_ HO_9.out (fun _ hk=>⟨trivial,hk⟩)) hg hat);replace BK1:=a0_ (blk_grown (bb_ BK1.out) hg (Kd.R_ne HO_8.out BK1.out (by decide)));have HO12:=a0_ (ho);replace HB:=a0_ (hb);clear HO_8;clear ho hb hg hat;have hcz26_0 : w25.cell? ⟨gb1,0,none⟩ = some (.slice A0_0 l0_0.length c0_0):=(blk_cell BK1.out 0).trans rfl;have hfz26_0:=blk_frozen BK1.out 0) | ((with_reducible refine gate_callee (f:=75) rfl ?_);refine goesL_ (some 35) rfl rfl Try.func75 (by kernel_rfl) rfl #[.agg #[.slice A0_0 l0_0.length c0_0],.slice (some ad9) l1.length c1,.int .i64 x10_1,.int .i64 a2,.bool false] rfl lm_ ?_;(with_reducible refine (spec_keeps.calls k1 _ _ l0_0 _ _ l1 x10_1 a2 false false _ ?side1 ?side2 ?side3 ?side4 A14.out).mono ?_);(case side1=>exact cc_ (Kd.C_below HR0_0.out HB.out));(case side2=>exact HC0_0.out);(case side3=>exact cc_ (Kd.C_below HR1.out HB.out));(case side4=>exact HC1.out);rintro e w27 ⟨rfl,hb⟩;refine ⟨_,rfl,?_⟩;replace HO_9:=rb_ HO_9 hb;replace HO12:=rb_ HO12 hb;replace BK1:=kb_ BK1 hb;replace HB:=a0_ (below_step hb_ hb);(try clear hb);(try clear hb2);(try clear hk);(try clear hi)))
        go_roundg k1
        case measure=>have:=HK1.out;omega
        case rel=>exact ⟨(y10),(x9_1),(wrap64 (x10_1 + 1)),(by first | rfl | (simp;done) | (simp [*];done)),H',⟨by have:=HK1.out;omega⟩,⟨by (with_reducible repeat (first | apply Kd.R_alloc | apply Kd.R_drewN | apply Kd.R_drew));exact HO12.out⟩,⟨by (with_reducible repeat (first | apply Kd.R_alloc | apply Kd.R_drewN | apply Kd.R_drew));exact Kd.R_mono HO_9.out (fun _ hk=>hk.2)⟩,⟨by (with_reducible repeat (first | refine blk_drewN ?_ _ | refine blk_drew ?_ | refine blk_alloc ?_ _));exact BK1.out⟩,⟨hb_⟩⟩
      ·rw [if_neg c13] at H
       exact absurd H (by simp)
     ·rw [if_neg c12] at H
      exact absurd H (by simp)
    ·replace c11:=Bool.eq_false_iff.mpr c11
     subst c11
     have H1 : ((spec_keeps.f k1 l0_0 l1 x10_1 a2 false).bind fun t18=>(if t18 = true then (if 0 ≤ x10_1 then (if x9_1.length < 4398046511104 then (spec_split.l0 k1 l1 a2 x8_1 (x9_1 ++ [(⟨(rd_T47 l1 x10_1).f0,(rd_T47 l1 x10_1).f1,(rd_T47 l1 x10_1).f2,(rd_T47 l1 x10_1).f3⟩ : S47)]) (wrap64 (x10_1 + 1)) l0_0) else (none)) else (none)) else (spec_split.l0 k1 l1 a2 x8_1 x9_1 (wrap64 (x10_1 + 1)) l0_0))) = some (r1,r2):=by rw [if_neg (show ¬ (false = true) by decide)] at H;exact H
     clear H
     have H:=H1
     clear H1
     replace H:=Option.bind_eq_some_iff.mp H
     obtain ⟨t18,A280,H⟩:=H
     try dsimp only at H
     have A28:=a0_ A280
     clear A280
     by_cases c29 : t18 = true
     ·subst c29
      have H1 : (if 0 ≤ x10_1 then (if x9_1.length < 4398046511104 then (spec_split.l0 k1 l1 a2 x8_1 (x9_1 ++ [(⟨(rd_T47 l1 x10_1).f0,(rd_T47 l1 x10_1).f1,(rd_T47 l1 x10_1).f2,(rd_T47 l1 x10_1).f3⟩ : S47)]) (wrap64 (x10_1 + 1)) l0_0) else (none)) else (none)) = some (r1,r2):=by rw [if_pos rfl] at H;exact H
      clear H
      have H:=H1
      clear H1
      by_cases c30 : 0 ≤ x10_1
      ·rw [if_pos c30] at H
       have c30b0 : decide (0 ≤ x10_1) = true:=decide_eq_true c30
       clear c30
       by_cases c31 : x9_1.length < 4398046511104
       ·rw [if_pos c31] at H
        have LMc31:=a0_ c31
        clear c31
        obtain ⟨y20,hy20⟩ : ∃ y_ : List (S47),y_ = (x9_1 ++ [(⟨(rd_T47 l1 x10_1).f0,(rd_T47 l1 x10_1).f1,(rd_T47 l1 x10_1).f2,(rd_T47 l1 x10_1).f3⟩ : S47)]):=⟨_,rfl⟩
        replace H : (spec_split.l0 k1 l1 a2 x8_1 y20 (wrap64 (x10_1 + 1)) l0_0) = some (r1,r2):=by first | (rw [hy20];with_reducible exact H) | (have H2_:=(Option.bind_some _ _).symm.trans H;rw [hy20];with_reducible exact H2_) | (have H2_:=(Option.bind_some _ _).symm.trans H;with_reducible exact H2_) | with_reducible exact H | (rw [hy20];exact H) | exact H
        have Ny20:=a0_ hy20
        clear hy20
        have H':=a0_ H
        clear H
        have hcz32_0 : wr.cell? ⟨gb1,0,none⟩ = some (.slice A0_0 l0_0.length c0_0):=(blk_cell BK1.out 0).trans rfl
        have hfz32_0:=blk_frozen BK1.out 0
        go_wp2_with (first | ((with_reducible refine gate_callee (f:=75) rfl ?_);refine goesL_ (some 23) rfl rfl Try.func75 (by kernel_rfl) rfl #[.agg #[.slice A0_0 l0_0.length c0_0],.slice A1 l1.length c1,.int .i64 x10_1,.int .i64 a2,.bool true] rfl lm_ ?_;(with_reducible refine (spec_keeps.calls k1 _ _ l0_0 _ _ l1 x10_1 a2 true false _ ?side1 ?side2 ?side3 ?side4 A10.out).mono ?_);(case side1=>exact cc_ (Kd.C_below HR0_0.out HB.out));(case side2=>exact HC0_0.out);(case side3=>exact cc_ (Kd.C_below HR1.out HB.out));(case side4=>exact HC1.out);rintro e w33 ⟨rfl,hb⟩;refine ⟨_,rfl,?_⟩;replace HO_8:=rb_ HO_8 hb;replace HO_9:=rb_ HO_9 hb;replace BK1:=kb_ BK1 hb;replace HB:=a0_ (below_step hb_ hb);(try clear hb);have hcz34_0 : w33.cell? ⟨gb1,0,none⟩ = some (.slice A0_0 l0_0.length c0_0):=(blk_cell BK1.out 0).trans rfl;have hfz34_0:=blk_frozen BK1.out 0) | ((with_reducible refine gate_callee (f:=75) rfl ?_);refine goesL_ (some 35) rfl rfl Try.func75 (by kernel_rfl) rfl #[.agg #[.slice A0_0 l0_0.length c0_0],.slice A1 l1.length c1,.int .i64 x10_1,.int .i64 a2,.bool false] rfl lm_ ?_;(with_reducible refine (spec_keeps.calls k1 _ _ l0_0 _ _ l1 x10_1 a2 false true _ ?side1 ?side2 ?side3 ?side4 A28.out).mono ?_);(case side1=>exact cc_ (Kd.C_below HR0_0.out HB.out));(case side2=>exact HC0_0.out);(case side3=>exact cc_ (Kd.C_below HR1.out HB.out));(case side4=>exact HC1.out);rintro e w35 ⟨rfl,hb⟩;refine ⟨_,rfl,?_⟩;replace HO_8:=rb_ HO_8 hb;replace HO_9:=rb_ HO_9 hb;replace BK1:=kb_ BK1 hb;replace HB:=a0_ (below_step hb_ hb);(try clear hb);have p19 : 0 ≤ (x10_1 : Int):=of_decide_eq_true (by first | (with_reducible assumption) | assumption);have q19 : x10_1 < (l1.length : Int):=of_decide_eq_true (by first | (with_reducible assumption) | assumption);obtain ⟨ad19,e19,hx19_0,hx19_1,hx19_2,hx19_3⟩:=at_T47 HR1.out x10_1 p19 q19;cases e19;replace hx19_0:=(HB.out.cell (World.block_lt_of_cell? w _ hx19_0)).trans hx19_0;replace hx19_1:=(HB.out.cell (World.block_lt_of_cell? w _ hx19_1)).trans hx19_1;replace hx19_2:=(HB.out.cell (World.block_lt_of_cell? w _ hx19_2)).trans hx19_2;replace hx19_3:=(HB.out.cell (World.block_lt_of_cell? w _ hx19_3)).trans hx19_3;replace p19:=eq_true p19;replace q19:=eq_true q19) | ((with_reducible refine gate_builtin (b:=.append) (xs:=#[.tmp 36,.tmp 41]) rfl ?_);at_builtin;refine Kd.R_append k47 (w0:=w) w.heap.size rfl (.tmp 36) (.tmp 41) 26 47 (.agg #[(.int .i64 0),(.bool false),(.int .i64 0),(.int .i64 0)]) 32 rfl Try.underlying26 info47 rfl (by decide) (by omega) u9 x9_1 (⟨(rd_T47 l1 x10_1).f0,(rd_T47 l1 x10_1).f1,(rd_T47 l1 x10_1).f2,(rd_T47 l1 x10_1).f3⟩ : S47) [.int .i64 ((rd_T47 l1 x10_1).f0),.bool ((rd_T47 l1 x10_1).f1),.int .i64 ((rd_T47 l1 x10_1).f2),.int .i64 ((rd_T47 l1 x10_1).f3)] (fun k_=>some k_ ≠ (u8 : Value).ownBlock) (fun _=>False) rfl rfl ?aP (fun _ hk=>hk.elim) ?aF ?aO ?aB ?aS ?aL ?_;(case aP=>exact k47_mkM _ _ _ (⟨(rd_T47 l1 x10_1).f0,(rd_T47 l1 x10_1).f1,(rd_T47 l1 x10_1).f2,(rd_T47 l1 x10_1).f3⟩ : S47));(case aB=>exact hb_);(case aF=>exact (fun k_ hk=>Kd.fresh' (Kd.R_lt (rr_ HO_8.out)) k_ hk));(case aO=>exact (rr_ HO_9.out));(case aS=>exact (below_size hb_));(case aL=>have:=LMc31.out;omega);intro v21 w36 ho hb hg hat;rw [← Ny20.out] at ho;replace HO_8:=a0_ (Kd.R_after (ok:=(fun _=>True)) (rm_ HO_8.out (fun _ hk=>⟨trivial,hk⟩)) hg hat);replace BK1:=a0_ (blk_grown (bb_ BK1.out) hg (Kd.R_ne HO_9.out BK1.out (by decide)));have HO22:=a0_ (ho);replace HB:=a0_ (hb);clear HO_9;clear ho hb hg hat))
        go_roundg k1
        case measure=>have:=HK1.out;omega
        case rel=>exact ⟨(x8_1),(y20),(wrap64 (x10_1 + 1)),(by first | rfl | (simp;done) | (simp [*];done)),H',⟨by have:=HK1.out;omega⟩,⟨by (with_reducible repeat (first | apply Kd.R_alloc | apply Kd.R_drewN | apply Kd.R_drew));exact Kd.R_mono HO_8.out (fun _ hk=>hk.2)⟩,⟨by (with_reducible repeat (first | apply Kd.R_alloc | apply Kd.R_drewN | apply Kd.R_drew));exact HO22.out⟩,⟨by (with_reducible repeat (first | refine blk_drewN ?_ _ | refine blk_drew ?_ | refine blk_alloc ?_ _));exact BK1.out⟩,⟨hb_⟩⟩
       ·rw [if_neg c31] at H
        exact absurd H (by simp)
      ·rw [if_neg c30] at H
       exact absurd H (by simp)
     ·replace c29:=Bool.eq_false_iff.mpr c29
      subst c29
      have H1 : (spec_split.l0 k1 l1 a2 x8_1 x9_1 (wrap64 (x10_1 + 1)) l0_0) = some (r1,r2):=by rw [if_neg (show ¬ (false = true) by decide)] at H;exact H
      clear H
      have H:=H1
      clear H1
      have H':=a0_ H
      clear H
      have hcz37_0 : wr.cell? ⟨gb1,0,none⟩ = some (.slice A0_0 l0_0.length c0_0):=(blk_cell BK1.out 0).trans rfl
      have hfz37_0:=blk_frozen BK1.out 0
      go_wp2_with (first | ((with_reducible refine gate_callee (f:=75) rfl ?_);refine goesL_ (some 23) rfl rfl Try.func75 (by kernel_rfl) rfl #[.agg #[.slice A0_0 l0_0.length c0_0],.slice A1 l1.length c1,.int .i64 x10_1,.int .i64 a2,.bool true] rfl lm_ ?_;(with_reducible refine (spec_keeps.calls k1 _ _ l0_0 _ _ l1 x10_1 a2 true false _ ?side1 ?side2 ?side3 ?side4 A10.out).mono ?_);(case side1=>exact cc_ (Kd.C_below HR0_0.out HB.out));(case side2=>exact HC0_0.out);(case side3=>exact cc_ (Kd.C_below HR1.out HB.out));(case side4=>exact HC1.out);rintro e w38 ⟨rfl,hb⟩;refine ⟨_,rfl,?_⟩;replace HO_8:=rb_ HO_8 hb;replace HO_9:=rb_ HO_9 hb;replace BK1:=kb_ BK1 hb;replace HB:=a0_ (below_step hb_ hb);(try clear hb);have hcz39_0 : w38.cell? ⟨gb1,0,none⟩ = some (.slice A0_0 l0_0.length c0_0):=(blk_cell BK1.out 0).trans rfl;have hfz39_0:=blk_frozen BK1.out 0) | ((with_reducible refine gate_callee (f:=75) rfl ?_);refine goesL_ (some 35) rfl rfl Try.func75 (by kernel_rfl) rfl #[.agg #[.slice A0_0 l0_0.length c0_0],.slice A1 l1.length c1,.int .i64 x10_1,.int .i64 a2,.bool false] rfl lm_ ?_;(with_reducible refine (spec_keeps.calls k1 _ _ l0_0 _ _ l1 x10_1 a2 false false _ ?side1 ?side2 ?side3 ?side4 A28.out).mono ?_);(case side1=>exact cc_ (Kd.C_below HR0_0.out HB.out));(case side2=>exact HC0_0.out);(case side3=>exact cc_ (Kd.C_below HR1.out HB.out));(case side4=>exact HC1.out);rintro e w40 ⟨rfl,hb⟩;refine ⟨_,rfl,?_⟩;replace HO_8:=rb_ HO_8 hb;replace HO_9:=rb_ HO_9 hb;replace BK1:=kb_ BK1 hb;replace HB:=a0_ (below_step hb_ hb);(try clear hb);(try clear hb2);(try clear hk);(try clear hi)))
      go_roundg k1
      case measure=>have:=HK1.out;omega
      case rel=>exact ⟨(x8_1),(x9_1),(wrap64 (x10_1 + 1)),(by first | rfl | (simp;done) | (simp [*];done)),H',⟨by have:=HK1.out;omega⟩,⟨by (with_reducible repeat (first | apply Kd.R_alloc | apply Kd.R_drewN | apply Kd.R_drew));exact HO_8.out⟩,⟨by (with_reducible repeat (first | apply Kd.R_alloc | apply Kd.R_drewN | apply Kd.R_drew));exact HO_9.out⟩,⟨by (with_reducible repeat (first | refine blk_drewN ?_ _ | refine blk_drew ?_ | refine blk_alloc ?_ _));exact BK1.out⟩,⟨hb_⟩⟩
   ·rw [if_neg c9] at H
    have c9b0 : decide (x10_1 < (l1.length : Int)) = false:=decide_eq_false c9
    clear c9
    simp only [Option.some.injEq,Prod.mk.injEq] at H
    obtain ⟨rfl,rfl⟩:=H
    go_wp2
    go_ret2
    exact ⟨_,_,by first | rfl | (simp [errW_none,errW_some] <;> rfl) | (simp [*,errW_none,errW_some] <;> rfl),by (with_reducible repeat (first | apply Kd.R_alloc | apply Kd.R_drewN | apply Kd.R_drew));exact HO_8.out,by (with_reducible repeat (first | apply Kd.R_alloc | apply Kd.R_drewN | apply Kd.R_drew));exact HO_9.out,hb_⟩
theorem spec_split_ev {t : List Cls} (h : vT t = true) (g : List Prt) (hg : lfOk t g) (hl : g.length ≤ 1048576) (a : Int) : Ev (fun k=>spec_split.f k t g a) (selN t g a true g.length,selN t g a false g.length):=by
 have key : ∀ d i,i + d = g.length → Ev (fun k=>spec_split.l0 k g a (selN t g a true i) (selN t g a false i) (i : Int) t) (selN t g a true g.length,selN t g a false g.length):=by
  intro d
  induction d with
  | zero =>
   intro i hi
   obtain rfl : i = g.length:=by omega
   refine Ev.succ ?_
   simp only [spec_split.l0]
   exact Ev.neg (by omega) (Ev.const rfl)
  | succ d ih =>
   intro i hi
   have hlt : i < g.length:=by omega
   have hrd : rd_T47 g (i : Int) = g.getD i z47:=by simp [rd_T47]
   have hn:=ih (i + 1) (by omega)
   rw [selN_succ t g a true i,selN_succ t g a false i] at hn
   have l1:=selN_len t g a true i
   have l2:=selN_len t g a false i
   refine Ev.succ ?_
   simp only [spec_split.l0,hrd]
   rw [wrap_succ (i:=(i : Int)) (n:=g.length) (by omega) (by omega) (by omega)]
   have k1:=spec_keeps_ev h g hg (by omega) i hlt a true
   have k2:=spec_keeps_ev h g hg (by omega) i hlt a false
   refine Ev.pos (by omega) (Ev.bind k1 ?_)
   cases h1 : keepsB t g i a true with
   | true =>
    rw [h1,if_pos rfl] at hn
    refine Ev.pos rfl (Ev.pos (by omega) (Ev.pos (by omega) (Ev.bind (Ev.const rfl) (Ev.bind k2 ?_))))
    cases h2 : keepsB t g i a false with
    | true =>
     rw [h2,if_pos rfl] at hn
     exact Ev.pos rfl (Ev.pos (by omega) hn)
    | false =>
     rw [h2,if_neg (by simp),List.append_nil] at hn
     exact Ev.neg (by simp) hn
   | false =>
    rw [h1,if_neg (by simp),List.append_nil] at hn
    refine Ev.neg (by simp) (Ev.bind k2 ?_)
    cases h2 : keepsB t g i a false with
    | true =>
     rw [h2,if_pos rfl] at hn
     exact Ev.pos rfl (Ev.pos (by omega) (Ev.pos (by omega) hn))
    | false =>
     rw [h2,if_neg (by simp),List.append_nil] at hn
     exact Ev.neg (by simp) hn
 exact key g.length 0 (by omega)
end Go.Proofs.Ytfphcdbnnienhaa.P
namespace Go.Proofs.Ytfphcdbnnienhaa.P
open Go.RowKit Go.Proofs.YtfphcdbnnienhaaW.PrintWords Go.Proofs.YtfphcdbnnienhaaW.PrintLast Go.Proofs.YtfphcdbnnienhaaW.PrintMore
attribute [local go_sem] max2_int min2_int max_two min_two max_three min_three max_four min_four
set_option linter.unusedVariables false
set_option linter.unusedSimpArgs false
def spec_goodCatches.l0 : Nat → List Int → Int → List (S85) → Option (Bool)
 | 0,_,_,_=>none
 | k + 1,x1,x5,x2000=>if x5 < (x1.length : Int) then (if 0 ≤ x5 then ((spec_hasClass.f x2000 (rd x1 x5)).bind fun t3=>(if t3 = true then (spec_goodCatches.l0 k x1 (wrap64 (x5 + 1)) x2000) else (some false))) else (none)) else ((spec_validTree.f x2000).bind fun t4=>(if t4 = true then (some (decide ((x1.length : Int) ≤ 6))) else (some false)))
def spec_goodCatches.f (k : Nat) (l0_0 : List (S85)) (l1 : List Int) : Option (Bool):=spec_goodCatches.l0 k l1 0 l0_0
theorem spec_goodCatches.mono_l : ∀ k,(∀ y0 y1 y2,LeO (spec_goodCatches.l0 k y0 y1 y2) (spec_goodCatches.l0 (k + 1) y0 y1 y2))
 | 0=>fun _ _ _ r h=>by simp [spec_goodCatches.l0] at h
 | k + 1=>by
  have ih0:=spec_goodCatches.mono_l k
  ·intro y0 y1 y2
   unfold spec_goodCatches.l0
   repeat' first
   | (with_reducible exact ih0 _ _ _)
   | (with_reducible exact LeO.refl _)
   | (with_reducible exact LeO.none _)
   | (with_reducible refine LeO.ite ?_ ?_)
   | (with_reducible refine LeO.bind ?_ (fun _=>?_))
   | exact ih0 _ _ _
   | exact LeO.none _
   | refine LeO.ite ?_ ?_
   | refine LeO.bind ?_ (fun _=>?_)
theorem spec_goodCatches.mono : ∀ a0 a1 k,LeO (spec_goodCatches.f k a0 a1) (spec_goodCatches.f (k + 1) a0 a1):=by
 intro a0 a1 k
 have ih0:=spec_goodCatches.mono_l k
 unfold spec_goodCatches.f
 repeat' first
   | (with_reducible exact ih0 _ _ _)
   | (with_reducible exact LeO.refl _)
   | (with_reducible exact LeO.none _)
   | (with_reducible refine LeO.ite ?_ ?_)
   | (with_reducible refine LeO.bind ?_ (fun _=>?_))
   | exact ih0 _ _ _
   | exact LeO.none _
   | refine LeO.ite ?_ ?_
   | refine LeO.bind ?_ (fun _=>?_)
set_option maxHeartbeats 8000000 in
set_option maxRecDepth 100000 in
theorem spec_goodCatches.calls (k : Nat) (A0_0 : Option Addr) (c0_0 : Nat) (l0_0 : List (S85)) (A1 : Option Addr) (c1 : Nat) (l1 : List Int) (r : Bool) (w : World) (hr0_0 : Kd.C k85 w A0_0 l0_0.length l0_0) (hc0_0 : l0_0.length ≤ c0_0) (hr1 : Kd.C (Kd.int .i64) w A1 l1.length l1) (hc1 : l1.length ≤ c1) (h : spec_goodCatches.f k l0_0 l1 = some r) :
  Calls Try.prog 54 #[.agg #[.slice A0_0 l0_0.length c0_0],.slice A1 l1.length c1] w fun e w'=>e = .returned (.bool r) ∧ Below w.heap.size w w':=by
 have hu25:=Try.underlying25
 have HR0_0:=a0_ hr0_0
 have HC0_0:=a0_ hc0_0
 clear hr0_0 hc0_0
 have HR1:=a0_ hr1
 have HC1:=a0_ hc1
 clear hr1 hc1
 have HB:=a0_ (Below.refl w.heap.size w)
 have H : (spec_goodCatches.l0 k l1 0 l0_0) = some r:=h
 clear h
 have H':=a0_ H
 clear H
 go_enter Try.func54,Try.ntmps54
 go_wp2_with (first | ((with_reducible refine gate_dst (N:=2) rfl ?_);(try (refine gate_guard (by rfl) ?_;dsimp only));refine box_event ?hg (N:=2) ?hd (cs:=#[.slice A0_0 l0_0.length c0_0]) (t:=25) ?hr ?_;(case hd=>rfl);(case hg=>rfl);(case hr=>first | (go_simp;done) | (go_simp;rfl));intro gb1 hg w3 hbox hb;have BK1:=a0_ (hbox);have GW1:=a0_ ((by rw [hg];exact (below_size hb_) : w.heap.size ≤ gb1));have GE1:=a0_ ((by rw [hg];exact (below_size hb_) : w.heap.size ≤ gb1));replace HB:=a0_ (below_step hb_ hb);clear hb hbox hg))
 go_loopg [5] k (fun kq v5 w'=>∃ (x5_1 : Int),v5 = .int .i64 x5_1 ∧ Aside0 (spec_goodCatches.l0 kq l1 x5_1 l0_0 = some r) ∧ Aside0 (kq ≤ k) ∧ Aside0 (w'.heap[gb1]? = some (.cells #[(.slice A0_0 l0_0.length c0_0)] 25 (0,0))) ∧ Aside0 (Below w.heap.size w w'))
 case atStart=>exact ⟨(0),(by first | rfl | (simp;done) | (simp [*];done)),H',⟨Nat.le_refl _⟩,⟨by (with_reducible repeat (first | refine blk_drewN ?_ _ | refine blk_drew ?_ | refine blk_alloc ?_ _));exact BK1.out⟩,⟨hb_⟩⟩
 case round =>
  clear H'
  try clear c1
  try clear p2
  obtain ⟨x5_1,rfl,HA,HK1,BK1,HB⟩:=hrel
  cases gk with
  | zero=>exact absurd HA.out (by simp [spec_goodCatches.l0])
  | succ k1 =>
   have H:=HA.out
   clear HA
   simp only [spec_goodCatches.l0] at H
   by_cases c4 : x5_1 < (l1.length : Int)
   ·rw [if_pos c4] at H
    have c4b0 : decide (x5_1 < (l1.length : Int)) = true:=decide_eq_true c4
    clear c4
    by_cases c5 : 0 ≤ x5_1
    ·rw [if_pos c5] at H
     have c5b0 : decide (0 ≤ x5_1) = true:=decide_eq_true c5
     clear c5
     replace H:=Option.bind_eq_some_iff.mp H
     obtain ⟨t3,A60,H⟩:=H
     try dsimp only at H
     have A6:=a0_ A60
     clear A60
     by_cases c7 : t3 = true
     ·subst c7
      have H1 : (spec_goodCatches.l0 k1 l1 (wrap64 (x5_1 + 1)) l0_0) = some r:=by rw [if_pos rfl] at H;exact H
      clear H
      have H:=H1
      clear H1
      have H':=a0_ H
      clear H
      try go_wp2
      have n0_:=a0_ (blk_drew BK1.out)
      have n1_:=a0_ (below_drew1 HB.out)
      clear BK1
      clear HB
      have BK1:=n0_
      have HB:=n1_
      clear n0_ n1_
      have p2 : 0 ≤ (x5_1 : Int):=of_decide_eq_true (by first | (with_reducible assumption) | assumption)
      have q2 : x5_1 < (l1.length : Int):=of_decide_eq_true (by first | (with_reducible assumption) | assumption)
      obtain ⟨ad2,e2,hx2_0⟩:=Kd.at_int HR1.out x5_1 p2 q2
      have hw2_0:=hx2_0
      cases e2
      replace hx2_0:=(HB.out.cell (World.block_lt_of_cell? w _ hx2_0)).trans hx2_0
      replace p2:=eq_true p2
      replace q2:=eq_true q2
      refine start_ (n:=7) (S:=fun w'=>w'.cell? ⟨gb1,0,none⟩ = some (.slice A0_0 l0_0.length c0_0) ∧ w'.cell? (ad2.add (x5_1).toNat) = some (.int .i64 (rd l1 x5_1))) (ds:=[]) #[false,false,false,false,false,false,false] (by kernel_rfl) rfl rfl ⟨(blk_cell BK1.out 0).trans rfl,((HB.out.cell (World.block_lt_of_cell? w _ hw2_0)).trans hw2_0)⟩ (fun hHeld=>?_)
      generalize wr.drew = w8 at BK1 HB hx2_0 hHeld ⊢
      refine pure_ (i:=1) (N:=some 13) (v:=?_) (a':=?_) #[false,true,false,false,false,false,false] rfl rfl (by kernel_rfl) (fun _ _ _ h=>h) (Or.inl ⟨by rfl,?_⟩) ?_ ?_
      rotate_left
      ·intro w'
       go_simp
       with_reducible rfl
      rotate_left
      ·simp only [Act.put,s1_,s2_,s3_,i64_w,i32_w]
       rfl
      refine pure_ (i:=2) (N:=some 14) (v:=?_) (a':=?_) #[false,true,true,false,false,false,false] rfl rfl (by kernel_rfl) (fun _ _ _ h=>h) (Or.inl ⟨by rfl,?_⟩) ?_ ?_
      rotate_left
      ·intro w'
       go_simp
       with_reducible rfl
      rotate_left
      ·simp only [Act.put,s1_,s2_,s3_,i64_w,i32_w]
       rfl
      refine pure_ (i:=3) (N:=some 15) (v:=?_) (a':=?_) #[false,true,true,true,false,false,false] rfl rfl (by kernel_rfl) (fun _ _ _ h=>h) (Or.inl ⟨by rfl,?_⟩) ?_ ?_
      rotate_left
      ·intro w'
       go_simp
       with_reducible rfl
      rotate_left
      ·simp only [Act.put,s1_,s2_,s3_,i64_w,i32_w]
       rfl
      refine take_ (i:=0) (N:=some 12) (v:=?_) (a':=?_) #[true,true,true,true,false,false,false] rfl rfl (by kernel_rfl) (fun _ _ _ h=>h) (Or.inl ⟨by rfl,?_⟩) hHeld ?_ ?_
      rotate_left
      ·rintro w' ⟨s0,s1⟩
       go_simp
       with_reducible rfl
      rotate_left
      ·simp only [Act.put,s1_,s2_,s3_,i64_w,i32_w]
       rfl
      refine take_ (i:=4) (N:=some 16) (v:=?_) (a':=?_) #[true,true,true,true,true,false,false] rfl rfl (by kernel_rfl) (fun _ _ _ h=>h) (Or.inl ⟨by rfl,?_⟩) hHeld ?_ ?_
      rotate_left
      ·rintro w' ⟨s0,s1⟩
       go_simp
       with_reducible rfl
      rotate_left
      ·simp only [Act.put,s1_,s2_,s3_,i64_w,i32_w]
       rfl
      refine one_ (i:=5) (N:=some 17) #[true,true,true,true,true,true,false] rfl rfl (by kernel_rfl) (by decide) (fun K hK=>?_)
      refine goes_ Try.func48 (by kernel_rfl) rfl #[.agg #[.slice A0_0 l0_0.length c0_0],.int .i64 (rd l1 x5_1)] (by rfl) rfl rfl lm_ ?_
      with_reducible refine (spec_hasClass.calls _ _ l0_0 (rd l1 x5_1) true _ ?side1 ?side2 A6.out).mono ?_
      (case side1=>exact cc_ (Kd.C_below HR0_0.out HB.out))
      (case side2=>exact HC0_0.out)
      rintro e w9 ⟨rfl,hb⟩
      refine ⟨_,rfl,?_⟩
      have n0_:=kb_ BK1 hb
      have n1_:=a0_ (below_step hb_ hb)
      clear BK1
      clear HB
      have BK1:=n0_
      have HB:=n1_
      clear n0_ n1_
      (try clear hb)
      (try clear hb2)
      (try clear hk)
      (try clear hi)
      refine hK.out _ _ ⟨(blk_cell BK1.out 0).trans rfl,((HB.out.cell (World.block_lt_of_cell? w _ hw2_0)).trans hw2_0)⟩ (fun hHeld=>?_)
      clear hK K
      refine norm_ (a':=?_) ?_ ?_
      rotate_left
      ·show Act.put _ (some 17) _ = _
       simp only [Act.put,s1_,s2_,s3_,i64_w,i32_w]
       rfl
      refine pure_ (i:=6) (N:=some 18) (v:=?_) (a':=?_) #[true,true,true,true,true,true,true] rfl rfl (by kernel_rfl) (fun _ _ _ h=>h) (Or.inl ⟨by rfl,?_⟩) ?_ ?_
      rotate_left
      ·intro w'
       go_simp
       with_reducible rfl
      rotate_left
      ·simp only [Act.put,s1_,s2_,s3_,i64_w,i32_w]
       rfl
      refine done_ (by kernel_rfl) ?_
      try go_wp2
      go_roundg k1
      case measure=>have:=HK1.out;omega
      case rel=>exact ⟨(wrap64 (x5_1 + 1)),(by first | rfl | (simp;done) | (simp [*];done)),H',⟨by have:=HK1.out;omega⟩,⟨by (with_reducible repeat (first | refine blk_drewN ?_ _ | refine blk_drew ?_ | refine blk_alloc ?_ _));exact BK1.out⟩,⟨hb_⟩⟩
     ·replace c7:=Bool.eq_false_iff.mpr c7
      subst c7
      have H1 : (some false) = some r:=by rw [if_neg (show ¬ (false = true) by decide)] at H;exact H
      clear H
      have H:=H1
      clear H1
      obtain rfl:=Option.some.inj H
      try go_wp2
      have n0_:=a0_ (blk_drew BK1.out)
      have n1_:=a0_ (below_drew1 HB.out)
      clear BK1
      clear HB
      have BK1:=n0_
      have HB:=n1_
      clear n0_ n1_
      have p2 : 0 ≤ (x5_1 : Int):=of_decide_eq_true (by first | (with_reducible assumption) | assumption)
      have q2 : x5_1 < (l1.length : Int):=of_decide_eq_true (by first | (with_reducible assumption) | assumption)
      obtain ⟨ad2,e2,hx2_0⟩:=Kd.at_int HR1.out x5_1 p2 q2
      have hw2_0:=hx2_0
      cases e2
      replace hx2_0:=(HB.out.cell (World.block_lt_of_cell? w _ hx2_0)).trans hx2_0
      replace p2:=eq_true p2
      replace q2:=eq_true q2
      refine start_ (n:=7) (S:=fun w'=>w'.cell? ⟨gb1,0,none⟩ = some (.slice A0_0 l0_0.length c0_0) ∧ w'.cell? (ad2.add (x5_1).toNat) = some (.int .i64 (rd l1 x5_1))) (ds:=[]) #[false,false,false,false,false,false,false] (by kernel_rfl) rfl rfl ⟨(blk_cell BK1.out 0).trans rfl,((HB.out.cell (World.block_lt_of_cell? w _ hw2_0)).trans hw2_0)⟩ (fun hHeld=>?_)
      generalize wr.drew = w10 at BK1 HB hx2_0 hHeld ⊢
      refine pure_ (i:=1) (N:=some 13) (v:=?_) (a':=?_) #[false,true,false,false,false,false,false] rfl rfl (by kernel_rfl) (fun _ _ _ h=>h) (Or.inl ⟨by rfl,?_⟩) ?_ ?_
      rotate_left
      ·intro w'
       go_simp
       with_reducible rfl
      rotate_left
      ·simp only [Act.put,s1_,s2_,s3_,i64_w,i32_w]
       rfl
      refine pure_ (i:=2) (N:=some 14) (v:=?_) (a':=?_) #[false,true,true,false,false,false,false] rfl rfl (by kernel_rfl) (fun _ _ _ h=>h) (Or.inl ⟨by rfl,?_⟩) ?_ ?_
      rotate_left
      ·intro w'
       go_simp
       with_reducible rfl
      rotate_left
      ·simp only [Act.put,s1_,s2_,s3_,i64_w,i32_w]
       rfl
      refine pure_ (i:=3) (N:=some 15) (v:=?_) (a':=?_) #[false,true,true,true,false,false,false] rfl rfl (by kernel_rfl) (fun _ _ _ h=>h) (Or.inl ⟨by rfl,?_⟩) ?_ ?_
      rotate_left
      ·intro w'
       go_simp
       with_reducible rfl
      rotate_left
      ·simp only [Act.put,s1_,s2_,s3_,i64_w,i32_w]
       rfl
      refine take_ (i:=0) (N:=some 12) (v:=?_) (a':=?_) #[true,true,true,true,false,false,false] rfl rfl (by kernel_rfl) (fun _ _ _ h=>h) (Or.inl ⟨by rfl,?_⟩) hHeld ?_ ?_
      rotate_left
      ·rintro w' ⟨s0,s1⟩
       go_simp
       with_reducible rfl
      rotate_left
      ·simp only [Act.put,s1_,s2_,s3_,i64_w,i32_w]
       rfl
      refine take_ (i:=4) (N:=some 16) (v:=?_) (a':=?_) #[true,true,true,true,true,false,false] rfl rfl (by kernel_rfl) (fun _ _ _ h=>h) (Or.inl ⟨by rfl,?_⟩) hHeld ?_ ?_
      rotate_left
      ·rintro w' ⟨s0,s1⟩
       go_simp
       with_reducible rfl
      rotate_left
      ·simp only [Act.put,s1_,s2_,s3_,i64_w,i32_w]
       rfl
      refine one_ (i:=5) (N:=some 17) #[true,true,true,true,true,true,false] rfl rfl (by kernel_rfl) (by decide) (fun K hK=>?_)
      refine goes_ Try.func48 (by kernel_rfl) rfl #[.agg #[.slice A0_0 l0_0.length c0_0],.int .i64 (rd l1 x5_1)] (by rfl) rfl rfl lm_ ?_
      with_reducible refine (spec_hasClass.calls _ _ l0_0 (rd l1 x5_1) false _ ?side1 ?side2 A6.out).mono ?_
      (case side1=>exact cc_ (Kd.C_below HR0_0.out HB.out))
      (case side2=>exact HC0_0.out)
      rintro e w11 ⟨rfl,hb⟩
      refine ⟨_,rfl,?_⟩
      have n0_:=kb_ BK1 hb
      have n1_:=a0_ (below_step hb_ hb)
      clear BK1
      clear HB
      have BK1:=n0_
      have HB:=n1_
      clear n0_ n1_
      (try clear hb)
      (try clear hb2)
      (try clear hk)
      (try clear hi)
      refine hK.out _ _ ⟨(blk_cell BK1.out 0).trans rfl,((HB.out.cell (World.block_lt_of_cell? w _ hw2_0)).trans hw2_0)⟩ (fun hHeld=>?_)
      clear hK K
      refine norm_ (a':=?_) ?_ ?_
      rotate_left
      ·show Act.put _ (some 17) _ = _
       simp only [Act.put,s1_,s2_,s3_,i64_w,i32_w]
       rfl
      refine pure_ (i:=6) (N:=some 18) (v:=?_) (a':=?_) #[true,true,true,true,true,true,true] rfl rfl (by kernel_rfl) (fun _ _ _ h=>h) (Or.inl ⟨by rfl,?_⟩) ?_ ?_
      rotate_left
      ·intro w'
       go_simp
       with_reducible rfl
      rotate_left
      ·simp only [Act.put,s1_,s2_,s3_,i64_w,i32_w]
       rfl
      refine done_ (by kernel_rfl) ?_
      try go_wp2
      go_ret
      exact ⟨by first | rfl | (simp [errW_none,errW_some] <;> rfl) | (simp [*,errW_none,errW_some] <;> rfl),hb_⟩
    ·rw [if_neg c5] at H
     exact absurd H (by simp)
   ·rw [if_neg c4] at H
    have c4b0 : decide (x5_1 < (l1.length : Int)) = false:=decide_eq_false c4
    clear c4
    replace H:=Option.bind_eq_some_iff.mp H
    obtain ⟨t4,A120,H⟩:=H
    try dsimp only at H
    have A12:=a0_ A120
    clear A120
    by_cases c13 : t4 = true
    ·subst c13
     have H1 : (some (decide ((l1.length : Int) ≤ 6))) = some r:=by rw [if_pos rfl] at H;exact H
     clear H
     have H:=H1
     clear H1
     obtain rfl:=Option.some.inj H
     have hcz14_0 : wr.cell? ⟨gb1,0,none⟩ = some (.slice A0_0 l0_0.length c0_0):=(blk_cell BK1.out 0).trans rfl
     have hfz14_0:=blk_frozen BK1.out 0
     go_wp2_with (first | ((with_reducible refine gate_callee (f:=67) rfl ?_);refine goesL_ (some 20) rfl rfl Try.func67 (by kernel_rfl) rfl #[.agg #[.slice A0_0 l0_0.length c0_0]] rfl lm_ ?_;(with_reducible refine (spec_validTree.calls _ _ l0_0 true _ ?side1 ?side2 A12.out).mono ?_);(case side1=>exact cc_ (Kd.C_below HR0_0.out HB.out));(case side2=>exact HC0_0.out);rintro e w15 ⟨rfl,hb⟩;refine ⟨_,rfl,?_⟩;replace BK1:=kb_ BK1 hb;replace HB:=a0_ (below_step hb_ hb);(try clear hb);(try clear hb2);(try clear hk);(try clear hi)))
     go_ret
     exact ⟨by first | rfl | (simp [errW_none,errW_some] <;> rfl) | (simp [*,errW_none,errW_some] <;> rfl),hb_⟩
    ·replace c13:=Bool.eq_false_iff.mpr c13
     subst c13
     have H1 : (some false) = some r:=by rw [if_neg (show ¬ (false = true) by decide)] at H;exact H
     clear H
     have H:=H1
     clear H1
     obtain rfl:=Option.some.inj H
     have hcz16_0 : wr.cell? ⟨gb1,0,none⟩ = some (.slice A0_0 l0_0.length c0_0):=(blk_cell BK1.out 0).trans rfl
     have hfz16_0:=blk_frozen BK1.out 0
     go_wp2_with (first | ((with_reducible refine gate_callee (f:=67) rfl ?_);refine goesL_ (some 20) rfl rfl Try.func67 (by kernel_rfl) rfl #[.agg #[.slice A0_0 l0_0.length c0_0]] rfl lm_ ?_;(with_reducible refine (spec_validTree.calls _ _ l0_0 false _ ?side1 ?side2 A12.out).mono ?_);(case side1=>exact cc_ (Kd.C_below HR0_0.out HB.out));(case side2=>exact HC0_0.out);rintro e w17 ⟨rfl,hb⟩;refine ⟨_,rfl,?_⟩;replace BK1:=kb_ BK1 hb;replace HB:=a0_ (below_step hb_ hb);(try clear hb);(try clear hb2);(try clear hk);(try clear hi)))
     go_ret
     exact ⟨by first | rfl | (simp [errW_none,errW_some] <;> rfl) | (simp [*,errW_none,errW_some] <;> rfl),hb_⟩
theorem spec_goodCatches_ev (t : List Cls) (l : List Int) (ht : t.length ≤ 9223372036854775807) (hl : l.length ≤ 9223372036854775807) (hs : smT t = true) : Ev (fun k=>spec_goodCatches.f k t l) (okCat t l):=by
 have key : ∀ d i,i + d = l.length → Ev (fun k=>spec_goodCatches.l0 k l (i : Int) t) ((l.drop i).all (hasC t) && (vT t && decide (l.length ≤ 6))):=by
  intro d
  induction d with
  | zero =>
   intro i hi
   refine Ev.succ (Ev.congr (F:=fun _=>some ((l.drop i).all (hasC t) && (vT t && decide (l.length ≤ 6)))) (Ev.const rfl) (fun k=>?_))
   simp only [spec_goodCatches.l0,spec_validTree.f]
   rw [if_neg (by omega),if_pos hs,List.drop_eq_nil_of_le (by omega)]
   cases hv : vT t with
   | false=>rfl
   | true =>
    simp only [Option.bind_some,List.all_nil,Bool.true_and,if_pos]
    congr 1
    exact decide_eq_decide.2 (by omega)
  | succ d ih =>
   intro i hi
   have hlt : i < l.length:=by omega
   refine Ev.succ (Ev.congr (F:=fun k=>if hasC t l[i] = true then spec_goodCatches.l0 k l ((i + 1 : Nat) : Int) t else some false) ?_ (fun k=>?_))
   ·rw [List.drop_eq_getElem_cons hlt,List.all_cons]
    cases hb : hasC t l[i] with
    | true=>simpa using Ev.pos (G:=fun _=>some false) (c:=True) trivial (ih (i + 1) (by omega))
    | false=>exact Ev.neg (by simp) (Ev.const rfl)
   ·simp only [spec_goodCatches.l0]
    rw [if_pos (by omega),if_pos (by omega),show rd l (i : Int) = l[i] by simp [rd,hlt],spec_hasClass_ev t _ ht,wrap_succ (i:=(i : Int)) (n:=l.length) (by omega) (by omega) (by omega)]
    rfl
 have h:=key l.length 0 (by omega)
 rw [List.drop_zero] at h
 have e : okCat t l = (l.all (hasC t) && (vT t && decide (l.length ≤ 6))):=by
  unfold okCat
  cases vT t <;> cases l.all (hasC t) <;> simp
 rw [e]
 exact h
end Go.Proofs.Ytfphcdbnnienhaa.P
