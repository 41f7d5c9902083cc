/- Texts under the proof of FnTopTreeUpto: helper words, the functions' contracts and the plain laws. No condition. -/
import Derived.Test.YtacgehaipacehaaQFnTopTreeUptoa
namespace Go.Proofs.Ytacgehaipacehaa.P
open Go.RowKit Go.Proofs.YtacgehaipacehaaW.PrintWords Go.Proofs.YtacgehaipacehaaW.PrintLast Go.Proofs.YtacgehaipacehaaW.PrintMore
attribute [local go_sem] max2_int min2_int max_two min_two max_three min_three max_four min_four
set_option linter.unusedVariables false
set_option linter.unusedSimpArgs false
def impl_ParseTree.l0 : Nat → ByteArray → ByteArray → List (S125) → Option ((List (S125)) × Bool)
 | 0,_,_,_=>none
 | k + 1,x0,x5,x3000=>if x5.toList = ([] : List UInt8) then ((impl_TreeText.f x3000).bind fun t17=>(if t17.toList = x0.toList then (if x0.toList = ([] : List UInt8) then (some (([] : List (S125)),false)) else ((slices_Clip_Class.f x3000).bind fun t18=>(some (t18,true)))) else (some (([] : List (S125)),false)))) else ((strings_Cut.f x5 (⟨#[10]⟩ : ByteArray)).bind fun bt3=>((strings_Cut.f bt3.1 (⟨#[32]⟩ : ByteArray)).bind fun bt6=>(if bt6.2.2 = true then ((impl_Tree_named.f x3000 bt6.2.1).bind fun t10=>(if x3000.length < 5864062014805 then (impl_ParseTree.l0 k x0 bt3.2.1 (x3000 ++ [(⟨bt6.1,t10⟩ : S125)])) else (none))) else (if x3000.length < 5864062014805 then (impl_ParseTree.l0 k x0 bt3.2.1 (x3000 ++ [(⟨bt6.1,(-1)⟩ : S125)])) else (none)))))
def impl_ParseTree.f (k : Nat) (a0 : ByteArray) : Option ((List (S125)) × Bool):=impl_ParseTree.l0 k a0 a0 ([] : List (S125))
theorem impl_ParseTree.mono_l : ∀ k,(∀ y0 y1 y2,LeO (impl_ParseTree.l0 k y0 y1 y2) (impl_ParseTree.l0 (k + 1) y0 y1 y2))
 | 0=>fun _ _ _ r h=>by simp [impl_ParseTree.l0] at h
 | k + 1=>by
  have ih0:=impl_ParseTree.mono_l k
  ·intro y0 y1 y2
   unfold impl_ParseTree.l0
   repeat' first
   | (with_reducible exact ih0 _ _ _)
   | (with_reducible exact LeO.refl _)
   | (with_reducible exact LeO.none _)
   | (with_reducible refine LeO.ite ?_ ?_)
   | (with_reducible refine LeO.bind ?_ (fun _=>?_))
   | exact ih0 _ _ _
   | exact LeO.none _
   | refine LeO.ite ?_ ?_
   | refine LeO.bind ?_ (fun _=>?_)
theorem impl_ParseTree.mono : ∀ a0 k,LeO (impl_ParseTree.f k a0) (impl_ParseTree.f (k + 1) a0):=by
 intro a0 k
 have ih0:=impl_ParseTree.mono_l k
 unfold impl_ParseTree.f
 repeat' first
   | (with_reducible exact ih0 _ _ _)
   | (with_reducible exact LeO.refl _)
   | (with_reducible exact LeO.none _)
   | (with_reducible refine LeO.ite ?_ ?_)
   | (with_reducible refine LeO.bind ?_ (fun _=>?_))
   | exact ih0 _ _ _
   | exact LeO.none _
   | refine LeO.ite ?_ ?_
   | refine LeO.bind ?_ (fun _=>?_)
set_option maxHeartbeats 8000000 in
set_option maxRecDepth 100000 in
theorem impl_ParseTree.calls (k : Nat) (a0 : ByteArray) (r1 : List (S125)) (r2 : Bool) (w : World) (h : impl_ParseTree.f k a0 = some (r1,r2)) :
  Calls Try.prog 39 #[.string a0] w fun e w'=>∃ v0_ : Value,e = .returned (.tuple #[.agg #[v0_],.bool r2]) ∧ Kd.R k125 125 w' w.heap.size (fun _=>True) v0_ r1 ∧ Below w.heap.size w w':=by
 have hu25:=Try.underlying25
 have hu125:=Try.underlying125
 have HB:=a0_ (Below.refl w.heap.size w)
 have H : (impl_ParseTree.l0 k a0 a0 ([] : List (S125))) = some (r1,r2):=h
 clear h
 have H':=a0_ H
 clear H
 go_enter Try.func39,Try.ntmps39
 go_wp2_with (first | ((with_reducible refine gate_dst (N:=2) rfl ?_);refine box_event ?hg (N:=2) ?hd (cs:=#[.slice none 0 0]) (t:=25) ?hr ?_;(case hd=>rfl);(case hg=>rfl);(case hr=>first | (go_simp;done) | (go_simp;rfl));intro gb1 hg w2 hbox hb;have BK1:=a0_ (hbox);have GW1:=a0_ ((by rw [hg];exact (below_size hbw_) : w.heap.size ≤ gb1));have GE1:=a0_ ((by rw [hg];exact (below_size hbw_) : w.heap.size ≤ gb1));replace HB:=a0_ (below_step hbw_ hb);clear hb hbox hg) | ((with_reducible refine gate_dst (N:=4) rfl ?_);refine box_event ?hg (N:=4) ?hd (cs:=#[.slice none 0 0]) (t:=25) ?hr ?_;(case hd=>rfl);(case hg=>rfl);(case hr=>first | (go_simp;done) | (go_simp;rfl));intro gb2 hg w3 hbox hb;have n0_:=kb_ BK1 hb;have n1_:=a0_ (below_step hbw_ hb);have n2_:=a0_ (hbox);have n3_:=a0_ ((by rw [hg];exact (below_size hbw_) : w.heap.size ≤ gb2));have n4_:=a0_ ((by rw [hg];exact (below_size hbw_) : w.heap.size ≤ gb2));have n5_:=a0_ ((by rw [hg];exact Nat.ne_of_lt (blk_lt (bb_ BK1.out)) : gb1 ≠ gb2));have n6_:=a0_ ((by rw [hg];exact Nat.ne_of_gt (blk_lt (bb_ BK1.out)) : gb2 ≠ gb1));clear BK1 HB;have BK1:=n0_;have HB:=n1_;have BK2:=n2_;have GW2:=n3_;have GE2:=n4_;have NB1_2:=n5_;have NB2_1:=n6_;clear n0_ n1_ n2_ n3_ n4_ n5_ n6_;clear hb hbox hg;have hnb4:=NB2_1.out;have hnc4:=NB1_2.out;have hcz5_0 : w3.cell? ⟨gb2,0,none⟩ = some (.slice none 0 0):=(blk_cell BK2.out 0).trans rfl;have hfz5_0:=blk_frozen BK2.out 0))
 go_loopg [5] k (fun kq v5 w'=>∃ (x5_1 : ByteArray) (x3000_1 : List (S125)) (u3000 : Value),v5 = .string x5_1 ∧ Aside0 (impl_ParseTree.l0 kq a0 x5_1 x3000_1 = some (r1,r2)) ∧ Aside0 (kq ≤ k) ∧ Aside0 (Kd.R k125 125 w' w.heap.size (fun _=>True) u3000 x3000_1) ∧ Aside0 (w'.heap[gb1]? = some (.cells #[(.slice none 0 0)] 25 (0,0))) ∧ Aside0 (w'.heap[gb2]? = some (.cells #[u3000] 25 (0,0))) ∧ Aside0 (Below w.heap.size w w'))
 case atStart=>exact ⟨(a0),(([] : List (S125))),(.slice none 0 0),(by first | rfl | (simp;done) | (simp [*];done)),H',⟨Nat.le_refl _⟩,⟨by first | exact Kd.R_nil _ _ _ _ _ | exact Kd.N_nil _ _ _ _ _ | exact Kd.V_nil _ _ _ _ _ | exact Kd.Q_nil _ _ _ _ _ | exact Kd.S_nil _ _ _ _ _⟩,⟨by (with_reducible repeat (first | refine blk_drewN ?_ _ | refine blk_drew ?_ | refine blk_alloc ?_ _));refine blk_far ?_ NB1_2.out _;(with_reducible repeat (first | refine blk_drewN ?_ _ | refine blk_drew ?_ | refine blk_alloc ?_ _));exact BK1.out⟩,⟨by (with_reducible repeat (first | refine blk_drewN ?_ _ | refine blk_drew ?_ | refine blk_alloc ?_ _));refine blk_put (cs:=#[.slice none 0 0]) ?_ 0 _ rfl;(with_reducible repeat (first | refine blk_drewN ?_ _ | refine blk_drew ?_ | refine blk_alloc ?_ _));exact BK2.out⟩,⟨hbw_⟩⟩
 case round =>
  clear H'
  try clear p2
  try clear c3
  try clear c4
  try clear hcz5_0
  try clear hfz5_0
  obtain ⟨x5_1,x3000_1,u3000,rfl,HA,HK1,Z3,BK1,BK2,HB⟩:=hrel
  cases gk with
  | zero=>exact absurd HA.out (by simp [impl_ParseTree.l0])
  | succ k1 =>
   have H:=HA.out
   clear HA
   simp only [impl_ParseTree.l0] at H
   by_cases c6 : x5_1.toList = ([] : List UInt8)
   ·rw [if_pos c6] at H
    have c6b0 : (x5_1.toList == ([] : List UInt8)) = true:=beq_iff_eq.mpr c6
    have c6b1 : (x5_1.toList != ([] : List UInt8)) = false:=bne_eq_false_iff_eq.mpr c6
    clear c6
    replace H:=Option.bind_eq_some_iff.mp H
    obtain ⟨t17,A70,H⟩:=H
    try dsimp only at H
    have A7:=a0_ A70
    clear A70
    by_cases c8 : t17.toList = a0.toList
    ·rw [if_pos c8] at H
     have c8b0 : (t17.toList == a0.toList) = true:=beq_iff_eq.mpr c8
     have c8b1 : (t17.toList != a0.toList) = false:=bne_eq_false_iff_eq.mpr c8
     clear c8
     by_cases c9 : a0.toList = ([] : List UInt8)
     ·rw [if_pos c9] at H
      have c9b0 : (a0.toList == ([] : List UInt8)) = true:=beq_iff_eq.mpr c9
      have c9b1 : (a0.toList != ([] : List UInt8)) = false:=bne_eq_false_iff_eq.mpr c9
      clear c9
      simp only [Option.some.injEq,Prod.mk.injEq] at H
      obtain ⟨rfl,rfl⟩:=H
      have hnb10:=NB2_1.out
      have hnc10:=NB1_2.out
      have hcz11_0 : wr.cell? ⟨gb2,0,none⟩ = some (u3000):=(blk_cell BK2.out 0).trans rfl
      have hfz11_0:=blk_frozen BK2.out 0
      obtain ⟨Ao12,co12,eo12⟩:=Kd.R_slice Z3.out
      subst eo12
      go_wp2_with (first | ((with_reducible refine gate_callee (f:=49) rfl ?_);refine goesL_ (some 44) rfl rfl Try.func49 (by kernel_rfl) rfl #[.agg #[.slice Ao12 x3000_1.length co12]] rfl lm_ ?_;(with_reducible refine (impl_TreeText.calls _ _ x3000_1 t17 _ ?side1 ?side2 A7.out).mono ?_);(case side1=>exact cc_ (Kd.R_reads' Z3.out).2.2);(case side2=>exact (Kd.R_reads' Z3.out).2.1);rintro e w13 ⟨rfl,hb⟩;refine ⟨_,rfl,?_⟩;replace Z3:=rb_ Z3 hb;replace BK1:=kb_ BK1 hb;replace BK2:=kb_ BK2 hb;replace HB:=a0_ (below_step hbw_ hb);(try clear hb);have hcz14_0 : w13.cell? ⟨gb1,0,none⟩ = some (.slice none 0 0):=(blk_cell BK1.out 0).trans rfl;have hfz14_0:=blk_frozen BK1.out 0))
      refine bodyPost_ret (results_ct rfl _ _ gb1 25 #[.slice none 0 0] (0,0) _ rfl (by (with_reducible repeat (first | refine blk_drewN ?_ _ | refine blk_drew ?_ | refine blk_alloc ?_ _));refine blk_put (cs:=#[.slice none 0 0]) ?_ 0 _ rfl;(with_reducible repeat (first | refine blk_drewN ?_ _ | refine blk_drew ?_ | refine blk_alloc ?_ _));exact BK1.out) Try.underlying25 rfl (by kernel_rfl)) rfl ?_
      exact ⟨_,by first | rfl | (simp [errW_none,errW_some] <;> rfl) | (simp [*,errW_none,errW_some] <;> rfl),by first | exact Kd.R_nil _ _ _ _ _ | exact Kd.N_nil _ _ _ _ _ | exact Kd.V_nil _ _ _ _ _ | exact Kd.Q_nil _ _ _ _ _ | exact Kd.S_nil _ _ _ _ _,hbw_⟩
     ·rw [if_neg c9] at H
      have c9b0 : (a0.toList == ([] : List UInt8)) = false:=beq_eq_false_iff_ne.mpr c9
      have c9b1 : (a0.toList != ([] : List UInt8)) = true:=bne_iff_ne.mpr c9
      replace H:=Option.bind_eq_some_iff.mp H
      obtain ⟨t18,A150,H⟩:=H
      replace H : (some (t18,true)) = some (r1,r2):=H
      have A15:=a0_ A150
      clear A150
      simp only [Option.some.injEq,Prod.mk.injEq] at H
      obtain ⟨rfl,rfl⟩:=H
      have hnb16:=NB2_1.out
      have hnc16:=NB1_2.out
      have hcz17_0 : wr.cell? ⟨gb2,0,none⟩ = some (u3000):=(blk_cell BK2.out 0).trans rfl
      have hfz17_0:=blk_frozen BK2.out 0
      obtain ⟨Ao18,co18,eo18⟩:=Kd.R_slice Z3.out
      subst eo18
      go_wp2_with (first | ((with_reducible refine gate_callee (f:=49) rfl ?_);refine goesL_ (some 44) rfl rfl Try.func49 (by kernel_rfl) rfl #[.agg #[.slice Ao18 x3000_1.length co18]] rfl lm_ ?_;(with_reducible refine (impl_TreeText.calls _ _ x3000_1 t17 _ ?side1 ?side2 A7.out).mono ?_);(case side1=>exact cc_ (Kd.R_reads' Z3.out).2.2);(case side2=>exact (Kd.R_reads' Z3.out).2.1);rintro e w19 ⟨rfl,hb⟩;refine ⟨_,rfl,?_⟩;replace Z3:=rb_ Z3 hb;replace BK1:=kb_ BK1 hb;replace BK2:=kb_ BK2 hb;replace HB:=a0_ (below_step hbw_ hb);(try clear hb);have hcz20_0 : w19.cell? ⟨gb2,0,none⟩ = some (.slice Ao18 x3000_1.length co18):=(blk_cell BK2.out 0).trans rfl;have hfz20_0:=blk_frozen BK2.out 0) | ((with_reducible refine gate_callee (f:=93) rfl ?_);refine goesL_ (some 54) rfl rfl Try.func93 (by kernel_rfl) rfl #[.slice Ao18 x3000_1.length co18] rfl lm_ ?_;(with_reducible refine (slices_Clip_Class.calls (fun k_=>some k_ = (.slice Ao18 x3000_1.length co18 : Value).ownBlock) (.slice Ao18 x3000_1.length co18) x3000_1 t18 w _ ?side1 ?side2 A15.out).mono ?_);(case side1=>exact hbw_);(case side2=>exact Kd.R_tight rfl Z3.out);rintro e w21 ⟨v19,rfl,ho0,hb,hkp⟩;refine ⟨_,rfl,?_⟩;replace BK1:=a0_ (blk_kept (bb_ BK1.out) hkp (fun hs_=>(fun e_=>(Kd.R_ne Z3.out BK1.out (by decide)) e_) hs_));replace BK2:=a0_ (blk_kept (bb_ BK2.out) hkp (fun hs_=>(fun e_=>(Kd.R_ne Z3.out BK2.out (by decide)) e_) hs_));have HO20:=a0_ (Kd.R_mono (ok':=fun k_=>True) ho0 (fun k_ hk_=>trivial));replace HB:=a0_ (hb);clear Z3;(try clear hb);(try clear hkp);(try clear ho0);obtain ⟨Ao22,co22,eo22⟩:=Kd.R_slice HO20.out;subst eo22;have hcz23_0 : w21.cell? ⟨gb1,0,none⟩ = some (.slice none 0 0):=(blk_cell BK1.out 0).trans rfl;have hfz23_0:=blk_frozen BK1.out 0))
      refine bodyPost_ret (results_ct rfl _ _ gb1 25 #[.slice Ao22 t18.length co22] (0,0) _ rfl (by (with_reducible repeat (first | refine blk_drewN ?_ _ | refine blk_drew ?_ | refine blk_alloc ?_ _));refine blk_put (cs:=#[.slice none 0 0]) ?_ 0 _ rfl;(with_reducible repeat (first | refine blk_drewN ?_ _ | refine blk_drew ?_ | refine blk_alloc ?_ _));exact BK1.out) Try.underlying25 rfl (by kernel_rfl)) rfl ?_
      exact ⟨_,by first | rfl | (simp [errW_none,errW_some] <;> rfl) | (simp [*,errW_none,errW_some] <;> rfl),by (with_reducible repeat (first | apply Kd.R_alloc | apply Kd.R_drewN | apply Kd.R_drew));exact Kd.R_mono (Kd.R_far (p:=⟨gb1,0,none⟩) (Kd.R_types HO20.out BK1.out (by decide)) (fun _ hk=>hk.2) (.slice Ao22 t18.length co22)) (fun _ hk=>trivial),hbw_⟩
    ·rw [if_neg c8] at H
     have c8b0 : (t17.toList == a0.toList) = false:=beq_eq_false_iff_ne.mpr c8
     have c8b1 : (t17.toList != a0.toList) = true:=bne_iff_ne.mpr c8
     simp only [Option.some.injEq,Prod.mk.injEq] at H
     obtain ⟨rfl,rfl⟩:=H
     have hnb24:=NB2_1.out
     have hnc24:=NB1_2.out
     have hcz25_0 : wr.cell? ⟨gb2,0,none⟩ = some (u3000):=(blk_cell BK2.out 0).trans rfl
     have hfz25_0:=blk_frozen BK2.out 0
     obtain ⟨Ao26,co26,eo26⟩:=Kd.R_slice Z3.out
     subst eo26
     go_wp2_with (first | ((with_reducible refine gate_callee (f:=49) rfl ?_);refine goesL_ (some 44) rfl rfl Try.func49 (by kernel_rfl) rfl #[.agg #[.slice Ao26 x3000_1.length co26]] rfl lm_ ?_;(with_reducible refine (impl_TreeText.calls _ _ x3000_1 t17 _ ?side1 ?side2 A7.out).mono ?_);(case side1=>exact cc_ (Kd.R_reads' Z3.out).2.2);(case side2=>exact (Kd.R_reads' Z3.out).2.1);rintro e w27 ⟨rfl,hb⟩;refine ⟨_,rfl,?_⟩;replace Z3:=rb_ Z3 hb;replace BK1:=kb_ BK1 hb;replace BK2:=kb_ BK2 hb;replace HB:=a0_ (below_step hbw_ hb);(try clear hb);have hcz28_0 : w27.cell? ⟨gb1,0,none⟩ = some (.slice none 0 0):=(blk_cell BK1.out 0).trans rfl;have hfz28_0:=blk_frozen BK1.out 0))
     refine bodyPost_ret (results_ct rfl _ _ gb1 25 #[.slice none 0 0] (0,0) _ rfl (by (with_reducible repeat (first | refine blk_drewN ?_ _ | refine blk_drew ?_ | refine blk_alloc ?_ _));refine blk_put (cs:=#[.slice none 0 0]) ?_ 0 _ rfl;(with_reducible repeat (first | refine blk_drewN ?_ _ | refine blk_drew ?_ | refine blk_alloc ?_ _));exact BK1.out) Try.underlying25 rfl (by kernel_rfl)) rfl ?_
     exact ⟨_,by first | rfl | (simp [errW_none,errW_some] <;> rfl) | (simp [*,errW_none,errW_some] <;> rfl),by first | exact Kd.R_nil _ _ _ _ _ | exact Kd.N_nil _ _ _ _ _ | exact Kd.V_nil _ _ _ _ _ | exact Kd.Q_nil _ _ _ _ _ | exact Kd.S_nil _ _ _ _ _,hbw_⟩
   ·rw [if_neg c6] at H
    have c6b0 : (x5_1.toList == ([] : List UInt8)) = false:=beq_eq_false_iff_ne.mpr c6
    have c6b1 : (x5_1.toList != ([] : List UInt8)) = true:=bne_iff_ne.mpr c6
    replace H:=Option.bind_eq_some_iff.mp H
    obtain ⟨⟨t3,t4,t5⟩,A290,H⟩:=H
    try dsimp only at H
    have A29:=a0_ A290
    clear A290
    replace H:=Option.bind_eq_some_iff.mp H
    obtain ⟨⟨t6,t7,t8⟩,A300,H⟩:=H
    try dsimp only at H
    have A30:=a0_ A300
    clear A300
    by_cases c31 : t8 = true
    ·subst c31
     have H1 : ((impl_Tree_named.f x3000_1 t7).bind fun t10=>(if x3000_1.length < 5864062014805 then (impl_ParseTree.l0 k1 a0 t4 (x3000_1 ++ [(⟨t6,t10⟩ : S125)])) else (none))) = some (r1,r2):=by rw [if_pos rfl] at H;exact H
     clear H
     have H:=H1
     clear H1
     replace H:=Option.bind_eq_some_iff.mp H
     obtain ⟨t10,A320,H⟩:=H
     try dsimp only at H
     have A32:=a0_ A320
     clear A320
     by_cases c33 : x3000_1.length < 5864062014805
     ·rw [if_pos c33] at H
      have LMc33:=a0_ c33
      clear c33
      obtain ⟨y11,hy11⟩ : ∃ y_ : List (S125),y_ = (x3000_1 ++ [(⟨t6,t10⟩ : S125)]):=⟨_,rfl⟩
      replace H : (impl_ParseTree.l0 k1 a0 t4 y11) = some (r1,r2):=by first | (rw [hy11];with_reducible exact H) | (have H2_:=(Option.bind_some _ _).symm.trans H;rw [hy11];with_reducible exact H2_) | (have H2_:=(Option.bind_some _ _).symm.trans H;with_reducible exact H2_) | with_reducible exact H | (rw [hy11];exact H) | exact H
      have Ny11:=a0_ hy11
      clear hy11
      have H':=a0_ H
      clear H
      go_wp2_with (first | ((with_reducible refine gate_callee (f:=91) rfl ?_);refine goesL_ (some 19) rfl rfl Try.func91 (by kernel_rfl) rfl #[.string x5_1,.string (⟨#[10]⟩ : ByteArray)] rfl lm_ ?_;(with_reducible refine (strings_Cut.calls x5_1 (⟨#[10]⟩ : ByteArray) t3 t4 t5 _ A29.out).mono ?_);rintro e w' ⟨rfl,⟨nd,rfl⟩⟩;refine ⟨_,rfl,?_⟩;(try (rw [drewN_self wr];generalize hq_ : World.drewN wr _ = wr;have n0_ : Aside0 (Kd.R k125 125 wr w.heap.size (fun k_=>True) u3000 x3000_1):=⟨by rw [← hq_];exact (rr_ Z3.out)⟩;have n1_ : Aside0 (wr.heap[gb1]? = some (.cells #[.slice none 0 0] 25 (0,0))):=⟨by rw [← hq_];exact (bb_ BK1.out)⟩;have n2_ : Aside0 (wr.heap[gb2]? = some (.cells #[u3000] 25 (0,0))):=⟨by rw [← hq_];exact (bb_ BK2.out)⟩;have n3_ : Aside0 (Below w.heap.size w wr):=⟨by rw [← hq_];exact hbw_⟩;clear Z3 BK1 BK2 HB hq_;have Z3:=n0_;have BK1:=n1_;have BK2:=n2_;have HB:=n3_;clear n0_ n1_ n2_ n3_))) | ((with_reducible refine gate_callee (f:=91) rfl ?_);refine goesL_ (some 25) rfl rfl Try.func91 (by kernel_rfl) rfl #[.string t3,.string (⟨#[32]⟩ : ByteArray)] rfl lm_ ?_;(with_reducible refine (strings_Cut.calls t3 (⟨#[32]⟩ : ByteArray) t6 t7 true _ A30.out).mono ?_);rintro e w' ⟨rfl,⟨nd,rfl⟩⟩;refine ⟨_,rfl,?_⟩;(try (rw [drewN_self wr];generalize hq_ : World.drewN wr _ = wr;have n0_ : Aside0 (Kd.R k125 125 wr w.heap.size (fun k_=>True) u3000 x3000_1):=⟨by rw [← hq_];exact (rr_ Z3.out)⟩;have n1_ : Aside0 (wr.heap[gb1]? = some (.cells #[.slice none 0 0] 25 (0,0))):=⟨by rw [← hq_];exact (bb_ BK1.out)⟩;have n2_ : Aside0 (wr.heap[gb2]? = some (.cells #[u3000] 25 (0,0))):=⟨by rw [← hq_];exact (bb_ BK2.out)⟩;have n3_ : Aside0 (Below w.heap.size w wr):=⟨by rw [← hq_];exact hbw_⟩;clear Z3 BK1 BK2 HB hq_;have Z3:=n0_;have BK1:=n1_;have BK2:=n2_;have HB:=n3_;clear n0_ n1_ n2_ n3_))) | ((with_reducible refine gate_dst (N:=12) rfl ?_);refine box_event ?hg (N:=12) ?hd (cs:=#[.string (⟨#[]⟩ : ByteArray),.int .i64 0]) (t:=125) ?hr ?_;(case hd=>rfl);(case hg=>rfl);(case hr=>first | (go_simp;done) | (go_simp;rfl));intro gb9 hg w34 hbox hb;have n0_:=a0_ (Kd.R_below (Kd.R_elderB (rr_ Z3.out) gb9 (Nat.le_of_eq hg.symm)) hb);have n1_:=kb_ BK1 hb;have n2_:=kb_ BK2 hb;have n3_:=a0_ (below_step hbw_ hb);have n4_:=a0_ (hbox);have n5_:=a0_ ((by rw [hg];exact (below_size hbw_) : w.heap.size ≤ gb9));have n6_:=a0_ ((by rw [hg];exact (below_size hbw_) : w.heap.size ≤ gb9));have n7_:=a0_ ((by rw [hg];exact Nat.ne_of_lt (blk_lt (bb_ BK1.out)) : gb1 ≠ gb9));have n8_:=a0_ ((by rw [hg];exact Nat.ne_of_gt (blk_lt (bb_ BK1.out)) : gb9 ≠ gb1));have n9_:=a0_ ((by rw [hg];exact Nat.ne_of_lt (blk_lt (bb_ BK2.out)) : gb2 ≠ gb9));have n10_:=a0_ ((by rw [hg];exact Nat.ne_of_gt (blk_lt (bb_ BK2.out)) : gb9 ≠ gb2));clear Z3 BK1;clear BK2 HB;have Z3:=n0_;have BK1:=n1_;have BK2:=n2_;have HB:=n3_;have BK9:=n4_;have GW9:=n5_;have GE9:=n6_;have NB1_9:=n7_;have NB9_1:=n8_;have NB2_9:=n9_;have NB9_2:=n10_;clear n0_ n1_ n2_ n3_ n4_ n5_ n6_ n7_ n8_ n9_ n10_;clear hb hbox hg;have hnb35:=NB9_1.out;have hnc35:=NB1_9.out;have hnb36:=NB9_2.out;have hnc36:=NB2_9.out;have hcz37_0 : w34.cell? ⟨gb9,0,none⟩ = some (.string (⟨#[]⟩ : ByteArray)):=(blk_cell BK9.out 0).trans rfl;have hcz37_1 : w34.cell? ⟨gb9,1,none⟩ = some (.int .i64 0):=(blk_cell BK9.out 1).trans rfl;have hfz37_0:=blk_frozen BK9.out 0;have hfz37_1:=blk_frozen BK9.out 1;have hnb38:=NB2_1.out;have hnc38:=NB1_2.out;have hcz39_0 : w34.cell? ⟨gb2,0,none⟩ = some (u3000):=(blk_cell BK2.out 0).trans rfl;have hfz39_0:=blk_frozen BK2.out 0;obtain ⟨Ao40,co40,eo40⟩:=Kd.R_slice Z3.out;subst eo40) | ((with_reducible refine gate_callee (f:=92) rfl ?_);refine goesL_ (some 34) rfl rfl Try.func92 (by kernel_rfl) rfl #[.agg #[.slice Ao40 x3000_1.length co40],.string t7] rfl lm_ ?_;(with_reducible refine (impl_Tree_named.calls _ _ x3000_1 t7 t10 _ ?side1 ?side2 A32.out).mono ?_);(case side1=>refine (Kd.R_reads' (e:=125) (base:=w.heap.size) (ok:=fun k_=>(True ∧ k_ ≠ gb9)) (n:=x3000_1.length) (c:=co40) ?_).2.2;exact (by (with_reducible repeat (first | apply Kd.R_alloc | apply Kd.R_drewN | apply Kd.R_drew));exact (Kd.R_mono (Kd.R_far (p:=⟨gb9,1,none⟩) (Kd.R_far (p:=⟨gb9,0,none⟩) (Kd.R_mono Z3.out (fun k_ hk=>(⟨hk,hk.2⟩ : _ ∧ k_ ≠ gb9))) (fun _ hk=>hk.2) (.string t6)) (fun _ hk=>hk.2) (.int .i64 (-1))) (fun _ h_=>h_.1))));(case side2=>exact (Kd.R_reads' Z3.out).2.1);rintro e w41 ⟨rfl,hb⟩;refine ⟨_,rfl,?_⟩;replace Z3:=a0_ (Kd.R_below (by (with_reducible repeat (first | apply Kd.R_alloc | apply Kd.R_drewN | apply Kd.R_drew));exact (Kd.R_mono (Kd.R_far (p:=⟨gb9,1,none⟩) (Kd.R_far (p:=⟨gb9,0,none⟩) (Kd.R_mono Z3.out (fun k_ hk=>(⟨hk,hk.2⟩ : _ ∧ k_ ≠ gb9))) (fun _ hk=>hk.2) (.string t6)) (fun _ hk=>hk.2) (.int .i64 (-1))) (fun _ h_=>h_.1))) hb);replace BK1:=a0_ (blk_below (g:=gb1) (o:=.cells #[.slice none 0 0] 25 (0,0)) (bff_ BK1.out) hb);replace BK2:=a0_ (blk_below (g:=gb2) (o:=.cells #[.slice Ao40 x3000_1.length co40] 25 (0,0)) (bff_ BK2.out) hb);replace BK9:=a0_ (blk_below (g:=gb9) (o:=.cells #[.string t6,.int .i64 (-1)] 125 (0,0)) (by (with_reducible repeat (first | refine blk_drewN ?_ _ | refine blk_drew ?_ | refine blk_alloc ?_ _));refine blk_put (cs:=#[.string t6,.int .i64 0]) ?_ 1 _ rfl;(with_reducible repeat (first | refine blk_drewN ?_ _ | refine blk_drew ?_ | refine blk_alloc ?_ _));refine blk_put (cs:=#[.string (⟨#[]⟩ : ByteArray),.int .i64 0]) ?_ 0 _ rfl;(with_reducible repeat (first | refine blk_drewN ?_ _ | refine blk_drew ?_ | refine blk_alloc ?_ _));exact BK9.out) hb);replace HB:=a0_ (below_step hbw_ hb);(try clear hb);have hcz42_0 : w41.cell? ⟨gb9,0,none⟩ = some (.string t6):=(blk_cell BK9.out 0).trans rfl;have hcz42_1 : w41.cell? ⟨gb9,1,none⟩ = some (.int .i64 (-1)):=(blk_cell BK9.out 1).trans rfl;have hfz42_0:=blk_frozen BK9.out 0;have hfz42_1:=blk_frozen BK9.out 1;have hcz43_0 : w41.cell? ⟨gb2,0,none⟩ = some (.slice Ao40 x3000_1.length co40):=(blk_cell BK2.out 0).trans rfl;have hfz43_0:=blk_frozen BK2.out 0) | ((with_reducible refine gate_builtin (b:=.append) (xs:=#[.tmp 37,.tmp 39]) rfl ?_);at_builtin;refine Kd.R_append k125 (w0:=w) w.heap.size rfl (.tmp 37) (.tmp 39) 23 125 (.agg #[(.string ⟨#[]⟩),(.int .i64 0)]) 24 rfl Try.underlying23 info125 rfl (by decide) (by omega) (.slice Ao40 x3000_1.length co40) x3000_1 (⟨t6,t10⟩ : S125) [.string t6,.int .i64 t10] (fun k_=>k_ ≠ gb9) (fun _=>False) rfl (by first | (go_simp;done) | (go_simp;rfl)) ?aP (fun _ hk=>hk.elim) ?aF ?aO ?aB ?aS ?aL ?_;(case aP=>exact k125_mkM _ _ _ (⟨t6,t10⟩ : S125));(case aB=>exact hbw_);(case aF=>exact (fun k_ hk=>Kd.freshB (g:=gb9) (o:=.cells #[.string t6,.int .i64 t10] 125 (0,0)) (by (with_reducible repeat (first | refine blk_drewN ?_ _ | refine blk_drew ?_ | refine blk_alloc ?_ _));refine blk_put (cs:=#[.string t6,.int .i64 (-1)]) ?_ 1 _ rfl;(with_reducible repeat (first | refine blk_drewN ?_ _ | refine blk_drew ?_ | refine blk_alloc ?_ _));exact BK9.out) k_ hk));(case aO=>exact (by (with_reducible repeat (first | apply Kd.R_alloc | apply Kd.R_drewN | apply Kd.R_drew));exact Kd.R_mono (Kd.R_far (p:=⟨gb9,1,none⟩) (Kd.R_mono Z3.out (fun k_ hk=>(⟨hk,hk.2⟩ : _ ∧ k_ ≠ gb9))) (fun _ hk=>hk.2) (.int .i64 t10)) (fun _ hk=>hk.1.2)));(case aS=>exact (below_size hbw_));(case aL=>have:=LMc33.out;omega);intro v12 w44 ho hb hg hat;rw [← Ny11.out] at ho;replace BK1:=a0_ (blk_grown (g:=gb1) (o:=.cells #[.slice none 0 0] 25 (0,0)) (bff_ BK1.out) hg (Kd.R_ne Z3.out BK1.out (by decide)));replace BK2:=a0_ (blk_grown (g:=gb2) (o:=.cells #[.slice Ao40 x3000_1.length co40] 25 (0,0)) (bff_ BK2.out) hg (Kd.R_ne Z3.out BK2.out (by decide)));replace BK9:=a0_ (blk_grown (g:=gb9) (o:=.cells #[.string t6,.int .i64 t10] 125 (0,0)) (by (with_reducible repeat (first | refine blk_drewN ?_ _ | refine blk_drew ?_ | refine blk_alloc ?_ _));refine blk_put (cs:=#[.string t6,.int .i64 (-1)]) ?_ 1 _ rfl;(with_reducible repeat (first | refine blk_drewN ?_ _ | refine blk_drew ?_ | refine blk_alloc ?_ _));exact BK9.out) hg (Kd.R_away Z3.out (fun _ hk=>hk.2)));have HO13:=a0_ (ho);replace HB:=a0_ (hb);clear Z3;clear ho hb hg hat;obtain ⟨Ao45,co45,eo45⟩:=Kd.R_slice HO13.out;subst eo45;have hcz46_0 : w44.cell? ⟨gb2,0,none⟩ = some (.slice Ao40 x3000_1.length co40):=(blk_cell BK2.out 0).trans rfl;have hfz46_0:=blk_frozen BK2.out 0))
      go_roundg k1
      case measure=>have:=HK1.out;omega
      case rel=>exact ⟨(t4),(y11),(.slice Ao45 y11.length co45),(by first | rfl | (simp;done) | (simp [*];done)),H',⟨by have:=HK1.out;omega⟩,⟨by (with_reducible repeat (first | apply Kd.R_alloc | apply Kd.R_drewN | apply Kd.R_drew));exact Kd.R_mono (Kd.R_far (p:=⟨gb2,0,none⟩) (Kd.R_types HO13.out BK2.out (by decide)) (fun _ hk=>hk.2) (.slice Ao45 y11.length co45)) (fun _ hk=>trivial)⟩,⟨by (with_reducible repeat (first | refine blk_drewN ?_ _ | refine blk_drew ?_ | refine blk_alloc ?_ _));refine blk_far ?_ NB1_2.out _;(with_reducible repeat (first | refine blk_drewN ?_ _ | refine blk_drew ?_ | refine blk_alloc ?_ _));exact BK1.out⟩,⟨by (with_reducible repeat (first | refine blk_drewN ?_ _ | refine blk_drew ?_ | refine blk_alloc ?_ _));refine blk_put (cs:=#[.slice Ao40 x3000_1.length co40]) ?_ 0 _ rfl;(with_reducible repeat (first | refine blk_drewN ?_ _ | refine blk_drew ?_ | refine blk_alloc ?_ _));exact BK2.out⟩,⟨hbw_⟩⟩
     ·rw [if_neg c33] at H
      exact absurd H (by simp)
    ·replace c31:=Bool.eq_false_iff.mpr c31
     subst c31
     have H1 : (if x3000_1.length < 5864062014805 then (impl_ParseTree.l0 k1 a0 t4 (x3000_1 ++ [(⟨t6,(-1)⟩ : S125)])) else (none)) = some (r1,r2):=by rw [if_neg (show ¬ (false = true) by decide)] at H;exact H
     clear H
     have H:=H1
     clear H1
     by_cases c47 : x3000_1.length < 5864062014805
     ·rw [if_pos c47] at H
      have LMc47:=a0_ c47
      clear c47
      obtain ⟨y14,hy14⟩ : ∃ y_ : List (S125),y_ = (x3000_1 ++ [(⟨t6,(-1)⟩ : S125)]):=⟨_,rfl⟩
      replace H : (impl_ParseTree.l0 k1 a0 t4 y14) = some (r1,r2):=by first | (rw [hy14];with_reducible exact H) | (have H2_:=(Option.bind_some _ _).symm.trans H;rw [hy14];with_reducible exact H2_) | (have H2_:=(Option.bind_some _ _).symm.trans H;with_reducible exact H2_) | with_reducible exact H | (rw [hy14];exact H) | exact H
      have Ny14:=a0_ hy14
      clear hy14
      have H':=a0_ H
      clear H
      go_wp2_with (first | ((with_reducible refine gate_callee (f:=91) rfl ?_);refine goesL_ (some 19) rfl rfl Try.func91 (by kernel_rfl) rfl #[.string x5_1,.string (⟨#[10]⟩ : ByteArray)] rfl lm_ ?_;(with_reducible refine (strings_Cut.calls x5_1 (⟨#[10]⟩ : ByteArray) t3 t4 t5 _ A29.out).mono ?_);rintro e w' ⟨rfl,⟨nd,rfl⟩⟩;refine ⟨_,rfl,?_⟩;(try (rw [drewN_self wr];generalize hq_ : World.drewN wr _ = wr;have n0_ : Aside0 (Kd.R k125 125 wr w.heap.size (fun k_=>True) u3000 x3000_1):=⟨by rw [← hq_];exact (rr_ Z3.out)⟩;have n1_ : Aside0 (wr.heap[gb1]? = some (.cells #[.slice none 0 0] 25 (0,0))):=⟨by rw [← hq_];exact (bb_ BK1.out)⟩;have n2_ : Aside0 (wr.heap[gb2]? = some (.cells #[u3000] 25 (0,0))):=⟨by rw [← hq_];exact (bb_ BK2.out)⟩;have n3_ : Aside0 (Below w.heap.size w wr):=⟨by rw [← hq_];exact hbw_⟩;clear Z3 BK1 BK2 HB hq_;have Z3:=n0_;have BK1:=n1_;have BK2:=n2_;have HB:=n3_;clear n0_ n1_ n2_ n3_))) | ((with_reducible refine gate_callee (f:=91) rfl ?_);refine goesL_ (some 25) rfl rfl Try.func91 (by kernel_rfl) rfl #[.string t3,.string (⟨#[32]⟩ : ByteArray)] rfl lm_ ?_;(with_reducible refine (strings_Cut.calls t3 (⟨#[32]⟩ : ByteArray) t6 t7 false _ A30.out).mono ?_);rintro e w' ⟨rfl,⟨nd,rfl⟩⟩;refine ⟨_,rfl,?_⟩;(try (rw [drewN_self wr];generalize hq_ : World.drewN wr _ = wr;have n0_ : Aside0 (Kd.R k125 125 wr w.heap.size (fun k_=>True) u3000 x3000_1):=⟨by rw [← hq_];exact (rr_ Z3.out)⟩;have n1_ : Aside0 (wr.heap[gb1]? = some (.cells #[.slice none 0 0] 25 (0,0))):=⟨by rw [← hq_];exact (bb_ BK1.out)⟩;have n2_ : Aside0 (wr.heap[gb2]? = some (.cells #[u3000] 25 (0,0))):=⟨by rw [← hq_];exact (bb_ BK2.out)⟩;have n3_ : Aside0 (Below w.heap.size w wr):=⟨by rw [← hq_];exact hbw_⟩;clear Z3 BK1 BK2 HB hq_;have Z3:=n0_;have BK1:=n1_;have BK2:=n2_;have HB:=n3_;clear n0_ n1_ n2_ n3_))) | ((with_reducible refine gate_dst (N:=12) rfl ?_);refine box_event ?hg (N:=12) ?hd (cs:=#[.string (⟨#[]⟩ : ByteArray),.int .i64 0]) (t:=125) ?hr ?_;(case hd=>rfl);(case hg=>rfl);(case hr=>first | (go_simp;done) | (go_simp;rfl));intro gb9 hg w48 hbox hb;have n0_:=a0_ (Kd.R_below (Kd.R_elderB (rr_ Z3.out) gb9 (Nat.le_of_eq hg.symm)) hb);have n1_:=kb_ BK1 hb;have n2_:=kb_ BK2 hb;have n3_:=a0_ (below_step hbw_ hb);have n4_:=a0_ (hbox);have n5_:=a0_ ((by rw [hg];exact (below_size hbw_) : w.heap.size ≤ gb9));have n6_:=a0_ ((by rw [hg];exact (below_size hbw_) : w.heap.size ≤ gb9));have n7_:=a0_ ((by rw [hg];exact Nat.ne_of_lt (blk_lt (bb_ BK1.out)) : gb1 ≠ gb9));have n8_:=a0_ ((by rw [hg];exact Nat.ne_of_gt (blk_lt (bb_ BK1.out)) : gb9 ≠ gb1));have n9_:=a0_ ((by rw [hg];exact Nat.ne_of_lt (blk_lt (bb_ BK2.out)) : gb2 ≠ gb9));have n10_:=a0_ ((by rw [hg];exact Nat.ne_of_gt (blk_lt (bb_ BK2.out)) : gb9 ≠ gb2));clear Z3 BK1;clear BK2 HB;have Z3:=n0_;have BK1:=n1_;have BK2:=n2_;have HB:=n3_;have BK9:=n4_;have GW9:=n5_;have GE9:=n6_;have NB1_9:=n7_;have NB9_1:=n8_;have NB2_9:=n9_;have NB9_2:=n10_;clear n0_ n1_ n2_ n3_ n4_ n5_ n6_ n7_ n8_ n9_ n10_;clear hb hbox hg;have hnb49:=NB9_1.out;have hnc49:=NB1_9.out;have hnb50:=NB9_2.out;have hnc50:=NB2_9.out;have hcz51_0 : w48.cell? ⟨gb9,0,none⟩ = some (.string (⟨#[]⟩ : ByteArray)):=(blk_cell BK9.out 0).trans rfl;have hcz51_1 : w48.cell? ⟨gb9,1,none⟩ = some (.int .i64 0):=(blk_cell BK9.out 1).trans rfl;have hfz51_0:=blk_frozen BK9.out 0;have hfz51_1:=blk_frozen BK9.out 1;have hnb52:=NB2_1.out;have hnc52:=NB1_2.out;have hcz53_0 : w48.cell? ⟨gb2,0,none⟩ = some (u3000):=(blk_cell BK2.out 0).trans rfl;have hfz53_0:=blk_frozen BK2.out 0) | ((with_reducible refine gate_builtin (b:=.append) (xs:=#[.tmp 37,.tmp 39]) rfl ?_);at_builtin;refine Kd.R_append k125 (w0:=w) w.heap.size rfl (.tmp 37) (.tmp 39) 23 125 (.agg #[(.string ⟨#[]⟩),(.int .i64 0)]) 24 rfl Try.underlying23 info125 rfl (by decide) (by omega) u3000 x3000_1 (⟨t6,(-1)⟩ : S125) [.string t6,.int .i64 (-1)] (fun k_=>k_ ≠ gb9) (fun _=>False) rfl (by first | (go_simp;done) | (go_simp;rfl)) ?aP (fun _ hk=>hk.elim) ?aF ?aO ?aB ?aS ?aL ?_;(case aP=>exact k125_mkM _ _ _ (⟨t6,(-1)⟩ : S125));(case aB=>exact hbw_);(case aF=>exact (fun k_ hk=>Kd.freshB (g:=gb9) (o:=.cells #[.string t6,.int .i64 (-1)] 125 (0,0)) (by (with_reducible repeat (first | refine blk_drewN ?_ _ | refine blk_drew ?_ | refine blk_alloc ?_ _));refine blk_put (cs:=#[.string t6,.int .i64 0]) ?_ 1 _ rfl;(with_reducible repeat (first | refine blk_drewN ?_ _ | refine blk_drew ?_ | refine blk_alloc ?_ _));refine blk_put (cs:=#[.string (⟨#[]⟩ : ByteArray),.int .i64 0]) ?_ 0 _ rfl;(with_reducible repeat (first | refine blk_drewN ?_ _ | refine blk_drew ?_ | refine blk_alloc ?_ _));exact BK9.out) k_ hk));(case aO=>exact (by (with_reducible repeat (first | apply Kd.R_alloc | apply Kd.R_drewN | apply Kd.R_drew));exact Kd.R_mono (Kd.R_far (p:=⟨gb9,1,none⟩) (Kd.R_far (p:=⟨gb9,0,none⟩) (Kd.R_mono Z3.out (fun k_ hk=>(⟨hk,hk.2⟩ : _ ∧ k_ ≠ gb9))) (fun _ hk=>hk.2) (.string t6)) (fun _ hk=>hk.2) (.int .i64 (-1))) (fun _ hk=>hk.1.2)));(case aS=>exact (below_size hbw_));(case aL=>have:=LMc47.out;omega);intro v15 w54 ho hb hg hat;rw [← Ny14.out] at ho;replace BK1:=a0_ (blk_grown (g:=gb1) (o:=.cells #[.slice none 0 0] 25 (0,0)) (bff_ BK1.out) hg (Kd.R_ne Z3.out BK1.out (by decide)));replace BK2:=a0_ (blk_grown (g:=gb2) (o:=.cells #[u3000] 25 (0,0)) (bff_ BK2.out) hg (Kd.R_ne Z3.out BK2.out (by decide)));replace BK9:=a0_ (blk_grown (g:=gb9) (o:=.cells #[.string t6,.int .i64 (-1)] 125 (0,0)) (by (with_reducible repeat (first | refine blk_drewN ?_ _ | refine blk_drew ?_ | refine blk_alloc ?_ _));refine blk_put (cs:=#[.string t6,.int .i64 0]) ?_ 1 _ rfl;(with_reducible repeat (first | refine blk_drewN ?_ _ | refine blk_drew ?_ | refine blk_alloc ?_ _));refine blk_put (cs:=#[.string (⟨#[]⟩ : ByteArray),.int .i64 0]) ?_ 0 _ rfl;(with_reducible repeat (first | refine blk_drewN ?_ _ | refine blk_drew ?_ | refine blk_alloc ?_ _));exact BK9.out) hg (Kd.R_away Z3.out (fun _ hk=>hk.2)));have HO16:=a0_ (ho);replace HB:=a0_ (hb);clear Z3;clear ho hb hg hat;obtain ⟨Ao55,co55,eo55⟩:=Kd.R_slice HO16.out;subst eo55;have hcz56_0 : w54.cell? ⟨gb2,0,none⟩ = some (u3000):=(blk_cell BK2.out 0).trans rfl;have hfz56_0:=blk_frozen BK2.out 0))
      go_roundg k1
      case measure=>have:=HK1.out;omega
      case rel=>exact ⟨(t4),(y14),(.slice Ao55 y14.length co55),(by first | rfl | (simp;done) | (simp [*];done)),H',⟨by have:=HK1.out;omega⟩,⟨by (with_reducible repeat (first | apply Kd.R_alloc | apply Kd.R_drewN | apply Kd.R_drew));exact Kd.R_mono (Kd.R_far (p:=⟨gb2,0,none⟩) (Kd.R_types HO16.out BK2.out (by decide)) (fun _ hk=>hk.2) (.slice Ao55 y14.length co55)) (fun _ hk=>trivial)⟩,⟨by (with_reducible repeat (first | refine blk_drewN ?_ _ | refine blk_drew ?_ | refine blk_alloc ?_ _));refine blk_far ?_ NB1_2.out _;(with_reducible repeat (first | refine blk_drewN ?_ _ | refine blk_drew ?_ | refine blk_alloc ?_ _));exact BK1.out⟩,⟨by (with_reducible repeat (first | refine blk_drewN ?_ _ | refine blk_drew ?_ | refine blk_alloc ?_ _));refine blk_put (cs:=#[u3000]) ?_ 0 _ rfl;(with_reducible repeat (first | refine blk_drewN ?_ _ | refine blk_drew ?_ | refine blk_alloc ?_ _));exact BK2.out⟩,⟨hbw_⟩⟩
     ·rw [if_neg c47] at H
      exact absurd H (by simp)
theorem cutB_size (c : UInt8) (s : ByteArray) : (cutB c s).1.size ≤ s.size ∧ (s.size ≠ 0 → (cutB c s).2.1.size < s.size):=by
 have h:=cuL_len c s.data.toList
 have e : s.data.toList.length = s.size:=toL_len s
 rw [e] at h
 have e1 : (cutB c s).1.size = (cuL c s.data.toList).1.length:=toB_size _
 have e2 : (cutB c s).2.1.size = (cuL c s.data.toList).2.1.length:=toB_size _
 rw [e1,e2]
 refine ⟨h.1,fun hn=>h.2 (fun hh=>hn ?_)⟩
 rw [← e,hh]
 rfl
theorem toL_nil {s : ByteArray} : s.toList = ([] : List UInt8) ↔ s.size = 0:=by
 rw [toL,← toL_len]
 exact List.length_eq_zero_iff.symm
theorem impl_ParseTree_l0 (s : ByteArray) (hs : s.size ≤ 5864062000000) : ∀ (n : Nat) (acc : List Cls) (r : ByteArray),r.size ≤ n → acc.length + r.size ≤ s.size → (∀ x ∈ acc,x.f0.size ≤ s.size) → Ev (fun k=>impl_ParseTree.l0 k s r acc) (if okTx (parI n acc r) s = true then (parI n acc r,true) else ([],false)):=by
 have stop : ∀ (n : Nat) (acc : List Cls) (r : ByteArray),r.size = 0 → (∀ x ∈ acc,x.f0.size ≤ s.size) → Ev (fun k=>impl_ParseTree.l0 k s r acc) (if okTx (parI n acc r) s = true then (parI n acc r,true) else ([],false)):=by
  intro n acc r hr hz
  have hp : parI n acc r = acc:=by
   cases n with
   | zero=>rfl
   | succ n=>rw [parI,if_pos hr]
  have hsm : smT acc = true:=by
   unfold smT
   rw [List.all_eq_true]
   intro x hx
   have:=hz x hx
   exact decide_eq_true (by omega)
  rw [hp]
  have hT:=impl_TreeText_ev acc hsm
  unfold textP at hT
  cases hv : vT acc with
  | true =>
   rw [hv,if_pos rfl] at hT
   have hne:=(treeTx_size hv).1
   by_cases e : treeTx acc = s
   ·rw [show okTx acc s = true by unfold okTx;rw [hv,decide_eq_true e];rfl,if_pos rfl]
    refine Ev.succ ?_
    simp only [impl_ParseTree.l0]
    refine Ev.pos (toL_nil.2 hr) ?_
    refine Ev.bind (Ev.const hT) ?_
    refine Ev.pos (by rw [e]) ?_
    refine Ev.neg (fun h=>?_) ?_
    ·rw [toL_nil,← e] at h
     omega
    ·exact Ev.bind (Ev.const (slices_Clip_Class_ev acc)) (Ev.const rfl)
   ·rw [show okTx acc s = false by unfold okTx;rw [decide_eq_false e,Bool.and_false],if_neg (by simp)]
    refine Ev.succ ?_
    simp only [impl_ParseTree.l0]
    refine Ev.pos (toL_nil.2 hr) ?_
    refine Ev.bind (Ev.const hT) ?_
    exact Ev.neg (fun h=>e (toL_inj.1 h)) (Ev.const rfl)
  | false =>
   rw [hv,if_neg (by simp)] at hT
   rw [show okTx acc s = false by unfold okTx;rw [hv,Bool.false_and],if_neg (by simp)]
   refine Ev.succ ?_
   simp only [impl_ParseTree.l0]
   refine Ev.pos (toL_nil.2 hr) ?_
   refine Ev.bind (Ev.const hT) ?_
   by_cases e : ByteArray.empty = s
   ·refine Ev.pos (congrArg ByteArray.toList e) ?_
    exact Ev.pos (toL_nil.2 (by rw [← e];rfl)) (Ev.const rfl)
   ·exact Ev.neg (fun h=>e (toL_inj.1 h)) (Ev.const rfl)
 intro n
 induction n with
 | zero=>intro acc r hr _ hz;exact stop 0 acc r (by omega) hz
 | succ n ih =>
  intro acc r hr ha hz
  by_cases h0 : r.size = 0
  ·exact stop (n + 1) acc r h0 hz
  ·have hsz:=cutB_size 10 r
   have hsz2:=cutB_size 32 (cutB 10 r).1
   have hlt:=hsz.2 h0
   rw [parI,if_neg h0]
   have c1 : strings_Cut.f r (⟨#[10]⟩ : ByteArray) = some (cutB 10 r):=by rw [strings_Cut.f,if_pos ⟨rfl,by omega⟩];rfl
   have c2 : strings_Cut.f (cutB 10 r).1 (⟨#[32]⟩ : ByteArray) = some (cutB 32 (cutB 10 r).1):=by rw [strings_Cut.f,if_pos ⟨rfl,by omega⟩];rfl
   have hnew:=ih (acc ++ [clsOf acc (cutB 10 r).1]) (cutB 10 r).2.1 (by omega) (by rw [List.length_append,List.length_singleton];omega) (fun x hx=>by
    rcases List.mem_append.1 hx with hx | hx
    ·exact hz x hx
    ·obtain rfl : x = clsOf acc (cutB 10 r).1:=by simpa using hx
     show (cutB 32 (cutB 10 r).1).1.size ≤ s.size
     omega)
   generalize hA : (if okTx (parI n (acc ++ [clsOf acc (cutB 10 r).1]) (cutB 10 r).2.1) s = true then (parI n (acc ++ [clsOf acc (cutB 10 r).1]) (cutB 10 r).2.1,true) else ([],false)) = A at hnew ⊢
   clear hA
   refine Ev.succ ?_
   simp only [impl_ParseTree.l0]
   refine Ev.neg (fun h=>h0 (toL_nil.1 h)) ?_
   refine Ev.bind (Ev.const c1) ?_
   refine Ev.bind (Ev.const c2) ?_
   unfold clsOf at hnew
   cases hb : (cutB 32 (cutB 10 r).1).2.2 with
   | true =>
    rw [hb,if_pos rfl] at hnew
    refine Ev.pos rfl ?_
    refine Ev.bind (Ev.const rfl) ?_
    exact Ev.pos (by omega) hnew
   | false =>
    rw [hb,if_neg (by simp)] at hnew
    refine Ev.neg (by simp) ?_
    exact Ev.pos (by omega) hnew
theorem impl_ParseTree_ev (s : ByteArray) (hs : s.size ≤ 5864062000000) : Ev (fun k=>impl_ParseTree.f k s) (parP s):=by
 have:=impl_ParseTree_l0 s hs s.size [] s (Nat.le_refl _) (by simp) (fun x hx=>absurd hx (by simp))
 unfold impl_ParseTree.f parP
 exact this
end Go.Proofs.Ytacgehaipacehaa.P
namespace Go.Proofs.Ytacgehaipacehaa.P
open Go.RowKit Go.Proofs.YtacgehaipacehaaW.PrintWords Go.Proofs.YtacgehaipacehaaW.PrintLast Go.Proofs.YtacgehaipacehaaW.PrintMore
attribute [local go_sem] max2_int min2_int max_two min_two max_three min_three max_four min_four
set_option linter.unusedVariables false
set_option linter.unusedSimpArgs false
theorem eqA125 (d : Nat) (w : World) (x0 y0 : ByteArray) (x1 y1 : Int) :
  (Op.equalIn (d + 2) 125 (.agg #[.string x0,.int .i64 x1]) (.agg #[.string y0,.int .i64 y1])).run Try.prog w = .ok (x0.toList == y0.toList && (x1 == y1)) w:=by
 refine eqA_of Try.underlying125 (by kernel_rfl) ?_
 refine eqf_cons (by rfl) (by go_simp;rfl) (by go_simp;rfl) (by go_simp) ?_
 exact eqf_last (by rfl) (by go_simp;rfl) (by go_simp;rfl) (by go_simp)
end Go.Proofs.Ytacgehaipacehaa.P
namespace Go.Proofs.Ytacgehaipacehaa.P
open Go.RowKit Go.Proofs.YtacgehaipacehaaW.PrintWords Go.Proofs.YtacgehaipacehaaW.PrintLast Go.Proofs.YtacgehaipacehaaW.PrintMore
attribute [local go_sem] max2_int min2_int max_two min_two max_three min_three max_four min_four
set_option linter.unusedVariables false
set_option linter.unusedSimpArgs false
attribute [local go_sem high] eqA125
def laws_equalTree.l0 : Nat → Int → List (S125) → List (S125) → Option (Bool)
 | 0,_,_,_=>none
 | k + 1,x5,x2000,x3000=>if x5 < (x2000.length : Int) then (if 0 ≤ x5 then (if x5 < (x3000.length : Int) then (if (!((((rd_T125 x2000 x5).f0).toList) == (((rd_T125 x3000 x5).f0).toList)) || (!(((rd_T125 x2000 x5).f1) == ((rd_T125 x3000 x5).f1)))) = true then (some false) else (laws_equalTree.l0 k (wrap64 (x5 + 1)) x2000 x3000)) else (none)) else (none)) else (some true)
def laws_equalTree.f (k : Nat) (l0_0 : List (S125)) (l1_0 : List (S125)) : Option (Bool):=if (l0_0.length : Int) = (l1_0.length : Int) then (laws_equalTree.l0 k 0 l0_0 l1_0) else (some false)
theorem laws_equalTree.mono_l : ∀ k,(∀ y0 y1 y2,LeO (laws_equalTree.l0 k y0 y1 y2) (laws_equalTree.l0 (k + 1) y0 y1 y2))
 | 0=>fun _ _ _ r h=>by simp [laws_equalTree.l0] at h
 | k + 1=>by
  have ih0:=laws_equalTree.mono_l k
  ·intro y0 y1 y2
   unfold laws_equalTree.l0
   repeat' first
   | (with_reducible exact ih0 _ _ _)
   | (with_reducible exact LeO.refl _)
   | (with_reducible exact LeO.none _)
   | (with_reducible refine LeO.ite ?_ ?_)
   | (with_reducible refine LeO.bind ?_ (fun _=>?_))
   | exact ih0 _ _ _
   | exact LeO.none _
   | refine LeO.ite ?_ ?_
   | refine LeO.bind ?_ (fun _=>?_)
theorem laws_equalTree.mono : ∀ a0 a1 k,LeO (laws_equalTree.f k a0 a1) (laws_equalTree.f (k + 1) a0 a1):=by
 intro a0 a1 k
 have ih0:=laws_equalTree.mono_l k
 unfold laws_equalTree.f
 repeat' first
   | (with_reducible exact ih0 _ _ _)
   | (with_reducible exact LeO.refl _)
   | (with_reducible exact LeO.none _)
   | (with_reducible refine LeO.ite ?_ ?_)
   | (with_reducible refine LeO.bind ?_ (fun _=>?_))
   | exact ih0 _ _ _
   | exact LeO.none _
   | refine LeO.ite ?_ ?_
   | refine LeO.bind ?_ (fun _=>?_)
set_option maxHeartbeats 8000000 in
set_option maxRecDepth 100000 in
theorem laws_equalTree.calls (k : Nat) (A0_0 : Option Addr) (c0_0 : Nat) (l0_0 : List (S125)) (A1_0 : Option Addr) (c1_0 : Nat) (l1_0 : List (S125)) (r : Bool) (w : World) (hr0_0 : Kd.C k125 w A0_0 l0_0.length l0_0) (hc0_0 : l0_0.length ≤ c0_0) (hr1_0 : Kd.C k125 w A1_0 l1_0.length l1_0) (hc1_0 : l1_0.length ≤ c1_0) (h : laws_equalTree.f k l0_0 l1_0 = some r) :
  Calls Try.prog 51 #[.agg #[.slice A0_0 l0_0.length c0_0],.agg #[.slice A1_0 l1_0.length c1_0]] w fun e w'=>e = .returned (.bool r) ∧ Below w.heap.size w w':=by
 have hu25:=Try.underlying25
 have hu125:=Try.underlying125
 have HR0_0:=a0_ hr0_0
 have HC0_0:=a0_ hc0_0
 clear hr0_0 hc0_0
 have HR1_0:=a0_ hr1_0
 have HC1_0:=a0_ hc1_0
 clear hr1_0 hc1_0
 have HB:=a0_ (Below.refl w.heap.size w)
 have H : (if (l0_0.length : Int) = (l1_0.length : Int) then (laws_equalTree.l0 k 0 l0_0 l1_0) else (some false)) = some r:=h
 clear h
 by_cases c3 : (l0_0.length : Int) = (l1_0.length : Int)
 ·rw [if_pos c3] at H
  have c3b0 : ((l0_0.length : Int) == (l1_0.length : Int)) = true:=beq_iff_eq.mpr c3
  have c3b1 : ((l0_0.length : Int) != (l1_0.length : Int)) = false:=bne_eq_false_iff_eq.mpr c3
  have c3b2 : (l0_0.length == l1_0.length) = true:=by first | simpa using c3 | (simp at c3 ⊢;omega)
  clear c3
  have H':=a0_ H
  clear H
  go_enter Try.func51,Try.ntmps51
  go_wp2_with (first | ((with_reducible refine gate_dst (N:=2) rfl ?_);refine box_event ?hg (N:=2) ?hd (cs:=#[.slice A0_0 l0_0.length c0_0]) (t:=25) ?hr ?_;(case hd=>rfl);(case hg=>rfl);(case hr=>first | (go_simp;done) | (go_simp;rfl));intro gb1 hg w4 hbox hb;have BK1:=a0_ (hbox);have GW1:=a0_ ((by rw [hg];exact (below_size hbw_) : w.heap.size ≤ gb1));have GE1:=a0_ ((by rw [hg];exact (below_size hbw_) : w.heap.size ≤ gb1));replace HB:=a0_ (below_step hbw_ hb);clear hb hbox hg) | ((with_reducible refine gate_dst (N:=3) rfl ?_);refine box_event ?hg (N:=3) ?hd (cs:=#[.slice A1_0 l1_0.length c1_0]) (t:=25) ?hr ?_;(case hd=>rfl);(case hg=>rfl);(case hr=>first | (go_simp;done) | (go_simp;rfl));intro gb2 hg w5 hbox hb;have n0_:=kb_ BK1 hb;have n1_:=a0_ (below_step hbw_ hb);have n2_:=a0_ (hbox);have n3_:=a0_ ((by rw [hg];exact (below_size hbw_) : w.heap.size ≤ gb2));have n4_:=a0_ ((by rw [hg];exact (below_size hbw_) : w.heap.size ≤ gb2));have n5_:=a0_ ((by rw [hg];exact Nat.ne_of_lt (blk_lt (bb_ BK1.out)) : gb1 ≠ gb2));have n6_:=a0_ ((by rw [hg];exact Nat.ne_of_gt (blk_lt (bb_ BK1.out)) : gb2 ≠ gb1));clear BK1 HB;have BK1:=n0_;have HB:=n1_;have BK2:=n2_;have GW2:=n3_;have GE2:=n4_;have NB1_2:=n5_;have NB2_1:=n6_;clear n0_ n1_ n2_ n3_ n4_ n5_ n6_;clear hb hbox hg;have hnb6:=NB1_2.out;have hnc6:=NB2_1.out;have hcz7_0 : w5.cell? ⟨gb1,0,none⟩ = some (.slice A0_0 l0_0.length c0_0):=(blk_cell BK1.out 0).trans rfl;have hfz7_0:=blk_frozen BK1.out 0;have hcz8_0 : w5.cell? ⟨gb2,0,none⟩ = some (.slice A1_0 l1_0.length c1_0):=(blk_cell BK2.out 0).trans rfl;have hfz8_0:=blk_frozen BK2.out 0))
  repeat (go_quiet (first | ((with_reducible refine gate_dst (N:=2) rfl ?_);refine box_event ?hg (N:=2) ?hd (cs:=#[.slice A0_0 l0_0.length c0_0]) (t:=25) ?hr ?_;(case hd=>rfl);(case hg=>rfl);(case hr=>first | (go_simp;done) | (go_simp;rfl));intro gb1 hg w4 hbox hb;have BK1:=a0_ (hbox);have GW1:=a0_ ((by rw [hg];exact (below_size hbw_) : w.heap.size ≤ gb1));have GE1:=a0_ ((by rw [hg];exact (below_size hbw_) : w.heap.size ≤ gb1));replace HB:=a0_ (below_step hbw_ hb);clear hb hbox hg) | ((with_reducible refine gate_dst (N:=3) rfl ?_);refine box_event ?hg (N:=3) ?hd (cs:=#[.slice A1_0 l1_0.length c1_0]) (t:=25) ?hr ?_;(case hd=>rfl);(case hg=>rfl);(case hr=>first | (go_simp;done) | (go_simp;rfl));intro gb2 hg w5 hbox hb;have n0_:=kb_ BK1 hb;have n1_:=a0_ (below_step hbw_ hb);have n2_:=a0_ (hbox);have n3_:=a0_ ((by rw [hg];exact (below_size hbw_) : w.heap.size ≤ gb2));have n4_:=a0_ ((by rw [hg];exact (below_size hbw_) : w.heap.size ≤ gb2));have n5_:=a0_ ((by rw [hg];exact Nat.ne_of_lt (blk_lt (bb_ BK1.out)) : gb1 ≠ gb2));have n6_:=a0_ ((by rw [hg];exact Nat.ne_of_gt (blk_lt (bb_ BK1.out)) : gb2 ≠ gb1));clear BK1 HB;have BK1:=n0_;have HB:=n1_;have BK2:=n2_;have GW2:=n3_;have GE2:=n4_;have NB1_2:=n5_;have NB2_1:=n6_;clear n0_ n1_ n2_ n3_ n4_ n5_ n6_;clear hb hbox hg;have hnb6:=NB1_2.out;have hnc6:=NB2_1.out;have hcz7_0 : w5.cell? ⟨gb1,0,none⟩ = some (.slice A0_0 l0_0.length c0_0):=(blk_cell BK1.out 0).trans rfl;have hfz7_0:=blk_frozen BK1.out 0;have hcz8_0 : w5.cell? ⟨gb2,0,none⟩ = some (.slice A1_0 l1_0.length c1_0):=(blk_cell BK2.out 0).trans rfl;have hfz8_0:=blk_frozen BK2.out 0));try go_wp2_with (first | ((with_reducible refine gate_dst (N:=2) rfl ?_);refine box_event ?hg (N:=2) ?hd (cs:=#[.slice A0_0 l0_0.length c0_0]) (t:=25) ?hr ?_;(case hd=>rfl);(case hg=>rfl);(case hr=>first | (go_simp;done) | (go_simp;rfl));intro gb1 hg w4 hbox hb;have BK1:=a0_ (hbox);have GW1:=a0_ ((by rw [hg];exact (below_size hbw_) : w.heap.size ≤ gb1));have GE1:=a0_ ((by rw [hg];exact (below_size hbw_) : w.heap.size ≤ gb1));replace HB:=a0_ (below_step hbw_ hb);clear hb hbox hg) | ((with_reducible refine gate_dst (N:=3) rfl ?_);refine box_event ?hg (N:=3) ?hd (cs:=#[.slice A1_0 l1_0.length c1_0]) (t:=25) ?hr ?_;(case hd=>rfl);(case hg=>rfl);(case hr=>first | (go_simp;done) | (go_simp;rfl));intro gb2 hg w5 hbox hb;have n0_:=kb_ BK1 hb;have n1_:=a0_ (below_step hbw_ hb);have n2_:=a0_ (hbox);have n3_:=a0_ ((by rw [hg];exact (below_size hbw_) : w.heap.size ≤ gb2));have n4_:=a0_ ((by rw [hg];exact (below_size hbw_) : w.heap.size ≤ gb2));have n5_:=a0_ ((by rw [hg];exact Nat.ne_of_lt (blk_lt (bb_ BK1.out)) : gb1 ≠ gb2));have n6_:=a0_ ((by rw [hg];exact Nat.ne_of_gt (blk_lt (bb_ BK1.out)) : gb2 ≠ gb1));clear BK1 HB;have BK1:=n0_;have HB:=n1_;have BK2:=n2_;have GW2:=n3_;have GE2:=n4_;have NB1_2:=n5_;have NB2_1:=n6_;clear n0_ n1_ n2_ n3_ n4_ n5_ n6_;clear hb hbox hg;have hnb6:=NB1_2.out;have hnc6:=NB2_1.out;have hcz7_0 : w5.cell? ⟨gb1,0,none⟩ = some (.slice A0_0 l0_0.length c0_0):=(blk_cell BK1.out 0).trans rfl;have hfz7_0:=blk_frozen BK1.out 0;have hcz8_0 : w5.cell? ⟨gb2,0,none⟩ = some (.slice A1_0 l1_0.length c1_0):=(blk_cell BK2.out 0).trans rfl;have hfz8_0:=blk_frozen BK2.out 0)))
  go_loopg [5] k (fun kq v5 w'=>∃ (x5_1 : Int),v5 = .int .i64 x5_1 ∧ Aside0 (laws_equalTree.l0 kq x5_1 l0_0 l1_0 = some r) ∧ Aside0 (kq ≤ k) ∧ Aside0 (w'.heap[gb1]? = some (.cells #[(.slice A0_0 l0_0.length c0_0)] 25 (0,0))) ∧ Aside0 (w'.heap[gb2]? = some (.cells #[(.slice A1_0 l1_0.length c1_0)] 25 (0,0))) ∧ Aside0 (Below w.heap.size w w'))
  case atStart=>exact ⟨(0),(by first | rfl | (simp;done) | (simp [*];done)),H',⟨Nat.le_refl _⟩,⟨by (with_reducible repeat (first | refine blk_drewN ?_ _ | refine blk_drew ?_ | refine blk_alloc ?_ _));exact BK1.out⟩,⟨by (with_reducible repeat (first | refine blk_drewN ?_ _ | refine blk_drew ?_ | refine blk_alloc ?_ _));exact BK2.out⟩,⟨hbw_⟩⟩
  case round =>
   clear H'
   try clear c1
   try clear p2
   try clear c3
   try clear c3b0
   try clear c3b1
   try clear c3b2
   try clear c5
   try clear c6
   try clear hcz7_0
   try clear hcz8_0
   try clear hfz7_0
   try clear hfz8_0
   obtain ⟨x5_1,rfl,HA,HK1,BK1,BK2,HB⟩:=hrel
   cases gk with
   | zero=>exact absurd HA.out (by simp [laws_equalTree.l0])
   | succ k1 =>
    have H:=HA.out
    clear HA
    simp only [laws_equalTree.l0] at H
    by_cases c9 : x5_1 < (l0_0.length : Int)
    ·rw [if_pos c9] at H
     have c9b0 : decide (x5_1 < (l0_0.length : Int)) = true:=decide_eq_true c9
     clear c9
     by_cases c10 : 0 ≤ x5_1
     ·rw [if_pos c10] at H
      have c10b0 : decide (0 ≤ x5_1) = true:=decide_eq_true c10
      clear c10
      by_cases c11 : x5_1 < (l1_0.length : Int)
      ·rw [if_pos c11] at H
       have c11b0 : decide (x5_1 < (l1_0.length : Int)) = true:=decide_eq_true c11
       clear c11
       by_cases c12 : (!((((rd_T125 l0_0 x5_1).f0).toList) == (((rd_T125 l1_0 x5_1).f0).toList)) || (!(((rd_T125 l0_0 x5_1).f1) == ((rd_T125 l1_0 x5_1).f1)))) = true
       ·rw [if_pos c12] at H
        have c12b0 : (!((((rd_T125 l0_0 x5_1).f0).toList) == (((rd_T125 l1_0 x5_1).f0).toList)) || (!(((rd_T125 l0_0 x5_1).f1) == ((rd_T125 l1_0 x5_1).f1)))) = true:=c12
        clear c12
        obtain rfl:=Option.some.inj H
        have hnb13:=NB1_2.out
        have hnc13:=NB2_1.out
        have hcz14_0 : wr.cell? ⟨gb1,0,none⟩ = some (.slice A0_0 l0_0.length c0_0):=(blk_cell BK1.out 0).trans rfl
        have hfz14_0:=blk_frozen BK1.out 0
        have p3 : 0 ≤ (x5_1 : Int):=of_decide_eq_true (by first | (with_reducible assumption) | assumption)
        have q3 : x5_1 < (l0_0.length : Int):=of_decide_eq_true (by first | (with_reducible assumption) | assumption)
        obtain ⟨ad3,e3,hx3_0,hx3_1⟩:=at_T125 HR0_0.out x5_1 p3 q3
        cases e3
        replace hx3_0:=(HB.out.cell (World.block_lt_of_cell? w _ hx3_0)).trans hx3_0
        replace hx3_1:=(HB.out.cell (World.block_lt_of_cell? w _ hx3_1)).trans hx3_1
        replace p3:=eq_true p3
        replace q3:=eq_true q3
        have hcz15_0 : wr.cell? ⟨gb2,0,none⟩ = some (.slice A1_0 l1_0.length c1_0):=(blk_cell BK2.out 0).trans rfl
        have hfz15_0:=blk_frozen BK2.out 0
        have p4 : 0 ≤ (x5_1 : Int):=of_decide_eq_true (by first | (with_reducible assumption) | assumption)
        have q4 : x5_1 < (l1_0.length : Int):=of_decide_eq_true (by first | (with_reducible assumption) | assumption)
        obtain ⟨ad4,e4,hx4_0,hx4_1⟩:=at_T125 HR1_0.out x5_1 p4 q4
        cases e4
        replace hx4_0:=(HB.out.cell (World.block_lt_of_cell? w _ hx4_0)).trans hx4_0
        replace hx4_1:=(HB.out.cell (World.block_lt_of_cell? w _ hx4_1)).trans hx4_1
        replace p4:=eq_true p4
        replace q4:=eq_true q4
        go_wp2
        repeat (go_quiet (fail);try go_wp2)
        go_ret
        exact ⟨by first | rfl | (simp [errW_none,errW_some] <;> rfl) | (simp [*,errW_none,errW_some] <;> rfl),hbw_⟩
       ·rw [if_neg c12] at H
        have c12b0 : (!((((rd_T125 l0_0 x5_1).f0).toList) == (((rd_T125 l1_0 x5_1).f0).toList)) || (!(((rd_T125 l0_0 x5_1).f1) == ((rd_T125 l1_0 x5_1).f1)))) = false:=by simpa using c12
        clear c12
        have H':=a0_ H
        clear H
        have hnb16:=NB1_2.out
        have hnc16:=NB2_1.out
        have hcz17_0 : wr.cell? ⟨gb1,0,none⟩ = some (.slice A0_0 l0_0.length c0_0):=(blk_cell BK1.out 0).trans rfl
        have hfz17_0:=blk_frozen BK1.out 0
        have p3 : 0 ≤ (x5_1 : Int):=of_decide_eq_true (by first | (with_reducible assumption) | assumption)
        have q3 : x5_1 < (l0_0.length : Int):=of_decide_eq_true (by first | (with_reducible assumption) | assumption)
        obtain ⟨ad3,e3,hx3_0,hx3_1⟩:=at_T125 HR0_0.out x5_1 p3 q3
        cases e3
        replace hx3_0:=(HB.out.cell (World.block_lt_of_cell? w _ hx3_0)).trans hx3_0
        replace hx3_1:=(HB.out.cell (World.block_lt_of_cell? w _ hx3_1)).trans hx3_1
        replace p3:=eq_true p3
        replace q3:=eq_true q3
        have hcz18_0 : wr.cell? ⟨gb2,0,none⟩ = some (.slice A1_0 l1_0.length c1_0):=(blk_cell BK2.out 0).trans rfl
        have hfz18_0:=blk_frozen BK2.out 0
        have p4 : 0 ≤ (x5_1 : Int):=of_decide_eq_true (by first | (with_reducible assumption) | assumption)
        have q4 : x5_1 < (l1_0.length : Int):=of_decide_eq_true (by first | (with_reducible assumption) | assumption)
        obtain ⟨ad4,e4,hx4_0,hx4_1⟩:=at_T125 HR1_0.out x5_1 p4 q4
        cases e4
        replace hx4_0:=(HB.out.cell (World.block_lt_of_cell? w _ hx4_0)).trans hx4_0
        replace hx4_1:=(HB.out.cell (World.block_lt_of_cell? w _ hx4_1)).trans hx4_1
        replace p4:=eq_true p4
        replace q4:=eq_true q4
        go_wp2
        repeat (go_quiet (fail);try go_wp2)
        go_roundg k1
        case measure=>have:=HK1.out;omega
        case rel=>exact ⟨(wrap64 (x5_1 + 1)),(by first | rfl | (simp;done) | (simp [*];done)),H',⟨by have:=HK1.out;omega⟩,⟨by (with_reducible repeat (first | refine blk_drewN ?_ _ | refine blk_drew ?_ | refine blk_alloc ?_ _));exact BK1.out⟩,⟨by (with_reducible repeat (first | refine blk_drewN ?_ _ | refine blk_drew ?_ | refine blk_alloc ?_ _));exact BK2.out⟩,⟨hbw_⟩⟩
      ·rw [if_neg c11] at H
       exact absurd H (by simp)
     ·rw [if_neg c10] at H
      exact absurd H (by simp)
    ·rw [if_neg c9] at H
     have c9b0 : decide (x5_1 < (l0_0.length : Int)) = false:=decide_eq_false c9
     clear c9
     obtain rfl:=Option.some.inj H
     have hnb19:=NB1_2.out
     have hnc19:=NB2_1.out
     have hcz20_0 : wr.cell? ⟨gb1,0,none⟩ = some (.slice A0_0 l0_0.length c0_0):=(blk_cell BK1.out 0).trans rfl
     have hfz20_0:=blk_frozen BK1.out 0
     go_wp2
     repeat (go_quiet (fail);try go_wp2)
     go_ret
     exact ⟨by first | rfl | (simp [errW_none,errW_some] <;> rfl) | (simp [*,errW_none,errW_some] <;> rfl),hbw_⟩
 ·rw [if_neg c3] at H
  have c3b0 : ((l0_0.length : Int) == (l1_0.length : Int)) = false:=beq_eq_false_iff_ne.mpr c3
  have c3b1 : ((l0_0.length : Int) != (l1_0.length : Int)) = true:=bne_iff_ne.mpr c3
  have c3b2 : (l0_0.length == l1_0.length) = false:=by first | simpa using c3 | (simp at c3 ⊢;omega)
  obtain rfl:=Option.some.inj H
  go_enter Try.func51,Try.ntmps51
  go_wp2_with (first | ((with_reducible refine gate_dst (N:=2) rfl ?_);refine box_event ?hg (N:=2) ?hd (cs:=#[.slice A0_0 l0_0.length c0_0]) (t:=25) ?hr ?_;(case hd=>rfl);(case hg=>rfl);(case hr=>first | (go_simp;done) | (go_simp;rfl));intro gb1 hg w21 hbox hb;have BK1:=a0_ (hbox);have GW1:=a0_ ((by rw [hg];exact (below_size hbw_) : w.heap.size ≤ gb1));have GE1:=a0_ ((by rw [hg];exact (below_size hbw_) : w.heap.size ≤ gb1));replace HB:=a0_ (below_step hbw_ hb);clear hb hbox hg) | ((with_reducible refine gate_dst (N:=3) rfl ?_);refine box_event ?hg (N:=3) ?hd (cs:=#[.slice A1_0 l1_0.length c1_0]) (t:=25) ?hr ?_;(case hd=>rfl);(case hg=>rfl);(case hr=>first | (go_simp;done) | (go_simp;rfl));intro gb2 hg w22 hbox hb;have n0_:=kb_ BK1 hb;have n1_:=a0_ (below_step hbw_ hb);have n2_:=a0_ (hbox);have n3_:=a0_ ((by rw [hg];exact (below_size hbw_) : w.heap.size ≤ gb2));have n4_:=a0_ ((by rw [hg];exact (below_size hbw_) : w.heap.size ≤ gb2));have n5_:=a0_ ((by rw [hg];exact Nat.ne_of_lt (blk_lt (bb_ BK1.out)) : gb1 ≠ gb2));have n6_:=a0_ ((by rw [hg];exact Nat.ne_of_gt (blk_lt (bb_ BK1.out)) : gb2 ≠ gb1));clear BK1 HB;have BK1:=n0_;have HB:=n1_;have BK2:=n2_;have GW2:=n3_;have GE2:=n4_;have NB1_2:=n5_;have NB2_1:=n6_;clear n0_ n1_ n2_ n3_ n4_ n5_ n6_;clear hb hbox hg;have hnb23:=NB1_2.out;have hnc23:=NB2_1.out;have hcz24_0 : w22.cell? ⟨gb1,0,none⟩ = some (.slice A0_0 l0_0.length c0_0):=(blk_cell BK1.out 0).trans rfl;have hfz24_0:=blk_frozen BK1.out 0;have hcz25_0 : w22.cell? ⟨gb2,0,none⟩ = some (.slice A1_0 l1_0.length c1_0):=(blk_cell BK2.out 0).trans rfl;have hfz25_0:=blk_frozen BK2.out 0))
  repeat (go_quiet (first | ((with_reducible refine gate_dst (N:=2) rfl ?_);refine box_event ?hg (N:=2) ?hd (cs:=#[.slice A0_0 l0_0.length c0_0]) (t:=25) ?hr ?_;(case hd=>rfl);(case hg=>rfl);(case hr=>first | (go_simp;done) | (go_simp;rfl));intro gb1 hg w21 hbox hb;have BK1:=a0_ (hbox);have GW1:=a0_ ((by rw [hg];exact (below_size hbw_) : w.heap.size ≤ gb1));have GE1:=a0_ ((by rw [hg];exact (below_size hbw_) : w.heap.size ≤ gb1));replace HB:=a0_ (below_step hbw_ hb);clear hb hbox hg) | ((with_reducible refine gate_dst (N:=3) rfl ?_);refine box_event ?hg (N:=3) ?hd (cs:=#[.slice A1_0 l1_0.length c1_0]) (t:=25) ?hr ?_;(case hd=>rfl);(case hg=>rfl);(case hr=>first | (go_simp;done) | (go_simp;rfl));intro gb2 hg w22 hbox hb;have n0_:=kb_ BK1 hb;have n1_:=a0_ (below_step hbw_ hb);have n2_:=a0_ (hbox);have n3_:=a0_ ((by rw [hg];exact (below_size hbw_) : w.heap.size ≤ gb2));have n4_:=a0_ ((by rw [hg];exact (below_size hbw_) : w.heap.size ≤ gb2));have n5_:=a0_ ((by rw [hg];exact Nat.ne_of_lt (blk_lt (bb_ BK1.out)) : gb1 ≠ gb2));have n6_:=a0_ ((by rw [hg];exact Nat.ne_of_gt (blk_lt (bb_ BK1.out)) : gb2 ≠ gb1));clear BK1 HB;have BK1:=n0_;have HB:=n1_;have BK2:=n2_;have GW2:=n3_;have GE2:=n4_;have NB1_2:=n5_;have NB2_1:=n6_;clear n0_ n1_ n2_ n3_ n4_ n5_ n6_;clear hb hbox hg;have hnb23:=NB1_2.out;have hnc23:=NB2_1.out;have hcz24_0 : w22.cell? ⟨gb1,0,none⟩ = some (.slice A0_0 l0_0.length c0_0):=(blk_cell BK1.out 0).trans rfl;have hfz24_0:=blk_frozen BK1.out 0;have hcz25_0 : w22.cell? ⟨gb2,0,none⟩ = some (.slice A1_0 l1_0.length c1_0):=(blk_cell BK2.out 0).trans rfl;have hfz25_0:=blk_frozen BK2.out 0));try go_wp2_with (first | ((with_reducible refine gate_dst (N:=2) rfl ?_);refine box_event ?hg (N:=2) ?hd (cs:=#[.slice A0_0 l0_0.length c0_0]) (t:=25) ?hr ?_;(case hd=>rfl);(case hg=>rfl);(case hr=>first | (go_simp;done) | (go_simp;rfl));intro gb1 hg w21 hbox hb;have BK1:=a0_ (hbox);have GW1:=a0_ ((by rw [hg];exact (below_size hbw_) : w.heap.size ≤ gb1));have GE1:=a0_ ((by rw [hg];exact (below_size hbw_) : w.heap.size ≤ gb1));replace HB:=a0_ (below_step hbw_ hb);clear hb hbox hg) | ((with_reducible refine gate_dst (N:=3) rfl ?_);refine box_event ?hg (N:=3) ?hd (cs:=#[.slice A1_0 l1_0.length c1_0]) (t:=25) ?hr ?_;(case hd=>rfl);(case hg=>rfl);(case hr=>first | (go_simp;done) | (go_simp;rfl));intro gb2 hg w22 hbox hb;have n0_:=kb_ BK1 hb;have n1_:=a0_ (below_step hbw_ hb);have n2_:=a0_ (hbox);have n3_:=a0_ ((by rw [hg];exact (below_size hbw_) : w.heap.size ≤ gb2));have n4_:=a0_ ((by rw [hg];exact (below_size hbw_) : w.heap.size ≤ gb2));have n5_:=a0_ ((by rw [hg];exact Nat.ne_of_lt (blk_lt (bb_ BK1.out)) : gb1 ≠ gb2));have n6_:=a0_ ((by rw [hg];exact Nat.ne_of_gt (blk_lt (bb_ BK1.out)) : gb2 ≠ gb1));clear BK1 HB;have BK1:=n0_;have HB:=n1_;have BK2:=n2_;have GW2:=n3_;have GE2:=n4_;have NB1_2:=n5_;have NB2_1:=n6_;clear n0_ n1_ n2_ n3_ n4_ n5_ n6_;clear hb hbox hg;have hnb23:=NB1_2.out;have hnc23:=NB2_1.out;have hcz24_0 : w22.cell? ⟨gb1,0,none⟩ = some (.slice A0_0 l0_0.length c0_0):=(blk_cell BK1.out 0).trans rfl;have hfz24_0:=blk_frozen BK1.out 0;have hcz25_0 : w22.cell? ⟨gb2,0,none⟩ = some (.slice A1_0 l1_0.length c1_0):=(blk_cell BK2.out 0).trans rfl;have hfz25_0:=blk_frozen BK2.out 0)))
  go_ret
  exact ⟨by first | rfl | (simp [errW_none,errW_some] <;> rfl) | (simp [*,errW_none,errW_some] <;> rfl),hbw_⟩
theorem laws_equalTree_ev (t : List Cls) (hl : t.length ≤ 9223372036854775806) : Ev (fun k=>laws_equalTree.f k t t) true:=by
 have key : ∀ d j,j + d = t.length → Ev (fun k=>laws_equalTree.l0 k (j : Int) t t) true:=by
  intro d
  induction d with
  | zero =>
   intro j hj
   refine Ev.succ ?_
   simp only [laws_equalTree.l0]
   exact Ev.neg (by omega) (Ev.const rfl)
  | succ d ih =>
   intro j hj
   refine Ev.succ ?_
   simp only [laws_equalTree.l0]
   rw [wrap_succ (i:=(j : Int)) (n:=t.length) (by omega) (by omega) (by omega)]
   exact Ev.pos (by omega) (Ev.pos (by omega) (Ev.pos (by omega) (Ev.neg (by simp) (ih (j + 1) (by omega)))))
 unfold laws_equalTree.f
 exact Ev.pos rfl (key t.length 0 (by omega))
end Go.Proofs.Ytacgehaipacehaa.P
namespace Go.Proofs.Ytacgehaipacehaa.P
open Go.RowKit Go.Proofs.YtacgehaipacehaaW.PrintWords Go.Proofs.YtacgehaipacehaaW.PrintLast Go.Proofs.YtacgehaipacehaaW.PrintMore
attribute [local go_sem] max2_int min2_int max_two min_two max_three min_three max_four min_four
set_option linter.unusedVariables false
set_option linter.unusedSimpArgs false
def laws_FnTopTree.j0 : Nat → ByteArray → Bool → Bool → Bool → List (S125) → List (S125) → Option (Bool)
 | 0,_,_,_,_,_,_=>none
 | k + 1,x0,x4,x6,x29,x6000,x11000=>if x29 = true then ((laws_equalTree.f k x6000 x11000).bind fun t12=>(if t12 = true then (some (x4 == x6)) else (some false))) else ((impl_TreeText.f x6000).bind fun t13=>(if t13.toList = x0.toList then ((impl_ValidTree.f x6000).bind fun t14=>(some t14)) else (some false)))
def laws_FnTopTree.f (k : Nat) (a0 : ByteArray) : Option (Bool):=(impl_ParseTree.f k a0).bind fun bt1=>((spec_ParseTree.f k a0).bind fun bt6=>((laws_equalTree.f k bt1.1 bt6.1).bind fun t11=>(if t11 = true then (if (bt1.2 != bt6.2) = true then (laws_FnTopTree.j0 k a0 bt1.2 bt6.2 true bt1.1 bt6.1) else (laws_FnTopTree.j0 k a0 bt1.2 bt6.2 (!bt1.2) bt1.1 bt6.1)) else (laws_FnTopTree.j0 k a0 bt1.2 bt6.2 true bt1.1 bt6.1))))
theorem laws_FnTopTree.mono_l : ∀ k,(∀ y0 y1 y2 y3 y4 y5,LeO (laws_FnTopTree.j0 k y0 y1 y2 y3 y4 y5) (laws_FnTopTree.j0 (k + 1) y0 y1 y2 y3 y4 y5))
 | 0=>fun _ _ _ _ _ _ r h=>by simp [laws_FnTopTree.j0] at h
 | k + 1=>by
  have ih0:=laws_FnTopTree.mono_l k
  ·intro y0 y1 y2 y3 y4 y5
   unfold laws_FnTopTree.j0
   repeat' first
   | (with_reducible exact ih0 _ _ _ _ _ _)
   | (with_reducible exact impl_ParseTree.mono _ _)
   | (with_reducible exact laws_equalTree.mono _ _ _)
   | (with_reducible exact spec_ParseTree.mono _ _)
   | (with_reducible exact LeO.refl _)
   | (with_reducible exact LeO.none _)
   | (with_reducible refine LeO.ite ?_ ?_)
   | (with_reducible refine LeO.bind ?_ (fun _=>?_))
   | exact ih0 _ _ _ _ _ _
   | exact impl_ParseTree.mono _ _
   | exact laws_equalTree.mono _ _ _
   | exact spec_ParseTree.mono _ _
   | exact LeO.none _
   | refine LeO.ite ?_ ?_
   | refine LeO.bind ?_ (fun _=>?_)
theorem laws_FnTopTree.mono : ∀ a0 k,LeO (laws_FnTopTree.f k a0) (laws_FnTopTree.f (k + 1) a0):=by
 intro a0 k
 have ih0:=laws_FnTopTree.mono_l k
 unfold laws_FnTopTree.f
 repeat' first
   | (with_reducible exact ih0 _ _ _ _ _ _)
   | (with_reducible exact impl_ParseTree.mono _ _)
   | (with_reducible exact laws_equalTree.mono _ _ _)
   | (with_reducible exact spec_ParseTree.mono _ _)
   | (with_reducible exact LeO.refl _)
   | (with_reducible exact LeO.none _)
   | (with_reducible refine LeO.ite ?_ ?_)
   | (with_reducible refine LeO.bind ?_ (fun _=>?_))
   | exact ih0 _ _ _ _ _ _
   | exact impl_ParseTree.mono _ _
   | exact laws_equalTree.mono _ _ _
   | exact spec_ParseTree.mono _ _
   | exact LeO.none _
   | refine LeO.ite ?_ ?_
   | refine LeO.bind ?_ (fun _=>?_)
set_option maxHeartbeats 8000000 in
set_option maxRecDepth 100000 in
theorem laws_FnTopTree.calls (k : Nat) (a0 : ByteArray) (r : Bool) (w : World) (h : laws_FnTopTree.f k a0 = some r) :
  Calls Try.prog 11 #[.string a0] w fun e w'=>e = .returned (.bool r) ∧ Below w.heap.size w w':=by
 have hu25:=Try.underlying25
 have HB:=a0_ (Below.refl w.heap.size w)
 have H : ((impl_ParseTree.f k a0).bind fun bt1=>((spec_ParseTree.f k a0).bind fun bt6=>((laws_equalTree.f k bt1.1 bt6.1).bind fun t11=>(if t11 = true then (if (bt1.2 != bt6.2) = true then (laws_FnTopTree.j0 k a0 bt1.2 bt6.2 true bt1.1 bt6.1) else (laws_FnTopTree.j0 k a0 bt1.2 bt6.2 (!bt1.2) bt1.1 bt6.1)) else (laws_FnTopTree.j0 k a0 bt1.2 bt6.2 true bt1.1 bt6.1))))) = some r:=h
 clear h
 replace H:=Option.bind_eq_some_iff.mp H
 obtain ⟨⟨t1,t4⟩,A20,H⟩:=H
 try dsimp only at H
 have A2:=a0_ A20
 clear A20
 replace H:=Option.bind_eq_some_iff.mp H
 obtain ⟨⟨t6,t9⟩,A30,H⟩:=H
 try dsimp only at H
 have A3:=a0_ A30
 clear A30
 have HC4:=a0_ H
 clear H
 go_enter Try.func11,Try.ntmps11
 go_upto_region 3 with (first | ((with_reducible refine gate_callee (f:=39) rfl ?_);refine goesL_ (some 9) rfl rfl Try.func39 (by kernel_rfl) rfl #[.string a0] rfl lm_ ?_;(with_reducible refine (impl_ParseTree.calls k a0 t1 t4 _ A2.out).mono ?_);rintro e w5 ⟨v2,rfl,ho0,hb⟩;refine ⟨_,rfl,?_⟩;have HO3:=a0_ (Kd.R_lower ho0 (below_size hbw_));replace HB:=a0_ (below_step hbw_ hb);(try clear hb);(try clear ho0)) | ((with_reducible refine gate_dst (N:=3) rfl ?_);refine box_event ?hg (N:=3) ?hd (cs:=#[.slice none 0 0]) (t:=25) ?hr ?_;(case hd=>rfl);(case hg=>rfl);(case hr=>first | (go_simp;done) | (go_simp;rfl));intro gb5 hg w6 hbox hb;replace HO3:=rb_ HO3 hb;have BK5:=a0_ (hbox);have GW5:=a0_ ((by rw [hg];exact (below_size hbw_) : w.heap.size ≤ gb5));have GE5:=a0_ ((by rw [hg];exact (below_size hbw_) : w.heap.size ≤ gb5));replace HB:=a0_ (below_step hbw_ hb);clear hb hbox hg;obtain ⟨Ao7,co7,eo7⟩:=Kd.R_slice HO3.out;subst eo7;have hcz8_0 : w6.cell? ⟨gb5,0,none⟩ = some (.slice none 0 0):=(blk_cell BK5.out 0).trans rfl;have hfz8_0:=blk_frozen BK5.out 0) | ((with_reducible refine gate_callee (f:=38) rfl ?_);refine goesL_ (some 14) rfl rfl Try.func38 (by kernel_rfl) rfl #[.string a0] rfl lm_ ?_;(with_reducible refine (spec_ParseTree.calls k a0 t6 t9 _ A3.out).mono ?_);rintro e w9 ⟨v7,rfl,ho0,hb⟩;refine ⟨_,rfl,?_⟩;have n0_:=a0_ (Kd.R_elder' (by (with_reducible repeat (first | apply Kd.R_alloc | apply Kd.R_drewN | apply Kd.R_drew));exact (Kd.R_mono (Kd.R_far (p:=⟨gb5,0,none⟩) (Kd.R_types HO3.out BK5.out (by decide)) (fun _ hk=>hk.2) (.slice Ao7 t1.length co7)) (fun _ h_=>h_.1))) (Kd.R_base ho0) hb);have n1_:=a0_ (Kd.R_lower (Kd.R_new' ho0 (Kd.R_lt (by (with_reducible repeat (first | apply Kd.R_alloc | apply Kd.R_drewN | apply Kd.R_drew));exact (Kd.R_mono (Kd.R_far (p:=⟨gb5,0,none⟩) (Kd.R_types HO3.out BK5.out (by decide)) (fun _ hk=>hk.2) (.slice Ao7 t1.length co7)) (fun _ h_=>h_.1))))) (below_size hbw_));have n2_:=a0_ (blk_below (g:=gb5) (o:=.cells #[.slice Ao7 t1.length co7] 25 (0,0)) (by (with_reducible repeat (first | refine blk_drewN ?_ _ | refine blk_drew ?_ | refine blk_alloc ?_ _));refine blk_put (cs:=#[.slice none 0 0]) ?_ 0 _ rfl;(with_reducible repeat (first | refine blk_drewN ?_ _ | refine blk_drew ?_ | refine blk_alloc ?_ _));exact BK5.out) hb);have n3_:=a0_ (below_step hbw_ hb);clear HO3 BK5 HB;have HO3:=n0_;have HO8:=n1_;have BK5:=n2_;have HB:=n3_;clear n0_ n1_ n2_ n3_;(try clear hb);(try clear ho0)) | ((with_reducible refine gate_dst (N:=5) rfl ?_);refine box_event ?hg (N:=5) ?hd (cs:=#[.slice none 0 0]) (t:=25) ?hr ?_;(case hd=>rfl);(case hg=>rfl);(case hr=>first | (go_simp;done) | (go_simp;rfl));intro gb10 hg w10 hbox hb;have n0_:=rb_ HO3 hb;have n1_:=rb_ HO8 hb;have n2_:=kb_ BK5 hb;have n3_:=a0_ (below_step hbw_ hb);have n4_:=a0_ (hbox);have n5_:=a0_ ((by rw [hg];exact (below_size hbw_) : w.heap.size ≤ gb10));have n6_:=a0_ ((by rw [hg];exact (below_size hbw_) : w.heap.size ≤ gb10));have n7_:=a0_ ((by rw [hg];exact Nat.ne_of_lt (blk_lt (bb_ BK5.out)) : gb5 ≠ gb10));have n8_:=a0_ ((by rw [hg];exact Nat.ne_of_gt (blk_lt (bb_ BK5.out)) : gb10 ≠ gb5));clear HO3 HO8;clear BK5 HB;have HO3:=n0_;have HO8:=n1_;have BK5:=n2_;have HB:=n3_;have BK10:=n4_;have GW10:=n5_;have GE10:=n6_;have NB5_10:=n7_;have NB10_5:=n8_;clear n0_ n1_ n2_ n3_ n4_ n5_ n6_ n7_ n8_;clear hb hbox hg;obtain ⟨Ao11,co11,eo11⟩:=Kd.R_slice HO8.out;subst eo11;have hnb12:=NB10_5.out;have hnc12:=NB5_10.out;have hcz13_0 : w10.cell? ⟨gb10,0,none⟩ = some (.slice none 0 0):=(blk_cell BK10.out 0).trans rfl;have hfz13_0:=blk_frozen BK10.out 0))
 (try simp only [Act.put,s1_,s2_,s3_])
 go_cut [29] (fun v29 wc=>∃ (kq : Nat) (x29_3 : Bool),v29 = .bool x29_3 ∧ Aside0 (laws_FnTopTree.j0 kq a0 t4 t9 x29_3 t1 t6 = some r) ∧ Aside0 (kq ≤ k) ∧ Aside0 (Kd.R k125 125 wc w.heap.size (fun k_=>some k_ ≠ ((.slice Ao11 t6.length co11) : Value).ownBlock) (.slice Ao7 t1.length co7) t1) ∧ Aside0 (Kd.R k125 125 wc w.heap.size (fun k_=>some k_ ≠ ((.slice Ao7 t1.length co7) : Value).ownBlock) (.slice Ao11 t6.length co11) t6) ∧ Aside0 (wc.heap[gb5]? = some (.cells #[(.slice Ao7 t1.length co7)] 25 (0,0))) ∧ Aside0 (wc.heap[gb10]? = some (.cells #[(.slice Ao11 t6.length co11)] 25 (0,0))) ∧ Aside0 (Below w.heap.size w wc))
 case first =>
  have H:=HC4.out
  clear HC4
  replace H:=Option.bind_eq_some_iff.mp H
  obtain ⟨t11,A140,H⟩:=H
  try dsimp only at H
  have A14:=a0_ A140
  clear A140
  by_cases c15 : t11 = true
  ·subst c15
   have H1 : (if (t4 != t9) = true then (laws_FnTopTree.j0 k a0 t4 t9 true t1 t6) else (laws_FnTopTree.j0 k a0 t4 t9 (!t4) t1 t6)) = some r:=by rw [if_pos rfl] at H;exact H
   clear H
   have H:=H1
   clear H1
   by_cases c16 : (t4 != t9) = true
   ·rw [if_pos c16] at H
    have c16b0 : (t4 != t9) = true:=c16
    (try (have c16b1 : decide (t4 = t9) = false:=by simpa using c16))
    (try (have c16b2 : (t4 == t9) = false:=by simpa using c16))
    (try (have c16b3 : ¬ (t4 = t9):=by simpa using c16))
    clear c16
    (first | rw [c16b0] | (simp only [i64_w,i32_w];rw [c16b0]) | skip)
    have H':=a0_ H
    clear H
    have hnb17:=NB5_10.out
    have hnc17:=NB10_5.out
    have hcz18_0 : w10.cell? ⟨gb5,0,none⟩ = some (.slice Ao7 t1.length co7):=(blk_cell BK5.out 0).trans rfl
    have hfz18_0:=blk_frozen BK5.out 0
    have hcz19_0 : w10.cell? ⟨gb10,0,none⟩ = some (.slice none 0 0):=(blk_cell BK10.out 0).trans rfl
    have hfz19_0:=blk_frozen BK10.out 0
    go_wp2_with (first | ((with_reducible refine gate_callee (f:=51) rfl ?_);refine goesL_ (some 19) rfl rfl Try.func51 (by kernel_rfl) rfl #[.agg #[.slice Ao7 t1.length co7],.agg #[.slice Ao11 t6.length co11]] rfl lm_ ?_;(with_reducible refine (laws_equalTree.calls k _ _ t1 _ _ t6 true _ ?side1 ?side2 ?side3 ?side4 A14.out).mono ?_);(case side1=>refine (Kd.R_reads' (e:=125) (base:=w.heap.size) (ok:=fun k_=>(True ∧ some k_ ≠ (.slice Ao11 t6.length co11 : Value).ownBlock)) (n:=t1.length) (c:=co7) ?_).2.2;exact (by (with_reducible repeat (first | apply Kd.R_alloc | apply Kd.R_drewN | apply Kd.R_drew));exact (Kd.R_mono (Kd.R_far (p:=⟨gb10,0,none⟩) (Kd.R_types HO3.out BK10.out (by decide)) (fun _ hk=>hk.2) (.slice Ao11 t6.length co11)) (fun _ h_=>h_.1))));(case side2=>exact (Kd.R_reads' HO3.out).2.1);(case side3=>refine (Kd.R_reads' (e:=125) (base:=w.heap.size) (ok:=fun k_=>(True ∧ some k_ ≠ (.slice Ao7 t1.length co7 : Value).ownBlock)) (n:=t6.length) (c:=co11) ?_).2.2;exact (by (with_reducible repeat (first | apply Kd.R_alloc | apply Kd.R_drewN | apply Kd.R_drew));exact (Kd.R_mono (Kd.R_far (p:=⟨gb10,0,none⟩) (Kd.R_types HO8.out BK10.out (by decide)) (fun _ hk=>hk.2) (.slice Ao11 t6.length co11)) (fun _ h_=>h_.1))));(case side4=>exact (Kd.R_reads' HO8.out).2.1);rintro e w20 ⟨rfl,hb⟩;refine ⟨_,rfl,?_⟩;replace HO3:=a0_ (Kd.R_below (by (with_reducible repeat (first | apply Kd.R_alloc | apply Kd.R_drewN | apply Kd.R_drew));exact (Kd.R_mono (Kd.R_far (p:=⟨gb10,0,none⟩) (Kd.R_types HO3.out BK10.out (by decide)) (fun _ hk=>hk.2) (.slice Ao11 t6.length co11)) (fun _ h_=>h_.1))) hb);replace HO8:=a0_ (Kd.R_below (by (with_reducible repeat (first | apply Kd.R_alloc | apply Kd.R_drewN | apply Kd.R_drew));exact (Kd.R_mono (Kd.R_far (p:=⟨gb10,0,none⟩) (Kd.R_types HO8.out BK10.out (by decide)) (fun _ hk=>hk.2) (.slice Ao11 t6.length co11)) (fun _ h_=>h_.1))) hb);replace BK5:=kf_ BK5 NB5_10 hb;replace BK10:=a0_ (blk_below (g:=gb10) (o:=.cells #[.slice Ao11 t6.length co11] 25 (0,0)) (by (with_reducible repeat (first | refine blk_drewN ?_ _ | refine blk_drew ?_ | refine blk_alloc ?_ _));refine blk_put (cs:=#[.slice none 0 0]) ?_ 0 _ rfl;(with_reducible repeat (first | refine blk_drewN ?_ _ | refine blk_drew ?_ | refine blk_alloc ?_ _));exact BK10.out) hb);replace HB:=a0_ (below_step hbw_ hb);(try clear hb);(try clear hb2);(try clear hk);(try clear hi)))
    go_meet
    case rel=>exact ⟨_,(true),(by first | rfl | (simp;done) | (simp [*];done)),H',⟨by first | omega | exact Nat.le_refl _⟩,⟨by (with_reducible repeat (first | apply Kd.R_alloc | apply Kd.R_drewN | apply Kd.R_drew));exact Kd.R_mono HO3.out (fun _ hk=>hk.2)⟩,⟨by (with_reducible repeat (first | apply Kd.R_alloc | apply Kd.R_drewN | apply Kd.R_drew));exact Kd.R_mono HO8.out (fun _ hk=>hk.2)⟩,⟨by (with_reducible repeat (first | refine blk_drewN ?_ _ | refine blk_drew ?_ | refine blk_alloc ?_ _));exact BK5.out⟩,⟨by (with_reducible repeat (first | refine blk_drewN ?_ _ | refine blk_drew ?_ | refine blk_alloc ?_ _));exact BK10.out⟩,⟨hbw_⟩⟩
   ·rw [if_neg c16] at H
    have c16b0 : (t4 != t9) = false:=by simpa using c16
    (try (have c16b1 : decide (t4 = t9) = true:=by simpa using c16))
    (try (have c16b2 : (t4 == t9) = true:=by simpa using c16))
    clear c16
    (first | rw [c16b0] | (simp only [i64_w,i32_w];rw [c16b0]) | skip)
    have H':=a0_ H
    clear H
    have hnb21:=NB5_10.out
    have hnc21:=NB10_5.out
    have hcz22_0 : w10.cell? ⟨gb5,0,none⟩ = some (.slice Ao7 t1.length co7):=(blk_cell BK5.out 0).trans rfl
    have hfz22_0:=blk_frozen BK5.out 0
    have hcz23_0 : w10.cell? ⟨gb10,0,none⟩ = some (.slice none 0 0):=(blk_cell BK10.out 0).trans rfl
    have hfz23_0:=blk_frozen BK10.out 0
    go_wp2_with (first | ((with_reducible refine gate_callee (f:=51) rfl ?_);refine goesL_ (some 19) rfl rfl Try.func51 (by kernel_rfl) rfl #[.agg #[.slice Ao7 t1.length co7],.agg #[.slice Ao11 t6.length co11]] rfl lm_ ?_;(with_reducible refine (laws_equalTree.calls k _ _ t1 _ _ t6 true _ ?side1 ?side2 ?side3 ?side4 A14.out).mono ?_);(case side1=>refine (Kd.R_reads' (e:=125) (base:=w.heap.size) (ok:=fun k_=>(True ∧ some k_ ≠ (.slice Ao11 t6.length co11 : Value).ownBlock)) (n:=t1.length) (c:=co7) ?_).2.2;exact (by (with_reducible repeat (first | apply Kd.R_alloc | apply Kd.R_drewN | apply Kd.R_drew));exact (Kd.R_mono (Kd.R_far (p:=⟨gb10,0,none⟩) (Kd.R_types HO3.out BK10.out (by decide)) (fun _ hk=>hk.2) (.slice Ao11 t6.length co11)) (fun _ h_=>h_.1))));(case side2=>exact (Kd.R_reads' HO3.out).2.1);(case side3=>refine (Kd.R_reads' (e:=125) (base:=w.heap.size) (ok:=fun k_=>(True ∧ some k_ ≠ (.slice Ao7 t1.length co7 : Value).ownBlock)) (n:=t6.length) (c:=co11) ?_).2.2;exact (by (with_reducible repeat (first | apply Kd.R_alloc | apply Kd.R_drewN | apply Kd.R_drew));exact (Kd.R_mono (Kd.R_far (p:=⟨gb10,0,none⟩) (Kd.R_types HO8.out BK10.out (by decide)) (fun _ hk=>hk.2) (.slice Ao11 t6.length co11)) (fun _ h_=>h_.1))));(case side4=>exact (Kd.R_reads' HO8.out).2.1);rintro e w24 ⟨rfl,hb⟩;refine ⟨_,rfl,?_⟩;replace HO3:=a0_ (Kd.R_below (by (with_reducible repeat (first | apply Kd.R_alloc | apply Kd.R_drewN | apply Kd.R_drew));exact (Kd.R_mono (Kd.R_far (p:=⟨gb10,0,none⟩) (Kd.R_types HO3.out BK10.out (by decide)) (fun _ hk=>hk.2) (.slice Ao11 t6.length co11)) (fun _ h_=>h_.1))) hb);replace HO8:=a0_ (Kd.R_below (by (with_reducible repeat (first | apply Kd.R_alloc | apply Kd.R_drewN | apply Kd.R_drew));exact (Kd.R_mono (Kd.R_far (p:=⟨gb10,0,none⟩) (Kd.R_types HO8.out BK10.out (by decide)) (fun _ hk=>hk.2) (.slice Ao11 t6.length co11)) (fun _ h_=>h_.1))) hb);replace BK5:=kf_ BK5 NB5_10 hb;replace BK10:=a0_ (blk_below (g:=gb10) (o:=.cells #[.slice Ao11 t6.length co11] 25 (0,0)) (by (with_reducible repeat (first | refine blk_drewN ?_ _ | refine blk_drew ?_ | refine blk_alloc ?_ _));refine blk_put (cs:=#[.slice none 0 0]) ?_ 0 _ rfl;(with_reducible repeat (first | refine blk_drewN ?_ _ | refine blk_drew ?_ | refine blk_alloc ?_ _));exact BK10.out) hb);replace HB:=a0_ (below_step hbw_ hb);(try clear hb);(try clear hb2);(try clear hk);(try clear hi)))
    go_meet
    case rel=>exact ⟨_,(!t4),(by first | rfl | (simp;done) | (simp [*];done)),H',⟨by first | omega | exact Nat.le_refl _⟩,⟨by (with_reducible repeat (first | apply Kd.R_alloc | apply Kd.R_drewN | apply Kd.R_drew));exact Kd.R_mono HO3.out (fun _ hk=>hk.2)⟩,⟨by (with_reducible repeat (first | apply Kd.R_alloc | apply Kd.R_drewN | apply Kd.R_drew));exact Kd.R_mono HO8.out (fun _ hk=>hk.2)⟩,⟨by (with_reducible repeat (first | refine blk_drewN ?_ _ | refine blk_drew ?_ | refine blk_alloc ?_ _));exact BK5.out⟩,⟨by (with_reducible repeat (first | refine blk_drewN ?_ _ | refine blk_drew ?_ | refine blk_alloc ?_ _));exact BK10.out⟩,⟨hbw_⟩⟩
  ·replace c15:=Bool.eq_false_iff.mpr c15
   subst c15
   have H1 : (laws_FnTopTree.j0 k a0 t4 t9 true t1 t6) = some r:=by rw [if_neg (show ¬ (false = true) by decide)] at H;exact H
   clear H
   have H:=H1
   clear H1
   have H':=a0_ H
   clear H
   have hnb25:=NB5_10.out
   have hnc25:=NB10_5.out
   have hcz26_0 : w10.cell? ⟨gb5,0,none⟩ = some (.slice Ao7 t1.length co7):=(blk_cell BK5.out 0).trans rfl
   have hfz26_0:=blk_frozen BK5.out 0
   have hcz27_0 : w10.cell? ⟨gb10,0,none⟩ = some (.slice none 0 0):=(blk_cell BK10.out 0).trans rfl
   have hfz27_0:=blk_frozen BK10.out 0
   go_wp2_with (first | ((with_reducible refine gate_callee (f:=51) rfl ?_);refine goesL_ (some 19) rfl rfl Try.func51 (by kernel_rfl) rfl #[.agg #[.slice Ao7 t1.length co7],.agg #[.slice Ao11 t6.length co11]] rfl lm_ ?_;(with_reducible refine (laws_equalTree.calls k _ _ t1 _ _ t6 false _ ?side1 ?side2 ?side3 ?side4 A14.out).mono ?_);(case side1=>refine (Kd.R_reads' (e:=125) (base:=w.heap.size) (ok:=fun k_=>(True ∧ some k_ ≠ (.slice Ao11 t6.length co11 : Value).ownBlock)) (n:=t1.length) (c:=co7) ?_).2.2;exact (by (with_reducible repeat (first | apply Kd.R_alloc | apply Kd.R_drewN | apply Kd.R_drew));exact (Kd.R_mono (Kd.R_far (p:=⟨gb10,0,none⟩) (Kd.R_types HO3.out BK10.out (by decide)) (fun _ hk=>hk.2) (.slice Ao11 t6.length co11)) (fun _ h_=>h_.1))));(case side2=>exact (Kd.R_reads' HO3.out).2.1);(case side3=>refine (Kd.R_reads' (e:=125) (base:=w.heap.size) (ok:=fun k_=>(True ∧ some k_ ≠ (.slice Ao7 t1.length co7 : Value).ownBlock)) (n:=t6.length) (c:=co11) ?_).2.2;exact (by (with_reducible repeat (first | apply Kd.R_alloc | apply Kd.R_drewN | apply Kd.R_drew));exact (Kd.R_mono (Kd.R_far (p:=⟨gb10,0,none⟩) (Kd.R_types HO8.out BK10.out (by decide)) (fun _ hk=>hk.2) (.slice Ao11 t6.length co11)) (fun _ h_=>h_.1))));(case side4=>exact (Kd.R_reads' HO8.out).2.1);rintro e w28 ⟨rfl,hb⟩;refine ⟨_,rfl,?_⟩;replace HO3:=a0_ (Kd.R_below (by (with_reducible repeat (first | apply Kd.R_alloc | apply Kd.R_drewN | apply Kd.R_drew));exact (Kd.R_mono (Kd.R_far (p:=⟨gb10,0,none⟩) (Kd.R_types HO3.out BK10.out (by decide)) (fun _ hk=>hk.2) (.slice Ao11 t6.length co11)) (fun _ h_=>h_.1))) hb);replace HO8:=a0_ (Kd.R_below (by (with_reducible repeat (first | apply Kd.R_alloc | apply Kd.R_drewN | apply Kd.R_drew));exact (Kd.R_mono (Kd.R_far (p:=⟨gb10,0,none⟩) (Kd.R_types HO8.out BK10.out (by decide)) (fun _ hk=>hk.2) (.slice Ao11 t6.length co11)) (fun _ h_=>h_.1))) hb);replace BK5:=kf_ BK5 NB5_10 hb;replace BK10:=a0_ (blk_below (g:=gb10) (o:=.cells #[.slice Ao11 t6.length co11] 25 (0,0)) (by (with_reducible repeat (first | refine blk_drewN ?_ _ | refine blk_drew ?_ | refine blk_alloc ?_ _));refine blk_put (cs:=#[.slice none 0 0]) ?_ 0 _ rfl;(with_reducible repeat (first | refine blk_drewN ?_ _ | refine blk_drew ?_ | refine blk_alloc ?_ _));exact BK10.out) hb);replace HB:=a0_ (below_step hbw_ hb);(try clear hb);(try clear hb2);(try clear hk);(try clear hi)))
   go_meet
   case rel=>exact ⟨_,(true),(by first | rfl | (simp;done) | (simp [*];done)),H',⟨by first | omega | exact Nat.le_refl _⟩,⟨by (with_reducible repeat (first | apply Kd.R_alloc | apply Kd.R_drewN | apply Kd.R_drew));exact Kd.R_mono HO3.out (fun _ hk=>hk.2)⟩,⟨by (with_reducible repeat (first | apply Kd.R_alloc | apply Kd.R_drewN | apply Kd.R_drew));exact Kd.R_mono HO8.out (fun _ hk=>hk.2)⟩,⟨by (with_reducible repeat (first | refine blk_drewN ?_ _ | refine blk_drew ?_ | refine blk_alloc ?_ _));exact BK5.out⟩,⟨by (with_reducible repeat (first | refine blk_drewN ?_ _ | refine blk_drew ?_ | refine blk_alloc ?_ _));exact BK10.out⟩,⟨hbw_⟩⟩
 case rest =>
  clear HC4
  try clear c1
  try clear c2
  try clear p2
  try clear c3
  try clear c5
  try clear c11
  try clear c12
  try clear c15
  try clear c16
  try clear c16b0
  try clear c16b1
  try clear c16b2
  try clear c17
  try clear c21
  try clear c25
  try clear hcz13_0
  try clear hcz18_0
  try clear hcz19_0
  try clear hcz22_0
  try clear hcz23_0
  try clear hcz26_0
  try clear hcz27_0
  try clear hcz8_0
  try clear hfz13_0
  try clear hfz18_0
  try clear hfz19_0
  try clear hfz22_0
  try clear hfz23_0
  try clear hfz26_0
  try clear hfz27_0
  try clear hfz8_0
  obtain ⟨kq,x29_3,rfl,HA,HJ3,Z6,Z11,BK5,BK10,HB⟩:=hcut
  cases kq with
  | zero=>exact absurd HA.out (by simp [laws_FnTopTree.j0])
  | succ kj3 =>
   have H:=HA.out
   clear HA
   simp only [laws_FnTopTree.j0] at H
   by_cases c29 : x29_3 = true
   ·subst c29
    have H1 : ((laws_equalTree.f kj3 t1 t6).bind fun t12=>(if t12 = true then (some (t4 == t9)) else (some false))) = some r:=by rw [if_pos rfl] at H;exact H
    clear H
    have H:=H1
    clear H1
    replace H:=Option.bind_eq_some_iff.mp H
    obtain ⟨t12,A300,H⟩:=H
    try dsimp only at H
    have A30:=a0_ A300
    clear A300
    by_cases c31 : t12 = true
    ·subst c31
     have H1 : (some (t4 == t9)) = some r:=by rw [if_pos rfl] at H;exact H
     clear H
     have H:=H1
     clear H1
     obtain rfl:=Option.some.inj H
     have hnb32:=NB5_10.out
     have hnc32:=NB10_5.out
     have hcz33_0 : wc.cell? ⟨gb5,0,none⟩ = some (.slice Ao7 t1.length co7):=(blk_cell BK5.out 0).trans rfl
     have hfz33_0:=blk_frozen BK5.out 0
     have hcz34_0 : wc.cell? ⟨gb10,0,none⟩ = some (.slice Ao11 t6.length co11):=(blk_cell BK10.out 0).trans rfl
     have hfz34_0:=blk_frozen BK10.out 0
     go_wp2_with (first | ((with_reducible refine gate_callee (f:=51) rfl ?_);refine goesL_ (some 32) rfl rfl Try.func51 (by kernel_rfl) rfl #[.agg #[.slice Ao7 t1.length co7],.agg #[.slice Ao11 t6.length co11]] rfl lm_ ?_;(with_reducible refine (laws_equalTree.calls kj3 _ _ t1 _ _ t6 true _ ?side1 ?side2 ?side3 ?side4 A30.out).mono ?_);(case side1=>exact cc_ (Kd.R_reads' Z6.out).2.2);(case side2=>exact (Kd.R_reads' Z6.out).2.1);(case side3=>exact cc_ (Kd.R_reads' Z11.out).2.2);(case side4=>exact (Kd.R_reads' Z11.out).2.1);rintro e w35 ⟨rfl,hb⟩;refine ⟨_,rfl,?_⟩;replace Z6:=rb_ Z6 hb;replace Z11:=rb_ Z11 hb;replace BK5:=kb_ BK5 hb;replace BK10:=kb_ BK10 hb;replace HB:=a0_ (below_step hbw_ hb);(try clear hb);(try clear hb2);(try clear hk);(try clear hi)))
     go_ret
     exact ⟨by first | rfl | (simp [errW_none,errW_some] <;> rfl) | (simp [*,errW_none,errW_some] <;> rfl),hbw_⟩
    ·replace c31:=Bool.eq_false_iff.mpr c31
     subst c31
     have H1 : (some false) = some r:=by rw [if_neg (show ¬ (false = true) by decide)] at H;exact H
     clear H
     have H:=H1
     clear H1
     obtain rfl:=Option.some.inj H
     have hnb36:=NB5_10.out
     have hnc36:=NB10_5.out
     have hcz37_0 : wc.cell? ⟨gb5,0,none⟩ = some (.slice Ao7 t1.length co7):=(blk_cell BK5.out 0).trans rfl
     have hfz37_0:=blk_frozen BK5.out 0
     have hcz38_0 : wc.cell? ⟨gb10,0,none⟩ = some (.slice Ao11 t6.length co11):=(blk_cell BK10.out 0).trans rfl
     have hfz38_0:=blk_frozen BK10.out 0
     go_wp2_with (first | ((with_reducible refine gate_callee (f:=51) rfl ?_);refine goesL_ (some 32) rfl rfl Try.func51 (by kernel_rfl) rfl #[.agg #[.slice Ao7 t1.length co7],.agg #[.slice Ao11 t6.length co11]] rfl lm_ ?_;(with_reducible refine (laws_equalTree.calls kj3 _ _ t1 _ _ t6 false _ ?side1 ?side2 ?side3 ?side4 A30.out).mono ?_);(case side1=>exact cc_ (Kd.R_reads' Z6.out).2.2);(case side2=>exact (Kd.R_reads' Z6.out).2.1);(case side3=>exact cc_ (Kd.R_reads' Z11.out).2.2);(case side4=>exact (Kd.R_reads' Z11.out).2.1);rintro e w39 ⟨rfl,hb⟩;refine ⟨_,rfl,?_⟩;replace Z6:=rb_ Z6 hb;replace Z11:=rb_ Z11 hb;replace BK5:=kb_ BK5 hb;replace BK10:=kb_ BK10 hb;replace HB:=a0_ (below_step hbw_ hb);(try clear hb);(try clear hb2);(try clear hk);(try clear hi)))
     go_ret
     exact ⟨by first | rfl | (simp [errW_none,errW_some] <;> rfl) | (simp [*,errW_none,errW_some] <;> rfl),hbw_⟩
   ·replace c29:=Bool.eq_false_iff.mpr c29
    subst c29
    have H1 : ((impl_TreeText.f t1).bind fun t13=>(if t13.toList = a0.toList then ((impl_ValidTree.f t1).bind fun t14=>(some t14)) else (some false))) = some r:=by rw [if_neg (show ¬ (false = true) by decide)] at H;exact H
    clear H
    have H:=H1
    clear H1
    replace H:=Option.bind_eq_some_iff.mp H
    obtain ⟨t13,A400,H⟩:=H
    try dsimp only at H
    have A40:=a0_ A400
    clear A400
    by_cases c41 : t13.toList = a0.toList
    ·rw [if_pos c41] at H
     have c41b0 : (t13.toList == a0.toList) = true:=beq_iff_eq.mpr c41
     have c41b1 : (t13.toList != a0.toList) = false:=bne_eq_false_iff_eq.mpr c41
     clear c41
     replace H:=Option.bind_eq_some_iff.mp H
     obtain ⟨t14,A420,H⟩:=H
     replace H : (some t14) = some r:=H
     have A42:=a0_ A420
     clear A420
     obtain rfl:=Option.some.inj H
     have hnb43:=NB5_10.out
     have hnc43:=NB10_5.out
     have hcz44_0 : wc.cell? ⟨gb5,0,none⟩ = some (.slice Ao7 t1.length co7):=(blk_cell BK5.out 0).trans rfl
     have hfz44_0:=blk_frozen BK5.out 0
     go_wp2_with (first | ((with_reducible refine gate_callee (f:=49) rfl ?_);refine goesL_ (some 39) rfl rfl Try.func49 (by kernel_rfl) rfl #[.agg #[.slice Ao7 t1.length co7]] rfl lm_ ?_;(with_reducible refine (impl_TreeText.calls _ _ t1 t13 _ ?side1 ?side2 A40.out).mono ?_);(case side1=>exact cc_ (Kd.R_reads' Z6.out).2.2);(case side2=>exact (Kd.R_reads' Z6.out).2.1);rintro e w45 ⟨rfl,hb⟩;refine ⟨_,rfl,?_⟩;replace Z6:=rb_ Z6 hb;replace Z11:=rb_ Z11 hb;replace BK5:=kb_ BK5 hb;replace BK10:=kb_ BK10 hb;replace HB:=a0_ (below_step hbw_ hb);(try clear hb);have hcz46_0 : w45.cell? ⟨gb5,0,none⟩ = some (.slice Ao7 t1.length co7):=(blk_cell BK5.out 0).trans rfl;have hfz46_0:=blk_frozen BK5.out 0) | (go_at_call 54;(with_reducible refine (impl_ValidTree.calls _ _ t1 t14 _ ?side1 ?side2 A42.out).mono ?_);(case side1=>exact cc_ (Kd.R_reads' Z6.out).2.2);(case side2=>exact (Kd.R_reads' Z6.out).2.1);rintro e w47 ⟨rfl,hb⟩;replace Z6:=rb_ Z6 hb;replace Z11:=rb_ Z11 hb;replace BK5:=kb_ BK5 hb;replace BK10:=kb_ BK10 hb;replace HB:=a0_ (below_step hbw_ hb);(try clear hb);(try clear hb2);(try clear hk);(try clear hi)))
     go_ret
     exact ⟨by first | rfl | (simp [errW_none,errW_some] <;> rfl) | (simp [*,errW_none,errW_some] <;> rfl),hbw_⟩
    ·rw [if_neg c41] at H
     have c41b0 : (t13.toList == a0.toList) = false:=beq_eq_false_iff_ne.mpr c41
     have c41b1 : (t13.toList != a0.toList) = true:=bne_iff_ne.mpr c41
     obtain rfl:=Option.some.inj H
     have hnb48:=NB5_10.out
     have hnc48:=NB10_5.out
     have hcz49_0 : wc.cell? ⟨gb5,0,none⟩ = some (.slice Ao7 t1.length co7):=(blk_cell BK5.out 0).trans rfl
     have hfz49_0:=blk_frozen BK5.out 0
     go_wp2_with (first | ((with_reducible refine gate_callee (f:=49) rfl ?_);refine goesL_ (some 39) rfl rfl Try.func49 (by kernel_rfl) rfl #[.agg #[.slice Ao7 t1.length co7]] rfl lm_ ?_;(with_reducible refine (impl_TreeText.calls _ _ t1 t13 _ ?side1 ?side2 A40.out).mono ?_);(case side1=>exact cc_ (Kd.R_reads' Z6.out).2.2);(case side2=>exact (Kd.R_reads' Z6.out).2.1);rintro e w50 ⟨rfl,hb⟩;refine ⟨_,rfl,?_⟩;replace Z6:=rb_ Z6 hb;replace Z11:=rb_ Z11 hb;replace BK5:=kb_ BK5 hb;replace BK10:=kb_ BK10 hb;replace HB:=a0_ (below_step hbw_ hb);(try clear hb);(try clear hb2);(try clear hk);(try clear hi)))
     go_ret
     exact ⟨by first | rfl | (simp [errW_none,errW_some] <;> rfl) | (simp [*,errW_none,errW_some] <;> rfl),hbw_⟩
def laws_FnTopTree.Pure : Prop:=∀ (a0 : ByteArray),a0.size ≤ 140737488351232 → ∃ k,laws_FnTopTree.f k a0 = some true
theorem laws_FnTopTree.walk (P : laws_FnTopTree.Pure) (a0 : ByteArray) (w : World) (w0 : a0.size ≤ 140737488351232) :
  Calls Try.prog 11 #[.string a0] w fun e w'=>e = .returned (.bool true) ∧ Below w.heap.size w w':=by
 obtain ⟨k,h⟩:=P a0 w0
 refine (laws_FnTopTree.calls k a0 true w h).mono ?_
 rintro e w' ⟨rfl,hd⟩
 exact ⟨rfl,hd⟩
end Go.Proofs.Ytacgehaipacehaa.P
