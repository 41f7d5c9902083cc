/- Texts under the proof of FnParseTree: helper words, the functions' contracts and the plain laws. No condition. -/
import Derived.Test.YtacgehaipacehaaQFnParseTreea
namespace Go.Proofs.Ytacgehaipacehaa.P
open Go.RowKit Go.Proofs.YtacgehaipacehaaW.PrintWords Go.Proofs.YtacgehaipacehaaW.PrintLast Go.Proofs.YtacgehaipacehaaW.PrintMore
attribute [local go_sem] max2_int min2_int max_two min_two max_three min_three max_four min_four
set_option linter.unusedVariables false
set_option linter.unusedSimpArgs false
def impl_ParseTree.l0 : Nat → ByteArray → ByteArray → List (S125) → Option ((List (S125)) × Bool)
 | 0,_,_,_=>none
 | k + 1,x0,x5,x3000=>if x5.toList = ([] : List UInt8) then ((impl_TreeText.f x3000).bind fun t17=>(if t17.toList = x0.toList then (if x0.toList = ([] : List UInt8) then (some (([] : List (S125)),false)) else ((slices_Clip_Class.f x3000).bind fun t18=>(some (t18,true)))) else (some (([] : List (S125)),false)))) else ((strings_Cut.f x5 (⟨#[10]⟩ : ByteArray)).bind fun bt3=>((strings_Cut.f bt3.1 (⟨#[32]⟩ : ByteArray)).bind fun bt6=>(if bt6.2.2 = true then ((impl_Tree_named.f x3000 bt6.2.1).bind fun t10=>(if x3000.length < 5864062014805 then (impl_ParseTree.l0 k x0 bt3.2.1 (x3000 ++ [(⟨bt6.1,t10⟩ : S125)])) else (none))) else (if x3000.length < 5864062014805 then (impl_ParseTree.l0 k x0 bt3.2.1 (x3000 ++ [(⟨bt6.1,(-1)⟩ : S125)])) else (none)))))
def impl_ParseTree.f (k : Nat) (a0 : ByteArray) : Option ((List (S125)) × Bool):=impl_ParseTree.l0 k a0 a0 ([] : List (S125))
theorem impl_ParseTree.mono_l : ∀ k,(∀ y0 y1 y2,LeO (impl_ParseTree.l0 k y0 y1 y2) (impl_ParseTree.l0 (k + 1) y0 y1 y2))
 | 0=>fun _ _ _ r h=>by simp [impl_ParseTree.l0] at h
 | k + 1=>by
  have ih0:=impl_ParseTree.mono_l k
  ·intro y0 y1 y2
   unfold impl_ParseTree.l0
   repeat' first
   | (with_reducible exact ih0 _ _ _)
   | (with_reducible exact LeO.refl _)
   | (with_reducible exact LeO.none _)
   | (with_reducible refine LeO.ite ?_ ?_)
   | (with_reducible refine LeO.bind ?_ (fun _=>?_))
   | exact ih0 _ _ _
   | exact LeO.none _
   | refine LeO.ite ?_ ?_
   | refine LeO.bind ?_ (fun _=>?_)
theorem impl_ParseTree.mono : ∀ a0 k,LeO (impl_ParseTree.f k a0) (impl_ParseTree.f (k + 1) a0):=by
 intro a0 k
 have ih0:=impl_ParseTree.mono_l k
 unfold impl_ParseTree.f
 repeat' first
   | (with_reducible exact ih0 _ _ _)
   | (with_reducible exact LeO.refl _)
   | (with_reducible exact LeO.none _)
   | (with_reducible refine LeO.ite ?_ ?_)
   | (with_reducible refine LeO.bind ?_ (fun _=>?_))
   | exact ih0 _ _ _
   | exact LeO.none _
   | refine LeO.ite ?_ ?_
   | refine LeO.bind ?_ (fun _=>?_)
set_option maxHeartbeats 8000000 in
set_option maxRecDepth 100000 in
theorem impl_ParseTree.calls (k : Nat) (a0 : ByteArray) (r1 : List (S125)) (r2 : Bool) (w : World) (h : impl_ParseTree.f k a0 = some (r1,r2)) :
  Calls Try.prog 39 #[.string a0] w fun e w'=>∃ v0_ : Value,e = .returned (.tuple #[.agg #[v0_],.bool r2]) ∧ Kd.R k125 125 w' w.heap.size (fun _=>True) v0_ r1 ∧ Below w.heap.size w w':=by
 have hu25:=Try.underlying25
 have hu125:=Try.underlying125
 have HB:=a0_ (Below.refl w.heap.size w)
 have H : (impl_ParseTree.l0 k a0 a0 ([] : List (S125))) = some (r1,r2):=h
 clear h
 have H':=a0_ H
 clear H
 go_enter Try.func39,Try.ntmps39
 go_wp2_with (first | ((with_reducible refine gate_dst (N:=2) rfl ?_);refine box_event ?hg (N:=2) ?hd (cs:=#[.slice none 0 0]) (t:=25) ?hr ?_;(case hd=>rfl);(case hg=>rfl);(case hr=>first | (go_simp;done) | (go_simp;rfl));intro gb1 hg w2 hbox hb;have BK1:=a0_ (hbox);have GW1:=a0_ ((by rw [hg];exact (below_size hbw_) : w.heap.size ≤ gb1));have GE1:=a0_ ((by rw [hg];exact (below_size hbw_) : w.heap.size ≤ gb1));replace HB:=a0_ (below_step hbw_ hb);clear hb hbox hg) | ((with_reducible refine gate_dst (N:=4) rfl ?_);refine box_event ?hg (N:=4) ?hd (cs:=#[.slice none 0 0]) (t:=25) ?hr ?_;(case hd=>rfl);(case hg=>rfl);(case hr=>first | (go_simp;done) | (go_simp;rfl));intro gb2 hg w3 hbox hb;have n0_:=kb_ BK1 hb;have n1_:=a0_ (below_step hbw_ hb);have n2_:=a0_ (hbox);have n3_:=a0_ ((by rw [hg];exact (below_size hbw_) : w.heap.size ≤ gb2));have n4_:=a0_ ((by rw [hg];exact (below_size hbw_) : w.heap.size ≤ gb2));have n5_:=a0_ ((by rw [hg];exact Nat.ne_of_lt (blk_lt (bb_ BK1.out)) : gb1 ≠ gb2));have n6_:=a0_ ((by rw [hg];exact Nat.ne_of_gt (blk_lt (bb_ BK1.out)) : gb2 ≠ gb1));clear BK1 HB;have BK1:=n0_;have HB:=n1_;have BK2:=n2_;have GW2:=n3_;have GE2:=n4_;have NB1_2:=n5_;have NB2_1:=n6_;clear n0_ n1_ n2_ n3_ n4_ n5_ n6_;clear hb hbox hg;have hnb4:=NB2_1.out;have hnc4:=NB1_2.out;have hcz5_0 : w3.cell? ⟨gb2,0,none⟩ = some (.slice none 0 0):=(blk_cell BK2.out 0).trans rfl;have hfz5_0:=blk_frozen BK2.out 0))
 go_loopg [5] k (fun kq v5 w'=>∃ (x5_1 : ByteArray) (x3000_1 : List (S125)) (u3000 : Value),v5 = .string x5_1 ∧ Aside0 (impl_ParseTree.l0 kq a0 x5_1 x3000_1 = some (r1,r2)) ∧ Aside0 (kq ≤ k) ∧ Aside0 (Kd.R k125 125 w' w.heap.size (fun _=>True) u3000 x3000_1) ∧ Aside0 (w'.heap[gb1]? = some (.cells #[(.slice none 0 0)] 25 (0,0))) ∧ Aside0 (w'.heap[gb2]? = some (.cells #[u3000] 25 (0,0))) ∧ Aside0 (Below w.heap.size w w'))
 case atStart=>exact ⟨(a0),(([] : List (S125))),(.slice none 0 0),(by first | rfl | (simp;done) | (simp [*];done)),H',⟨Nat.le_refl _⟩,⟨by first | exact Kd.R_nil _ _ _ _ _ | exact Kd.N_nil _ _ _ _ _ | exact Kd.V_nil _ _ _ _ _ | exact Kd.Q_nil _ _ _ _ _ | exact Kd.S_nil _ _ _ _ _⟩,⟨by (with_reducible repeat (first | refine blk_drewN ?_ _ | refine blk_drew ?_ | refine blk_alloc ?_ _));refine blk_far ?_ NB1_2.out _;(with_reducible repeat (first | refine blk_drewN ?_ _ | refine blk_drew ?_ | refine blk_alloc ?_ _));exact BK1.out⟩,⟨by (with_reducible repeat (first | refine blk_drewN ?_ _ | refine blk_drew ?_ | refine blk_alloc ?_ _));refine blk_put (cs:=#[.slice none 0 0]) ?_ 0 _ rfl;(with_reducible repeat (first | refine blk_drewN ?_ _ | refine blk_drew ?_ | refine blk_alloc ?_ _));exact BK2.out⟩,⟨hbw_⟩⟩
 case round =>
  clear H'
  try clear p2
  try clear c3
  try clear c4
  try clear hcz5_0
  try clear hfz5_0
  obtain ⟨x5_1,x3000_1,u3000,rfl,HA,HK1,Z3,BK1,BK2,HB⟩:=hrel
  cases gk with
  | zero=>exact absurd HA.out (by simp [impl_ParseTree.l0])
  | succ k1 =>
   have H:=HA.out
   clear HA
   simp only [impl_ParseTree.l0] at H
   by_cases c6 : x5_1.toList = ([] : List UInt8)
   ·rw [if_pos c6] at H
    have c6b0 : (x5_1.toList == ([] : List UInt8)) = true:=beq_iff_eq.mpr c6
    have c6b1 : (x5_1.toList != ([] : List UInt8)) = false:=bne_eq_false_iff_eq.mpr c6
    clear c6
    replace H:=Option.bind_eq_some_iff.mp H
    obtain ⟨t17,A70,H⟩:=H
    try dsimp only at H
    have A7:=a0_ A70
    clear A70
    by_cases c8 : t17.toList = a0.toList
    ·rw [if_pos c8] at H
     have c8b0 : (t17.toList == a0.toList) = true:=beq_iff_eq.mpr c8
     have c8b1 : (t17.toList != a0.toList) = false:=bne_eq_false_iff_eq.mpr c8
     clear c8
     by_cases c9 : a0.toList = ([] : List UInt8)
     ·rw [if_pos c9] at H
      have c9b0 : (a0.toList == ([] : List UInt8)) = true:=beq_iff_eq.mpr c9
      have c9b1 : (a0.toList != ([] : List UInt8)) = false:=bne_eq_false_iff_eq.mpr c9
      clear c9
      simp only [Option.some.injEq,Prod.mk.injEq] at H
      obtain ⟨rfl,rfl⟩:=H
      have hnb10:=NB2_1.out
      have hnc10:=NB1_2.out
      have hcz11_0 : wr.cell? ⟨gb2,0,none⟩ = some (u3000):=(blk_cell BK2.out 0).trans rfl
      have hfz11_0:=blk_frozen BK2.out 0
      obtain ⟨Ao12,co12,eo12⟩:=Kd.R_slice Z3.out
      subst eo12
      go_wp2_with (first | ((with_reducible refine gate_callee (f:=49) rfl ?_);refine goesL_ (some 44) rfl rfl Try.func49 (by kernel_rfl) rfl #[.agg #[.slice Ao12 x3000_1.length co12]] rfl lm_ ?_;(with_reducible refine (impl_TreeText.calls _ _ x3000_1 t17 _ ?side1 ?side2 A7.out).mono ?_);(case side1=>exact cc_ (Kd.R_reads' Z3.out).2.2);(case side2=>exact (Kd.R_reads' Z3.out).2.1);rintro e w13 ⟨rfl,hb⟩;refine ⟨_,rfl,?_⟩;replace Z3:=rb_ Z3 hb;replace BK1:=kb_ BK1 hb;replace BK2:=kb_ BK2 hb;replace HB:=a0_ (below_step hbw_ hb);(try clear hb);have hcz14_0 : w13.cell? ⟨gb1,0,none⟩ = some (.slice none 0 0):=(blk_cell BK1.out 0).trans rfl;have hfz14_0:=blk_frozen BK1.out 0))
      refine bodyPost_ret (results_ct rfl _ _ gb1 25 #[.slice none 0 0] (0,0) _ rfl (by (with_reducible repeat (first | refine blk_drewN ?_ _ | refine blk_drew ?_ | refine blk_alloc ?_ _));refine blk_put (cs:=#[.slice none 0 0]) ?_ 0 _ rfl;(with_reducible repeat (first | refine blk_drewN ?_ _ | refine blk_drew ?_ | refine blk_alloc ?_ _));exact BK1.out) Try.underlying25 rfl (by kernel_rfl)) rfl ?_
      exact ⟨_,by first | rfl | (simp [errW_none,errW_some] <;> rfl) | (simp [*,errW_none,errW_some] <;> rfl),by first | exact Kd.R_nil _ _ _ _ _ | exact Kd.N_nil _ _ _ _ _ | exact Kd.V_nil _ _ _ _ _ | exact Kd.Q_nil _ _ _ _ _ | exact Kd.S_nil _ _ _ _ _,hbw_⟩
     ·rw [if_neg c9] at H
      have c9b0 : (a0.toList == ([] : List UInt8)) = false:=beq_eq_false_iff_ne.mpr c9
      have c9b1 : (a0.toList != ([] : List UInt8)) = true:=bne_iff_ne.mpr c9
      replace H:=Option.bind_eq_some_iff.mp H
      obtain ⟨t18,A150,H⟩:=H
      replace H : (some (t18,true)) = some (r1,r2):=H
      have A15:=a0_ A150
      clear A150
      simp only [Option.some.injEq,Prod.mk.injEq] at H
      obtain ⟨rfl,rfl⟩:=H
      have hnb16:=NB2_1.out
      have hnc16:=NB1_2.out
      have hcz17_0 : wr.cell? ⟨gb2,0,none⟩ = some (u3000):=(blk_cell BK2.out 0).trans rfl
      have hfz17_0:=blk_frozen BK2.out 0
      obtain ⟨Ao18,co18,eo18⟩:=Kd.R_slice Z3.out
      subst eo18
      go_wp2_with (first | ((with_reducible refine gate_callee (f:=49) rfl ?_);refine goesL_ (some 44) rfl rfl Try.func49 (by kernel_rfl) rfl #[.agg #[.slice Ao18 x3000_1.length co18]] rfl lm_ ?_;(with_reducible refine (impl_TreeText.calls _ _ x3000_1 t17 _ ?side1 ?side2 A7.out).mono ?_);(case side1=>exact cc_ (Kd.R_reads' Z3.out).2.2);(case side2=>exact (Kd.R_reads' Z3.out).2.1);rintro e w19 ⟨rfl,hb⟩;refine ⟨_,rfl,?_⟩;replace Z3:=rb_ Z3 hb;replace BK1:=kb_ BK1 hb;replace BK2:=kb_ BK2 hb;replace HB:=a0_ (below_step hbw_ hb);(try clear hb);have hcz20_0 : w19.cell? ⟨gb2,0,none⟩ = some (.slice Ao18 x3000_1.length co18):=(blk_cell BK2.out 0).trans rfl;have hfz20_0:=blk_frozen BK2.out 0) | ((with_reducible refine gate_callee (f:=93) rfl ?_);refine goesL_ (some 54) rfl rfl Try.func93 (by kernel_rfl) rfl #[.slice Ao18 x3000_1.length co18] rfl lm_ ?_;(with_reducible refine (slices_Clip_Class.calls (fun k_=>some k_ = (.slice Ao18 x3000_1.length co18 : Value).ownBlock) (.slice Ao18 x3000_1.length co18) x3000_1 t18 w _ ?side1 ?side2 A15.out).mono ?_);(case side1=>exact hbw_);(case side2=>exact Kd.R_tight rfl Z3.out);rintro e w21 ⟨v19,rfl,ho0,hb,hkp⟩;refine ⟨_,rfl,?_⟩;replace BK1:=a0_ (blk_kept (bb_ BK1.out) hkp (fun hs_=>(fun e_=>(Kd.R_ne Z3.out BK1.out (by decide)) e_) hs_));replace BK2:=a0_ (blk_kept (bb_ BK2.out) hkp (fun hs_=>(fun e_=>(Kd.R_ne Z3.out BK2.out (by decide)) e_) hs_));have HO20:=a0_ (Kd.R_mono (ok':=fun k_=>True) ho0 (fun k_ hk_=>trivial));replace HB:=a0_ (hb);clear Z3;(try clear hb);(try clear hkp);(try clear ho0);obtain ⟨Ao22,co22,eo22⟩:=Kd.R_slice HO20.out;subst eo22;have hcz23_0 : w21.cell? ⟨gb1,0,none⟩ = some (.slice none 0 0):=(blk_cell BK1.out 0).trans rfl;have hfz23_0:=blk_frozen BK1.out 0))
      refine bodyPost_ret (results_ct rfl _ _ gb1 25 #[.slice Ao22 t18.length co22] (0,0) _ rfl (by (with_reducible repeat (first | refine blk_drewN ?_ _ | refine blk_drew ?_ | refine blk_alloc ?_ _));refine blk_put (cs:=#[.slice none 0 0]) ?_ 0 _ rfl;(with_reducible repeat (first | refine blk_drewN ?_ _ | refine blk_drew ?_ | refine blk_alloc ?_ _));exact BK1.out) Try.underlying25 rfl (by kernel_rfl)) rfl ?_
      exact ⟨_,by first | rfl | (simp [errW_none,errW_some] <;> rfl) | (simp [*,errW_none,errW_some] <;> rfl),by (with_reducible repeat (first | apply Kd.R_alloc | apply Kd.R_drewN | apply Kd.R_drew));exact Kd.R_mono (Kd.R_far (p:=⟨gb1,0,none⟩) (Kd.R_types HO20.out BK1.out (by decide)) (fun _ hk=>hk.2) (.slice Ao22 t18.length co22)) (fun _ hk=>trivial),hbw_⟩
    ·rw [if_neg c8] at H
     have c8b0 : (t17.toList == a0.toList) = false:=beq_eq_false_iff_ne.mpr c8
     have c8b1 : (t17.toList != a0.toList) = true:=bne_iff_ne.mpr c8
     simp only [Option.some.injEq,Prod.mk.injEq] at H
     obtain ⟨rfl,rfl⟩:=H
     have hnb24:=NB2_1.out
     have hnc24:=NB1_2.out
     have hcz25_0 : wr.cell? ⟨gb2,0,none⟩ = some (u3000):=(blk_cell BK2.out 0).trans rfl
     have hfz25_0:=blk_frozen BK2.out 0
     obtain ⟨Ao26,co26,eo26⟩:=Kd.R_slice Z3.out
     subst eo26
     go_wp2_with (first | ((with_reducible refine gate_callee (f:=49) rfl ?_);refine goesL_ (some 44) rfl rfl Try.func49 (by kernel_rfl) rfl #[.agg #[.slice Ao26 x3000_1.length co26]] rfl lm_ ?_;(with_reducible refine (impl_TreeText.calls _ _ x3000_1 t17 _ ?side1 ?side2 A7.out).mono ?_);(case side1=>exact cc_ (Kd.R_reads' Z3.out).2.2);(case side2=>exact (Kd.R_reads' Z3.out).2.1);rintro e w27 ⟨rfl,hb⟩;refine ⟨_,rfl,?_⟩;replace Z3:=rb_ Z3 hb;replace BK1:=kb_ BK1 hb;replace BK2:=kb_ BK2 hb;replace HB:=a0_ (below_step hbw_ hb);(try clear hb);have hcz28_0 : w27.cell? ⟨gb1,0,none⟩ = some (.slice none 0 0):=(blk_cell BK1.out 0).trans rfl;have hfz28_0:=blk_frozen BK1.out 0))
     refine bodyPost_ret (results_ct rfl _ _ gb1 25 #[.slice none 0 0] (0,0) _ rfl (by (with_reducible repeat (first | refine blk_drewN ?_ _ | refine blk_drew ?_ | refine blk_alloc ?_ _));refine blk_put (cs:=#[.slice none 0 0]) ?_ 0 _ rfl;(with_reducible repeat (first | refine blk_drewN ?_ _ | refine blk_drew ?_ | refine blk_alloc ?_ _));exact BK1.out) Try.underlying25 rfl (by kernel_rfl)) rfl ?_
     exact ⟨_,by first | rfl | (simp [errW_none,errW_some] <;> rfl) | (simp [*,errW_none,errW_some] <;> rfl),by first | exact Kd.R_nil _ _ _ _ _ | exact Kd.N_nil _ _ _ _ _ | exact Kd.V_nil _ _ _ _ _ | exact Kd.Q_nil _ _ _ _ _ | exact Kd.S_nil _ _ _ _ _,hbw_⟩
   ·rw [if_neg c6] at H
    have c6b0 : (x5_1.toList == ([] : List UInt8)) = false:=beq_eq_false_iff_ne.mpr c6
    have c6b1 : (x5_1.toList != ([] : List UInt8)) = true:=bne_iff_ne.mpr c6
    replace H:=Option.bind_eq_some_iff.mp H
    obtain ⟨⟨t3,t4,t5⟩,A290,H⟩:=H
    try dsimp only at H
    have A29:=a0_ A290
    clear A290
    replace H:=Option.bind_eq_some_iff.mp H
    obtain ⟨⟨t6,t7,t8⟩,A300,H⟩:=H
    try dsimp only at H
    have A30:=a0_ A300
    clear A300
    by_cases c31 : t8 = true
    ·subst c31
     have H1 : ((impl_Tree_named.f x3000_1 t7).bind fun t10=>(if x3000_1.length < 5864062014805 then (impl_ParseTree.l0 k1 a0 t4 (x3000_1 ++ [(⟨t6,t10⟩ : S125)])) else (none))) = some (r1,r2):=by rw [if_pos rfl] at H;exact H
     clear H
     have H:=H1
     clear H1
     replace H:=Option.bind_eq_some_iff.mp H
     obtain ⟨t10,A320,H⟩:=H
     try dsimp only at H
     have A32:=a0_ A320
     clear A320
     by_cases c33 : x3000_1.length < 5864062014805
     ·rw [if_pos c33] at H
      have LMc33:=a0_ c33
      clear c33
      obtain ⟨y11,hy11⟩ : ∃ y_ : List (S125),y_ = (x3000_1 ++ [(⟨t6,t10⟩ : S125)]):=⟨_,rfl⟩
      replace H : (impl_ParseTree.l0 k1 a0 t4 y11) = some (r1,r2):=by first | (rw [hy11];with_reducible exact H) | (have H2_:=(Option.bind_some _ _).symm.trans H;rw [hy11];with_reducible exact H2_) | (have H2_:=(Option.bind_some _ _).symm.trans H;with_reducible exact H2_) | with_reducible exact H | (rw [hy11];exact H) | exact H
      have Ny11:=a0_ hy11
      clear hy11
      have H':=a0_ H
      clear H
      go_wp2_with (first | ((with_reducible refine gate_callee (f:=91) rfl ?_);refine goesL_ (some 19) rfl rfl Try.func91 (by kernel_rfl) rfl #[.string x5_1,.string (⟨#[10]⟩ : ByteArray)] rfl lm_ ?_;(with_reducible refine (strings_Cut.calls x5_1 (⟨#[10]⟩ : ByteArray) t3 t4 t5 _ A29.out).mono ?_);rintro e w' ⟨rfl,⟨nd,rfl⟩⟩;refine ⟨_,rfl,?_⟩;(try (rw [drewN_self wr];generalize hq_ : World.drewN wr _ = wr;have n0_ : Aside0 (Kd.R k125 125 wr w.heap.size (fun k_=>True) u3000 x3000_1):=⟨by rw [← hq_];exact (rr_ Z3.out)⟩;have n1_ : Aside0 (wr.heap[gb1]? = some (.cells #[.slice none 0 0] 25 (0,0))):=⟨by rw [← hq_];exact (bb_ BK1.out)⟩;have n2_ : Aside0 (wr.heap[gb2]? = some (.cells #[u3000] 25 (0,0))):=⟨by rw [← hq_];exact (bb_ BK2.out)⟩;have n3_ : Aside0 (Below w.heap.size w wr):=⟨by rw [← hq_];exact hbw_⟩;clear Z3 BK1 BK2 HB hq_;have Z3:=n0_;have BK1:=n1_;have BK2:=n2_;have HB:=n3_;clear n0_ n1_ n2_ n3_))) | ((with_reducible refine gate_callee (f:=91) rfl ?_);refine goesL_ (some 25) rfl rfl Try.func91 (by kernel_rfl) rfl #[.string t3,.string (⟨#[32]⟩ : ByteArray)] rfl lm_ ?_;(with_reducible refine (strings_Cut.calls t3 (⟨#[32]⟩ : ByteArray) t6 t7 true _ A30.out).mono ?_);rintro e w' ⟨rfl,⟨nd,rfl⟩⟩;refine ⟨_,rfl,?_⟩;(try (rw [drewN_self wr];generalize hq_ : World.drewN wr _ = wr;have n0_ : Aside0 (Kd.R k125 125 wr w.heap.size (fun k_=>True) u3000 x3000_1):=⟨by rw [← hq_];exact (rr_ Z3.out)⟩;have n1_ : Aside0 (wr.heap[gb1]? = some (.cells #[.slice none 0 0] 25 (0,0))):=⟨by rw [← hq_];exact (bb_ BK1.out)⟩;have n2_ : Aside0 (wr.heap[gb2]? = some (.cells #[u3000] 25 (0,0))):=⟨by rw [← hq_];exact (bb_ BK2.out)⟩;have n3_ : Aside0 (Below w.heap.size w wr):=⟨by rw [← hq_];exact hbw_⟩;clear Z3 BK1 BK2 HB hq_;have Z3:=n0_;have BK1:=n1_;have BK2:=n2_;have HB:=n3_;clear n0_ n1_ n2_ n3_))) | ((with_reducible refine gate_dst (N:=12) rfl ?_);refine box_event ?hg (N:=12) ?hd (cs:=#[.string (⟨#[]⟩ : ByteArray),.int .i64 0]) (t:=125) ?hr ?_;(case hd=>rfl);(case hg=>rfl);(case hr=>first | (go_simp;done) | (go_simp;rfl));intro gb9 hg w34 hbox hb;have n0_:=a0_ (Kd.R_below (Kd.R_elderB (rr_ Z3.out) gb9 (Nat.le_of_eq hg.symm)) hb);have n1_:=kb_ BK1 hb;have n2_:=kb_ BK2 hb;have n3_:=a0_ (below_step hbw_ hb);have n4_:=a0_ (hbox);have n5_:=a0_ ((by rw [hg];exact (below_size hbw_) : w.heap.size ≤ gb9));have n6_:=a0_ ((by rw [hg];exact (below_size hbw_) : w.heap.size ≤ gb9));have n7_:=a0_ ((by rw [hg];exact Nat.ne_of_lt (blk_lt (bb_ BK1.out)) : gb1 ≠ gb9));have n8_:=a0_ ((by rw [hg];exact Nat.ne_of_gt (blk_lt (bb_ BK1.out)) : gb9 ≠ gb1));have n9_:=a0_ ((by rw [hg];exact Nat.ne_of_lt (blk_lt (bb_ BK2.out)) : gb2 ≠ gb9));have n10_:=a0_ ((by rw [hg];exact Nat.ne_of_gt (blk_lt (bb_ BK2.out)) : gb9 ≠ gb2));clear Z3 BK1;clear BK2 HB;have Z3:=n0_;have BK1:=n1_;have BK2:=n2_;have HB:=n3_;have BK9:=n4_;have GW9:=n5_;have GE9:=n6_;have NB1_9:=n7_;have NB9_1:=n8_;have NB2_9:=n9_;have NB9_2:=n10_;clear n0_ n1_ n2_ n3_ n4_ n5_ n6_ n7_ n8_ n9_ n10_;clear hb hbox hg;have hnb35:=NB9_1.out;have hnc35:=NB1_9.out;have hnb36:=NB9_2.out;have hnc36:=NB2_9.out;have hcz37_0 : w34.cell? ⟨gb9,0,none⟩ = some (.string (⟨#[]⟩ : ByteArray)):=(blk_cell BK9.out 0).trans rfl;have hcz37_1 : w34.cell? ⟨gb9,1,none⟩ = some (.int .i64 0):=(blk_cell BK9.out 1).trans rfl;have hfz37_0:=blk_frozen BK9.out 0;have hfz37_1:=blk_frozen BK9.out 1;have hnb38:=NB2_1.out;have hnc38:=NB1_2.out;have hcz39_0 : w34.cell? ⟨gb2,0,none⟩ = some (u3000):=(blk_cell BK2.out 0).trans rfl;have hfz39_0:=blk_frozen BK2.out 0;obtain ⟨Ao40,co40,eo40⟩:=Kd.R_slice Z3.out;subst eo40) | ((with_reducible refine gate_callee (f:=92) rfl ?_);refine goesL_ (some 34) rfl rfl Try.func92 (by kernel_rfl) rfl #[.agg #[.slice Ao40 x3000_1.length co40],.string t7] rfl lm_ ?_;(with_reducible refine (impl_Tree_named.calls _ _ x3000_1 t7 t10 _ ?side1 ?side2 A32.out).mono ?_);(case side1=>refine (Kd.R_reads' (e:=125) (base:=w.heap.size) (ok:=fun k_=>(True ∧ k_ ≠ gb9)) (n:=x3000_1.length) (c:=co40) ?_).2.2;exact (by (with_reducible repeat (first | apply Kd.R_alloc | apply Kd.R_drewN | apply Kd.R_drew));exact (Kd.R_mono (Kd.R_far (p:=⟨gb9,1,none⟩) (Kd.R_far (p:=⟨gb9,0,none⟩) (Kd.R_mono Z3.out (fun k_ hk=>(⟨hk,hk.2⟩ : _ ∧ k_ ≠ gb9))) (fun _ hk=>hk.2) (.string t6)) (fun _ hk=>hk.2) (.int .i64 (-1))) (fun _ h_=>h_.1))));(case side2=>exact (Kd.R_reads' Z3.out).2.1);rintro e w41 ⟨rfl,hb⟩;refine ⟨_,rfl,?_⟩;replace Z3:=a0_ (Kd.R_below (by (with_reducible repeat (first | apply Kd.R_alloc | apply Kd.R_drewN | apply Kd.R_drew));exact (Kd.R_mono (Kd.R_far (p:=⟨gb9,1,none⟩) (Kd.R_far (p:=⟨gb9,0,none⟩) (Kd.R_mono Z3.out (fun k_ hk=>(⟨hk,hk.2⟩ : _ ∧ k_ ≠ gb9))) (fun _ hk=>hk.2) (.string t6)) (fun _ hk=>hk.2) (.int .i64 (-1))) (fun _ h_=>h_.1))) hb);replace BK1:=a0_ (blk_below (g:=gb1) (o:=.cells #[.slice none 0 0] 25 (0,0)) (bff_ BK1.out) hb);replace BK2:=a0_ (blk_below (g:=gb2) (o:=.cells #[.slice Ao40 x3000_1.length co40] 25 (0,0)) (bff_ BK2.out) hb);replace BK9:=a0_ (blk_below (g:=gb9) (o:=.cells #[.string t6,.int .i64 (-1)] 125 (0,0)) (by (with_reducible repeat (first | refine blk_drewN ?_ _ | refine blk_drew ?_ | refine blk_alloc ?_ _));refine blk_put (cs:=#[.string t6,.int .i64 0]) ?_ 1 _ rfl;(with_reducible repeat (first | refine blk_drewN ?_ _ | refine blk_drew ?_ | refine blk_alloc ?_ _));refine blk_put (cs:=#[.string (⟨#[]⟩ : ByteArray),.int .i64 0]) ?_ 0 _ rfl;(with_reducible repeat (first | refine blk_drewN ?_ _ | refine blk_drew ?_ | refine blk_alloc ?_ _));exact BK9.out) hb);replace HB:=a0_ (below_step hbw_ hb);(try clear hb);have hcz42_0 : w41.cell? ⟨gb9,0,none⟩ = some (.string t6):=(blk_cell BK9.out 0).trans rfl;have hcz42_1 : w41.cell? ⟨gb9,1,none⟩ = some (.int .i64 (-1)):=(blk_cell BK9.out 1).trans rfl;have hfz42_0:=blk_frozen BK9.out 0;have hfz42_1:=blk_frozen BK9.out 1;have hcz43_0 : w41.cell? ⟨gb2,0,none⟩ = some (.slice Ao40 x3000_1.length co40):=(blk_cell BK2.out 0).trans rfl;have hfz43_0:=blk_frozen BK2.out 0) | ((with_reducible refine gate_builtin (b:=.append) (xs:=#[.tmp 37,.tmp 39]) rfl ?_);at_builtin;refine Kd.R_append k125 (w0:=w) w.heap.size rfl (.tmp 37) (.tmp 39) 23 125 (.agg #[(.string ⟨#[]⟩),(.int .i64 0)]) 24 rfl Try.underlying23 info125 rfl (by decide) (by omega) (.slice Ao40 x3000_1.length co40) x3000_1 (⟨t6,t10⟩ : S125) [.string t6,.int .i64 t10] (fun k_=>k_ ≠ gb9) (fun _=>False) rfl (by first | (go_simp;done) | (go_simp;rfl)) ?aP (fun _ hk=>hk.elim) ?aF ?aO ?aB ?aS ?aL ?_;(case aP=>exact k125_mkM _ _ _ (⟨t6,t10⟩ : S125));(case aB=>exact hbw_);(case aF=>exact (fun k_ hk=>Kd.freshB (g:=gb9) (o:=.cells #[.string t6,.int .i64 t10] 125 (0,0)) (by (with_reducible repeat (first | refine blk_drewN ?_ _ | refine blk_drew ?_ | refine blk_alloc ?_ _));refine blk_put (cs:=#[.string t6,.int .i64 (-1)]) ?_ 1 _ rfl;(with_reducible repeat (first | refine blk_drewN ?_ _ | refine blk_drew ?_ | refine blk_alloc ?_ _));exact BK9.out) k_ hk));(case aO=>exact (by (with_reducible repeat (first | apply Kd.R_alloc | apply Kd.R_drewN | apply Kd.R_drew));exact Kd.R_mono (Kd.R_far (p:=⟨gb9,1,none⟩) (Kd.R_mono Z3.out (fun k_ hk=>(⟨hk,hk.2⟩ : _ ∧ k_ ≠ gb9))) (fun _ hk=>hk.2) (.int .i64 t10)) (fun _ hk=>hk.1.2)));(case aS=>exact (below_size hbw_));(case aL=>have:=LMc33.out;omega);intro v12 w44 ho hb hg hat;rw [← Ny11.out] at ho;replace BK1:=a0_ (blk_grown (g:=gb1) (o:=.cells #[.slice none 0 0] 25 (0,0)) (bff_ BK1.out) hg (Kd.R_ne Z3.out BK1.out (by decide)));replace BK2:=a0_ (blk_grown (g:=gb2) (o:=.cells #[.slice Ao40 x3000_1.length co40] 25 (0,0)) (bff_ BK2.out) hg (Kd.R_ne Z3.out BK2.out (by decide)));replace BK9:=a0_ (blk_grown (g:=gb9) (o:=.cells #[.string t6,.int .i64 t10] 125 (0,0)) (by (with_reducible repeat (first | refine blk_drewN ?_ _ | refine blk_drew ?_ | refine blk_alloc ?_ _));refine blk_put (cs:=#[.string t6,.int .i64 (-1)]) ?_ 1 _ rfl;(with_reducible repeat (first | refine blk_drewN ?_ _ | refine blk_drew ?_ | refine blk_alloc ?_ _));exact BK9.out) hg (Kd.R_away Z3.out (fun _ hk=>hk.2)));have HO13:=a0_ (ho);replace HB:=a0_ (hb);clear Z3;clear ho hb hg hat;obtain ⟨Ao45,co45,eo45⟩:=Kd.R_slice HO13.out;subst eo45;have hcz46_0 : w44.cell? ⟨gb2,0,none⟩ = some (.slice Ao40 x3000_1.length co40):=(blk_cell BK2.out 0).trans rfl;have hfz46_0:=blk_frozen BK2.out 0))
      go_roundg k1
      case measure=>have:=HK1.out;omega
      case rel=>exact ⟨(t4),(y11),(.slice Ao45 y11.length co45),(by first | rfl | (simp;done) | (simp [*];done)),H',⟨by have:=HK1.out;omega⟩,⟨by (with_reducible repeat (first | apply Kd.R_alloc | apply Kd.R_drewN | apply Kd.R_drew));exact Kd.R_mono (Kd.R_far (p:=⟨gb2,0,none⟩) (Kd.R_types HO13.out BK2.out (by decide)) (fun _ hk=>hk.2) (.slice Ao45 y11.length co45)) (fun _ hk=>trivial)⟩,⟨by (with_reducible repeat (first | refine blk_drewN ?_ _ | refine blk_drew ?_ | refine blk_alloc ?_ _));refine blk_far ?_ NB1_2.out _;(with_reducible repeat (first | refine blk_drewN ?_ _ | refine blk_drew ?_ | refine blk_alloc ?_ _));exact BK1.out⟩,⟨by (with_reducible repeat (first | refine blk_drewN ?_ _ | refine blk_drew ?_ | refine blk_alloc ?_ _));refine blk_put (cs:=#[.slice Ao40 x3000_1.length co40]) ?_ 0 _ rfl;(with_reducible repeat (first | refine blk_drewN ?_ _ | refine blk_drew ?_ | refine blk_alloc ?_ _));exact BK2.out⟩,⟨hbw_⟩⟩
     ·rw [if_neg c33] at H
      exact absurd H (by simp)
    ·replace c31:=Bool.eq_false_iff.mpr c31
     subst c31
     have H1 : (if x3000_1.length < 5864062014805 then (impl_ParseTree.l0 k1 a0 t4 (x3000_1 ++ [(⟨t6,(-1)⟩ : S125)])) else (none)) = some (r1,r2):=by rw [if_neg (show ¬ (false = true) by decide)] at H;exact H
     clear H
     have H:=H1
     clear H1
     by_cases c47 : x3000_1.length < 5864062014805
     ·rw [if_pos c47] at H
      have LMc47:=a0_ c47
      clear c47
      obtain ⟨y14,hy14⟩ : ∃ y_ : List (S125),y_ = (x3000_1 ++ [(⟨t6,(-1)⟩ : S125)]):=⟨_,rfl⟩
      replace H : (impl_ParseTree.l0 k1 a0 t4 y14) = some (r1,r2):=by first | (rw [hy14];with_reducible exact H) | (have H2_:=(Option.bind_some _ _).symm.trans H;rw [hy14];with_reducible exact H2_) | (have H2_:=(Option.bind_some _ _).symm.trans H;with_reducible exact H2_) | with_reducible exact H | (rw [hy14];exact H) | exact H
      have Ny14:=a0_ hy14
      clear hy14
      have H':=a0_ H
      clear H
      go_wp2_with (first | ((with_reducible refine gate_callee (f:=91) rfl ?_);refine goesL_ (some 19) rfl rfl Try.func91 (by kernel_rfl) rfl #[.string x5_1,.string (⟨#[10]⟩ : ByteArray)] rfl lm_ ?_;(with_reducible refine (strings_Cut.calls x5_1 (⟨#[10]⟩ : ByteArray) t3 t4 t5 _ A29.out).mono ?_);rintro e w' ⟨rfl,⟨nd,rfl⟩⟩;refine ⟨_,rfl,?_⟩;(try (rw [drewN_self wr];generalize hq_ : World.drewN wr _ = wr;have n0_ : Aside0 (Kd.R k125 125 wr w.heap.size (fun k_=>True) u3000 x3000_1):=⟨by rw [← hq_];exact (rr_ Z3.out)⟩;have n1_ : Aside0 (wr.heap[gb1]? = some (.cells #[.slice none 0 0] 25 (0,0))):=⟨by rw [← hq_];exact (bb_ BK1.out)⟩;have n2_ : Aside0 (wr.heap[gb2]? = some (.cells #[u3000] 25 (0,0))):=⟨by rw [← hq_];exact (bb_ BK2.out)⟩;have n3_ : Aside0 (Below w.heap.size w wr):=⟨by rw [← hq_];exact hbw_⟩;clear Z3 BK1 BK2 HB hq_;have Z3:=n0_;have BK1:=n1_;have BK2:=n2_;have HB:=n3_;clear n0_ n1_ n2_ n3_))) | ((with_reducible refine gate_callee (f:=91) rfl ?_);refine goesL_ (some 25) rfl rfl Try.func91 (by kernel_rfl) rfl #[.string t3,.string (⟨#[32]⟩ : ByteArray)] rfl lm_ ?_;(with_reducible refine (strings_Cut.calls t3 (⟨#[32]⟩ : ByteArray) t6 t7 false _ A30.out).mono ?_);rintro e w' ⟨rfl,⟨nd,rfl⟩⟩;refine ⟨_,rfl,?_⟩;(try (rw [drewN_self wr];generalize hq_ : World.drewN wr _ = wr;have n0_ : Aside0 (Kd.R k125 125 wr w.heap.size (fun k_=>True) u3000 x3000_1):=⟨by rw [← hq_];exact (rr_ Z3.out)⟩;have n1_ : Aside0 (wr.heap[gb1]? = some (.cells #[.slice none 0 0] 25 (0,0))):=⟨by rw [← hq_];exact (bb_ BK1.out)⟩;have n2_ : Aside0 (wr.heap[gb2]? = some (.cells #[u3000] 25 (0,0))):=⟨by rw [← hq_];exact (bb_ BK2.out)⟩;have n3_ : Aside0 (Below w.heap.size w wr):=⟨by rw [← hq_];exact hbw_⟩;clear Z3 BK1 BK2 HB hq_;have Z3:=n0_;have BK1:=n1_;have BK2:=n2_;have HB:=n3_;clear n0_ n1_ n2_ n3_))) | ((with_reducible refine gate_dst (N:=12) rfl ?_);refine box_event ?hg (N:=12) ?hd (cs:=#[.string (⟨#[]⟩ : ByteArray),.int .i64 0]) (t:=125) ?hr ?_;(case hd=>rfl);(case hg=>rfl);(case hr=>first | (go_simp;done) | (go_simp;rfl));intro gb9 hg w48 hbox hb;have n0_:=a0_ (Kd.R_below (Kd.R_elderB (rr_ Z3.out) gb9 (Nat.le_of_eq hg.symm)) hb);have n1_:=kb_ BK1 hb;have n2_:=kb_ BK2 hb;have n3_:=a0_ (below_step hbw_ hb);have n4_:=a0_ (hbox);have n5_:=a0_ ((by rw [hg];exact (below_size hbw_) : w.heap.size ≤ gb9));have n6_:=a0_ ((by rw [hg];exact (below_size hbw_) : w.heap.size ≤ gb9));have n7_:=a0_ ((by rw [hg];exact Nat.ne_of_lt (blk_lt (bb_ BK1.out)) : gb1 ≠ gb9));have n8_:=a0_ ((by rw [hg];exact Nat.ne_of_gt (blk_lt (bb_ BK1.out)) : gb9 ≠ gb1));have n9_:=a0_ ((by rw [hg];exact Nat.ne_of_lt (blk_lt (bb_ BK2.out)) : gb2 ≠ gb9));have n10_:=a0_ ((by rw [hg];exact Nat.ne_of_gt (blk_lt (bb_ BK2.out)) : gb9 ≠ gb2));clear Z3 BK1;clear BK2 HB;have Z3:=n0_;have BK1:=n1_;have BK2:=n2_;have HB:=n3_;have BK9:=n4_;have GW9:=n5_;have GE9:=n6_;have NB1_9:=n7_;have NB9_1:=n8_;have NB2_9:=n9_;have NB9_2:=n10_;clear n0_ n1_ n2_ n3_ n4_ n5_ n6_ n7_ n8_ n9_ n10_;clear hb hbox hg;have hnb49:=NB9_1.out;have hnc49:=NB1_9.out;have hnb50:=NB9_2.out;have hnc50:=NB2_9.out;have hcz51_0 : w48.cell? ⟨gb9,0,none⟩ = some (.string (⟨#[]⟩ : ByteArray)):=(blk_cell BK9.out 0).trans rfl;have hcz51_1 : w48.cell? ⟨gb9,1,none⟩ = some (.int .i64 0):=(blk_cell BK9.out 1).trans rfl;have hfz51_0:=blk_frozen BK9.out 0;have hfz51_1:=blk_frozen BK9.out 1;have hnb52:=NB2_1.out;have hnc52:=NB1_2.out;have hcz53_0 : w48.cell? ⟨gb2,0,none⟩ = some (u3000):=(blk_cell BK2.out 0).trans rfl;have hfz53_0:=blk_frozen BK2.out 0) | ((with_reducible refine gate_builtin (b:=.append) (xs:=#[.tmp 37,.tmp 39]) rfl ?_);at_builtin;refine Kd.R_append k125 (w0:=w) w.heap.size rfl (.tmp 37) (.tmp 39) 23 125 (.agg #[(.string ⟨#[]⟩),(.int .i64 0)]) 24 rfl Try.underlying23 info125 rfl (by decide) (by omega) u3000 x3000_1 (⟨t6,(-1)⟩ : S125) [.string t6,.int .i64 (-1)] (fun k_=>k_ ≠ gb9) (fun _=>False) rfl (by first | (go_simp;done) | (go_simp;rfl)) ?aP (fun _ hk=>hk.elim) ?aF ?aO ?aB ?aS ?aL ?_;(case aP=>exact k125_mkM _ _ _ (⟨t6,(-1)⟩ : S125));(case aB=>exact hbw_);(case aF=>exact (fun k_ hk=>Kd.freshB (g:=gb9) (o:=.cells #[.string t6,.int .i64 (-1)] 125 (0,0)) (by (with_reducible repeat (first | refine blk_drewN ?_ _ | refine blk_drew ?_ | refine blk_alloc ?_ _));refine blk_put (cs:=#[.string t6,.int .i64 0]) ?_ 1 _ rfl;(with_reducible repeat (first | refine blk_drewN ?_ _ | refine blk_drew ?_ | refine blk_alloc ?_ _));refine blk_put (cs:=#[.string (⟨#[]⟩ : ByteArray),.int .i64 0]) ?_ 0 _ rfl;(with_reducible repeat (first | refine blk_drewN ?_ _ | refine blk_drew ?_ | refine blk_alloc ?_ _));exact BK9.out) k_ hk));(case aO=>exact (by (with_reducible repeat (first | apply Kd.R_alloc | apply Kd.R_drewN | apply Kd.R_drew));exact Kd.R_mono (Kd.R_far (p:=⟨gb9,1,none⟩) (Kd.R_far (p:=⟨gb9,0,none⟩) (Kd.R_mono Z3.out (fun k_ hk=>(⟨hk,hk.2⟩ : _ ∧ k_ ≠ gb9))) (fun _ hk=>hk.2) (.string t6)) (fun _ hk=>hk.2) (.int .i64 (-1))) (fun _ hk=>hk.1.2)));(case aS=>exact (below_size hbw_));(case aL=>have:=LMc47.out;omega);intro v15 w54 ho hb hg hat;rw [← Ny14.out] at ho;replace BK1:=a0_ (blk_grown (g:=gb1) (o:=.cells #[.slice none 0 0] 25 (0,0)) (bff_ BK1.out) hg (Kd.R_ne Z3.out BK1.out (by decide)));replace BK2:=a0_ (blk_grown (g:=gb2) (o:=.cells #[u3000] 25 (0,0)) (bff_ BK2.out) hg (Kd.R_ne Z3.out BK2.out (by decide)));replace BK9:=a0_ (blk_grown (g:=gb9) (o:=.cells #[.string t6,.int .i64 (-1)] 125 (0,0)) (by (with_reducible repeat (first | refine blk_drewN ?_ _ | refine blk_drew ?_ | refine blk_alloc ?_ _));refine blk_put (cs:=#[.string t6,.int .i64 0]) ?_ 1 _ rfl;(with_reducible repeat (first | refine blk_drewN ?_ _ | refine blk_drew ?_ | refine blk_alloc ?_ _));refine blk_put (cs:=#[.string (⟨#[]⟩ : ByteArray),.int .i64 0]) ?_ 0 _ rfl;(with_reducible repeat (first | refine blk_drewN ?_ _ | refine blk_drew ?_ | refine blk_alloc ?_ _));exact BK9.out) hg (Kd.R_away Z3.out (fun _ hk=>hk.2)));have HO16:=a0_ (ho);replace HB:=a0_ (hb);clear Z3;clear ho hb hg hat;obtain ⟨Ao55,co55,eo55⟩:=Kd.R_slice HO16.out;subst eo55;have hcz56_0 : w54.cell? ⟨gb2,0,none⟩ = some (u3000):=(blk_cell BK2.out 0).trans rfl;have hfz56_0:=blk_frozen BK2.out 0))
      go_roundg k1
      case measure=>have:=HK1.out;omega
      case rel=>exact ⟨(t4),(y14),(.slice Ao55 y14.length co55),(by first | rfl | (simp;done) | (simp [*];done)),H',⟨by have:=HK1.out;omega⟩,⟨by (with_reducible repeat (first | apply Kd.R_alloc | apply Kd.R_drewN | apply Kd.R_drew));exact Kd.R_mono (Kd.R_far (p:=⟨gb2,0,none⟩) (Kd.R_types HO16.out BK2.out (by decide)) (fun _ hk=>hk.2) (.slice Ao55 y14.length co55)) (fun _ hk=>trivial)⟩,⟨by (with_reducible repeat (first | refine blk_drewN ?_ _ | refine blk_drew ?_ | refine blk_alloc ?_ _));refine blk_far ?_ NB1_2.out _;(with_reducible repeat (first | refine blk_drewN ?_ _ | refine blk_drew ?_ | refine blk_alloc ?_ _));exact BK1.out⟩,⟨by (with_reducible repeat (first | refine blk_drewN ?_ _ | refine blk_drew ?_ | refine blk_alloc ?_ _));refine blk_put (cs:=#[u3000]) ?_ 0 _ rfl;(with_reducible repeat (first | refine blk_drewN ?_ _ | refine blk_drew ?_ | refine blk_alloc ?_ _));exact BK2.out⟩,⟨hbw_⟩⟩
     ·rw [if_neg c47] at H
      exact absurd H (by simp)
theorem cutB_size (c : UInt8) (s : ByteArray) : (cutB c s).1.size ≤ s.size ∧ (s.size ≠ 0 → (cutB c s).2.1.size < s.size):=by
 have h:=cuL_len c s.data.toList
 have e : s.data.toList.length = s.size:=toL_len s
 rw [e] at h
 have e1 : (cutB c s).1.size = (cuL c s.data.toList).1.length:=toB_size _
 have e2 : (cutB c s).2.1.size = (cuL c s.data.toList).2.1.length:=toB_size _
 rw [e1,e2]
 refine ⟨h.1,fun hn=>h.2 (fun hh=>hn ?_)⟩
 rw [← e,hh]
 rfl
theorem toL_nil {s : ByteArray} : s.toList = ([] : List UInt8) ↔ s.size = 0:=by
 rw [toL,← toL_len]
 exact List.length_eq_zero_iff.symm
theorem impl_ParseTree_l0 (s : ByteArray) (hs : s.size ≤ 5864062000000) : ∀ (n : Nat) (acc : List Cls) (r : ByteArray),r.size ≤ n → acc.length + r.size ≤ s.size → (∀ x ∈ acc,x.f0.size ≤ s.size) → Ev (fun k=>impl_ParseTree.l0 k s r acc) (if okTx (parI n acc r) s = true then (parI n acc r,true) else ([],false)):=by
 have stop : ∀ (n : Nat) (acc : List Cls) (r : ByteArray),r.size = 0 → (∀ x ∈ acc,x.f0.size ≤ s.size) → Ev (fun k=>impl_ParseTree.l0 k s r acc) (if okTx (parI n acc r) s = true then (parI n acc r,true) else ([],false)):=by
  intro n acc r hr hz
  have hp : parI n acc r = acc:=by
   cases n with
   | zero=>rfl
   | succ n=>rw [parI,if_pos hr]
  have hsm : smT acc = true:=by
   unfold smT
   rw [List.all_eq_true]
   intro x hx
   have:=hz x hx
   exact decide_eq_true (by omega)
  rw [hp]
  have hT:=impl_TreeText_ev acc hsm
  unfold textP at hT
  cases hv : vT acc with
  | true =>
   rw [hv,if_pos rfl] at hT
   have hne:=(treeTx_size hv).1
   by_cases e : treeTx acc = s
   ·rw [show okTx acc s = true by unfold okTx;rw [hv,decide_eq_true e];rfl,if_pos rfl]
    refine Ev.succ ?_
    simp only [impl_ParseTree.l0]
    refine Ev.pos (toL_nil.2 hr) ?_
    refine Ev.bind (Ev.const hT) ?_
    refine Ev.pos (by rw [e]) ?_
    refine Ev.neg (fun h=>?_) ?_
    ·rw [toL_nil,← e] at h
     omega
    ·exact Ev.bind (Ev.const (slices_Clip_Class_ev acc)) (Ev.const rfl)
   ·rw [show okTx acc s = false by unfold okTx;rw [decide_eq_false e,Bool.and_false],if_neg (by simp)]
    refine Ev.succ ?_
    simp only [impl_ParseTree.l0]
    refine Ev.pos (toL_nil.2 hr) ?_
    refine Ev.bind (Ev.const hT) ?_
    exact Ev.neg (fun h=>e (toL_inj.1 h)) (Ev.const rfl)
  | false =>
   rw [hv,if_neg (by simp)] at hT
   rw [show okTx acc s = false by unfold okTx;rw [hv,Bool.false_and],if_neg (by simp)]
   refine Ev.succ ?_
   simp only [impl_ParseTree.l0]
   refine Ev.pos (toL_nil.2 hr) ?_
   refine Ev.bind (Ev.const hT) ?_
   by_cases e : ByteArray.empty = s
   ·refine Ev.pos (congrArg ByteArray.toList e) ?_
    exact Ev.pos (toL_nil.2 (by rw [← e];rfl)) (Ev.const rfl)
   ·exact Ev.neg (fun h=>e (toL_inj.1 h)) (Ev.const rfl)
 intro n
 induction n with
 | zero=>intro acc r hr _ hz;exact stop 0 acc r (by omega) hz
 | succ n ih =>
  intro acc r hr ha hz
  by_cases h0 : r.size = 0
  ·exact stop (n + 1) acc r h0 hz
  ·have hsz:=cutB_size 10 r
   have hsz2:=cutB_size 32 (cutB 10 r).1
   have hlt:=hsz.2 h0
   rw [parI,if_neg h0]
   have c1 : strings_Cut.f r (⟨#[10]⟩ : ByteArray) = some (cutB 10 r):=by rw [strings_Cut.f,if_pos ⟨rfl,by omega⟩];rfl
   have c2 : strings_Cut.f (cutB 10 r).1 (⟨#[32]⟩ : ByteArray) = some (cutB 32 (cutB 10 r).1):=by rw [strings_Cut.f,if_pos ⟨rfl,by omega⟩];rfl
   have hnew:=ih (acc ++ [clsOf acc (cutB 10 r).1]) (cutB 10 r).2.1 (by omega) (by rw [List.length_append,List.length_singleton];omega) (fun x hx=>by
    rcases List.mem_append.1 hx with hx | hx
    ·exact hz x hx
    ·obtain rfl : x = clsOf acc (cutB 10 r).1:=by simpa using hx
     show (cutB 32 (cutB 10 r).1).1.size ≤ s.size
     omega)
   generalize hA : (if okTx (parI n (acc ++ [clsOf acc (cutB 10 r).1]) (cutB 10 r).2.1) s = true then (parI n (acc ++ [clsOf acc (cutB 10 r).1]) (cutB 10 r).2.1,true) else ([],false)) = A at hnew ⊢
   clear hA
   refine Ev.succ ?_
   simp only [impl_ParseTree.l0]
   refine Ev.neg (fun h=>h0 (toL_nil.1 h)) ?_
   refine Ev.bind (Ev.const c1) ?_
   refine Ev.bind (Ev.const c2) ?_
   unfold clsOf at hnew
   cases hb : (cutB 32 (cutB 10 r).1).2.2 with
   | true =>
    rw [hb,if_pos rfl] at hnew
    refine Ev.pos rfl ?_
    refine Ev.bind (Ev.const rfl) ?_
    exact Ev.pos (by omega) hnew
   | false =>
    rw [hb,if_neg (by simp)] at hnew
    refine Ev.neg (by simp) ?_
    exact Ev.pos (by omega) hnew
theorem impl_ParseTree_ev (s : ByteArray) (hs : s.size ≤ 5864062000000) : Ev (fun k=>impl_ParseTree.f k s) (parP s):=by
 have:=impl_ParseTree_l0 s hs s.size [] s (Nat.le_refl _) (by simp) (fun x hx=>absurd hx (by simp))
 unfold impl_ParseTree.f parP
 exact this
end Go.Proofs.Ytacgehaipacehaa.P
namespace Go.Proofs.Ytacgehaipacehaa.P
open Go.RowKit Go.Proofs.YtacgehaipacehaaW.PrintWords Go.Proofs.YtacgehaipacehaaW.PrintLast Go.Proofs.YtacgehaipacehaaW.PrintMore
attribute [local go_sem] max2_int min2_int max_two min_two max_three min_three max_four min_four
set_option linter.unusedVariables false
set_option linter.unusedSimpArgs false
theorem eqA125 (d : Nat) (w : World) (x0 y0 : ByteArray) (x1 y1 : Int) :
  (Op.equalIn (d + 2) 125 (.agg #[.string x0,.int .i64 x1]) (.agg #[.string y0,.int .i64 y1])).run Try.prog w = .ok (x0.toList == y0.toList && (x1 == y1)) w:=by
 refine eqA_of Try.underlying125 (by kernel_rfl) ?_
 refine eqf_cons (by rfl) (by go_simp;rfl) (by go_simp;rfl) (by go_simp) ?_
 exact eqf_last (by rfl) (by go_simp;rfl) (by go_simp;rfl) (by go_simp)
end Go.Proofs.Ytacgehaipacehaa.P
namespace Go.Proofs.Ytacgehaipacehaa.P
open Go.RowKit Go.Proofs.YtacgehaipacehaaW.PrintWords Go.Proofs.YtacgehaipacehaaW.PrintLast Go.Proofs.YtacgehaipacehaaW.PrintMore
attribute [local go_sem] max2_int min2_int max_two min_two max_three min_three max_four min_four
set_option linter.unusedVariables false
set_option linter.unusedSimpArgs false
attribute [local go_sem high] eqA125
def laws_equalTree.l0 : Nat → Int → List (S125) → List (S125) → Option (Bool)
 | 0,_,_,_=>none
 | k + 1,x5,x2000,x3000=>if x5 < (x2000.length : Int) then (if 0 ≤ x5 then (if x5 < (x3000.length : Int) then (if (!((((rd_T125 x2000 x5).f0).toList) == (((rd_T125 x3000 x5).f0).toList)) || (!(((rd_T125 x2000 x5).f1) == ((rd_T125 x3000 x5).f1)))) = true then (some false) else (laws_equalTree.l0 k (wrap64 (x5 + 1)) x2000 x3000)) else (none)) else (none)) else (some true)
def laws_equalTree.f (k : Nat) (l0_0 : List (S125)) (l1_0 : List (S125)) : Option (Bool):=if (l0_0.length : Int) = (l1_0.length : Int) then (laws_equalTree.l0 k 0 l0_0 l1_0) else (some false)
theorem laws_equalTree.mono_l : ∀ k,(∀ y0 y1 y2,LeO (laws_equalTree.l0 k y0 y1 y2) (laws_equalTree.l0 (k + 1) y0 y1 y2))
 | 0=>fun _ _ _ r h=>by simp [laws_equalTree.l0] at h
 | k + 1=>by
  have ih0:=laws_equalTree.mono_l k
  ·intro y0 y1 y2
   unfold laws_equalTree.l0
   repeat' first
   | (with_reducible exact ih0 _ _ _)
   | (with_reducible exact LeO.refl _)
   | (with_reducible exact LeO.none _)
   | (with_reducible refine LeO.ite ?_ ?_)
   | (with_reducible refine LeO.bind ?_ (fun _=>?_))
   | exact ih0 _ _ _
   | exact LeO.none _
   | refine LeO.ite ?_ ?_
   | refine LeO.bind ?_ (fun _=>?_)
theorem laws_equalTree.mono : ∀ a0 a1 k,LeO (laws_equalTree.f k a0 a1) (laws_equalTree.f (k + 1) a0 a1):=by
 intro a0 a1 k
 have ih0:=laws_equalTree.mono_l k
 unfold laws_equalTree.f
 repeat' first
   | (with_reducible exact ih0 _ _ _)
   | (with_reducible exact LeO.refl _)
   | (with_reducible exact LeO.none _)
   | (with_reducible refine LeO.ite ?_ ?_)
   | (with_reducible refine LeO.bind ?_ (fun _=>?_))
   | exact ih0 _ _ _
   | exact LeO.none _
   | refine LeO.ite ?_ ?_
   | refine LeO.bind ?_ (fun _=>?_)
set_option maxHeartbeats 8000000 in
set_option maxRecDepth 100000 in
theorem laws_equalTree.calls (k : Nat) (A0_0 : Option Addr) (c0_0 : Nat) (l0_0 : List (S125)) (A1_0 : Option Addr) (c1_0 : Nat) (l1_0 : List (S125)) (r : Bool) (w : World) (hr0_0 : Kd.C k125 w A0_0 l0_0.length l0_0) (hc0_0 : l0_0.length ≤ c0_0) (hr1_0 : Kd.C k125 w A1_0 l1_0.length l1_0) (hc1_0 : l1_0.length ≤ c1_0) (h : laws_equalTree.f k l0_0 l1_0 = some r) :
  Calls Try.prog 51 #[.agg #[.slice A0_0 l0_0.length c0_0],.agg #[.slice A1_0 l1_0.length c1_0]] w fun e w'=>e = .returned (.bool r) ∧ Below w.heap.size w w':=by
 have hu25:=Try.underlying25
 have hu125:=Try.underlying125
 have HR0_0:=a0_ hr0_0
 have HC0_0:=a0_ hc0_0
 clear hr0_0 hc0_0
 have HR1_0:=a0_ hr1_0
 have HC1_0:=a0_ hc1_0
 clear hr1_0 hc1_0
 have HB:=a0_ (Below.refl w.heap.size w)
 have H : (if (l0_0.length : Int) = (l1_0.length : Int) then (laws_equalTree.l0 k 0 l0_0 l1_0) else (some false)) = some r:=h
 clear h
 by_cases c3 : (l0_0.length : Int) = (l1_0.length : Int)
 ·rw [if_pos c3] at H
  have c3b0 : ((l0_0.length : Int) == (l1_0.length : Int)) = true:=beq_iff_eq.mpr c3
  have c3b1 : ((l0_0.length : Int) != (l1_0.length : Int)) = false:=bne_eq_false_iff_eq.mpr c3
  have c3b2 : (l0_0.length == l1_0.length) = true:=by first | simpa using c3 | (simp at c3 ⊢;omega)
  clear c3
  have H':=a0_ H
  clear H
  go_enter Try.func51,Try.ntmps51
  go_wp2_with (first | ((with_reducible refine gate_dst (N:=2) rfl ?_);refine box_event ?hg (N:=2) ?hd (cs:=#[.slice A0_0 l0_0.length c0_0]) (t:=25) ?hr ?_;(case hd=>rfl);(case hg=>rfl);(case hr=>first | (go_simp;done) | (go_simp;rfl));intro gb1 hg w4 hbox hb;have BK1:=a0_ (hbox);have GW1:=a0_ ((by rw [hg];exact (below_size hbw_) : w.heap.size ≤ gb1));have GE1:=a0_ ((by rw [hg];exact (below_size hbw_) : w.heap.size ≤ gb1));replace HB:=a0_ (below_step hbw_ hb);clear hb hbox hg) | ((with_reducible refine gate_dst (N:=3) rfl ?_);refine box_event ?hg (N:=3) ?hd (cs:=#[.slice A1_0 l1_0.length c1_0]) (t:=25) ?hr ?_;(case hd=>rfl);(case hg=>rfl);(case hr=>first | (go_simp;done) | (go_simp;rfl));intro gb2 hg w5 hbox hb;have n0_:=kb_ BK1 hb;have n1_:=a0_ (below_step hbw_ hb);have n2_:=a0_ (hbox);have n3_:=a0_ ((by rw [hg];exact (below_size hbw_) : w.heap.size ≤ gb2));have n4_:=a0_ ((by rw [hg];exact (below_size hbw_) : w.heap.size ≤ gb2));have n5_:=a0_ ((by rw [hg];exact Nat.ne_of_lt (blk_lt (bb_ BK1.out)) : gb1 ≠ gb2));have n6_:=a0_ ((by rw [hg];exact Nat.ne_of_gt (blk_lt (bb_ BK1.out)) : gb2 ≠ gb1));clear BK1 HB;have BK1:=n0_;have HB:=n1_;have BK2:=n2_;have GW2:=n3_;have GE2:=n4_;have NB1_2:=n5_;have NB2_1:=n6_;clear n0_ n1_ n2_ n3_ n4_ n5_ n6_;clear hb hbox hg;have hnb6:=NB1_2.out;have hnc6:=NB2_1.out;have hcz7_0 : w5.cell? ⟨gb1,0,none⟩ = some (.slice A0_0 l0_0.length c0_0):=(blk_cell BK1.out 0).trans rfl;have hfz7_0:=blk_frozen BK1.out 0;have hcz8_0 : w5.cell? ⟨gb2,0,none⟩ = some (.slice A1_0 l1_0.length c1_0):=(blk_cell BK2.out 0).trans rfl;have hfz8_0:=blk_frozen BK2.out 0))
  repeat (go_quiet (first | ((with_reducible refine gate_dst (N:=2) rfl ?_);refine box_event ?hg (N:=2) ?hd (cs:=#[.slice A0_0 l0_0.length c0_0]) (t:=25) ?hr ?_;(case hd=>rfl);(case hg=>rfl);(case hr=>first | (go_simp;done) | (go_simp;rfl));intro gb1 hg w4 hbox hb;have BK1:=a0_ (hbox);have GW1:=a0_ ((by rw [hg];exact (below_size hbw_) : w.heap.size ≤ gb1));have GE1:=a0_ ((by rw [hg];exact (below_size hbw_) : w.heap.size ≤ gb1));replace HB:=a0_ (below_step hbw_ hb);clear hb hbox hg) | ((with_reducible refine gate_dst (N:=3) rfl ?_);refine box_event ?hg (N:=3) ?hd (cs:=#[.slice A1_0 l1_0.length c1_0]) (t:=25) ?hr ?_;(case hd=>rfl);(case hg=>rfl);(case hr=>first | (go_simp;done) | (go_simp;rfl));intro gb2 hg w5 hbox hb;have n0_:=kb_ BK1 hb;have n1_:=a0_ (below_step hbw_ hb);have n2_:=a0_ (hbox);have n3_:=a0_ ((by rw [hg];exact (below_size hbw_) : w.heap.size ≤ gb2));have n4_:=a0_ ((by rw [hg];exact (below_size hbw_) : w.heap.size ≤ gb2));have n5_:=a0_ ((by rw [hg];exact Nat.ne_of_lt (blk_lt (bb_ BK1.out)) : gb1 ≠ gb2));have n6_:=a0_ ((by rw [hg];exact Nat.ne_of_gt (blk_lt (bb_ BK1.out)) : gb2 ≠ gb1));clear BK1 HB;have BK1:=n0_;have HB:=n1_;have BK2:=n2_;have GW2:=n3_;have GE2:=n4_;have NB1_2:=n5_;have NB2_1:=n6_;clear n0_ n1_ n2_ n3_ n4_ n5_ n6_;clear hb hbox hg;have hnb6:=NB1_2.out;have hnc6:=NB2_1.out;have hcz7_0 : w5.cell? ⟨gb1,0,none⟩ = some (.slice A0_0 l0_0.length c0_0):=(blk_cell BK1.out 0).trans rfl;have hfz7_0:=blk_frozen BK1.out 0;have hcz8_0 : w5.cell? ⟨gb2,0,none⟩ = some (.slice A1_0 l1_0.length c1_0):=(blk_cell BK2.out 0).trans rfl;have hfz8_0:=blk_frozen BK2.out 0));try go_wp2_with (first | ((with_reducible refine gate_dst (N:=2) rfl ?_);refine box_event ?hg (N:=2) ?hd (cs:=#[.slice A0_0 l0_0.length c0_0]) (t:=25) ?hr ?_;(case hd=>rfl);(case hg=>rfl);(case hr=>first | (go_simp;done) | (go_simp;rfl));intro gb1 hg w4 hbox hb;have BK1:=a0_ (hbox);have GW1:=a0_ ((by rw [hg];exact (below_size hbw_) : w.heap.size ≤ gb1));have GE1:=a0_ ((by rw [hg];exact (below_size hbw_) : w.heap.size ≤ gb1));replace HB:=a0_ (below_step hbw_ hb);clear hb hbox hg) | ((with_reducible refine gate_dst (N:=3) rfl ?_);refine box_event ?hg (N:=3) ?hd (cs:=#[.slice A1_0 l1_0.length c1_0]) (t:=25) ?hr ?_;(case hd=>rfl);(case hg=>rfl);(case hr=>first | (go_simp;done) | (go_simp;rfl));intro gb2 hg w5 hbox hb;have n0_:=kb_ BK1 hb;have n1_:=a0_ (below_step hbw_ hb);have n2_:=a0_ (hbox);have n3_:=a0_ ((by rw [hg];exact (below_size hbw_) : w.heap.size ≤ gb2));have n4_:=a0_ ((by rw [hg];exact (below_size hbw_) : w.heap.size ≤ gb2));have n5_:=a0_ ((by rw [hg];exact Nat.ne_of_lt (blk_lt (bb_ BK1.out)) : gb1 ≠ gb2));have n6_:=a0_ ((by rw [hg];exact Nat.ne_of_gt (blk_lt (bb_ BK1.out)) : gb2 ≠ gb1));clear BK1 HB;have BK1:=n0_;have HB:=n1_;have BK2:=n2_;have GW2:=n3_;have GE2:=n4_;have NB1_2:=n5_;have NB2_1:=n6_;clear n0_ n1_ n2_ n3_ n4_ n5_ n6_;clear hb hbox hg;have hnb6:=NB1_2.out;have hnc6:=NB2_1.out;have hcz7_0 : w5.cell? ⟨gb1,0,none⟩ = some (.slice A0_0 l0_0.length c0_0):=(blk_cell BK1.out 0).trans rfl;have hfz7_0:=blk_frozen BK1.out 0;have hcz8_0 : w5.cell? ⟨gb2,0,none⟩ = some (.slice A1_0 l1_0.length c1_0):=(blk_cell BK2.out 0).trans rfl;have hfz8_0:=blk_frozen BK2.out 0)))
  go_loopg [5] k (fun kq v5 w'=>∃ (x5_1 : Int),v5 = .int .i64 x5_1 ∧ Aside0 (laws_equalTree.l0 kq x5_1 l0_0 l1_0 = some r) ∧ Aside0 (kq ≤ k) ∧ Aside0 (w'.heap[gb1]? = some (.cells #[(.slice A0_0 l0_0.length c0_0)] 25 (0,0))) ∧ Aside0 (w'.heap[gb2]? = some (.cells #[(.slice A1_0 l1_0.length c1_0)] 25 (0,0))) ∧ Aside0 (Below w.heap.size w w'))
  case atStart=>exact ⟨(0),(by first | rfl | (simp;done) | (simp [*];done)),H',⟨Nat.le_refl _⟩,⟨by (with_reducible repeat (first | refine blk_drewN ?_ _ | refine blk_drew ?_ | refine blk_alloc ?_ _));exact BK1.out⟩,⟨by (with_reducible repeat (first | refine blk_drewN ?_ _ | refine blk_drew ?_ | refine blk_alloc ?_ _));exact BK2.out⟩,⟨hbw_⟩⟩
  case round =>
   clear H'
   try clear c1
   try clear p2
   try clear c3
   try clear c3b0
   try clear c3b1
   try clear c3b2
   try clear c5
   try clear c6
   try clear hcz7_0
   try clear hcz8_0
   try clear hfz7_0
   try clear hfz8_0
   obtain ⟨x5_1,rfl,HA,HK1,BK1,BK2,HB⟩:=hrel
   cases gk with
   | zero=>exact absurd HA.out (by simp [laws_equalTree.l0])
   | succ k1 =>
    have H:=HA.out
    clear HA
    simp only [laws_equalTree.l0] at H
    by_cases c9 : x5_1 < (l0_0.length : Int)
    ·rw [if_pos c9] at H
     have c9b0 : decide (x5_1 < (l0_0.length : Int)) = true:=decide_eq_true c9
     clear c9
     by_cases c10 : 0 ≤ x5_1
     ·rw [if_pos c10] at H
      have c10b0 : decide (0 ≤ x5_1) = true:=decide_eq_true c10
      clear c10
      by_cases c11 : x5_1 < (l1_0.length : Int)
      ·rw [if_pos c11] at H
       have c11b0 : decide (x5_1 < (l1_0.length : Int)) = true:=decide_eq_true c11
       clear c11
       by_cases c12 : (!((((rd_T125 l0_0 x5_1).f0).toList) == (((rd_T125 l1_0 x5_1).f0).toList)) || (!(((rd_T125 l0_0 x5_1).f1) == ((rd_T125 l1_0 x5_1).f1)))) = true
       ·rw [if_pos c12] at H
        have c12b0 : (!((((rd_T125 l0_0 x5_1).f0).toList) == (((rd_T125 l1_0 x5_1).f0).toList)) || (!(((rd_T125 l0_0 x5_1).f1) == ((rd_T125 l1_0 x5_1).f1)))) = true:=c12
        clear c12
        obtain rfl:=Option.some.inj H
        have hnb13:=NB1_2.out
        have hnc13:=NB2_1.out
        have hcz14_0 : wr.cell? ⟨gb1,0,none⟩ = some (.slice A0_0 l0_0.length c0_0):=(blk_cell BK1.out 0).trans rfl
        have hfz14_0:=blk_frozen BK1.out 0
        have p3 : 0 ≤ (x5_1 : Int):=of_decide_eq_true (by first | (with_reducible assumption) | assumption)
        have q3 : x5_1 < (l0_0.length : Int):=of_decide_eq_true (by first | (with_reducible assumption) | assumption)
        obtain ⟨ad3,e3,hx3_0,hx3_1⟩:=at_T125 HR0_0.out x5_1 p3 q3
        cases e3
        replace hx3_0:=(HB.out.cell (World.block_lt_of_cell? w _ hx3_0)).trans hx3_0
        replace hx3_1:=(HB.out.cell (World.block_lt_of_cell? w _ hx3_1)).trans hx3_1
        replace p3:=eq_true p3
        replace q3:=eq_true q3
        have hcz15_0 : wr.cell? ⟨gb2,0,none⟩ = some (.slice A1_0 l1_0.length c1_0):=(blk_cell BK2.out 0).trans rfl
        have hfz15_0:=blk_frozen BK2.out 0
        have p4 : 0 ≤ (x5_1 : Int):=of_decide_eq_true (by first | (with_reducible assumption) | assumption)
        have q4 : x5_1 < (l1_0.length : Int):=of_decide_eq_true (by first | (with_reducible assumption) | assumption)
        obtain ⟨ad4,e4,hx4_0,hx4_1⟩:=at_T125 HR1_0.out x5_1 p4 q4
        cases e4
        replace hx4_0:=(HB.out.cell (World.block_lt_of_cell? w _ hx4_0)).trans hx4_0
        replace hx4_1:=(HB.out.cell (World.block_lt_of_cell? w _ hx4_1)).trans hx4_1
        replace p4:=eq_true p4
        replace q4:=eq_true q4
        go_wp2
        repeat (go_quiet (fail);try go_wp2)
        go_ret
        exact ⟨by first | rfl | (simp [errW_none,errW_some] <;> rfl) | (simp [*,errW_none,errW_some] <;> rfl),hbw_⟩
       ·rw [if_neg c12] at H
        have c12b0 : (!((((rd_T125 l0_0 x5_1).f0).toList) == (((rd_T125 l1_0 x5_1).f0).toList)) || (!(((rd_T125 l0_0 x5_1).f1) == ((rd_T125 l1_0 x5_1).f1)))) = false:=by simpa using c12
        clear c12
        have H':=a0_ H
        clear H
        have hnb16:=NB1_2.out
        have hnc16:=NB2_1.out
        have hcz17_0 : wr.cell? ⟨gb1,0,none⟩ = some (.slice A0_0 l0_0.length c0_0):=(blk_cell BK1.out 0).trans rfl
        have hfz17_0:=blk_frozen BK1.out 0
        have p3 : 0 ≤ (x5_1 : Int):=of_decide_eq_true (by first | (with_reducible assumption) | assumption)
        have q3 : x5_1 < (l0_0.length : Int):=of_decide_eq_true (by first | (with_reducible assumption) | assumption)
        obtain ⟨ad3,e3,hx3_0,hx3_1⟩:=at_T125 HR0_0.out x5_1 p3 q3
        cases e3
        replace hx3_0:=(HB.out.cell (World.block_lt_of_cell? w _ hx3_0)).trans hx3_0
        replace hx3_1:=(HB.out.cell (World.block_lt_of_cell? w _ hx3_1)).trans hx3_1
        replace p3:=eq_true p3
        replace q3:=eq_true q3
        have hcz18_0 : wr.cell? ⟨gb2,0,none⟩ = some (.slice A1_0 l1_0.length c1_0):=(blk_cell BK2.out 0).trans rfl
        have hfz18_0:=blk_frozen BK2.out 0
        have p4 : 0 ≤ (x5_1 : Int):=of_decide_eq_true (by first | (with_reducible assumption) | assumption)
        have q4 : x5_1 < (l1_0.length : Int):=of_decide_eq_true (by first | (with_reducible assumption) | assumption)
        obtain ⟨ad4,e4,hx4_0,hx4_1⟩:=at_T125 HR1_0.out x5_1 p4 q4
        cases e4
        replace hx4_0:=(HB.out.cell (World.block_lt_of_cell? w _ hx4_0)).trans hx4_0
        replace hx4_1:=(HB.out.cell (World.block_lt_of_cell? w _ hx4_1)).trans hx4_1
        replace p4:=eq_true p4
        replace q4:=eq_true q4
        go_wp2
        repeat (go_quiet (fail);try go_wp2)
        go_roundg k1
        case measure=>have:=HK1.out;omega
        case rel=>exact ⟨(wrap64 (x5_1 + 1)),(by first | rfl | (simp;done) | (simp [*];done)),H',⟨by have:=HK1.out;omega⟩,⟨by (with_reducible repeat (first | refine blk_drewN ?_ _ | refine blk_drew ?_ | refine blk_alloc ?_ _));exact BK1.out⟩,⟨by (with_reducible repeat (first | refine blk_drewN ?_ _ | refine blk_drew ?_ | refine blk_alloc ?_ _));exact BK2.out⟩,⟨hbw_⟩⟩
      ·rw [if_neg c11] at H
       exact absurd H (by simp)
     ·rw [if_neg c10] at H
      exact absurd H (by simp)
    ·rw [if_neg c9] at H
     have c9b0 : decide (x5_1 < (l0_0.length : Int)) = false:=decide_eq_false c9
     clear c9
     obtain rfl:=Option.some.inj H
     have hnb19:=NB1_2.out
     have hnc19:=NB2_1.out
     have hcz20_0 : wr.cell? ⟨gb1,0,none⟩ = some (.slice A0_0 l0_0.length c0_0):=(blk_cell BK1.out 0).trans rfl
     have hfz20_0:=blk_frozen BK1.out 0
     go_wp2
     repeat (go_quiet (fail);try go_wp2)
     go_ret
     exact ⟨by first | rfl | (simp [errW_none,errW_some] <;> rfl) | (simp [*,errW_none,errW_some] <;> rfl),hbw_⟩
 ·rw [if_neg c3] at H
  have c3b0 : ((l0_0.length : Int) == (l1_0.length : Int)) = false:=beq_eq_false_iff_ne.mpr c3
  have c3b1 : ((l0_0.length : Int) != (l1_0.length : Int)) = true:=bne_iff_ne.mpr c3
  have c3b2 : (l0_0.length == l1_0.length) = false:=by first | simpa using c3 | (simp at c3 ⊢;omega)
  obtain rfl:=Option.some.inj H
  go_enter Try.func51,Try.ntmps51
  go_wp2_with (first | ((with_reducible refine gate_dst (N:=2) rfl ?_);refine box_event ?hg (N:=2) ?hd (cs:=#[.slice A0_0 l0_0.length c0_0]) (t:=25) ?hr ?_;(case hd=>rfl);(case hg=>rfl);(case hr=>first | (go_simp;done) | (go_simp;rfl));intro gb1 hg w21 hbox hb;have BK1:=a0_ (hbox);have GW1:=a0_ ((by rw [hg];exact (below_size hbw_) : w.heap.size ≤ gb1));have GE1:=a0_ ((by rw [hg];exact (below_size hbw_) : w.heap.size ≤ gb1));replace HB:=a0_ (below_step hbw_ hb);clear hb hbox hg) | ((with_reducible refine gate_dst (N:=3) rfl ?_);refine box_event ?hg (N:=3) ?hd (cs:=#[.slice A1_0 l1_0.length c1_0]) (t:=25) ?hr ?_;(case hd=>rfl);(case hg=>rfl);(case hr=>first | (go_simp;done) | (go_simp;rfl));intro gb2 hg w22 hbox hb;have n0_:=kb_ BK1 hb;have n1_:=a0_ (below_step hbw_ hb);have n2_:=a0_ (hbox);have n3_:=a0_ ((by rw [hg];exact (below_size hbw_) : w.heap.size ≤ gb2));have n4_:=a0_ ((by rw [hg];exact (below_size hbw_) : w.heap.size ≤ gb2));have n5_:=a0_ ((by rw [hg];exact Nat.ne_of_lt (blk_lt (bb_ BK1.out)) : gb1 ≠ gb2));have n6_:=a0_ ((by rw [hg];exact Nat.ne_of_gt (blk_lt (bb_ BK1.out)) : gb2 ≠ gb1));clear BK1 HB;have BK1:=n0_;have HB:=n1_;have BK2:=n2_;have GW2:=n3_;have GE2:=n4_;have NB1_2:=n5_;have NB2_1:=n6_;clear n0_ n1_ n2_ n3_ n4_ n5_ n6_;clear hb hbox hg;have hnb23:=NB1_2.out;have hnc23:=NB2_1.out;have hcz24_0 : w22.cell? ⟨gb1,0,none⟩ = some (.slice A0_0 l0_0.length c0_0):=(blk_cell BK1.out 0).trans rfl;have hfz24_0:=blk_frozen BK1.out 0;have hcz25_0 : w22.cell? ⟨gb2,0,none⟩ = some (.slice A1_0 l1_0.length c1_0):=(blk_cell BK2.out 0).trans rfl;have hfz25_0:=blk_frozen BK2.out 0))
  repeat (go_quiet (first | ((with_reducible refine gate_dst (N:=2) rfl ?_);refine box_event ?hg (N:=2) ?hd (cs:=#[.slice A0_0 l0_0.length c0_0]) (t:=25) ?hr ?_;(case hd=>rfl);(case hg=>rfl);(case hr=>first | (go_simp;done) | (go_simp;rfl));intro gb1 hg w21 hbox hb;have BK1:=a0_ (hbox);have GW1:=a0_ ((by rw [hg];exact (below_size hbw_) : w.heap.size ≤ gb1));have GE1:=a0_ ((by rw [hg];exact (below_size hbw_) : w.heap.size ≤ gb1));replace HB:=a0_ (below_step hbw_ hb);clear hb hbox hg) | ((with_reducible refine gate_dst (N:=3) rfl ?_);refine box_event ?hg (N:=3) ?hd (cs:=#[.slice A1_0 l1_0.length c1_0]) (t:=25) ?hr ?_;(case hd=>rfl);(case hg=>rfl);(case hr=>first | (go_simp;done) | (go_simp;rfl));intro gb2 hg w22 hbox hb;have n0_:=kb_ BK1 hb;have n1_:=a0_ (below_step hbw_ hb);have n2_:=a0_ (hbox);have n3_:=a0_ ((by rw [hg];exact (below_size hbw_) : w.heap.size ≤ gb2));have n4_:=a0_ ((by rw [hg];exact (below_size hbw_) : w.heap.size ≤ gb2));have n5_:=a0_ ((by rw [hg];exact Nat.ne_of_lt (blk_lt (bb_ BK1.out)) : gb1 ≠ gb2));have n6_:=a0_ ((by rw [hg];exact Nat.ne_of_gt (blk_lt (bb_ BK1.out)) : gb2 ≠ gb1));clear BK1 HB;have BK1:=n0_;have HB:=n1_;have BK2:=n2_;have GW2:=n3_;have GE2:=n4_;have NB1_2:=n5_;have NB2_1:=n6_;clear n0_ n1_ n2_ n3_ n4_ n5_ n6_;clear hb hbox hg;have hnb23:=NB1_2.out;have hnc23:=NB2_1.out;have hcz24_0 : w22.cell? ⟨gb1,0,none⟩ = some (.slice A0_0 l0_0.length c0_0):=(blk_cell BK1.out 0).trans rfl;have hfz24_0:=blk_frozen BK1.out 0;have hcz25_0 : w22.cell? ⟨gb2,0,none⟩ = some (.slice A1_0 l1_0.length c1_0):=(blk_cell BK2.out 0).trans rfl;have hfz25_0:=blk_frozen BK2.out 0));try go_wp2_with (first | ((with_reducible refine gate_dst (N:=2) rfl ?_);refine box_event ?hg (N:=2) ?hd (cs:=#[.slice A0_0 l0_0.length c0_0]) (t:=25) ?hr ?_;(case hd=>rfl);(case hg=>rfl);(case hr=>first | (go_simp;done) | (go_simp;rfl));intro gb1 hg w21 hbox hb;have BK1:=a0_ (hbox);have GW1:=a0_ ((by rw [hg];exact (below_size hbw_) : w.heap.size ≤ gb1));have GE1:=a0_ ((by rw [hg];exact (below_size hbw_) : w.heap.size ≤ gb1));replace HB:=a0_ (below_step hbw_ hb);clear hb hbox hg) | ((with_reducible refine gate_dst (N:=3) rfl ?_);refine box_event ?hg (N:=3) ?hd (cs:=#[.slice A1_0 l1_0.length c1_0]) (t:=25) ?hr ?_;(case hd=>rfl);(case hg=>rfl);(case hr=>first | (go_simp;done) | (go_simp;rfl));intro gb2 hg w22 hbox hb;have n0_:=kb_ BK1 hb;have n1_:=a0_ (below_step hbw_ hb);have n2_:=a0_ (hbox);have n3_:=a0_ ((by rw [hg];exact (below_size hbw_) : w.heap.size ≤ gb2));have n4_:=a0_ ((by rw [hg];exact (below_size hbw_) : w.heap.size ≤ gb2));have n5_:=a0_ ((by rw [hg];exact Nat.ne_of_lt (blk_lt (bb_ BK1.out)) : gb1 ≠ gb2));have n6_:=a0_ ((by rw [hg];exact Nat.ne_of_gt (blk_lt (bb_ BK1.out)) : gb2 ≠ gb1));clear BK1 HB;have BK1:=n0_;have HB:=n1_;have BK2:=n2_;have GW2:=n3_;have GE2:=n4_;have NB1_2:=n5_;have NB2_1:=n6_;clear n0_ n1_ n2_ n3_ n4_ n5_ n6_;clear hb hbox hg;have hnb23:=NB1_2.out;have hnc23:=NB2_1.out;have hcz24_0 : w22.cell? ⟨gb1,0,none⟩ = some (.slice A0_0 l0_0.length c0_0):=(blk_cell BK1.out 0).trans rfl;have hfz24_0:=blk_frozen BK1.out 0;have hcz25_0 : w22.cell? ⟨gb2,0,none⟩ = some (.slice A1_0 l1_0.length c1_0):=(blk_cell BK2.out 0).trans rfl;have hfz25_0:=blk_frozen BK2.out 0)))
  go_ret
  exact ⟨by first | rfl | (simp [errW_none,errW_some] <;> rfl) | (simp [*,errW_none,errW_some] <;> rfl),hbw_⟩
theorem laws_equalTree_ev (t : List Cls) (hl : t.length ≤ 9223372036854775806) : Ev (fun k=>laws_equalTree.f k t t) true:=by
 have key : ∀ d j,j + d = t.length → Ev (fun k=>laws_equalTree.l0 k (j : Int) t t) true:=by
  intro d
  induction d with
  | zero =>
   intro j hj
   refine Ev.succ ?_
   simp only [laws_equalTree.l0]
   exact Ev.neg (by omega) (Ev.const rfl)
  | succ d ih =>
   intro j hj
   refine Ev.succ ?_
   simp only [laws_equalTree.l0]
   rw [wrap_succ (i:=(j : Int)) (n:=t.length) (by omega) (by omega) (by omega)]
   exact Ev.pos (by omega) (Ev.pos (by omega) (Ev.pos (by omega) (Ev.neg (by simp) (ih (j + 1) (by omega)))))
 unfold laws_equalTree.f
 exact Ev.pos rfl (key t.length 0 (by omega))
end Go.Proofs.Ytacgehaipacehaa.P
namespace Go.Proofs.Ytacgehaipacehaa.P
open Go.RowKit Go.Proofs.YtacgehaipacehaaW.PrintWords Go.Proofs.YtacgehaipacehaaW.PrintLast Go.Proofs.YtacgehaipacehaaW.PrintMore
attribute [local go_sem] max2_int min2_int max_two min_two max_three min_three max_four min_four
set_option linter.unusedVariables false
set_option linter.unusedSimpArgs false
def byL (b : List Int) : Prop:=b.length ≤ 2000 ∧ ∀ x ∈ b,0 ≤ x ∧ x ≤ 255
theorem byL_rd {b : List Int} (h : byL b) (i : Int) : 0 ≤ rd b i ∧ rd b i ≤ 255:=by
 unfold rd
 by_cases hi : i.toNat < b.length
 ·rw [List.getD_eq_getElem?_getD,List.getElem?_eq_getElem hi]
  exact h.2 _ (List.getElem_mem hi)
 ·rw [List.getD_eq_getElem?_getD,List.getElem?_eq_none (by omega)]
  show (0 : Int) ≤ 0 ∧ (0 : Int) ≤ 255
  omega
theorem xor_nonneg (x y : Int) (h0 : 0 ≤ x) (h1 : x < 4611686018427387904) (g0 : 0 ≤ y) (g1 : y < 4611686018427387904) : 0 ≤ Go.bits .xor .i64 x y:=by
 obtain ⟨a,rfl⟩:=Int.eq_ofNat_of_zero_le h0
 obtain ⟨b,rfl⟩:=Int.eq_ofNat_of_zero_le g0
 have ha : a < 2 ^ 62:=by omega
 have hb : b < 2 ^ 62:=by omega
 have ha' : a % 2 ^ 64 = a:=Nat.mod_eq_of_lt (by omega)
 have hb' : b % 2 ^ 64 = b:=Nat.mod_eq_of_lt (by omega)
 have hx:=Nat.xor_lt_two_pow ha hb
 have e : Go.bits .xor .i64 (a : Int) (b : Int) = ((a ^^^ b : Nat) : Int):=by
  have hk : IntKind.bits .i64 = 64:=rfl
  simp only [Go.bits,hk,BitVec.ofInt_natCast,BitVec.toNat_xor,BitVec.toNat_ofNat,ha',hb']
  rw [Go.IntKind.wrap_i64]
  generalize a ^^^ b = c at hx
  omega
 rw [e]
 omega
theorem tmod_in {x n : Int} (h0 : 0 ≤ x) (hn : 1 ≤ n) : 0 ≤ Int.tmod x n ∧ Int.tmod x n < n:=⟨Int.tmod_nonneg n h0,Int.tmod_lt_of_pos x (by omega)⟩
end Go.Proofs.Ytacgehaipacehaa.P
namespace Go.Proofs.Ytacgehaipacehaa.P
open Go.RowKit Go.Proofs.YtacgehaipacehaaW.PrintWords Go.Proofs.YtacgehaipacehaaW.PrintLast Go.Proofs.YtacgehaipacehaaW.PrintMore
attribute [local go_sem] max2_int min2_int max_two min_two max_three min_three max_four min_four
set_option linter.unusedVariables false
set_option linter.unusedSimpArgs false
def IsS148 (w0 W : World) (g : Nat) (f0 : List Int) (f1 : Int) : Prop:=∃ A0 c0,W.heap[g]? = some (.cells #[.slice A0 f0.length c0,.int .i64 f1] 148 (0,0)) ∧ w0.heap.size ≤ g ∧ Kd.C (Kd.int .u8) w0 A0 f0.length f0
theorem IsS148.grown {w0 W : World} {g : Nat} {f0 : List Int} {f1 : Int} {W1 : World} {row : Option Nat} (h : IsS148 w0 W g f0 f1) (hw : W.grownBy W1 row) (hne : some g ≠ row) : IsS148 w0 W1 g f0 f1:=by
 obtain ⟨A0,c0,hb,hg,hr0⟩:=h
 exact ⟨A0,c0,blk_grown hb hw hne,hg,hr0⟩
theorem IsS148.own_neN {w0 W : World} {g : Nat} {f0 : List Int} {f1 : Int} {α : Type} {d : Kd α} {e : Nat} {base : Nat} {ok : Nat → Prop} {v : Value} {xs : List α} (h : IsS148 w0 W g f0 f1) (ho : Kd.N d e W base ok v xs) (ht : e ≠ 148) : some g ≠ v.ownBlock:=by
 obtain ⟨A0,c0,hb,hg,hr0⟩:=h
 exact Kd.N_ne ho hb ht
theorem IsS148.fresh {w0 W : World} {g : Nat} {f0 : List Int} {f1 : Int} (h : IsS148 w0 W g f0 f1) : ∀ k,W.heap.size ≤ k → k ≠ g:=by
 obtain ⟨A0,c0,hb,hg,hr0⟩:=h
 exact Kd.freshB hb
theorem IsS148.kept {w0 W : World} {g : Nat} {f0 : List Int} {f1 : Int} {W1 : World} {S : Nat → Prop} (h : IsS148 w0 W g f0 f1) (hk : Kept W W1 S) (hne : ¬ S g) : IsS148 w0 W1 g f0 f1:=by
 obtain ⟨A0,c0,hb,hg,hr0⟩:=h
 exact ⟨A0,c0,blk_kept hb hk hne,hg,hr0⟩
theorem IsS148.below {w0 W : World} {g : Nat} {f0 : List Int} {f1 : Int} {W1 : World} (h : IsS148 w0 W g f0 f1) (hw : Below W.heap.size W W1) : IsS148 w0 W1 g f0 f1:=h.grown (grown_of_below hw none) (by simp)
theorem IsS148.alloc {w0 W : World} {g : Nat} {f0 : List Int} {f1 : Int} (h : IsS148 w0 W g f0 f1) (o : Obj) : IsS148 w0 (W.alloc o) g f0 f1:=h.below (below_alloc (Below.refl _ _) o)
theorem IsS148.drewN {w0 W : World} {g : Nat} {f0 : List Int} {f1 : Int} (h : IsS148 w0 W g f0 f1) (m : Nat) : IsS148 w0 (W.drewN m) g f0 f1:=h
theorem IsS148.drew {w0 W : World} {g : Nat} {f0 : List Int} {f1 : Int} (h : IsS148 w0 W g f0 f1) : IsS148 w0 W.drew g f0 f1:=h
theorem IsS148.at_ {w0 W : World} {g : Nat} {f0 : List Int} {f1 : Int} {w' : World} {m : Nat} (hq : W.drewN m = w') (h : IsS148 w0 W g f0 f1) : IsS148 w0 w' g f0 f1:=by subst hq;exact IsS148.drewN h m
theorem IsS148.apart {w0 W : World} {g : Nat} {f0 : List Int} {f1 : Int} {α : Type} {d : Kd α} {e : Nat} {base : Nat} {ok : Nat → Prop} {v : Value} {xs : List α} (h : IsS148 w0 W g f0 f1) (ho : d.R e W base ok v xs) (ht : ∀ q,q ∈ e :: d.E → q ≠ 148) : d.R e W base (fun k=>ok k ∧ k ≠ g) v xs:=by
 obtain ⟨A0,c0,hb,hg,hr0⟩:=h
 exact Kd.R_types ho hb ht
theorem IsS148.own_ne {w0 W : World} {g : Nat} {f0 : List Int} {f1 : Int} {α : Type} {d : Kd α} {e : Nat} {base : Nat} {ok : Nat → Prop} {v : Value} {xs : List α} (h : IsS148 w0 W g f0 f1) (ho : d.R e W base ok v xs) (ht : e ≠ 148) : some g ≠ v.ownBlock:=by
 obtain ⟨A0,c0,hb,hg,hr0⟩:=h
 exact Kd.R_ne ho hb ht
theorem IsS148.apartQ {w0 W : World} {g : Nat} {f0 : List Int} {f1 : Int} {α : Type} {d : Kd α} {e : Nat} {base : Nat} {ok : Nat → Prop} {v : Value} {xs : List α} (h : IsS148 w0 W g f0 f1) (ho : d.Q e W base ok v xs) (ht : ∀ q,q ∈ e :: d.E → q ≠ 148) : d.Q e W base (fun k=>ok k ∧ k ≠ g) v xs:=by
 obtain ⟨A0,c0,hb,hg,hr0⟩:=h
 exact Kd.Q_types ho hb ht
theorem IsS148.own_neQ {w0 W : World} {g : Nat} {f0 : List Int} {f1 : Int} {α : Type} {d : Kd α} {e : Nat} {base : Nat} {ok : Nat → Prop} {v : Value} {xs : List α} (h : IsS148 w0 W g f0 f1) (ho : d.Q e W base ok v xs) (ht : e ≠ 148) : some g ≠ v.ownBlock:=by
 obtain ⟨A0,c0,hb,hg,hr0⟩:=h
 exact Kd.Q_ne ho hb ht
theorem IsS148.apartS {w0 W : World} {g : Nat} {f0 : List Int} {f1 : Int} {α : Type} {d : Kd α} {e : Nat} {base : Nat} {ok : Nat → Prop} {v : Value} {xs : List α} (h : IsS148 w0 W g f0 f1) (ho : d.S e W base ok v xs) (ht : ∀ q,q ∈ e :: d.E → q ≠ 148) : d.S e W base (fun k=>ok k ∧ k ≠ g) v xs:=by
 obtain ⟨A0,c0,hb,hg,hr0⟩:=h
 exact Kd.S_types ho hb ht
theorem IsS148.own_neS {w0 W : World} {g : Nat} {f0 : List Int} {f1 : Int} {α : Type} {d : Kd α} {e : Nat} {base : Nat} {ok : Nat → Prop} {v : Value} {xs : List α} (h : IsS148 w0 W g f0 f1) (ho : d.S e W base ok v xs) (ht : e ≠ 148) : some g ≠ v.ownBlock:=by
 obtain ⟨A0,c0,hb,hg,hr0⟩:=h
 exact Kd.S_ne ho hb ht
theorem IsS148.lt {w0 W : World} {g : Nat} {f0 : List Int} {f1 : Int} (h : IsS148 w0 W g f0 f1) : g < W.heap.size:=by
 obtain ⟨A0,c0,hb,hg,hr0⟩:=h
 exact blk_lt hb
theorem IsS148.ge {w0 W : World} {g : Nat} {f0 : List Int} {f1 : Int} (h : IsS148 w0 W g f0 f1) : w0.heap.size ≤ g:=by
 obtain ⟨A0,c0,hb,hg,hr0⟩:=h
 exact hg
theorem IsS148.ne_blk {w0 W : World} {g : Nat} {f0 : List Int} {f1 : Int} {a : Nat} {cs : Array Value} {t : TypeId} {fr : Nat × Nat} (h : IsS148 w0 W g f0 f1) (hb2 : W.heap[a]? = some (.cells cs t fr)) (ht : t ≠ 148) : g ≠ a:=by
 obtain ⟨A0,c0,hb,hg,hr0⟩:=h
 rintro rfl
 rw [hb] at hb2
 injection hb2 with hb2
 injection hb2 with _ ht2
 exact ht ht2.symm
theorem IsS148.far {w0 W : World} {g : Nat} {f0 : List Int} {f1 : Int} {p : Addr} (h : IsS148 w0 W g f0 f1) (hne : g ≠ p.block) (u : Value) : IsS148 w0 (W.setCell p u) g f0 f1:=by
 obtain ⟨A0,c0,hb,hg,hr0⟩:=h
 exact ⟨A0,c0,blk_far hb hne u,hg,hr0⟩
theorem cellS148_0 {W : World} {g : Nat} {A0 : Option Addr} {c0 : Nat} {f0 : List Int} {f1 : Int} (h : W.heap[g]? = some (.cells #[.slice A0 f0.length c0,.int .i64 f1] 148 (0,0))) : W.cell? ⟨g,0,none⟩ = some (.slice A0 f0.length c0):=(blk_cell h 0).trans rfl
theorem cellS148_1 {W : World} {g : Nat} {A0 : Option Addr} {c0 : Nat} {f0 : List Int} {f1 : Int} (h : W.heap[g]? = some (.cells #[.slice A0 f0.length c0,.int .i64 f1] 148 (0,0))) : W.cell? ⟨g,1,none⟩ = some (.int .i64 f1):=(blk_cell h 1).trans rfl
theorem IsS148.set_1 {w0 W : World} {g : Nat} {f0 : List Int} {f1 : Int} (h : IsS148 w0 W g f0 f1) (x : Int) : IsS148 w0 (W.setCell ⟨g,1,none⟩ (.int .i64 x)) g f0 x:=by
 obtain ⟨A0,c0,hb,hg,hr0⟩:=h
 exact ⟨A0,c0,by simpa using blk_set hb 1 (.int .i64 x),hg,hr0⟩
theorem IsS148.new (w0 W : World) (A0 : Option Addr) (c0 : Nat) (f0 : List Int) (f1 : Int) (hB : Below w0.heap.size w0 W) (hr0 : Kd.C (Kd.int .u8) w0 A0 f0.length f0) : IsS148 w0 (W.alloc (.cells #[.slice A0 f0.length c0,.int .i64 f1] 148)) W.heap.size f0 f1:=⟨A0,c0,by simpa using heap_alloc_new W _,hB.size,hr0⟩
def spec_reader_pick.j0 : Nat → Int → Bool → List Int → Int → Option (Int × Int)
 | 0,_,_,_,_=>none
 | k + 1,x1,x24,x1000,x1001=>if x24 = true then (some (0,x1001)) else (if (wrap64 (x1001 - 1)) < (x1000.length : Int) then (if 0 ≤ (wrap64 (x1001 - 1)) then (if x1 = 0 then (none) else (some (Int.tmod (wrap64 (rd x1000 (wrap64 (x1001 - 1)))) x1,x1001))) else (none)) else (if (x1000.length : Int) = 0 then (none) else (if 0 ≤ (Int.tmod (wrap64 (x1001 - 1)) (x1000.length : Int)) then (if (Int.tmod (wrap64 (x1001 - 1)) (x1000.length : Int)) < (x1000.length : Int) then (if 0 ≤ (Int.tmod (wrap64 ((wrap64 ((wrap64 (x1001 - 1)) * 7)) + 3)) (x1000.length : Int)) then (if (Int.tmod (wrap64 ((wrap64 ((wrap64 (x1001 - 1)) * 7)) + 3)) (x1000.length : Int)) < (x1000.length : Int) then (if x1 = 0 then (none) else (some (Int.tmod (Go.bits .xor .i64 (wrap64 ((wrap64 ((wrap64 ((wrap64 ((wrap64 (rd x1000 (Int.tmod (wrap64 (x1001 - 1)) (x1000.length : Int)))) * 131)) + (wrap64 ((wrap64 (rd x1000 (Int.tmod (wrap64 ((wrap64 ((wrap64 (x1001 - 1)) * 7)) + 3)) (x1000.length : Int)))) * 1117)))) + (wrap64 ((wrap64 (x1001 - 1)) * 29)))) + (wrap64 ((wrap64 (Int.tdiv (wrap64 (x1001 - 1)) (x1000.length : Int))) * 53)))) (wrap64 (Int.tdiv (wrap64 ((wrap64 ((wrap64 ((wrap64 ((wrap64 (rd x1000 (Int.tmod (wrap64 (x1001 - 1)) (x1000.length : Int)))) * 131)) + (wrap64 ((wrap64 (rd x1000 (Int.tmod (wrap64 ((wrap64 ((wrap64 (x1001 - 1)) * 7)) + 3)) (x1000.length : Int)))) * 1117)))) + (wrap64 ((wrap64 (x1001 - 1)) * 29)))) + (wrap64 ((wrap64 (Int.tdiv (wrap64 (x1001 - 1)) (x1000.length : Int))) * 53)))) 64))) x1,x1001))) else (none)) else (none)) else (none)) else (none))))
def spec_reader_pick.f (k : Nat) (s0_0 : List Int) (s0_1 : Int) (a1 : Int) : Option (Int × Int):=if a1 < 1 then (spec_reader_pick.j0 k a1 true s0_0 (wrap64 (s0_1 + 1))) else (spec_reader_pick.j0 k a1 ((s0_0.length : Int) == 0) s0_0 (wrap64 (s0_1 + 1)))
theorem spec_reader_pick.mono_l : ∀ k,(∀ y0 y1 y2 y3,LeO (spec_reader_pick.j0 k y0 y1 y2 y3) (spec_reader_pick.j0 (k + 1) y0 y1 y2 y3))
 | 0=>fun _ _ _ _ r h=>by simp [spec_reader_pick.j0] at h
 | k + 1=>by
  have ih0:=spec_reader_pick.mono_l k
  ·intro y0 y1 y2 y3
   unfold spec_reader_pick.j0
   repeat' first
   | (with_reducible exact ih0 _ _ _ _)
   | (with_reducible exact LeO.refl _)
   | (with_reducible exact LeO.none _)
   | (with_reducible refine LeO.ite ?_ ?_)
   | (with_reducible refine LeO.bind ?_ (fun _=>?_))
   | exact ih0 _ _ _ _
   | exact LeO.none _
   | refine LeO.ite ?_ ?_
   | refine LeO.bind ?_ (fun _=>?_)
theorem spec_reader_pick.mono : ∀ a0 a1 a2 k,LeO (spec_reader_pick.f k a0 a1 a2) (spec_reader_pick.f (k + 1) a0 a1 a2):=by
 intro a0 a1 a2 k
 have ih0:=spec_reader_pick.mono_l k
 unfold spec_reader_pick.f
 repeat' first
   | (with_reducible exact ih0 _ _ _ _)
   | (with_reducible exact LeO.refl _)
   | (with_reducible exact LeO.none _)
   | (with_reducible refine LeO.ite ?_ ?_)
   | (with_reducible refine LeO.bind ?_ (fun _=>?_))
   | exact ih0 _ _ _ _
   | exact LeO.none _
   | refine LeO.ite ?_ ?_
   | refine LeO.bind ?_ (fun _=>?_)
set_option maxHeartbeats 8000000 in
set_option maxRecDepth 100000 in
theorem spec_reader_pick.calls (k : Nat) (g : Nat) (s0_0 : List Int) (s0_1 : Int) (a1 : Int) (r1 : Int) (r2 : Int) (w0 w : World) (hI : IsS148 w0 w g s0_0 s0_1) (hB : Below w0.heap.size w0 w) (h : spec_reader_pick.f k s0_0 s0_1 a1 = some (r1,r2)) :
  Calls Try.prog 110 #[.pointer (some ⟨g,0,none⟩),.int .i64 a1] w fun e w'=>e = .returned (.int .i64 r1) ∧ IsS148 w0 w' g s0_0 r2 ∧ Below w0.heap.size w0 w' ∧ KeepBut w w' g none:=by
 have HI0:=a0_ hI
 have HK:=a0_ (KeepBut.refl w g none)
 have HL:=a0_ hB.size
 clear hI
 have HW0:=a0_ hB.size
 have HB:=a0_ hB
 clear hB
 have H : (if a1 < 1 then (spec_reader_pick.j0 k a1 true s0_0 (wrap64 (s0_1 + 1))) else (spec_reader_pick.j0 k a1 ((s0_0.length : Int) == 0) s0_0 (wrap64 (s0_1 + 1)))) = some (r1,r2):=h
 clear h
 have HC3:=a0_ H
 clear H
 obtain ⟨ASz4_0,cSz4_0,HGz4,hgz4,HSz4_0⟩:=HI0.out
 have hcz4_0:=cellS148_0 HGz4
 have hcz4_1:=cellS148_1 HGz4
 have hfz4_1:=blk_frozen HGz4 1
 clear HGz4 hgz4
 go_enter Try.func110,Try.ntmps110
 go_upto_region 2 with (fail)
 repeat (go_quiet (fail);go_upto_region 2 with (fail))
 go_cut [24] (fun v24 wc=>∃ (kq : Nat) (x24_2 : Bool),v24 = .bool x24_2 ∧ Aside0 (spec_reader_pick.j0 kq a1 x24_2 s0_0 (wrap64 (s0_1 + 1)) = some (r1,r2)) ∧ Aside0 (kq ≤ k) ∧ Aside0 (IsS148 w0 wc g s0_0 (wrap64 (s0_1 + 1))) ∧ Aside0 (KeepBut w wc g none) ∧ Aside0 (Below w0.heap.size w0 wc))
 case first =>
  have H:=HC3.out
  clear HC3
  by_cases c5 : a1 < 1
  ·rw [if_pos c5] at H
   have c5b0 : decide (a1 < 1) = true:=decide_eq_true c5
   clear c5
   (first | rw [c5b0] | (simp only [i64_w,i32_w];rw [c5b0]) | skip)
   have H':=a0_ H
   clear H
   go_wp2
   repeat (go_quiet (fail);try go_wp2)
   go_meet
   case rel=>exact ⟨_,(true),(by first | rfl | (simp;done) | (simp [*];done)),H',⟨by first | omega | exact Nat.le_refl _⟩,⟨by repeat (first | (with_reducible first | exact HI0.out | apply IsS148.alloc | apply IsS148.drewN | apply IsS148.drew | apply IsS148.set_1) | exact HI0.out)⟩,⟨hk_⟩,⟨by repeat (first | (with_reducible first | exact HB.out | apply below_alloc | apply pw_below_drewN | apply below_drew1 | refine below_set ?_ (IsS148.ge HI0.out)) | exact HB.out)⟩⟩
  ·rw [if_neg c5] at H
   have c5b0 : decide (a1 < 1) = false:=decide_eq_false c5
   clear c5
   (first | rw [c5b0] | (simp only [i64_w,i32_w];rw [c5b0]) | skip)
   have H':=a0_ H
   clear H
   obtain ⟨ASz6_0,cSz6_0,HGz6,hgz6,HSz6_0⟩:=HI0.out
   have hcz6_0:=cellS148_0 HGz6
   have hcz6_1:=cellS148_1 HGz6
   have hfz6_1:=blk_frozen HGz6 1
   clear HGz6 hgz6
   go_wp2
   repeat (go_quiet (fail);try go_wp2)
   go_meet
   case rel=>exact ⟨_,(((s0_0.length : Int) == 0)),(by first | rfl | (simp;done) | (simp [*];done)),H',⟨by first | omega | exact Nat.le_refl _⟩,⟨by repeat (first | (with_reducible first | exact HI0.out | apply IsS148.alloc | apply IsS148.drewN | apply IsS148.drew | apply IsS148.set_1) | exact HI0.out)⟩,⟨hk_⟩,⟨by repeat (first | (with_reducible first | exact HB.out | apply below_alloc | apply pw_below_drewN | apply below_drew1 | refine below_set ?_ (IsS148.ge HI0.out)) | exact HB.out)⟩⟩
 case rest =>
  clear HC3
  try clear c1
  try clear p2
  try clear c5
  try clear c5b0
  try clear p6
  try clear hcz4_0
  try clear hcz4_1
  try clear hcz6_0
  try clear hcz6_1
  try clear hfz4_1
  try clear hfz6_1
  obtain ⟨kq,x24_2,rfl,HA,HJ2,HI0,HK,HB⟩:=hcut
  cases kq with
  | zero=>exact absurd HA.out (by simp [spec_reader_pick.j0])
  | succ kj2 =>
   have H:=HA.out
   clear HA
   simp only [spec_reader_pick.j0] at H
   by_cases c7 : x24_2 = true
   ·subst c7
    have H1 : (some (0,(wrap64 (s0_1 + 1)))) = some (r1,r2):=by rw [if_pos rfl] at H;exact H
    clear H
    have H:=H1
    clear H1
    simp only [Option.some.injEq,Prod.mk.injEq] at H
    obtain ⟨rfl,rfl⟩:=H
    go_wp2
    repeat (go_quiet (fail);try go_wp2)
    go_ret
    exact ⟨by first | rfl | (simp [errW_none,errW_some] <;> rfl) | (simp [*,errW_none,errW_some] <;> rfl),by repeat (first | (with_reducible first | exact HI0.out | apply IsS148.alloc | apply IsS148.drewN | apply IsS148.drew | apply IsS148.set_1) | exact HI0.out),by repeat (first | (with_reducible first | exact HB.out | apply below_alloc | apply pw_below_drewN | apply below_drew1 | refine below_set ?_ (IsS148.ge HI0.out)) | exact HB.out),hk_⟩
   ·replace c7:=Bool.eq_false_iff.mpr c7
    subst c7
    have H1 : (if (wrap64 ((wrap64 (s0_1 + 1)) - 1)) < (s0_0.length : Int) then (if 0 ≤ (wrap64 ((wrap64 (s0_1 + 1)) - 1)) then (if a1 = 0 then (none) else (some (Int.tmod (wrap64 (rd s0_0 (wrap64 ((wrap64 (s0_1 + 1)) - 1)))) a1,(wrap64 (s0_1 + 1))))) else (none)) else (if (s0_0.length : Int) = 0 then (none) else (if 0 ≤ (Int.tmod (wrap64 ((wrap64 (s0_1 + 1)) - 1)) (s0_0.length : Int)) then (if (Int.tmod (wrap64 ((wrap64 (s0_1 + 1)) - 1)) (s0_0.length : Int)) < (s0_0.length : Int) then (if 0 ≤ (Int.tmod (wrap64 ((wrap64 ((wrap64 ((wrap64 (s0_1 + 1)) - 1)) * 7)) + 3)) (s0_0.length : Int)) then (if (Int.tmod (wrap64 ((wrap64 ((wrap64 ((wrap64 (s0_1 + 1)) - 1)) * 7)) + 3)) (s0_0.length : Int)) < (s0_0.length : Int) then (if a1 = 0 then (none) else (some (Int.tmod (Go.bits .xor .i64 (wrap64 ((wrap64 ((wrap64 ((wrap64 ((wrap64 (rd s0_0 (Int.tmod (wrap64 ((wrap64 (s0_1 + 1)) - 1)) (s0_0.length : Int)))) * 131)) + (wrap64 ((wrap64 (rd s0_0 (Int.tmod (wrap64 ((wrap64 ((wrap64 ((wrap64 (s0_1 + 1)) - 1)) * 7)) + 3)) (s0_0.length : Int)))) * 1117)))) + (wrap64 ((wrap64 ((wrap64 (s0_1 + 1)) - 1)) * 29)))) + (wrap64 ((wrap64 (Int.tdiv (wrap64 ((wrap64 (s0_1 + 1)) - 1)) (s0_0.length : Int))) * 53)))) (wrap64 (Int.tdiv (wrap64 ((wrap64 ((wrap64 ((wrap64 ((wrap64 (rd s0_0 (Int.tmod (wrap64 ((wrap64 (s0_1 + 1)) - 1)) (s0_0.length : Int)))) * 131)) + (wrap64 ((wrap64 (rd s0_0 (Int.tmod (wrap64 ((wrap64 ((wrap64 ((wrap64 (s0_1 + 1)) - 1)) * 7)) + 3)) (s0_0.length : Int)))) * 1117)))) + (wrap64 ((wrap64 ((wrap64 (s0_1 + 1)) - 1)) * 29)))) + (wrap64 ((wrap64 (Int.tdiv (wrap64 ((wrap64 (s0_1 + 1)) - 1)) (s0_0.length : Int))) * 53)))) 64))) a1,(wrap64 (s0_1 + 1))))) else (none)) else (none)) else (none)) else (none)))) = some (r1,r2):=by rw [if_neg (show ¬ (false = true) by decide)] at H;exact H
    clear H
    have H:=H1
    clear H1
    by_cases c8 : (wrap64 ((wrap64 (s0_1 + 1)) - 1)) < (s0_0.length : Int)
    ·rw [if_pos c8] at H
     have c8b0 : decide ((wrap64 ((wrap64 (s0_1 + 1)) - 1)) < (s0_0.length : Int)) = true:=decide_eq_true c8
     clear c8
     obtain ⟨ji9,hji9⟩ : ∃ j_ : Int,(wrap64 ((wrap64 (s0_1 + 1)) - 1)) = j_:=⟨_,rfl⟩
     replace H : (if 0 ≤ (ji9) then (if a1 = 0 then (none) else (some (Int.tmod (wrap64 (rd s0_0 (ji9))) a1,(wrap64 (s0_1 + 1))))) else (none)) = some (r1,r2):=by first | (rw [hji9] at H;exact H) | (simp only [hji9] at H ⊢;exact H)
     (try rw [hji9] at c8b0)
     have hji9w : (IntKind.i64.wrap ((wrap64 (s0_1 + 1)) - 1)) = ji9:=(i64_w _).trans hji9
     by_cases c10 : 0 ≤ (ji9)
     ·rw [if_pos c10] at H
      have c10b0 : decide (0 ≤ (ji9)) = true:=decide_eq_true c10
      clear c10
      by_cases c11 : a1 = 0
      ·rw [if_pos c11] at H
       exact absurd H (by simp)
      ·rw [if_neg c11] at H
       have c11b0 : (a1 == 0) = false:=beq_eq_false_iff_ne.mpr c11
       have c11b1 : (a1 != 0) = true:=bne_iff_ne.mpr c11
       simp only [Option.some.injEq,Prod.mk.injEq] at H
       obtain ⟨rfl,rfl⟩:=H
       obtain ⟨ASz12_0,cSz12_0,HGz12,hgz12,HSz12_0⟩:=HI0.out
       have hcz12_0:=cellS148_0 HGz12
       have hcz12_1:=cellS148_1 HGz12
       have hfz12_1:=blk_frozen HGz12 1
       clear HGz12 hgz12
       have p1 : 0 ≤ ((ji9) : Int):=of_decide_eq_true (by first | (with_reducible assumption) | assumption)
       have q1 : (ji9) < (s0_0.length : Int):=of_decide_eq_true (by first | (with_reducible assumption) | assumption)
       obtain ⟨ad1,e1,hx1_0⟩:=Kd.at_int HSz12_0 (ji9) p1 q1
       cases e1
       replace hx1_0:=pw_cell_below HB.out hx1_0
       replace p1:=eq_true p1
       replace q1:=eq_true q1
       go_wp2
       repeat (go_quiet (fail);try go_wp2)
       go_ret
       exact ⟨by first | rfl | (simp [errW_none,errW_some] <;> rfl) | (simp only [← hji9];first | rfl | (simp [errW_none,errW_some] <;> rfl)) | (simp [*,errW_none,errW_some] <;> rfl),by repeat (first | (with_reducible first | exact HI0.out | apply IsS148.alloc | apply IsS148.drewN | apply IsS148.drew | apply IsS148.set_1) | exact HI0.out),by repeat (first | (with_reducible first | exact HB.out | apply below_alloc | apply pw_below_drewN | apply below_drew1 | refine below_set ?_ (IsS148.ge HI0.out)) | exact HB.out),hk_⟩
     ·rw [if_neg c10] at H
      exact absurd H (by simp)
    ·rw [if_neg c8] at H
     have c8b0 : decide ((wrap64 ((wrap64 (s0_1 + 1)) - 1)) < (s0_0.length : Int)) = false:=decide_eq_false c8
     clear c8
     by_cases c13 : (s0_0.length : Int) = 0
     ·rw [if_pos c13] at H
      exact absurd H (by simp)
     ·rw [if_neg c13] at H
      have c13b0 : ((s0_0.length : Int) == 0) = false:=beq_eq_false_iff_ne.mpr c13
      have c13b1 : ((s0_0.length : Int) != 0) = true:=bne_iff_ne.mpr c13
      have c13b2 : ¬ (s0_0 = []):=fun h_=>c13 (by rw [h_];rfl)
      obtain ⟨ji14,hji14⟩ : ∃ j_ : Int,(Int.tmod (wrap64 ((wrap64 (s0_1 + 1)) - 1)) (s0_0.length : Int)) = j_:=⟨_,rfl⟩
      replace H : (if 0 ≤ (ji14) then (if (ji14) < (s0_0.length : Int) then (if 0 ≤ (Int.tmod (wrap64 ((wrap64 ((wrap64 ((wrap64 (s0_1 + 1)) - 1)) * 7)) + 3)) (s0_0.length : Int)) then (if (Int.tmod (wrap64 ((wrap64 ((wrap64 ((wrap64 (s0_1 + 1)) - 1)) * 7)) + 3)) (s0_0.length : Int)) < (s0_0.length : Int) then (if a1 = 0 then (none) else (some (Int.tmod (Go.bits .xor .i64 (wrap64 ((wrap64 ((wrap64 ((wrap64 ((wrap64 (rd s0_0 (ji14))) * 131)) + (wrap64 ((wrap64 (rd s0_0 (Int.tmod (wrap64 ((wrap64 ((wrap64 ((wrap64 (s0_1 + 1)) - 1)) * 7)) + 3)) (s0_0.length : Int)))) * 1117)))) + (wrap64 ((wrap64 ((wrap64 (s0_1 + 1)) - 1)) * 29)))) + (wrap64 ((wrap64 (Int.tdiv (wrap64 ((wrap64 (s0_1 + 1)) - 1)) (s0_0.length : Int))) * 53)))) (wrap64 (Int.tdiv (wrap64 ((wrap64 ((wrap64 ((wrap64 ((wrap64 (rd s0_0 (ji14))) * 131)) + (wrap64 ((wrap64 (rd s0_0 (Int.tmod (wrap64 ((wrap64 ((wrap64 ((wrap64 (s0_1 + 1)) - 1)) * 7)) + 3)) (s0_0.length : Int)))) * 1117)))) + (wrap64 ((wrap64 ((wrap64 (s0_1 + 1)) - 1)) * 29)))) + (wrap64 ((wrap64 (Int.tdiv (wrap64 ((wrap64 (s0_1 + 1)) - 1)) (s0_0.length : Int))) * 53)))) 64))) a1,(wrap64 (s0_1 + 1))))) else (none)) else (none)) else (none)) else (none)) = some (r1,r2):=by first | (rw [hji14] at H;exact H) | (simp only [hji14] at H ⊢;exact H)
      by_cases c15 : 0 ≤ (ji14)
      ·rw [if_pos c15] at H
       have c15b0 : decide (0 ≤ (ji14)) = true:=decide_eq_true c15
       clear c15
       by_cases c16 : (ji14) < (s0_0.length : Int)
       ·rw [if_pos c16] at H
        have c16b0 : decide ((ji14) < (s0_0.length : Int)) = true:=decide_eq_true c16
        clear c16
        obtain ⟨ji17,hji17⟩ : ∃ j_ : Int,(Int.tmod (wrap64 ((wrap64 ((wrap64 ((wrap64 (s0_1 + 1)) - 1)) * 7)) + 3)) (s0_0.length : Int)) = j_:=⟨_,rfl⟩
        replace H : (if 0 ≤ (ji17) then (if (ji17) < (s0_0.length : Int) then (if a1 = 0 then (none) else (some (Int.tmod (Go.bits .xor .i64 (wrap64 ((wrap64 ((wrap64 ((wrap64 ((wrap64 (rd s0_0 (ji14))) * 131)) + (wrap64 ((wrap64 (rd s0_0 (ji17))) * 1117)))) + (wrap64 ((wrap64 ((wrap64 (s0_1 + 1)) - 1)) * 29)))) + (wrap64 ((wrap64 (Int.tdiv (wrap64 ((wrap64 (s0_1 + 1)) - 1)) (s0_0.length : Int))) * 53)))) (wrap64 (Int.tdiv (wrap64 ((wrap64 ((wrap64 ((wrap64 ((wrap64 (rd s0_0 (ji14))) * 131)) + (wrap64 ((wrap64 (rd s0_0 (ji17))) * 1117)))) + (wrap64 ((wrap64 ((wrap64 (s0_1 + 1)) - 1)) * 29)))) + (wrap64 ((wrap64 (Int.tdiv (wrap64 ((wrap64 (s0_1 + 1)) - 1)) (s0_0.length : Int))) * 53)))) 64))) a1,(wrap64 (s0_1 + 1))))) else (none)) else (none)) = some (r1,r2):=by first | (rw [hji17] at H;exact H) | (simp only [hji17] at H ⊢;exact H)
        by_cases c18 : 0 ≤ (ji17)
        ·rw [if_pos c18] at H
         have c18b0 : decide (0 ≤ (ji17)) = true:=decide_eq_true c18
         clear c18
         by_cases c19 : (ji17) < (s0_0.length : Int)
         ·rw [if_pos c19] at H
          have c19b0 : decide ((ji17) < (s0_0.length : Int)) = true:=decide_eq_true c19
          clear c19
          by_cases c20 : a1 = 0
          ·rw [if_pos c20] at H
           exact absurd H (by simp)
          ·rw [if_neg c20] at H
           have c20b0 : (a1 == 0) = false:=beq_eq_false_iff_ne.mpr c20
           have c20b1 : (a1 != 0) = true:=bne_iff_ne.mpr c20
           simp only [Option.some.injEq,Prod.mk.injEq] at H
           obtain ⟨rfl,rfl⟩:=H
           obtain ⟨ASz21_0,cSz21_0,HGz21,hgz21,HSz21_0⟩:=HI0.out
           have hcz21_0:=cellS148_0 HGz21
           have hcz21_1:=cellS148_1 HGz21
           have hfz21_1:=blk_frozen HGz21 1
           clear HGz21 hgz21
           have p2 : 0 ≤ ((ji14) : Int):=of_decide_eq_true (by first | (with_reducible assumption) | assumption)
           have q2 : (ji14) < (s0_0.length : Int):=of_decide_eq_true (by first | (with_reducible assumption) | assumption)
           obtain ⟨ad2,e2,hx2_0⟩:=Kd.at_int HSz21_0 (ji14) p2 q2
           cases e2
           replace hx2_0:=pw_cell_below HB.out hx2_0
           replace p2:=eq_true p2
           replace q2:=eq_true q2
           have p3 : 0 ≤ ((ji17) : Int):=of_decide_eq_true (by first | (with_reducible assumption) | assumption)
           have q3 : (ji17) < (s0_0.length : Int):=of_decide_eq_true (by first | (with_reducible assumption) | assumption)
           obtain ⟨ad3,e3,hx3_0⟩:=Kd.at_int HSz21_0 (ji17) p3 q3
           obtain rfl : ad2 = ad3:=(by injection e3)
           replace hx3_0:=pw_cell_below HB.out hx3_0
           replace p3:=eq_true p3
           replace q3:=eq_true q3
           go_wp2
           repeat (go_quiet (fail);try go_wp2)
           go_ret
           exact ⟨by first | rfl | (simp [errW_none,errW_some] <;> rfl) | (simp only [← hji14,← hji17];first | rfl | (simp [errW_none,errW_some] <;> rfl)) | (simp [*,errW_none,errW_some] <;> rfl),by repeat (first | (with_reducible first | exact HI0.out | apply IsS148.alloc | apply IsS148.drewN | apply IsS148.drew | apply IsS148.set_1) | exact HI0.out),by repeat (first | (with_reducible first | exact HB.out | apply below_alloc | apply pw_below_drewN | apply below_drew1 | refine below_set ?_ (IsS148.ge HI0.out)) | exact HB.out),hk_⟩
         ·rw [if_neg c19] at H
          exact absurd H (by simp)
        ·rw [if_neg c18] at H
         exact absurd H (by simp)
       ·rw [if_neg c16] at H
        exact absurd H (by simp)
      ·rw [if_neg c15] at H
       exact absurd H (by simp)
theorem spec_pick_ev (b : List Int) (p n : Int) (hb : byL b) (h0 : 0 ≤ p) (hp : p ≤ 1099511627776) : ∃ x,Ev (fun k=>spec_reader_pick.f k b p n) (x,p + 1) ∧ 0 ≤ x ∧ (1 ≤ n → x < n) ∧ (n < 1 → x = 0):=by
 have e1 : wrap64 (p + 1) = p + 1:=wrap_in (by omega) (by omega)
 have e2 : wrap64 (p + 1 - 1) = p:=by rw [show p + 1 - 1 = p by omega];exact wrap_in (by omega) (by omega)
 unfold spec_reader_pick.f
 rw [e1]
 by_cases hn : n < 1
 ·refine ⟨0,Ev.pos hn (Ev.succ ?_),Int.le_refl _,fun h=>by omega,fun _=>rfl⟩
  simp only [spec_reader_pick.j0]
  exact Ev.pos trivial (Ev.const rfl)
 by_cases hz : ((b.length : Int) == 0) = true
 ·refine ⟨0,Ev.neg hn (Ev.succ ?_),Int.le_refl _,fun h=>by omega,fun _=>rfl⟩
  rw [hz]
  simp only [spec_reader_pick.j0]
  exact Ev.pos trivial (Ev.const rfl)
 have hz2 : ((b.length : Int) == 0) = false:=by simpa using hz
 have hz3 : 1 ≤ (b.length : Int):=by
  have:=beq_eq_false_iff_ne.1 hz2
  omega
 have hl:=hb.1
 have hn1 : 1 ≤ n:=by omega
 by_cases hlt : p < (b.length : Int)
 ·have hr:=byL_rd hb p
  have hm:=tmod_in hr.1 hn1
  refine ⟨Int.tmod (rd b p) n,Ev.neg hn (Ev.succ ?_),hm.1,fun _=>hm.2,fun h=>by omega⟩
  rw [hz2]
  simp only [spec_reader_pick.j0,e2]
  refine Ev.neg (by simp) (Ev.pos hlt (Ev.pos h0 (Ev.neg (by omega) (Ev.const ?_))))
  rw [wrap_in (i:=rd b p) (by omega) (by omega)]
 ·have m1:=tmod_in h0 hz3
  have e7 : wrap64 (wrap64 (p * 7) + 3) = p * 7 + 3:=by rw [wrap_in (i:=p * 7) (by omega) (by omega),wrap_in (by omega) (by omega)]
  have m2:=tmod_in (x:=p * 7 + 3) (by omega) hz3
  have r1:=byL_rd hb (Int.tmod p (b.length : Int))
  have r2:=byL_rd hb (Int.tmod (p * 7 + 3) (b.length : Int))
  have dq : 0 ≤ Int.tdiv p (b.length : Int) ∧ Int.tdiv p (b.length : Int) ≤ p:=by
   rw [Int.tdiv_eq_ediv_of_nonneg h0]
   exact ⟨Int.ediv_nonneg h0 (by omega),Int.ediv_le_self _ h0⟩
  generalize hx1 : rd b (Int.tmod p (b.length : Int)) = x1 at r1
  generalize hx2 : rd b (Int.tmod (p * 7 + 3) (b.length : Int)) = x2 at r2
  generalize hx3 : Int.tdiv p (b.length : Int) = x3 at dq
  have es : wrap64 (wrap64 (wrap64 (wrap64 (wrap64 x1 * 131) + wrap64 (wrap64 x2 * 1117)) + wrap64 (p * 29)) + wrap64 (wrap64 x3 * 53)) = x1 * 131 + x2 * 1117 + p * 29 + x3 * 53:=by
   rw [wrap_in (i:=x1) (by omega) (by omega),wrap_in (i:=x2) (by omega) (by omega),wrap_in (i:=x3) (by omega) (by omega),wrap_in (i:=x1 * 131) (by omega) (by omega),wrap_in (i:=x2 * 1117) (by omega) (by omega),wrap_in (i:=x3 * 53) (by omega) (by omega),wrap_in (i:=p * 29) (by omega) (by omega),wrap_in (i:=x1 * 131 + x2 * 1117) (by omega) (by omega),wrap_in (i:=x1 * 131 + x2 * 1117 + p * 29) (by omega) (by omega),wrap_in (by omega) (by omega)]
  obtain ⟨s,hs⟩ : ∃ s,s = x1 * 131 + x2 * 1117 + p * 29 + x3 * 53:=⟨_,rfl⟩
  have s0 : 0 ≤ s ∧ s ≤ 999999999999999:=by omega
  have d0 : 0 ≤ Int.tdiv s 64 ∧ Int.tdiv s 64 ≤ s:=by
   rw [Int.tdiv_eq_ediv_of_nonneg s0.1]
   exact ⟨Int.ediv_nonneg s0.1 (by omega),Int.ediv_le_self _ s0.1⟩
  have hxr:=xor_nonneg s (Int.tdiv s 64) s0.1 (by omega) d0.1 (by omega)
  have hm:=tmod_in hxr hn1
  refine ⟨Int.tmod (Go.bits .xor .i64 s (Int.tdiv s 64)) n,Ev.neg hn (Ev.succ ?_),hm.1,fun _=>hm.2,fun h=>by omega⟩
  rw [hz2]
  simp only [spec_reader_pick.j0,e2,e7,hx1,hx2,hx3,es,← hs]
  refine Ev.neg (by simp) (Ev.neg hlt (Ev.neg (by omega) (Ev.pos m1.1 (Ev.pos m1.2 (Ev.pos m2.1 (Ev.pos m2.2 (Ev.neg (by omega) (Ev.const ?_))))))))
  rw [wrap_in (i:=Int.tdiv s 64) (by omega) (by omega)]
end Go.Proofs.Ytacgehaipacehaa.P
namespace Go.Proofs.Ytacgehaipacehaa.P
open Go.RowKit Go.Proofs.YtacgehaipacehaaW.PrintWords Go.Proofs.YtacgehaipacehaaW.PrintLast Go.Proofs.YtacgehaipacehaaW.PrintMore
theorem is0_ {w0 W : World} {g : Nat} {f0 : List Int} {f1 : Int} (h : IsS148 w0 W g f0 f1 := by repeat (first | (with_reducible first | exact HI0.out | apply IsS148.alloc | apply IsS148.drewN | apply IsS148.drew | apply IsS148.set_1 | refine IsS148.far ?_ (Aside0.out (by assumption)) _) | exact HI0.out)) : IsS148 w0 W g f0 f1 := h
theorem hbi0_ {n : Nat} {w w' : World} (h : Below n w w' := by repeat (first | (with_reducible first | exact HB.out | apply below_alloc | apply pw_below_drewN | apply below_drew1 | refine below_set ?_ (IsS148.ge HI0.out) | refine below_set ?_ (Aside0.out (by assumption))) | exact HB.out)) : Below n w w' := h
theorem is5_ {w0 W : World} {g : Nat} {f0 : List Int} {f1 : Int} (h : IsS148 w0 W g f0 f1 := by repeat (first | (with_reducible first | exact HI5.out | apply IsS148.alloc | apply IsS148.drewN | apply IsS148.drew | apply IsS148.set_1 | refine IsS148.far ?_ (Aside0.out (by assumption)) _) | exact HI5.out)) : IsS148 w0 W g f0 f1 := h
theorem hbi5_ {n : Nat} {w w' : World} (h : Below n w w' := by repeat (first | (with_reducible first | exact HB.out | apply below_alloc | apply pw_below_drewN | apply below_drew1 | refine below_set ?_ (IsS148.ge HI5.out) | refine below_set ?_ (Aside0.out (by assumption))) | exact HB.out)) : Below n w w' := h
end Go.Proofs.Ytacgehaipacehaa.P
namespace Go.Proofs.Ytacgehaipacehaa.P
open Go.RowKit Go.Proofs.YtacgehaipacehaaW.PrintWords Go.Proofs.YtacgehaipacehaaW.PrintLast Go.Proofs.YtacgehaipacehaaW.PrintMore
attribute [local go_sem] max2_int min2_int max_two min_two max_three min_three max_four min_four
set_option linter.unusedVariables false
set_option linter.unusedSimpArgs false
def gT (t : List Cls) : Prop:=(∀ x ∈ t,x.f0.size ≤ 7) ∧ ∀ j,j < t.length → (j = 0 → (t.getD j z125).f1 = -1) ∧ (0 < j → 0 ≤ (t.getD j z125).f1 ∧ (t.getD j z125).f1 ≤ (j : Int) - 1)
theorem smT_mk {t : List Cls} (h : ∀ x ∈ t,x.f0.size ≤ 7) : smT t = true:=by
 unfold smT
 rw [List.all_eq_true]
 intro x hx
 have:=h x hx
 exact decide_eq_true (by omega)
theorem gT_snoc {t : List Cls} (h : gT t) (hl : 1 ≤ t.length) (x : Cls) (hx : x.f0.size ≤ 7) (h0 : 0 ≤ x.f1) (h1 : x.f1 ≤ (t.length : Int) - 1) : gT (t ++ [x]):=by
 refine ⟨fun y hy=>?_,fun j hj=>?_⟩
 ·rcases List.mem_append.1 hy with hy | hy
  ·exact h.1 y hy
  ·obtain rfl : y = x:=by simpa using hy
   exact hx
 ·rw [List.length_append,List.length_singleton] at hj
  by_cases e : j < t.length
  ·have : (t ++ [x]).getD j z125 = t.getD j z125:=by simp [List.getD,List.getElem?_append_left e]
   rw [this]
   exact h.2 j e
  ·obtain rfl : j = t.length:=by omega
   have : (t ++ [x]).getD t.length z125 = x:=by simp [List.getD]
   rw [this]
   exact ⟨fun h=>by omega,fun _=>⟨h0,h1⟩⟩
theorem set_mem {α : Type} {l : List α} {i : Nat} {v x : α} (h : x ∈ l.set i v) : x = v ∨ x ∈ l:=by
 rcases List.mem_or_eq_of_mem_set h with h | h
 ·exact Or.inr h
 ·exact Or.inl h
end Go.Proofs.Ytacgehaipacehaa.P
namespace Go.Proofs.Ytacgehaipacehaa.P
open Go.RowKit Go.Proofs.YtacgehaipacehaaW.PrintWords Go.Proofs.YtacgehaipacehaaW.PrintLast Go.Proofs.YtacgehaipacehaaW.PrintMore
attribute [local go_sem] max2_int min2_int max_two min_two max_three min_three max_four min_four
set_option linter.unusedVariables false
set_option linter.unusedSimpArgs false
def spec_reader_one.f (k : Nat) (s0_0 : List Int) (s0_1 : Int) (l1 : List Int) : Option (Int × Int):=(spec_reader_pick.f k s0_0 s0_1 (l1.length : Int)).bind fun bt1=>(if 0 ≤ bt1.1 then (if bt1.1 < (l1.length : Int) then (some (rd l1 bt1.1,bt1.2)) else (none)) else (none))
theorem spec_reader_one.mono : ∀ a0 a1 a2 k,LeO (spec_reader_one.f k a0 a1 a2) (spec_reader_one.f (k + 1) a0 a1 a2):=by
 intro a0 a1 a2 k
 unfold spec_reader_one.f
 repeat' first
   | (with_reducible exact spec_reader_pick.mono _ _ _ _)
   | (with_reducible exact LeO.refl _)
   | (with_reducible exact LeO.none _)
   | (with_reducible refine LeO.ite ?_ ?_)
   | (with_reducible refine LeO.bind ?_ (fun _=>?_))
   | exact spec_reader_pick.mono _ _ _ _
   | exact LeO.none _
   | refine LeO.ite ?_ ?_
   | refine LeO.bind ?_ (fun _=>?_)
set_option maxHeartbeats 8000000 in
set_option maxRecDepth 100000 in
theorem spec_reader_one.calls (k : Nat) (g : Nat) (s0_0 : List Int) (s0_1 : Int) (A1 : Option Addr) (c1 : Nat) (l1 : List Int) (r1 : Int) (r2 : Int) (w0 w : World) (hI : IsS148 w0 w g s0_0 s0_1) (hB : Below w0.heap.size w0 w) (hr1 : Kd.C (Kd.int .i64) w A1 l1.length l1) (hc1 : l1.length ≤ c1) (hf1 : ∀ ad,A1 = some ad → 0 < l1.length → ad.block ≠ g) (h : spec_reader_one.f k s0_0 s0_1 l1 = some (r1,r2)) :
  Calls Try.prog 146 #[.pointer (some ⟨g,0,none⟩),.slice A1 l1.length c1] w fun e w'=>e = .returned (.int .i64 r1) ∧ IsS148 w0 w' g s0_0 r2 ∧ Below w0.heap.size w0 w' ∧ KeepBut w w' g none:=by
 have HR1:=a0_ hr1
 have HC1:=a0_ hc1
 clear hr1 hc1
 have HI0:=a0_ hI
 have HK:=a0_ (KeepBut.refl w g none)
 have HL:=a0_ hB.size
 clear hI
 have HW0:=a0_ hB.size
 have HB:=a0_ hB
 clear hB
 have H : ((spec_reader_pick.f k s0_0 s0_1 (l1.length : Int)).bind fun bt1=>(if 0 ≤ bt1.1 then (if bt1.1 < (l1.length : Int) then (some (rd l1 bt1.1,bt1.2)) else (none)) else (none))) = some (r1,r2):=h
 clear h
 replace H:=Option.bind_eq_some_iff.mp H
 obtain ⟨⟨t1,t2⟩,A30,H⟩:=H
 try dsimp only at H
 have A3:=a0_ A30
 clear A30
 by_cases c4 : 0 ≤ t1
 ·rw [if_pos c4] at H
  have c4b0 : decide (0 ≤ t1) = true:=decide_eq_true c4
  clear c4
  by_cases c5 : t1 < (l1.length : Int)
  ·rw [if_pos c5] at H
   have c5b0 : decide (t1 < (l1.length : Int)) = true:=decide_eq_true c5
   clear c5
   simp only [Option.some.injEq,Prod.mk.injEq] at H
   obtain ⟨rfl,rfl⟩:=H
   go_enter Try.func146,Try.ntmps146
   go_wp2_with (first | ((with_reducible refine gate_callee (f:=110) rfl ?_);refine goesL_ (some 9) rfl rfl Try.func110 (by kernel_rfl) rfl #[.pointer (some ⟨g,0,none⟩),.int .i64 (l1.length : Int)] rfl lm_ ?_;(with_reducible refine (spec_reader_pick.calls k g s0_0 s0_1 (l1.length : Int) t1 t2 w0 _ ?side1 ?side2 A3.out).mono ?_);(case side1=>exact is0_);(case side2=>exact hbi0_);rintro e w6 ⟨rfl,hi,hb,hk⟩;refine ⟨_,rfl,?_⟩;replace HK:=a0_ (KeepBut.trans (w:=w) hk_ hk (.inl rfl));replace HI0:=a0_ (hi);replace HB:=a0_ (hb);(try clear hb);have p3 : 0 ≤ (t1 : Int):=of_decide_eq_true (by first | (with_reducible assumption) | assumption);have q3 : t1 < (l1.length : Int):=of_decide_eq_true (by first | (with_reducible assumption) | assumption);obtain ⟨ad3,e3,hx3_0⟩:=Kd.at_int HR1.out t1 p3 q3;cases e3;replace hx3_0:=keep_cell HK.out hx3_0 (by first | (rw [add_block];exact hf1 _ rfl (by omega)) | exact hf1 _ rfl (by omega) | exact hf1 ad3 rfl (by omega));replace p3:=eq_true p3;replace q3:=eq_true q3))
   go_ret
   exact ⟨by first | rfl | (simp [errW_none,errW_some] <;> rfl) | (simp [*,errW_none,errW_some] <;> rfl),is0_,hbi0_,hk_⟩
  ·rw [if_neg c5] at H
   exact absurd H (by simp)
 ·rw [if_neg c4] at H
  exact absurd H (by simp)
theorem spec_one_ev (b : List Int) (p : Int) (l : List Int) (hb : byL b) (h0 : 0 ≤ p) (hp : p ≤ 1099511627776) (hl : 1 ≤ l.length) : ∃ x,Ev (fun k=>spec_reader_one.f k b p l) (x,p + 1) ∧ x ∈ l:=by
 obtain ⟨x,hx,x0,x1,_⟩:=spec_pick_ev b p (l.length : Int) hb h0 hp
 have hlt:=x1 (by omega)
 have hn : x.toNat < l.length:=by omega
 refine ⟨rd l x,Ev.bind hx (Ev.pos x0 (Ev.pos hlt (Ev.const rfl))),?_⟩
 unfold rd
 rw [List.getD_eq_getElem?_getD,List.getElem?_eq_getElem hn]
 exact List.getElem_mem hn
end Go.Proofs.Ytacgehaipacehaa.P
namespace Go.Proofs.Ytacgehaipacehaa.P
open Go.RowKit Go.Proofs.YtacgehaipacehaaW.PrintWords Go.Proofs.YtacgehaipacehaaW.PrintLast Go.Proofs.YtacgehaipacehaaW.PrintMore
attribute [local go_sem] max2_int min2_int max_two min_two max_three min_three max_four min_four
set_option linter.unusedVariables false
set_option linter.unusedSimpArgs false
def spec_goodTree.l0 : Nat → List ByteArray → Int → Int → List Int → Int → List (S125) → Option ((List (S125)) × Int)
 | 0,_,_,_,_,_,_=>none
 | k + 1,x3,x5,x6,x1000,x1001,x9000=>if x6 < x5 then (if 0 ≤ x6 then (if x6 < (x3.length : Int) then ((spec_reader_pick.f k x1000 x1001 x6).bind fun bt15=>((spec_reader_one.f k x1000 bt15.2 (([0,bt15.1,wrap64 (x6 - 1)] : List Int))).bind fun bt20=>(if x9000.length < 5864062014805 then (spec_goodTree.l0 k x3 x5 (wrap64 (x6 + 1)) x1000 bt20.2 (x9000 ++ [(⟨rdOf ByteArray.empty x3 x6,bt20.1⟩ : S125)])) else (none)))) else (none)) else (none)) else (some (x9000,x1001))
def spec_goodTree.f (k : Nat) (s0_0 : List Int) (s0_1 : Int) : Option ((List (S125)) × Int):=(spec_reader_one.f k s0_0 s0_1 (([4,5,3,6,2,1,8] : List Int))).bind fun bt12=>(spec_goodTree.l0 k (([(⟨#[97,110,121]⟩ : ByteArray),(⟨#[105,111]⟩ : ByteArray),(⟨#[107,101,121]⟩ : ByteArray),(⟨#[116,105,109,101]⟩ : ByteArray),(⟨#[110,101,116]⟩ : ByteArray),(⟨#[100,105,115,107]⟩ : ByteArray),(⟨#[116,121,112,101]⟩ : ByteArray),(⟨#[111,100,100]⟩ : ByteArray)] : List ByteArray)) bt12.1 1 s0_0 bt12.2 (([(⟨(⟨#[97,110,121]⟩ : ByteArray),(-1)⟩ : S125)] : List (S125))))
theorem spec_goodTree.mono_l : ∀ k,(∀ y0 y1 y2 y3 y4 y5,LeO (spec_goodTree.l0 k y0 y1 y2 y3 y4 y5) (spec_goodTree.l0 (k + 1) y0 y1 y2 y3 y4 y5))
 | 0=>fun _ _ _ _ _ _ r h=>by simp [spec_goodTree.l0] at h
 | k + 1=>by
  have ih0:=spec_goodTree.mono_l k
  ·intro y0 y1 y2 y3 y4 y5
   unfold spec_goodTree.l0
   repeat' first
   | (with_reducible exact ih0 _ _ _ _ _ _)
   | (with_reducible exact spec_reader_one.mono _ _ _ _)
   | (with_reducible exact spec_reader_pick.mono _ _ _ _)
   | (with_reducible exact LeO.refl _)
   | (with_reducible exact LeO.none _)
   | (with_reducible refine LeO.ite ?_ ?_)
   | (with_reducible refine LeO.bind ?_ (fun _=>?_))
   | exact ih0 _ _ _ _ _ _
   | exact spec_reader_one.mono _ _ _ _
   | exact spec_reader_pick.mono _ _ _ _
   | exact LeO.none _
   | refine LeO.ite ?_ ?_
   | refine LeO.bind ?_ (fun _=>?_)
theorem spec_goodTree.mono : ∀ a0 a1 k,LeO (spec_goodTree.f k a0 a1) (spec_goodTree.f (k + 1) a0 a1):=by
 intro a0 a1 k
 have ih0:=spec_goodTree.mono_l k
 unfold spec_goodTree.f
 repeat' first
   | (with_reducible exact ih0 _ _ _ _ _ _)
   | (with_reducible exact spec_reader_one.mono _ _ _ _)
   | (with_reducible exact spec_reader_pick.mono _ _ _ _)
   | (with_reducible exact LeO.refl _)
   | (with_reducible exact LeO.none _)
   | (with_reducible refine LeO.ite ?_ ?_)
   | (with_reducible refine LeO.bind ?_ (fun _=>?_))
   | exact ih0 _ _ _ _ _ _
   | exact spec_reader_one.mono _ _ _ _
   | exact spec_reader_pick.mono _ _ _ _
   | exact LeO.none _
   | refine LeO.ite ?_ ?_
   | refine LeO.bind ?_ (fun _=>?_)
def spec_goodTree.T7 : Bool × List (List Nat × List Nat):=(true,[([],[]),([0],[0]),([],[]),([],[]),([2,3],[2,3]),([4],[4]),([],[]),([],[]),([],[]),([7,8],[7,8]),([],[]),([10],[10]),([9,11],[9,11]),([6,12,9],[6,12]),([5,13],[5,13]),([14],[14]),([1,15,13],[1,15]),([0,1,2,3,4,5,6,7,8,9,10,11,12,13,14,15,16],[]),([17,16,16,0,1,2,3,4,5,6,7,8,9,10,11,12,13,14,15,16],[16,17])])
def spec_goodTree.B7 : List Nat:=[0,1,0,0,12,28,0,0,0,384,0,1024,3968,8128,16380,32764,65535,131071,262143]
theorem spec_goodTree.tab7 : rtab .any (opsOf Try.f109 7) = spec_goodTree.T7:=by kernel_rfl
theorem spec_goodTree.bits7 : waitsOk spec_goodTree.T7.2 spec_goodTree.B7 = true:=by kernel_rfl
set_option maxHeartbeats 8000000 in
set_option maxRecDepth 100000 in
theorem spec_goodTree.calls (k : Nat) (g : Nat) (s0_0 : List Int) (s0_1 : Int) (r1 : List (S125)) (r2 : Int) (w0 w : World) (hI : IsS148 w0 w g s0_0 s0_1) (hB : Below w0.heap.size w0 w) (h : spec_goodTree.f k s0_0 s0_1 = some (r1,r2)) :
  Calls Try.prog 109 #[.pointer (some ⟨g,0,none⟩)] w fun e w'=>∃ v0_ : Value,e = .returned (.agg #[v0_]) ∧ Kd.R k125 125 w' w.heap.size (fun _=>True) v0_ r1 ∧ IsS148 w0 w' g s0_0 r2 ∧ Below w0.heap.size w0 w' ∧ KeepBut w w' g none:=by
 have hu25:=Try.underlying25
 have hu125:=Try.underlying125
 have HI0:=a0_ hI
 have HK:=a0_ (KeepBut.refl w g none)
 have HL:=a0_ hB.size
 clear hI
 have HW0:=a0_ hB.size
 have HB:=a0_ hB
 clear hB
 have H : ((spec_reader_one.f k s0_0 s0_1 (([4,5,3,6,2,1,8] : List Int))).bind fun bt12=>(spec_goodTree.l0 k (([(⟨#[97,110,121]⟩ : ByteArray),(⟨#[105,111]⟩ : ByteArray),(⟨#[107,101,121]⟩ : ByteArray),(⟨#[116,105,109,101]⟩ : ByteArray),(⟨#[110,101,116]⟩ : ByteArray),(⟨#[100,105,115,107]⟩ : ByteArray),(⟨#[116,121,112,101]⟩ : ByteArray),(⟨#[111,100,100]⟩ : ByteArray)] : List ByteArray)) bt12.1 1 s0_0 bt12.2 (([(⟨(⟨#[97,110,121]⟩ : ByteArray),(-1)⟩ : S125)] : List (S125))))) = some (r1,r2):=h
 clear h
 obtain ⟨y2,hy2⟩ : ∃ y_ : List ByteArray,y_ = (([(⟨#[97,110,121]⟩ : ByteArray),(⟨#[105,111]⟩ : ByteArray),(⟨#[107,101,121]⟩ : ByteArray),(⟨#[116,105,109,101]⟩ : ByteArray),(⟨#[110,101,116]⟩ : ByteArray),(⟨#[100,105,115,107]⟩ : ByteArray),(⟨#[116,121,112,101]⟩ : ByteArray),(⟨#[111,100,100]⟩ : ByteArray)] : List ByteArray)):=⟨_,rfl⟩
 replace H : ((spec_reader_one.f k s0_0 s0_1 (([4,5,3,6,2,1,8] : List Int))).bind fun bt12=>(spec_goodTree.l0 k y2 bt12.1 1 s0_0 bt12.2 (([(⟨(⟨#[97,110,121]⟩ : ByteArray),(-1)⟩ : S125)] : List (S125))))) = some (r1,r2):=by first | (rw [hy2];with_reducible exact H) | (have H2_:=(Option.bind_some _ _).symm.trans H;rw [hy2];with_reducible exact H2_) | (have H2_:=(Option.bind_some _ _).symm.trans H;with_reducible exact H2_) | with_reducible exact H | (rw [hy2];exact H) | exact H
 have Ny2:=a0_ hy2
 clear hy2
 obtain ⟨y5,hy5⟩ : ∃ y_ : List (S125),y_ = (([(⟨(⟨#[97,110,121]⟩ : ByteArray),(-1)⟩ : S125)] : List (S125))):=⟨_,rfl⟩
 replace H : ((spec_reader_one.f k s0_0 s0_1 (([4,5,3,6,2,1,8] : List Int))).bind fun bt12=>(spec_goodTree.l0 k y2 bt12.1 1 s0_0 bt12.2 y5)) = some (r1,r2):=by first | (rw [hy5];with_reducible exact H) | (have H2_:=(Option.bind_some _ _).symm.trans H;rw [hy5];with_reducible exact H2_) | (have H2_:=(Option.bind_some _ _).symm.trans H;with_reducible exact H2_) | with_reducible exact H | (rw [hy5];exact H) | exact H
 have Ny5:=a0_ hy5
 clear hy5
 obtain ⟨y9,hy9⟩ : ∃ y_ : List Int,y_ = (([4,5,3,6,2,1,8] : List Int)):=⟨_,rfl⟩
 replace H : ((spec_reader_one.f k s0_0 s0_1 y9).bind fun bt12=>(spec_goodTree.l0 k y2 bt12.1 1 s0_0 bt12.2 y5)) = some (r1,r2):=by first | (rw [hy9];with_reducible exact H) | (have H2_:=(Option.bind_some _ _).symm.trans H;rw [hy9];with_reducible exact H2_) | (have H2_:=(Option.bind_some _ _).symm.trans H;with_reducible exact H2_) | with_reducible exact H | (rw [hy9];exact H) | exact H
 have Ny9:=a0_ hy9
 clear hy9
 replace H:=Option.bind_eq_some_iff.mp H
 obtain ⟨⟨t12,t13⟩,A20,H⟩:=H
 replace H : (spec_goodTree.l0 k y2 t12 1 s0_0 t13 y5) = some (r1,r2):=H
 have A2:=a0_ A20
 clear A20
 have H':=a0_ H
 clear H
 go_enter Try.func109,Try.ntmps109
 go_wp2_with (first | ((with_reducible refine gate_dst (N:=2) rfl ?_);refine box_event ?hg (N:=2) ?hd (cs:=#[.slice none 0 0]) (t:=25) ?hr ?_;(case hd=>rfl);(case hg=>rfl);(case hr=>first | (go_simp;done) | (go_simp;rfl));intro gb1 hg w3 hbox hb;have n0_:=a0_ (IsS148.below is0_ hb);have n1_:=a0_ (KeepBut.trans (w:=w) hk_ (KeepBut.of_below hb g none) (.inl rfl));have n2_:=a0_ (below_step hbi0_ hb);have n3_:=a0_ (hbox);have n4_:=a0_ ((by rw [hg];exact (keep_size (w:=w) (g:=g) (row:=none) hk_) : w.heap.size ≤ gb1));have n5_:=a0_ ((Nat.le_trans HW0.out (by rw [hg];exact (keep_size (w:=w) (g:=g) (row:=none) hk_) : w.heap.size ≤ gb1) : w0.heap.size ≤ gb1));have n6_:=a0_ ((by rw [hg];exact Nat.ne_of_lt (IsS148.lt (is0_ : IsS148 w0 _ g s0_0 s0_1)) : g ≠ gb1));have n7_:=a0_ ((by rw [hg];exact Nat.ne_of_gt (IsS148.lt (is0_ : IsS148 w0 _ g s0_0 s0_1)) : gb1 ≠ g));clear HI0 HK HB;have HI0:=n0_;have HK:=n1_;have HB:=n2_;have BK1:=n3_;have GW1:=n4_;have GE1:=n5_;have NB0_1:=n6_;have NB1_0:=n7_;clear n0_ n1_ n2_ n3_ n4_ n5_ n6_ n7_;clear hb hbox hg) | ((with_reducible refine gate_dst (N:=7) rfl ?_);refine Kd.R_lit Kd.string _ 9 ?hg (N:=7) ?hd (xs:=([(⟨#[97,110,121]⟩ : ByteArray),(⟨#[105,111]⟩ : ByteArray),(⟨#[107,101,121]⟩ : ByteArray),(⟨#[116,105,109,101]⟩ : ByteArray),(⟨#[110,101,116]⟩ : ByteArray),(⟨#[100,105,115,107]⟩ : ByteArray),(⟨#[116,121,112,101]⟩ : ByteArray),(⟨#[111,100,100]⟩ : ByteArray)] : List ByteArray)) (inner:=[.string (⟨#[97,110,121]⟩ : ByteArray),.string (⟨#[105,111]⟩ : ByteArray),.string (⟨#[107,101,121]⟩ : ByteArray),.string (⟨#[116,105,109,101]⟩ : ByteArray),.string (⟨#[110,101,116]⟩ : ByteArray),.string (⟨#[100,105,115,107]⟩ : ByteArray),.string (⟨#[116,121,112,101]⟩ : ByteArray),.string (⟨#[111,100,100]⟩ : ByteArray)]) (ok:=fun _=>True) (okp:=fun _=>True) ?hr ?hp (fun _ hk=>hk) trivial (Below.refl _ _) (Nat.le_refl _) (by simp) ?_;(case hd=>rfl);(case hg=>rfl);(case hr=>first | (go_simp;done) | (go_simp;rfl));(case hp=>exact (Reps.one (show Kd.M Kd.string _ _ _ (⟨#[97,110,121]⟩ : ByteArray) [.string (⟨#[97,110,121]⟩ : ByteArray)] from rfl) (Reps.one (show Kd.M Kd.string _ _ _ (⟨#[105,111]⟩ : ByteArray) [.string (⟨#[105,111]⟩ : ByteArray)] from rfl) (Reps.one (show Kd.M Kd.string _ _ _ (⟨#[107,101,121]⟩ : ByteArray) [.string (⟨#[107,101,121]⟩ : ByteArray)] from rfl) (Reps.one (show Kd.M Kd.string _ _ _ (⟨#[116,105,109,101]⟩ : ByteArray) [.string (⟨#[116,105,109,101]⟩ : ByteArray)] from rfl) (Reps.one (show Kd.M Kd.string _ _ _ (⟨#[110,101,116]⟩ : ByteArray) [.string (⟨#[110,101,116]⟩ : ByteArray)] from rfl) (Reps.one (show Kd.M Kd.string _ _ _ (⟨#[100,105,115,107]⟩ : ByteArray) [.string (⟨#[100,105,115,107]⟩ : ByteArray)] from rfl) (Reps.one (show Kd.M Kd.string _ _ _ (⟨#[116,121,112,101]⟩ : ByteArray) [.string (⟨#[116,121,112,101]⟩ : ByteArray)] from rfl) (Reps.one (show Kd.M Kd.string _ _ _ (⟨#[111,100,100]⟩ : ByteArray) [.string (⟨#[111,100,100]⟩ : ByteArray)] from rfl) (Reps.none _ _))))))))));intro v3 w4 ho5 hb hg_ hnew_;clear hg_ hnew_;(first | rw [← Ny2.out] at ho5 | (simp only [Int.reduceToNat] at ho5;rw [← Ny2.out] at ho5));have n0_:=a0_ (Kd.R_lower ho5 (keep_size (w:=w) (g:=g) (row:=none) hk_));have n1_:=a0_ (IsS148.below is0_ hb);have n2_:=kb_ BK1 hb;have n3_:=a0_ (KeepBut.trans (w:=w) hk_ (KeepBut.of_below hb g none) (.inl rfl));have n4_:=a0_ (below_step hbi0_ hb);clear HI0 BK1;clear HK HB;have HO4:=n0_;have HI0:=n1_;have BK1:=n2_;have HK:=n3_;have HB:=n4_;clear n0_ n1_ n2_ n3_ n4_;clear hb ho5) | ((with_reducible refine gate_dst (N:=9) rfl ?_);refine Kd.R_lit k125 _ 125 ?hg (N:=9) ?hd (xs:=([(⟨(⟨#[97,110,121]⟩ : ByteArray),(-1)⟩ : S125)] : List (S125))) (inner:=[.string (⟨#[97,110,121]⟩ : ByteArray),.int .i64 (-1)]) (ok:=fun _=>True) (okp:=fun _=>True) ?hr ?hp (fun _ hk=>hk) trivial (Below.refl _ _) (Nat.le_refl _) (by simp) ?_;(case hd=>rfl);(case hg=>rfl);(case hr=>first | (go_simp;done) | (go_simp;rfl));(case hp=>exact (Reps.c2 (show Kd.M k125 _ _ _ (⟨(⟨#[97,110,121]⟩ : ByteArray),(-1)⟩ : S125) [.string (⟨#[97,110,121]⟩ : ByteArray),.int .i64 (-1)] from (k125_mkM _ _ _ (⟨(⟨#[97,110,121]⟩ : ByteArray),(-1)⟩ : S125) )) (Reps.none _ _)));intro v6 w6 ho7 hb hg_ hnew_;clear hg_ hnew_;(first | rw [← Ny5.out] at ho7 | (simp only [Int.reduceToNat] at ho7;rw [← Ny5.out] at ho7));have n0_:=rb_ HO4 hb;have n1_:=a0_ (Kd.R_lower ho7 (keep_size (w:=w) (g:=g) (row:=none) hk_));have n2_:=a0_ (IsS148.below is0_ hb);have n3_:=kb_ BK1 hb;have n4_:=a0_ (KeepBut.trans (w:=w) hk_ (KeepBut.of_below hb g none) (.inl rfl));have n5_:=a0_ (below_step hbi0_ hb);clear HO4 HI0;clear BK1 HK HB;have HO4:=n0_;have HO7:=n1_;have HI0:=n2_;have BK1:=n3_;have HK:=n4_;have HB:=n5_;clear n0_ n1_ n2_ n3_ n4_ n5_;clear hb ho7;obtain ⟨Ao8,co8,eo8⟩:=Kd.R_slice HO7.out;subst eo8) | ((with_reducible refine gate_dst (N:=4) rfl ?_);refine box_event ?hg (N:=4) ?hd (cs:=#[.slice none 0 0]) (t:=25) ?hr ?_;(case hd=>rfl);(case hg=>rfl);(case hr=>first | (go_simp;done) | (go_simp;rfl));intro gb8 hg w9 hbox hb;have n0_:=rb_ HO4 hb;have n1_:=rb_ HO7 hb;have n2_:=a0_ (IsS148.below is0_ hb);have n3_:=kb_ BK1 hb;have n4_:=a0_ (KeepBut.trans (w:=w) hk_ (KeepBut.of_below hb g none) (.inl rfl));have n5_:=a0_ (below_step hbi0_ hb);have n6_:=a0_ (hbox);have n7_:=a0_ ((by rw [hg];exact (keep_size (w:=w) (g:=g) (row:=none) hk_) : w.heap.size ≤ gb8));have n8_:=a0_ ((Nat.le_trans HW0.out (by rw [hg];exact (keep_size (w:=w) (g:=g) (row:=none) hk_) : w.heap.size ≤ gb8) : w0.heap.size ≤ gb8));have n9_:=a0_ ((by rw [hg];exact Nat.ne_of_lt (blk_lt (bb_ BK1.out)) : gb1 ≠ gb8));have n10_:=a0_ ((by rw [hg];exact Nat.ne_of_gt (blk_lt (bb_ BK1.out)) : gb8 ≠ gb1));have n11_:=a0_ ((by rw [hg];exact Nat.ne_of_lt (IsS148.lt (is0_ : IsS148 w0 _ g s0_0 s0_1)) : g ≠ gb8));have n12_:=a0_ ((by rw [hg];exact Nat.ne_of_gt (IsS148.lt (is0_ : IsS148 w0 _ g s0_0 s0_1)) : gb8 ≠ g));clear HO4 HO7;clear HI0 BK1;clear HK HB;have HO4:=n0_;have HO7:=n1_;have HI0:=n2_;have BK1:=n3_;have HK:=n4_;have HB:=n5_;have BK8:=n6_;have GW8:=n7_;have GE8:=n8_;have NB1_8:=n9_;have NB8_1:=n10_;have NB0_8:=n11_;have NB8_0:=n12_;clear n0_ n1_ n2_ n3_ n4_ n5_ n6_ n7_ n8_ n9_ n10_ n11_ n12_;clear hb hbox hg;have hnb10:=NB8_1.out;have hnc10:=NB1_8.out;have hnb11:=NB8_0.out;have hnc11:=NB0_8.out;have hcz12_0 : w9.cell? ⟨gb8,0,none⟩ = some (.slice none 0 0):=(blk_cell BK8.out 0).trans rfl;have hfz12_0:=blk_frozen BK8.out 0) | ((with_reducible refine gate_dst (N:=12) rfl ?_);refine Kd.R_lit (Kd.int .i64) _ 3 ?hg (N:=12) ?hd (xs:=([4,5,3,6,2,1,8] : List Int)) (inner:=[.int .i64 4,.int .i64 5,.int .i64 3,.int .i64 6,.int .i64 2,.int .i64 1,.int .i64 8]) (ok:=fun _=>True) (okp:=fun _=>True) ?hr ?hp (fun _ hk=>hk) trivial (Below.refl _ _) (Nat.le_refl _) (by simp) ?_;(case hd=>rfl);(case hg=>rfl);(case hr=>first | (go_simp;done) | (go_simp;rfl));(case hp=>exact (Reps.one (show Kd.M (Kd.int .i64) _ _ _ 4 [.int .i64 4] from rfl) (Reps.one (show Kd.M (Kd.int .i64) _ _ _ 5 [.int .i64 5] from rfl) (Reps.one (show Kd.M (Kd.int .i64) _ _ _ 3 [.int .i64 3] from rfl) (Reps.one (show Kd.M (Kd.int .i64) _ _ _ 6 [.int .i64 6] from rfl) (Reps.one (show Kd.M (Kd.int .i64) _ _ _ 2 [.int .i64 2] from rfl) (Reps.one (show Kd.M (Kd.int .i64) _ _ _ 1 [.int .i64 1] from rfl) (Reps.one (show Kd.M (Kd.int .i64) _ _ _ 8 [.int .i64 8] from rfl) (Reps.none _ _)))))))));intro v10 w13 ho14 hb hg_ hnew_;clear hg_ hnew_;(first | rw [← Ny9.out] at ho14 | (simp only [Int.reduceToNat] at ho14;rw [← Ny9.out] at ho14));have n0_:=a0_ (Kd.R_below (by (with_reducible repeat (first | apply Kd.R_alloc | apply Kd.R_drewN | apply Kd.R_drew));exact (Kd.R_mono (Kd.R_far (p:=⟨gb8,0,none⟩) (Kd.R_types HO4.out BK8.out (by decide)) (fun _ hk=>hk.2) (.slice Ao8 y5.length co8)) (fun _ h_=>h_.1))) hb);have n1_:=a0_ (Kd.R_below (by (with_reducible repeat (first | apply Kd.R_alloc | apply Kd.R_drewN | apply Kd.R_drew));exact (Kd.R_mono (Kd.R_far (p:=⟨gb8,0,none⟩) (Kd.R_types HO7.out BK8.out (by decide)) (fun _ hk=>hk.2) (.slice Ao8 y5.length co8)) (fun _ h_=>h_.1))) hb);have n2_:=a0_ (Kd.R_lower ho14 (keep_size (w:=w) (g:=g) (row:=none) hk_));have n3_:=a0_ (IsS148.below (is0_ : IsS148 w0 (w9.setCell ⟨gb8,0,none⟩ (.slice Ao8 y5.length co8)) g s0_0 s0_1) hb);have n4_:=kf_ BK1 NB1_8 hb;have n5_:=a0_ (blk_below (g:=gb8) (o:=.cells #[.slice Ao8 y5.length co8] 25 (0,0)) (by (with_reducible repeat (first | refine blk_drewN ?_ _ | refine blk_drew ?_ | refine blk_alloc ?_ _));refine blk_put (cs:=#[.slice none 0 0]) ?_ 0 _ rfl;(with_reducible repeat (first | refine blk_drewN ?_ _ | refine blk_drew ?_ | refine blk_alloc ?_ _));exact BK8.out) hb);have n6_:=a0_ (KeepBut.trans (w:=w) hk_ (KeepBut.of_below hb g none) (.inl rfl));have n7_:=a0_ (below_step hbi0_ hb);clear HO4 HO7;clear HI0 BK1;clear BK8 HK HB;have HO4:=n0_;have HO7:=n1_;have HO11:=n2_;have HI0:=n3_;have BK1:=n4_;have BK8:=n5_;have HK:=n6_;have HB:=n7_;clear n0_ n1_ n2_ n3_ n4_ n5_ n6_ n7_;clear hb ho14;obtain ⟨Ao15,co15,eo15⟩:=Kd.R_slice HO11.out;subst eo15) | ((with_reducible refine gate_callee (f:=146) rfl ?_);refine goesL_ (some 13) rfl rfl Try.func146 (by kernel_rfl) rfl #[.pointer (some ⟨g,0,none⟩),.slice Ao15 y9.length co15] rfl lm_ ?_;(with_reducible refine (spec_reader_one.calls k g s0_0 s0_1 _ _ y9 t12 t13 w0 _ ?side1 ?side2 ?side3 ?side4 ?side5 A2.out).mono ?_);(case side1=>exact is0_);(case side2=>exact hbi0_);(case side3=>exact cc_ (Kd.R_reads' HO11.out).2.2);(case side4=>exact (Kd.R_reads' HO11.out).2.1);(case side5=>exact far_slice (IsS148.own_ne HI0.out HO11.out (by decide)));rintro e w16 ⟨rfl,hi,hb,hk⟩;refine ⟨_,rfl,?_⟩;replace BK1:=kk_ hk BK1 NB1_0;replace HO4:=a0_ (Kd.R_mono (Kd.R_keep (IsS148.apart (is0_ : IsS148 w0 _ g s0_0 s0_1) (rr_ HO4.out) (by decide)) hk (fun _ h=>h.2)) (fun _ h=>h.1));replace HO7:=a0_ (Kd.R_mono (Kd.R_keep (IsS148.apart (is0_ : IsS148 w0 _ g s0_0 s0_1) (rr_ HO7.out) (by decide)) hk (fun _ h=>h.2)) (fun _ h=>h.1));replace BK8:=kk_ hk BK8 NB8_0;replace HO11:=a0_ (Kd.R_mono (Kd.R_keep (IsS148.apart (is0_ : IsS148 w0 _ g s0_0 s0_1) (rr_ HO11.out) (by decide)) hk (fun _ h=>h.2)) (fun _ h=>h.1));replace HK:=a0_ (KeepBut.trans (w:=w) hk_ hk (.inl rfl));replace HI0:=a0_ (hi);replace HB:=a0_ (hb);(try clear hb);(try clear hb2);(try clear hk);(try clear hi)))
 go_loopg [6] k (fun kq v6 w'=>∃ (x6_1 : Int) (x1001_1 : Int) (x9000_1 : List (S125)) (u9000 : Value),v6 = .int .i64 x6_1 ∧ Aside0 (spec_goodTree.l0 kq y2 t12 x6_1 s0_0 x1001_1 x9000_1 = some (r1,r2)) ∧ Aside0 (kq ≤ k) ∧ Aside0 (Kd.R Kd.string 9 w' w.heap.size (fun _=>True) v3 y2) ∧ Aside0 (Kd.R k125 125 w' w.heap.size (fun _=>True) u9000 x9000_1) ∧ Aside0 (w'.heap[gb1]? = some (.cells #[(.slice none 0 0)] 25 (0,0))) ∧ Aside0 (w'.heap[gb8]? = some (.cells #[u9000] 25 (0,0))) ∧ Aside0 (IsS148 w0 w' g s0_0 x1001_1) ∧ Aside0 (KeepBut w w' g none) ∧ Aside0 (Below w0.heap.size w0 w'))
 case atStart=>exact ⟨(1),(t13),(y5),(.slice Ao8 y5.length co8),(by first | rfl | (simp;done) | (simp [*];done)),H',⟨Nat.le_refl _⟩,⟨by (with_reducible repeat (first | apply Kd.R_alloc | apply Kd.R_drewN | apply Kd.R_drew));exact HO4.out⟩,⟨by (with_reducible repeat (first | apply Kd.R_alloc | apply Kd.R_drewN | apply Kd.R_drew));exact HO7.out⟩,⟨by (with_reducible repeat (first | refine blk_drewN ?_ _ | refine blk_drew ?_ | refine blk_alloc ?_ _));exact BK1.out⟩,⟨by (with_reducible repeat (first | refine blk_drewN ?_ _ | refine blk_drew ?_ | refine blk_alloc ?_ _));exact BK8.out⟩,⟨is0_⟩,⟨hk_⟩,⟨hbi0_⟩⟩
 case round =>
  clear H'
  try clear c1
  try clear c2
  try clear p2
  try clear c10
  try clear c11
  try clear c14
  try clear hcz12_0
  try clear hfz12_0
  obtain ⟨x6_1,x1001_1,x9000_1,u9000,rfl,HA,HK1,HO_3,Z9,BK1,BK8,HI0,HK,HB⟩:=hrel
  cases gk with
  | zero=>exact absurd HA.out (by simp [spec_goodTree.l0])
  | succ k1 =>
   have H:=HA.out
   clear HA
   simp only [spec_goodTree.l0] at H
   by_cases c17 : x6_1 < t12
   ·rw [if_pos c17] at H
    have c17b0 : decide (x6_1 < t12) = true:=decide_eq_true c17
    clear c17
    by_cases c18 : 0 ≤ x6_1
    ·rw [if_pos c18] at H
     have c18b0 : decide (0 ≤ x6_1) = true:=decide_eq_true c18
     clear c18
     by_cases c19 : x6_1 < (y2.length : Int)
     ·rw [if_pos c19] at H
      have c19b0 : decide (x6_1 < (y2.length : Int)) = true:=decide_eq_true c19
      clear c19
      replace H:=Option.bind_eq_some_iff.mp H
      obtain ⟨⟨t15,t16⟩,A200,H⟩:=H
      try dsimp only at H
      have A20:=a0_ A200
      clear A200
      obtain ⟨y17,hy17⟩ : ∃ y_ : List Int,y_ = (([0,t15,wrap64 (x6_1 - 1)] : List Int)):=⟨_,rfl⟩
      replace H : ((spec_reader_one.f k1 s0_0 t16 y17).bind fun bt20=>(if x9000_1.length < 5864062014805 then (spec_goodTree.l0 k1 y2 t12 (wrap64 (x6_1 + 1)) s0_0 bt20.2 (x9000_1 ++ [(⟨rdOf ByteArray.empty y2 x6_1,bt20.1⟩ : S125)])) else (none))) = some (r1,r2):=by first | (rw [hy17];with_reducible exact H) | (have H2_:=(Option.bind_some _ _).symm.trans H;rw [hy17];with_reducible exact H2_) | (have H2_:=(Option.bind_some _ _).symm.trans H;with_reducible exact H2_) | with_reducible exact H | (rw [hy17];exact H) | exact H
      have Ny17:=a0_ hy17
      clear hy17
      replace H:=Option.bind_eq_some_iff.mp H
      obtain ⟨⟨t20,t21⟩,A210,H⟩:=H
      try dsimp only at H
      have A21:=a0_ A210
      clear A210
      by_cases c22 : x9000_1.length < 5864062014805
      ·rw [if_pos c22] at H
       have LMc22:=a0_ c22
       clear c22
       obtain ⟨y22,hy22⟩ : ∃ y_ : List (S125),y_ = (x9000_1 ++ [(⟨rdOf ByteArray.empty y2 x6_1,t20⟩ : S125)]):=⟨_,rfl⟩
       replace H : (spec_goodTree.l0 k1 y2 t12 (wrap64 (x6_1 + 1)) s0_0 t21 y22) = some (r1,r2):=by first | (rw [hy22];with_reducible exact H) | (have H2_:=(Option.bind_some _ _).symm.trans H;rw [hy22];with_reducible exact H2_) | (have H2_:=(Option.bind_some _ _).symm.trans H;with_reducible exact H2_) | with_reducible exact H | (rw [hy22];exact H) | exact H
       have Ny22:=a0_ hy22
       clear hy22
       have H':=a0_ H
       clear H
       try go_wp2
       have n0_:=a0_ (Kd.R_drew HO_3.out)
       have n1_:=a0_ (Kd.R_drew Z9.out)
       have n2_:=a0_ (blk_drew BK1.out)
       have n3_:=a0_ (blk_drew BK8.out)
       have n4_:=a0_ (IsS148.drew HI0.out)
       have n5_:=a0_ (keep_drew HK.out)
       have n6_:=a0_ (below_drew1 HB.out)
       clear HO_3
       clear Z9
       clear BK1
       clear BK8
       clear HI0
       clear HK
       clear HB
       have HO_3:=n0_
       have Z9:=n1_
       have BK1:=n2_
       have BK8:=n3_
       have HI0:=n4_
       have HK:=n5_
       have HB:=n6_
       clear n0_ n1_ n2_ n3_ n4_ n5_ n6_
       obtain ⟨Ao24,co24,eo24⟩:=Kd.R_slice HO_3.out
       (first | subst eo24 | (injection eo24 with f1_ f2_ f3_;have f4_:=f1_.symm;have f5_:=f3_.symm;clear f1_ f2_ f3_;subst f4_;subst f5_))
       have p14 : 0 ≤ (x6_1 : Int):=of_decide_eq_true (by first | (with_reducible assumption) | assumption)
       have q14 : x6_1 < (y2.length : Int):=of_decide_eq_true (by first | (with_reducible assumption) | assumption)
       obtain ⟨ad14,e14,hx14_0⟩:=Kd.at_string (Kd.R_reads' HO_3.out).2.2 x6_1 p14 q14
       cases e14
       replace p14:=eq_true p14
       replace q14:=eq_true q14
       refine start_ (n:=19) (S:=fun w'=>w'.cell? ⟨gb8,0,none⟩ = some (u9000) ∧ w'.cell? (ad14.add (x6_1).toNat) = some (.string (rdOf ByteArray.empty y2 x6_1))) (ds:=[16,18]) #[false,false,false,false,false,false,false,false,false,false,false,false,false,false,false,false,false,false,false] (by kernel_rfl) rfl rfl ⟨(blk_cell BK8.out 0).trans rfl,hx14_0⟩ (fun hHeld=>?_);refine with_tabW spec_goodTree.tab7 spec_goodTree.bits7 (fun HT_ HW_=>?_)
       generalize wr.drew = w23 at HO_3 Z9 BK1 BK8 HI0 HK HB hx14_0 hHeld ⊢
       refine pure_ (i:=0) (N:=some 19) (v:=?_) (a':=?_) #[true,false,false,false,false,false,false,false,false,false,false,false,false,false,false,false,false,false,false] rfl rfl (any_of HT_.out (by kernel_rfl)) (fun _ _ _ h=>h) (Or.inl ⟨by rfl,?_⟩) ?_ ?_
       rotate_left
       ·intro w'
        go_simp
        with_reducible rfl
       rotate_left
       ·simp only [Act.put,s1_,s2_,s3_,i64_w,i32_w]
        rfl
       refine pure_ (i:=2) (N:=some 21) (v:=?_) (a':=?_) #[true,false,true,false,false,false,false,false,false,false,false,false,false,false,false,false,false,false,false] rfl rfl (any_of HT_.out (by kernel_rfl)) (fun _ _ _ h=>h) (Or.inl ⟨by rfl,?_⟩) ?_ ?_
       rotate_left
       ·intro w'
        go_simp
        with_reducible rfl
       rotate_left
       ·simp only [Act.put,s1_,s2_,s3_,i64_w,i32_w]
        rfl
       refine pure_ (i:=3) (N:=some 22) (v:=?_) (a':=?_) #[true,false,true,true,false,false,false,false,false,false,false,false,false,false,false,false,false,false,false] rfl rfl (any_of HT_.out (by kernel_rfl)) (fun _ _ _ h=>h) (Or.inl ⟨by rfl,?_⟩) ?_ ?_
       rotate_left
       ·intro w'
        go_simp
        with_reducible rfl
       rotate_left
       ·simp only [Act.put,s1_,s2_,s3_,i64_w,i32_w]
        rfl
       refine pure_ (i:=4) (N:=some 23) (v:=?_) (a':=?_) #[true,false,true,true,true,false,false,false,false,false,false,false,false,false,false,false,false,false,false] rfl rfl (any_of HT_.out (by kernel_rfl)) (fun _ _ _ h=>h) (Or.inl ⟨by rfl,?_⟩) ?_ ?_
       rotate_left
       ·intro w'
        go_simp
        with_reducible rfl
       rotate_left
       ·simp only [Act.put,s1_,s2_,s3_,i64_w,i32_w]
        rfl
       refine pure_ (i:=6) (N:=some 25) (v:=?_) (a':=?_) #[true,false,true,true,true,false,true,false,false,false,false,false,false,false,false,false,false,false,false] rfl rfl (any_of HT_.out (by kernel_rfl)) (fun _ _ _ h=>h) (Or.inl ⟨by rfl,?_⟩) ?_ ?_
       rotate_left
       ·intro w'
        go_simp
        with_reducible rfl
       rotate_left
       ·simp only [Act.put,s1_,s2_,s3_,i64_w,i32_w]
        rfl
       refine pure_ (i:=7) (N:=some 26) (v:=?_) (a':=?_) #[true,false,true,true,true,false,true,true,false,false,false,false,false,false,false,false,false,false,false] rfl rfl (any_of HT_.out (by kernel_rfl)) (fun _ _ _ h=>h) (Or.inl ⟨by rfl,?_⟩) ?_ ?_
       rotate_left
       ·intro w'
        go_simp
        with_reducible rfl
       rotate_left
       ·simp only [Act.put,s1_,s2_,s3_,i64_w,i32_w]
        rfl
       refine pure_ (i:=8) (N:=some 27) (v:=?_) (a':=?_) #[true,false,true,true,true,false,true,true,true,false,false,false,false,false,false,false,false,false,false] rfl rfl (any_of HT_.out (by kernel_rfl)) (fun _ _ _ h=>h) (Or.inl ⟨by rfl,?_⟩) ?_ ?_
       rotate_left
       ·intro w'
        go_simp
        with_reducible rfl
       rotate_left
       ·simp only [Act.put,s1_,s2_,s3_,i64_w,i32_w]
        rfl
       refine pure_ (i:=10) (N:=some 29) (v:=?_) (a':=?_) #[true,false,true,true,true,false,true,true,true,false,true,false,false,false,false,false,false,false,false] rfl rfl (any_of HT_.out (by kernel_rfl)) (fun _ _ _ h=>h) (Or.inl ⟨by rfl,?_⟩) ?_ ?_
       rotate_left
       ·intro w'
        go_simp
        with_reducible rfl
       rotate_left
       ·simp only [Act.put,s1_,s2_,s3_,i64_w,i32_w]
        rfl
       refine pure_ (i:=11) (N:=some 30) (v:=?_) (a':=?_) #[true,false,true,true,true,false,true,true,true,false,true,true,false,false,false,false,false,false,false] rfl rfl (any_of HT_.out (by kernel_rfl)) (fun _ _ _ h=>h) (Or.inl ⟨by rfl,?_⟩) ?_ ?_
       rotate_left
       ·intro w'
        go_simp
        with_reducible rfl
       rotate_left
       ·simp only [Act.put,s1_,s2_,s3_,i64_w,i32_w]
        rfl
       refine take_ (i:=1) (N:=some 20) (v:=?_) (a':=?_) #[true,true,true,true,true,false,true,true,true,false,true,true,false,false,false,false,false,false,false] rfl rfl (take_ofW HT_.out HW_.out (by kernel_rfl)) (fun _ _ _ h=>h) (Or.inl ⟨by rfl,?_⟩) hHeld ?_ ?_
       rotate_left
       ·rintro w' ⟨s0,s1⟩
        go_simp
        with_reducible rfl
       rotate_left
       ·simp only [Act.put,s1_,s2_,s3_,i64_w,i32_w]
        rfl
       refine take_ (i:=5) (N:=some 24) (v:=?_) (a':=?_) #[true,true,true,true,true,true,true,true,true,false,true,true,false,false,false,false,false,false,false] rfl rfl (take_ofW HT_.out HW_.out (by kernel_rfl)) (fun _ _ _ h=>h) (Or.inl ⟨by rfl,?_⟩) hHeld ?_ ?_
       rotate_left
       ·rintro w' ⟨s0,s1⟩
        go_simp
        with_reducible rfl
       rotate_left
       ·simp only [Act.put,s1_,s2_,s3_,i64_w,i32_w]
        rfl
       refine one_ (i:=9) (N:=some 28) #[true,true,true,true,true,true,true,true,true,true,true,true,false,false,false,false,false,false,false] rfl rfl (one_of HT_.out (by kernel_rfl)) (by decide) (fun K hK=>?_)
       refine goes_ Try.func110 (by kernel_rfl) rfl #[.pointer (some ⟨g,0,none⟩),.int .i64 x6_1] (by rfl) rfl rfl lm_ ?_
       with_reducible refine (spec_reader_pick.calls k1 g s0_0 x1001_1 x6_1 t15 t16 w0 _ ?side1 ?side2 A20.out).mono ?_
       (case side1=>exact is0_)
       (case side2=>exact hbi0_)
       rintro e w25 ⟨rfl,hi,hb,hk⟩
       have HS1_:=keep_cell hk (hHeld.2) (by first | (rw [add_block];exact Kd.own_blk (IsS148.own_ne HI0.out HO_3.out (by decide))) | (show (Addr.add _ _).block ≠ _;rw [add_block];exact Kd.own_blk (IsS148.own_ne HI0.out HO_3.out (by decide))) | exact Kd.own_blk (IsS148.own_ne HI0.out HO_3.out (by decide)))
       refine ⟨_,rfl,?_⟩
       have n0_:=a0_ (Kd.R_mono (Kd.R_keep (IsS148.apart (is0_ : IsS148 w0 _ g s0_0 x1001_1) (rr_ HO_3.out) (by decide)) hk (fun _ h=>h.2)) (fun _ h=>h.1))
       have n1_:=a0_ (Kd.R_mono (Kd.R_keep (IsS148.apart (is0_ : IsS148 w0 _ g s0_0 x1001_1) (rr_ Z9.out) (by decide)) hk (fun _ h=>h.2)) (fun _ h=>h.1))
       have n2_:=kk_ hk BK1 NB1_0
       have n3_:=kk_ hk BK8 NB8_0
       have n4_:=a0_ (KeepBut.trans (w:=w) hk_ hk (.inl rfl))
       have n5_:=a0_ (hb)
       have n6_:=a0_ (hi)
       clear HO_3
       clear Z9
       clear BK1
       clear BK8
       clear HK
       clear HB
       clear HI0
       have HO_3:=n0_
       have Z9:=n1_
       have BK1:=n2_
       have BK8:=n3_
       have HK:=n4_
       have HB:=n5_
       have HI0:=n6_
       clear n0_ n1_ n2_ n3_ n4_ n5_ n6_
       (try clear hb)
       (try clear hb2)
       (try clear hk)
       (try clear hi)
       refine hK.out _ _ ⟨(blk_cell BK8.out 0).trans rfl,HS1_⟩ (fun hHeld=>?_)
       clear hK K
       refine norm_ (a':=?_) ?_ ?_
       rotate_left
       ·show Act.put _ (some 28) _ = _
        simp only [Act.put,s1_,s2_,s3_,i64_w,i32_w]
        rfl
       refine one_ (i:=12) (N:=some 31) #[true,true,true,true,true,true,true,true,true,true,true,true,true,false,false,false,false,false,false] rfl rfl (one_of HT_.out (by kernel_rfl)) (by decide) (fun K hK=>?_)
       refine Kd.R_lit_step (Kd.int .i64) _ 3 ?hg (N:=31) ?hd (xs:=([0,t15,wrap64 (x6_1 - 1)] : List Int)) (inner:=[.int .i64 0,.int .i64 t15,.int .i64 (wrap64 (x6_1 - 1))]) (ok:=fun _=>True) (okp:=fun _=>True) ?hr ?hp (fun _ hk=>hk) trivial (Below.refl _ _) (Nat.le_refl _) (by simp) ?_;(case hd=>rfl);(case hg=>rfl);(case hr=>first | (go_simp;done) | (go_simp;rfl));(case hp=>exact (Reps.one (show Kd.M (Kd.int .i64) _ _ _ 0 [.int .i64 0] from rfl) (Reps.one (show Kd.M (Kd.int .i64) _ _ _ t15 [.int .i64 t15] from rfl) (Reps.one (show Kd.M (Kd.int .i64) _ _ _ (wrap64 (x6_1 - 1)) [.int .i64 (wrap64 (x6_1 - 1))] from rfl) (Reps.none _ _)))))
       intro v18 w26 ho27 hb hg_ hnew_
       have HS1_:=(hb.cell (World.block_lt_of_cell? _ _ (hHeld.2))).trans (hHeld.2)
       clear hg_ hnew_
       (first | rw [← Ny17.out] at ho27 | (simp only [Int.reduceToNat] at ho27;rw [← Ny17.out] at ho27))
       have n0_:=rb_ HO_3 hb
       have n1_:=rb_ Z9 hb
       have n2_:=a0_ (Kd.R_lower ho27 (keep_size (w:=w) (g:=g) (row:=none) hk_))
       have n3_:=kb_ BK1 hb
       have n4_:=kb_ BK8 hb
       have n5_:=a0_ (IsS148.below is0_ hb)
       have n6_:=a0_ (KeepBut.trans (w:=w) hk_ (KeepBut.of_below hb g none) (.inl rfl))
       have n7_:=a0_ (below_step hbi0_ hb)
       clear HO_3
       clear Z9
       clear BK1
       clear BK8
       clear HI0
       clear HK
       clear HB
       have HO_3:=n0_
       have Z9:=n1_
       have HO19:=n2_
       have BK1:=n3_
       have BK8:=n4_
       have HI0:=n5_
       have HK:=n6_
       have HB:=n7_
       clear n0_ n1_ n2_ n3_ n4_ n5_ n6_ n7_
       clear hb ho27
       obtain ⟨Ao28,co28,eo28⟩:=Kd.R_slice HO19.out
       (first | subst eo28 | (injection eo28 with f1_ f2_ f3_;have f4_:=f1_.symm;have f5_:=f3_.symm;clear f1_ f2_ f3_;subst f4_;subst f5_))
       refine hK.out _ _ ⟨(blk_cell BK8.out 0).trans rfl,HS1_⟩ (fun hHeld=>?_)
       clear hK K
       refine norm_ (a':=?_) ?_ ?_
       rotate_left
       ·show Act.put _ (some 31) _ = _
        simp only [Act.put,s1_,s2_,s3_,i64_w,i32_w]
        rfl
       refine one_ (i:=13) (N:=some 32) #[true,true,true,true,true,true,true,true,true,true,true,true,true,true,false,false,false,false,false] rfl rfl (one_of HT_.out (by kernel_rfl)) (by decide) (fun K hK=>?_)
       refine goes_ Try.func146 (by kernel_rfl) rfl #[.pointer (some ⟨g,0,none⟩),.slice Ao28 y17.length co28] (by rfl) rfl rfl lm_ ?_
       with_reducible refine (spec_reader_one.calls k1 g s0_0 t16 _ _ y17 t20 t21 w0 _ ?side1 ?side2 ?side3 ?side4 ?side5 A21.out).mono ?_
       (case side1=>exact is0_)
       (case side2=>exact hbi0_)
       (case side3=>exact cc_ (Kd.R_reads' HO19.out).2.2)
       (case side4=>exact (Kd.R_reads' HO19.out).2.1)
       (case side5=>exact far_slice (IsS148.own_ne HI0.out HO19.out (by decide)))
       rintro e w29 ⟨rfl,hi,hb,hk⟩
       have HS1_:=keep_cell hk (hHeld.2) (by first | (rw [add_block];exact Kd.own_blk (IsS148.own_ne HI0.out HO_3.out (by decide))) | (show (Addr.add _ _).block ≠ _;rw [add_block];exact Kd.own_blk (IsS148.own_ne HI0.out HO_3.out (by decide))) | exact Kd.own_blk (IsS148.own_ne HI0.out HO_3.out (by decide)))
       refine ⟨_,rfl,?_⟩
       have n0_:=a0_ (Kd.R_mono (Kd.R_keep (IsS148.apart (is0_ : IsS148 w0 _ g s0_0 t16) (rr_ HO_3.out) (by decide)) hk (fun _ h=>h.2)) (fun _ h=>h.1))
       have n1_:=a0_ (Kd.R_mono (Kd.R_keep (IsS148.apart (is0_ : IsS148 w0 _ g s0_0 t16) (rr_ Z9.out) (by decide)) hk (fun _ h=>h.2)) (fun _ h=>h.1))
       have n2_:=kk_ hk BK1 NB1_0
       have n3_:=kk_ hk BK8 NB8_0
       have n4_:=a0_ (Kd.R_mono (Kd.R_keep (IsS148.apart (is0_ : IsS148 w0 _ g s0_0 t16) (rr_ HO19.out) (by decide)) hk (fun _ h=>h.2)) (fun _ h=>h.1))
       have n5_:=a0_ (KeepBut.trans (w:=w) hk_ hk (.inl rfl))
       have n6_:=a0_ (hb)
       have n7_:=a0_ (hi)
       clear HO_3
       clear Z9
       clear BK1
       clear BK8
       clear HO19
       clear HK
       clear HB
       clear HI0
       have HO_3:=n0_
       have Z9:=n1_
       have BK1:=n2_
       have BK8:=n3_
       have HO19:=n4_
       have HK:=n5_
       have HB:=n6_
       have HI0:=n7_
       clear n0_ n1_ n2_ n3_ n4_ n5_ n6_ n7_
       (try clear hb)
       (try clear hb2)
       (try clear hk)
       (try clear hi)
       refine hK.out _ _ ⟨(blk_cell BK8.out 0).trans rfl,HS1_⟩ (fun hHeld=>?_)
       clear hK K
       refine norm_ (a':=?_) ?_ ?_
       rotate_left
       ·show Act.put _ (some 32) _ = _
        simp only [Act.put,s1_,s2_,s3_,i64_w,i32_w]
        rfl
       refine pure_ (i:=14) (N:=some 33) (v:=?_) (a':=?_) #[true,true,true,true,true,true,true,true,true,true,true,true,true,true,true,false,false,false,false] rfl rfl (any_of HT_.out (by kernel_rfl)) (fun _ _ _ h=>h) (Or.inl ⟨by rfl,?_⟩) ?_ ?_
       rotate_left
       ·intro w'
        go_simp
        with_reducible rfl
       rotate_left
       ·simp only [Act.put,s1_,s2_,s3_,i64_w,i32_w]
        rfl
       refine one_ (i:=15) (N:=some 34) #[true,true,true,true,true,true,true,true,true,true,true,true,true,true,true,true,false,false,false] rfl rfl (one_of HT_.out (by kernel_rfl)) (by decide) (fun K hK=>?_)
       refine value_ (w1:=?_) (v:=?_) (by rfl) rfl ?_ ?_
       rotate_left 2
       ·go_simp
        constructor
        ·rfl
        ·rfl
       refine hK.out _ _ ⟨(blk_cell (blk_alloc BK8.out _) 0).trans rfl,(World.cell?_alloc_lt _ _ _ (World.block_lt_of_cell? _ _ (hHeld.2))).trans (hHeld.2)⟩ (fun hHeld=>?_)
       clear hK K
       refine norm_ (a':=?_) ?_ ?_
       rotate_left
       ·show Act.put _ (some 34) _ = _
        simp only [Act.put,s1_,s2_,s3_,i64_w,i32_w]
        rfl
       refine last_ (i:=16) (N:=some 35) #[true,true,true,true,true,true,true,true,true,true,true,true,true,true,true,true,true,false,false] rfl rfl (one_of HT_.out (by kernel_rfl)) (by decide) (fun K hK=>?_)
       refine Kd.R_append_step k125 w.heap.size (by rfl) (.tmp 20) (.tmp 34) 23 125 (.agg #[(.string ⟨#[]⟩),(.int .i64 0)]) 24 rfl Try.underlying23 info125 rfl (by decide) (by omega) u9000 x9000_1 (⟨rdOf ByteArray.empty y2 x6_1,t20⟩ : S125) [.string (rdOf ByteArray.empty y2 x6_1),.int .i64 t20] (fun _=>True) (fun _=>False) rfl rfl ?aP (fun _ hk=>hk.elim) ?aF ?aO (Below.refl _ _) ?aS ?aL ?_
       (case aP=>exact k125_mkM _ _ _ (⟨rdOf ByteArray.empty y2 x6_1,t20⟩ : S125))
       (case aF=>exact (fun _ _=>trivial))
       (case aO=>exact (rr_ Z9.out))
       (case aS=>exact (keep_size (w:=w) (g:=g) (row:=none) hk_))
       (case aL=>have:=LMc22.out;omega)
       intro v23 w30 ho hb hg hat
       rw [← Ny22.out] at ho
       have n0_:=a0_ (Kd.R_over' (rr_ HO_3.out) (Kd.R_typed (rr_ Z9.out)) (by decide) hg)
       have n1_:=a0_ (blk_grown (bb_ BK1.out) hg (Kd.R_ne Z9.out BK1.out (by decide)))
       have n2_:=a0_ (blk_grown (bb_ BK8.out) hg (Kd.R_ne Z9.out BK8.out (by decide)))
       have n3_:=a0_ (IsS148.grown is0_ hg (IsS148.own_ne HI0.out Z9.out (by decide)))
       have n4_:=a0_ (Kd.R_over' (rr_ HO19.out) (Kd.R_typed (rr_ Z9.out)) (by decide) hg)
       have n5_:=a0_ (below_weaken hbi0_ HL.out hb)
       have n6_:=a0_ (KeepBut.trans (w:=w) hk_ (KeepBut.of_grown hg g) (Kd.R_base2 Z9.out))
       have n7_:=a0_ (ho)
       clear HO_3
       clear BK1
       clear BK8
       clear HI0
       clear HO19
       clear HB
       clear HK
       clear Z9
       have HO_3:=n0_
       have BK1:=n1_
       have BK8:=n2_
       have HI0:=n3_
       have HO19:=n4_
       have HB:=n5_
       have HK:=n6_
       have HO24:=n7_
       clear n0_ n1_ n2_ n3_ n4_ n5_ n6_ n7_
       clear ho hb hg hat
       obtain ⟨Ao31,co31,eo31⟩:=Kd.R_slice HO24.out
       (first | subst eo31 | (injection eo31 with f1_ f2_ f3_;have f4_:=f1_.symm;have f5_:=f3_.symm;clear f1_ f2_ f3_;subst f4_;subst f5_))
       refine hK.out _ _ ?_
       clear hK K
       refine norm_ (a':=?_) ?_ ?_
       rotate_left
       ·show Act.put _ (some 35) _ = _
        simp only [Act.put,s1_,s2_,s3_,i64_w,i32_w]
        rfl
       refine pure_ (i:=17) (N:=some 36) (v:=?_) (a':=?_) #[true,true,true,true,true,true,true,true,true,true,true,true,true,true,true,true,true,true,false] rfl rfl (any_of HT_.out (by kernel_rfl)) (fun _ _ _ h=>h) (Or.inl ⟨by rfl,?_⟩) ?_ ?_
       rotate_left
       ·intro w'
        go_simp
        with_reducible rfl
       rotate_left
       ·simp only [Act.put,s1_,s2_,s3_,i64_w,i32_w]
        rfl
       refine last_ (i:=18) (N:=none) #[true,true,true,true,true,true,true,true,true,true,true,true,true,true,true,true,true,true,true] rfl rfl (one_of HT_.out (by kernel_rfl)) (by decide) (fun K hK=>?_)
       have hs32 : w30.cell? ⟨gb8,0,none⟩ = some (u9000):=(blk_cell BK8.out 0).trans rfl
       have hfs32:=blk_frozen BK8.out 0
       have hns32_0:=NB1_8.out
       have hms32_0:=NB8_1.out
       refine skip_ (w1:=?_) (by rfl) rfl ?_ ?_
       rotate_left
       ·go_simp
        rfl
       refine hK.out _ _ ?_
       clear hK K
       refine done_ (done_of HT_.out (by kernel_rfl)) ?_
       try go_wp2
       go_roundg k1
       case measure=>have:=HK1.out;omega
       case rel=>exact ⟨(wrap64 (x6_1 + 1)),(t21),(y22),(.slice Ao31 y22.length co31),(by first | rfl | (simp;done) | (simp [*];done)),H',⟨by have:=HK1.out;omega⟩,⟨by (with_reducible repeat (first | apply Kd.R_alloc | apply Kd.R_drewN | apply Kd.R_drew));exact Kd.R_mono (Kd.R_far (p:=⟨gb8,0,none⟩) (Kd.R_types HO_3.out BK8.out (by decide)) (fun _ hk=>hk.2) (.slice Ao31 y22.length co31)) (fun _ hk=>trivial)⟩,⟨by (with_reducible repeat (first | apply Kd.R_alloc | apply Kd.R_drewN | apply Kd.R_drew));exact Kd.R_mono (Kd.R_far (p:=⟨gb8,0,none⟩) (Kd.R_types HO24.out BK8.out (by decide)) (fun _ hk=>hk.2) (.slice Ao31 y22.length co31)) (fun _ hk=>trivial)⟩,⟨by (with_reducible repeat (first | refine blk_drewN ?_ _ | refine blk_drew ?_ | refine blk_alloc ?_ _));refine blk_far ?_ NB1_8.out _;(with_reducible repeat (first | refine blk_drewN ?_ _ | refine blk_drew ?_ | refine blk_alloc ?_ _));exact BK1.out⟩,⟨by (with_reducible repeat (first | refine blk_drewN ?_ _ | refine blk_drew ?_ | refine blk_alloc ?_ _));refine blk_put (cs:=#[u9000]) ?_ 0 _ rfl;(with_reducible repeat (first | refine blk_drewN ?_ _ | refine blk_drew ?_ | refine blk_alloc ?_ _));exact BK8.out⟩,⟨is0_⟩,⟨hk_⟩,⟨hbi0_⟩⟩
      ·rw [if_neg c22] at H
       exact absurd H (by simp)
     ·rw [if_neg c19] at H
      exact absurd H (by simp)
    ·rw [if_neg c18] at H
     exact absurd H (by simp)
   ·rw [if_neg c17] at H
    have c17b0 : decide (x6_1 < t12) = false:=decide_eq_false c17
    clear c17
    simp only [Option.some.injEq,Prod.mk.injEq] at H
    obtain ⟨rfl,rfl⟩:=H
    have hnb33:=NB8_1.out
    have hnc33:=NB1_8.out
    have hnb34:=NB8_0.out
    have hnc34:=NB0_8.out
    have hcz35_0 : wr.cell? ⟨gb8,0,none⟩ = some (u9000):=(blk_cell BK8.out 0).trans rfl
    have hfz35_0:=blk_frozen BK8.out 0
    obtain ⟨Ao36,co36,eo36⟩:=Kd.R_slice Z9.out
    subst eo36
    have hnb37:=NB1_0.out
    have hnc37:=NB0_1.out
    have hcz38_0 : wr.cell? ⟨gb1,0,none⟩ = some (.slice none 0 0):=(blk_cell BK1.out 0).trans rfl
    have hfz38_0:=blk_frozen BK1.out 0
    go_wp2
    refine bodyPost_ret (results_cell_row rfl _ _ gb1 25 #[.slice Ao36 x9000_1.length co36] (0,0) _ rfl (by (with_reducible repeat (first | refine blk_drewN ?_ _ | refine blk_drew ?_ | refine blk_alloc ?_ _));refine blk_put (cs:=#[.slice none 0 0]) ?_ 0 _ rfl;(with_reducible repeat (first | refine blk_drewN ?_ _ | refine blk_drew ?_ | refine blk_alloc ?_ _));exact BK1.out) Try.underlying25 rfl (by kernel_rfl)) rfl ?_
    exact ⟨_,by first | rfl | (simp [errW_none,errW_some] <;> rfl) | (simp [*,errW_none,errW_some] <;> rfl),by (with_reducible repeat (first | apply Kd.R_alloc | apply Kd.R_drewN | apply Kd.R_drew));exact Kd.R_mono (Kd.R_far (p:=⟨gb1,0,none⟩) (Kd.R_types Z9.out BK1.out (by decide)) (fun _ hk=>hk.2) (.slice Ao36 x9000_1.length co36)) (fun _ hk=>trivial),is0_,hbi0_,hk_⟩
theorem spec_goodTree_l0 (b : List Int) (hb : byL b) (nm : List ByteArray) (hm : nm.length = 8) (hs : ∀ x ∈ nm,x.size ≤ 7) (n : Nat) (hn : n ≤ 8) : ∀ (d i : Nat) (q : Int) (t : List Cls),i + d = n → 1 ≤ i → t.length = i → 0 ≤ q → q + 2 * d ≤ 1099511627776 → gT t → ∃ t' q',Ev (fun k=>spec_goodTree.l0 k nm (n : Int) (i : Int) b q t) (t',q') ∧ q ≤ q' ∧ q' ≤ q + 2 * d ∧ t'.length = n ∧ gT t':=by
 intro d
 induction d with
 | zero =>
  intro i q t hi h1 hl hq0 hq1 hg
  refine ⟨t,q,Ev.succ ?_,by omega,by omega,by omega,hg⟩
  simp only [spec_goodTree.l0]
  exact Ev.neg (by omega) (Ev.const rfl)
 | succ d ih =>
  intro i q t hi h1 hl hq0 hq1 hg
  obtain ⟨x,hx,x0,x1,_⟩:=spec_pick_ev b q (i : Int) hb hq0 (by omega)
  have hxi:=x1 (by omega)
  have ew : wrap64 ((i : Int) - 1) = (i : Int) - 1:=wrap_in (by omega) (by omega)
  obtain ⟨y,hy,hym⟩:=spec_one_ev b (q + 1) [0,x,(i : Int) - 1] hb (by omega) (by omega) (by simp)
  have hyr : 0 ≤ y ∧ y ≤ (i : Int) - 1:=by
   simp only [List.mem_cons,List.not_mem_nil,or_false] at hym
   omega
  have hnm : (rdOf ByteArray.empty nm (i : Int)).size ≤ 7:=by
   refine hs _ ?_
   unfold rdOf
   rw [Int.toNat_natCast,List.getD_eq_getElem?_getD,List.getElem?_eq_getElem (show i < nm.length by omega)]
   exact List.getElem_mem _
  obtain ⟨t',q',he,h2,h3,h4,h5⟩:=ih (i + 1) (q + 1 + 1) (t ++ [⟨rdOf ByteArray.empty nm (i : Int),y⟩]) (by omega) (by omega) (by simp;omega) (by omega) (by omega) (gT_snoc hg (by omega) _ hnm hyr.1 (by rw [hl];exact hyr.2))
  refine ⟨t',q',Ev.succ ?_,by omega,by omega,h4,h5⟩
  simp only [spec_goodTree.l0,ew]
  refine Ev.pos (by omega) (Ev.pos (by omega) (Ev.pos (by omega) (Ev.bind hx (Ev.bind hy (Ev.pos (by omega) ?_)))))
  rw [wrap_succ (i:=(i : Int)) (n:=8) (by omega) (by omega) (by omega)]
  exact he
theorem spec_goodTree_ev (b : List Int) (p : Int) (hb : byL b) (h0 : 0 ≤ p) (hp : p ≤ 1099511627000) : ∃ t q,Ev (fun k=>spec_goodTree.f k b p) (t,q) ∧ p ≤ q ∧ q ≤ p + 20 ∧ 1 ≤ t.length ∧ t.length ≤ 8 ∧ gT t:=by
 obtain ⟨n,hn,hnm⟩:=spec_one_ev b p [4,5,3,6,2,1,8] hb h0 (by omega) (by simp)
 have hr : 1 ≤ n ∧ n ≤ 8:=by
  simp only [List.mem_cons,List.not_mem_nil,or_false] at hnm
  omega
 obtain ⟨m,rfl⟩:=Int.eq_ofNat_of_zero_le (show 0 ≤ n by omega)
 obtain ⟨t,q,he,h2,h3,h4,h5⟩:=spec_goodTree_l0 b hb [(⟨#[97,110,121]⟩ : ByteArray),(⟨#[105,111]⟩ : ByteArray),(⟨#[107,101,121]⟩ : ByteArray),(⟨#[116,105,109,101]⟩ : ByteArray),(⟨#[110,101,116]⟩ : ByteArray),(⟨#[100,105,115,107]⟩ : ByteArray),(⟨#[116,121,112,101]⟩ : ByteArray),(⟨#[111,100,100]⟩ : ByteArray)] rfl (by
  intro x hx
  simp only [List.mem_cons,List.not_mem_nil,or_false] at hx
  rcases hx with rfl | rfl | rfl | rfl | rfl | rfl | rfl | rfl <;> decide) m (by omega) (m - 1) 1 (p + 1) [⟨(⟨#[97,110,121]⟩ : ByteArray),(-1)⟩] (by omega) (by omega) rfl (by omega) (by omega) (by
  refine ⟨fun x hx=>?_,fun j hj=>?_⟩
  ·obtain rfl : x = ⟨(⟨#[97,110,121]⟩ : ByteArray),(-1)⟩:=by simpa using hx
   decide
  ·obtain rfl : j = 0:=by simp at hj;omega
   exact ⟨fun _=>rfl,fun h=>by omega⟩)
 exact ⟨t,q,Ev.bind hn he,by omega,by omega,by omega,by omega,h5⟩
end Go.Proofs.Ytacgehaipacehaa.P
namespace Go.Proofs.Ytacgehaipacehaa.P
open Go.RowKit Go.Proofs.YtacgehaipacehaaW.PrintWords Go.Proofs.YtacgehaipacehaaW.PrintLast Go.Proofs.YtacgehaipacehaaW.PrintMore
attribute [local go_sem] max2_int min2_int max_two min_two max_three min_three max_four min_four
set_option linter.unusedVariables false
set_option linter.unusedSimpArgs false
def spec_newReader.f (l0 : List Int) : Option (List Int × Int):=if (l0.length : Int) > 2000 then (if 2000 ≤ (l0.length : Int) then (some (l0.take 2000,0)) else (none)) else (some (l0,0))
set_option maxHeartbeats 8000000 in
set_option maxRecDepth 100000 in
theorem spec_newReader.calls (A0 : Option Addr) (c0 : Nat) (l0 : List Int) (r1 : List Int) (r2 : Int) (w0 w : World) (hB : Below w0.heap.size w0 w) (hr0 : Kd.C (Kd.int .u8) w0 A0 l0.length l0) (hc0 : l0.length ≤ c0) (h : spec_newReader.f l0 = some (r1,r2)) :
  Calls Try.prog 56 #[.slice A0 l0.length c0] w fun e w'=>∃ g_ : Nat,e = .returned (.pointer (some ⟨g_,0,none⟩)) ∧ IsS148 w0 w' g_ r1 r2 ∧ Below w0.heap.size w0 w' ∧ Below w.heap.size w w':=by
 have hu148:=Try.underlying148
 have HR0:=a0_ hr0
 have HC0:=a0_ hc0
 clear hr0 hc0
 have HBW:=a0_ (Below.refl w.heap.size w)
 have HW0:=a0_ hB.size
 have HB:=a0_ hB
 clear hB
 have H : (if (l0.length : Int) > 2000 then (if 2000 ≤ (l0.length : Int) then (some (l0.take 2000,0)) else (none)) else (some (l0,0))) = some (r1,r2):=h
 clear h
 by_cases c2 : (l0.length : Int) > 2000
 ·rw [if_pos c2] at H
  have c2b0 : decide (2000 < (l0.length : Int)) = true:=decide_eq_true c2
  have c2b1 : decide (2000 < l0.length) = true:=decide_eq_true (by omega)
  clear c2
  by_cases c3 : 2000 ≤ (l0.length : Int)
  ·rw [if_pos c3] at H
   have c3b0:=eq_true c3
   have c3b1 : decide (2000 ≤ (l0.length : Int)) = true:=decide_eq_true c3
   clear c3
   simp only [Option.some.injEq,Prod.mk.injEq] at H
   obtain ⟨rfl,rfl⟩:=H
   obtain ⟨i04,hi04,_,hsz4,_⟩:=info_parts info5
   obtain ⟨hcut4,hA4,hC4⟩:=print_take_of (P:=Try.prog) (Value.int .u8) 0 22 5 .i64 Try.underlying22 hi04 hsz4 A0 c0 l0 2000 (by omega) (of_decide_eq_true (by first | (with_reducible assumption) | assumption)) HC0.out
   have HR1:=a0_ (Kd.C_of_reads (h1:=fun _=>rfl) (hA4 _ (Kd.reads_of_C HR0.out)))
   have HC1:=a0_ hC4
   clear hA4 hC4 hi04 hsz4
   go_enter Try.func56,Try.ntmps56
   go_wp2_with (first | ((with_reducible refine gate_dst (N:=10) rfl ?_);refine box_event ?hg (N:=10) ?hd (cs:=#[.slice A0 (l0.take 2000).length c0,.int .i64 0]) (t:=148) ?hr ?_;(case hd=>rfl);(case hg=>rfl);(case hr=>first | (go_simp;done) | (go_simp;rfl));intro gb2 hg w5 hbox hb;have n0_:=a0_ (below_step HBW.out hb);have n1_:=a0_ (below_step hbw_ hb);have n2_:=a0_ (hbox);have n3_:=a0_ ((by rw [hg];exact (below_size (by repeat (first | (with_reducible first | exact HBW.out | apply below_alloc | apply pw_below_drewN | apply below_drew1) | exact HBW.out))) : w.heap.size ≤ gb2));have n4_:=a0_ ((Nat.le_trans HW0.out (by rw [hg];exact (below_size (by repeat (first | (with_reducible first | exact HBW.out | apply below_alloc | apply pw_below_drewN | apply below_drew1) | exact HBW.out))) : w.heap.size ≤ gb2) : w0.heap.size ≤ gb2));clear HBW HB;have HBW:=n0_;have HB:=n1_;have BK2:=n2_;have GW2:=n3_;have GE2:=n4_;clear n0_ n1_ n2_ n3_ n4_;clear hb hbox hg))
   go_ret
   exact ⟨_,rfl,(show IsS148 w0 _ gb2 (l0.take 2000) 0 from ⟨_,_,by (with_reducible repeat (first | refine blk_drewN ?_ _ | refine blk_drew ?_ | refine blk_alloc ?_ _));exact BK2.out,GE2.out,HR1.out⟩),hbw_,by repeat (first | (with_reducible first | exact HBW.out | apply below_alloc | apply pw_below_drewN | apply below_drew1 | refine below_set ?_ GW2.out) | exact HBW.out)⟩
  ·rw [if_neg c3] at H
   exact absurd H (by simp)
 ·rw [if_neg c2] at H
  have c2b0 : decide (2000 < (l0.length : Int)) = false:=decide_eq_false c2
  have c2b1 : decide (2000 < l0.length) = false:=decide_eq_false (by omega)
  clear c2
  simp only [Option.some.injEq,Prod.mk.injEq] at H
  obtain ⟨rfl,rfl⟩:=H
  go_enter Try.func56,Try.ntmps56
  go_wp2_with (first | ((with_reducible refine gate_dst (N:=10) rfl ?_);refine box_event ?hg (N:=10) ?hd (cs:=#[.slice A0 l0.length c0,.int .i64 0]) (t:=148) ?hr ?_;(case hd=>rfl);(case hg=>rfl);(case hr=>first | (go_simp;done) | (go_simp;rfl));intro gb3 hg w6 hbox hb;have n0_:=a0_ (below_step HBW.out hb);have n1_:=a0_ (below_step hbw_ hb);have n2_:=a0_ (hbox);have n3_:=a0_ ((by rw [hg];exact (below_size (by repeat (first | (with_reducible first | exact HBW.out | apply below_alloc | apply pw_below_drewN | apply below_drew1) | exact HBW.out))) : w.heap.size ≤ gb3));have n4_:=a0_ ((Nat.le_trans HW0.out (by rw [hg];exact (below_size (by repeat (first | (with_reducible first | exact HBW.out | apply below_alloc | apply pw_below_drewN | apply below_drew1) | exact HBW.out))) : w.heap.size ≤ gb3) : w0.heap.size ≤ gb3));clear HBW HB;have HBW:=n0_;have HB:=n1_;have BK3:=n2_;have GW3:=n3_;have GE3:=n4_;clear n0_ n1_ n2_ n3_ n4_;clear hb hbox hg))
  go_ret
  exact ⟨_,rfl,(show IsS148 w0 _ gb3 l0 0 from ⟨_,_,by (with_reducible repeat (first | refine blk_drewN ?_ _ | refine blk_drew ?_ | refine blk_alloc ?_ _));exact BK3.out,GE3.out,HR0.out⟩),hbw_,by repeat (first | (with_reducible first | exact HBW.out | apply below_alloc | apply pw_below_drewN | apply below_drew1 | refine below_set ?_ GW3.out) | exact HBW.out)⟩
theorem spec_newReader_ev (l : List Int) (hl : ∀ x ∈ l,(Lit.int .u8 x).wf = true) : ∃ b,spec_newReader.f l = some (b,0) ∧ byL b:=by
 have h8 : ∀ x ∈ l,0 ≤ x ∧ x ≤ 255:=by
  intro x hx
  have:=hl x hx
  simp [Lit.wf,IntKind.min,IntKind.max,IntKind.bits,IntKind.signed] at this
  omega
 unfold spec_newReader.f
 by_cases h : (l.length : Int) > 2000
 ·refine ⟨l.take 2000,by rw [if_pos h,if_pos (by omega)],?_,fun x hx=>h8 x (List.mem_of_mem_take hx)⟩
  rw [List.length_take]
  omega
 ·exact ⟨l,by rw [if_neg h],by omega,h8⟩
end Go.Proofs.Ytacgehaipacehaa.P
namespace Go.Proofs.Ytacgehaipacehaa.P
open Go.RowKit Go.Proofs.YtacgehaipacehaaW.PrintWords Go.Proofs.YtacgehaipacehaaW.PrintLast Go.Proofs.YtacgehaipacehaaW.PrintMore
attribute [local go_sem] max2_int min2_int max_two min_two max_three min_three max_four min_four
set_option linter.unusedVariables false
set_option linter.unusedSimpArgs false
def spec_reader_of.f (k : Nat) (s0_0 : List Int) (s0_1 : Int) (l1 : List ByteArray) : Option (ByteArray × Int):=(spec_reader_pick.f k s0_0 s0_1 (l1.length : Int)).bind fun bt1=>(if 0 ≤ bt1.1 then (if bt1.1 < (l1.length : Int) then (some (rdOf ByteArray.empty l1 bt1.1,bt1.2)) else (none)) else (none))
theorem spec_reader_of.mono : ∀ a0 a1 a2 k,LeO (spec_reader_of.f k a0 a1 a2) (spec_reader_of.f (k + 1) a0 a1 a2):=by
 intro a0 a1 a2 k
 unfold spec_reader_of.f
 repeat' first
   | (with_reducible exact spec_reader_pick.mono _ _ _ _)
   | (with_reducible exact LeO.refl _)
   | (with_reducible exact LeO.none _)
   | (with_reducible refine LeO.ite ?_ ?_)
   | (with_reducible refine LeO.bind ?_ (fun _=>?_))
   | exact spec_reader_pick.mono _ _ _ _
   | exact LeO.none _
   | refine LeO.ite ?_ ?_
   | refine LeO.bind ?_ (fun _=>?_)
set_option maxHeartbeats 8000000 in
set_option maxRecDepth 100000 in
theorem spec_reader_of.calls (k : Nat) (g : Nat) (s0_0 : List Int) (s0_1 : Int) (A1 : Option Addr) (c1 : Nat) (l1 : List ByteArray) (r1 : ByteArray) (r2 : Int) (w0 w : World) (hI : IsS148 w0 w g s0_0 s0_1) (hB : Below w0.heap.size w0 w) (hr1 : Kd.C Kd.string w A1 l1.length l1) (hc1 : l1.length ≤ c1) (hf1 : ∀ ad,A1 = some ad → 0 < l1.length → ad.block ≠ g) (h : spec_reader_of.f k s0_0 s0_1 l1 = some (r1,r2)) :
  Calls Try.prog 147 #[.pointer (some ⟨g,0,none⟩),.slice A1 l1.length c1] w fun e w'=>e = .returned (.string r1) ∧ IsS148 w0 w' g s0_0 r2 ∧ Below w0.heap.size w0 w' ∧ KeepBut w w' g none:=by
 have HR1:=a0_ hr1
 have HC1:=a0_ hc1
 clear hr1 hc1
 have HI0:=a0_ hI
 have HK:=a0_ (KeepBut.refl w g none)
 have HL:=a0_ hB.size
 clear hI
 have HW0:=a0_ hB.size
 have HB:=a0_ hB
 clear hB
 have H : ((spec_reader_pick.f k s0_0 s0_1 (l1.length : Int)).bind fun bt1=>(if 0 ≤ bt1.1 then (if bt1.1 < (l1.length : Int) then (some (rdOf ByteArray.empty l1 bt1.1,bt1.2)) else (none)) else (none))) = some (r1,r2):=h
 clear h
 replace H:=Option.bind_eq_some_iff.mp H
 obtain ⟨⟨t1,t2⟩,A30,H⟩:=H
 try dsimp only at H
 have A3:=a0_ A30
 clear A30
 by_cases c4 : 0 ≤ t1
 ·rw [if_pos c4] at H
  have c4b0 : decide (0 ≤ t1) = true:=decide_eq_true c4
  clear c4
  by_cases c5 : t1 < (l1.length : Int)
  ·rw [if_pos c5] at H
   have c5b0 : decide (t1 < (l1.length : Int)) = true:=decide_eq_true c5
   clear c5
   simp only [Option.some.injEq,Prod.mk.injEq] at H
   obtain ⟨rfl,rfl⟩:=H
   go_enter Try.func147,Try.ntmps147
   go_wp2_with (first | ((with_reducible refine gate_callee (f:=110) rfl ?_);refine goesL_ (some 9) rfl rfl Try.func110 (by kernel_rfl) rfl #[.pointer (some ⟨g,0,none⟩),.int .i64 (l1.length : Int)] rfl lm_ ?_;(with_reducible refine (spec_reader_pick.calls k g s0_0 s0_1 (l1.length : Int) t1 t2 w0 _ ?side1 ?side2 A3.out).mono ?_);(case side1=>exact is0_);(case side2=>exact hbi0_);rintro e w6 ⟨rfl,hi,hb,hk⟩;refine ⟨_,rfl,?_⟩;replace HK:=a0_ (KeepBut.trans (w:=w) hk_ hk (.inl rfl));replace HI0:=a0_ (hi);replace HB:=a0_ (hb);(try clear hb);have p3 : 0 ≤ (t1 : Int):=of_decide_eq_true (by first | (with_reducible assumption) | assumption);have q3 : t1 < (l1.length : Int):=of_decide_eq_true (by first | (with_reducible assumption) | assumption);obtain ⟨ad3,e3,hx3_0⟩:=Kd.at_string HR1.out t1 p3 q3;cases e3;replace hx3_0:=keep_cell HK.out hx3_0 (by first | (rw [add_block];exact hf1 _ rfl (by omega)) | exact hf1 _ rfl (by omega) | exact hf1 ad3 rfl (by omega));replace p3:=eq_true p3;replace q3:=eq_true q3))
   go_ret
   exact ⟨by first | rfl | (simp [errW_none,errW_some] <;> rfl) | (simp [*,errW_none,errW_some] <;> rfl),is0_,hbi0_,hk_⟩
  ·rw [if_neg c5] at H
   exact absurd H (by simp)
 ·rw [if_neg c4] at H
  exact absurd H (by simp)
theorem spec_of_ev (b : List Int) (p : Int) (l : List ByteArray) (hb : byL b) (h0 : 0 ≤ p) (hp : p ≤ 1099511627776) (hl : 1 ≤ l.length) : ∃ x,Ev (fun k=>spec_reader_of.f k b p l) (x,p + 1) ∧ x ∈ l:=by
 obtain ⟨x,hx,x0,x1,_⟩:=spec_pick_ev b p (l.length : Int) hb h0 hp
 have hlt:=x1 (by omega)
 have hn : x.toNat < l.length:=by omega
 refine ⟨rdOf ByteArray.empty l x,Ev.bind hx (Ev.pos x0 (Ev.pos hlt (Ev.const rfl))),?_⟩
 unfold rdOf
 rw [List.getD_eq_getElem?_getD,List.getElem?_eq_getElem hn]
 exact List.getElem_mem hn
end Go.Proofs.Ytacgehaipacehaa.P
namespace Go.Proofs.Ytacgehaipacehaa.P
open Go.RowKit Go.Proofs.YtacgehaipacehaaW.PrintWords Go.Proofs.YtacgehaipacehaaW.PrintLast Go.Proofs.YtacgehaipacehaaW.PrintMore
attribute [local go_sem] max2_int min2_int max_two min_two max_three min_three max_four min_four
set_option linter.unusedVariables false
set_option linter.unusedSimpArgs false
theorem sz1_mutate (b : UInt8) : (⟨#[b]⟩ : ByteArray).size = 1:=rfl
def spec_mutate.j0 : Nat → ByteArray → Int → Int → Bool → List Int → Int → Option (ByteArray × Int)
 | 0,_,_,_,_,_,_=>none
 | k + 1,x1,x5,x12,x13,x1000,x1001=>if x13 = true then (if x5 < (x1.size : Int) then (if 0 ≤ x5 then (if x5 ≤ (x1.size : Int) then ((spec_reader_of.f k x1000 x1001 (([(⟨#[48]⟩ : ByteArray),(⟨#[49]⟩ : ByteArray),(⟨#[32]⟩ : ByteArray),(⟨#[58]⟩ : ByteArray),(⟨#[97]⟩ : ByteArray),(⟨#[40]⟩ : ByteArray),(⟨#[41]⟩ : ByteArray),(⟨#[42]⟩ : ByteArray),(⟨#[10]⟩ : ByteArray)] : List ByteArray))).bind fun bt8=>(if (x1.extract 0 (x5 : Int).toNat).size + bt8.1.size ≤ 9223372036854775807 then (if 0 ≤ (wrap64 (x5 + 1)) then (if (wrap64 (x5 + 1)) ≤ (x1.size : Int) then (if ((x1.extract 0 (x5 : Int).toNat) ++ bt8.1).size + (x1.extract ((wrap64 (x5 + 1)) : Int).toNat x1.size).size ≤ 9223372036854775807 then (some (((x1.extract 0 (x5 : Int).toNat) ++ bt8.1) ++ (x1.extract ((wrap64 (x5 + 1)) : Int).toNat x1.size),bt8.2)) else (none)) else (none)) else (none)) else (none))) else (none)) else (none)) else (some (x1,x1001))) else (if x12 = 2 then (if 0 ≤ x5 then (if x5 ≤ (x1.size : Int) then (some (x1.extract 0 (x5 : Int).toNat,x1001)) else (none)) else (none)) else (if x12 = 3 then ((spec_reader_of.f k x1000 x1001 (([(⟨#[48]⟩ : ByteArray),(⟨#[32]⟩ : ByteArray),(⟨#[10]⟩ : ByteArray),(⟨#[120]⟩ : ByteArray),(⟨#[41]⟩ : ByteArray)] : List ByteArray))).bind fun bt13=>(if x1.size + bt13.1.size ≤ 9223372036854775807 then (some (x1 ++ bt13.1,bt13.2)) else (none))) else (some (x1,x1001))))
def spec_mutate.f (k : Nat) (s0_0 : List Int) (s0_1 : Int) (a1 : ByteArray) : Option (ByteArray × Int):=(spec_reader_pick.f k s0_0 s0_1 (wrap64 ((a1.size : Int) + 1))).bind fun bt1=>((spec_reader_pick.f k s0_0 bt1.2 5).bind fun bt3=>(if bt3.1 = 0 then (spec_mutate.j0 k a1 bt1.1 bt3.1 (bt3.1 == 0) s0_0 bt3.2) else (spec_mutate.j0 k a1 bt1.1 bt3.1 (bt3.1 == 1) s0_0 bt3.2)))
theorem spec_mutate.mono_l : ∀ k,(∀ y0 y1 y2 y3 y4 y5,LeO (spec_mutate.j0 k y0 y1 y2 y3 y4 y5) (spec_mutate.j0 (k + 1) y0 y1 y2 y3 y4 y5))
 | 0=>fun _ _ _ _ _ _ r h=>by simp [spec_mutate.j0] at h
 | k + 1=>by
  have ih0:=spec_mutate.mono_l k
  ·intro y0 y1 y2 y3 y4 y5
   unfold spec_mutate.j0
   repeat' first
   | (with_reducible exact ih0 _ _ _ _ _ _)
   | (with_reducible exact spec_reader_of.mono _ _ _ _)
   | (with_reducible exact spec_reader_pick.mono _ _ _ _)
   | (with_reducible exact LeO.refl _)
   | (with_reducible exact LeO.none _)
   | (with_reducible refine LeO.ite ?_ ?_)
   | (with_reducible refine LeO.bind ?_ (fun _=>?_))
   | exact ih0 _ _ _ _ _ _
   | exact spec_reader_of.mono _ _ _ _
   | exact spec_reader_pick.mono _ _ _ _
   | exact LeO.none _
   | refine LeO.ite ?_ ?_
   | refine LeO.bind ?_ (fun _=>?_)
theorem spec_mutate.mono : ∀ a0 a1 a2 k,LeO (spec_mutate.f k a0 a1 a2) (spec_mutate.f (k + 1) a0 a1 a2):=by
 intro a0 a1 a2 k
 have ih0:=spec_mutate.mono_l k
 unfold spec_mutate.f
 repeat' first
   | (with_reducible exact ih0 _ _ _ _ _ _)
   | (with_reducible exact spec_reader_of.mono _ _ _ _)
   | (with_reducible exact spec_reader_pick.mono _ _ _ _)
   | (with_reducible exact LeO.refl _)
   | (with_reducible exact LeO.none _)
   | (with_reducible refine LeO.ite ?_ ?_)
   | (with_reducible refine LeO.bind ?_ (fun _=>?_))
   | exact ih0 _ _ _ _ _ _
   | exact spec_reader_of.mono _ _ _ _
   | exact spec_reader_pick.mono _ _ _ _
   | exact LeO.none _
   | refine LeO.ite ?_ ?_
   | refine LeO.bind ?_ (fun _=>?_)
def spec_mutate.T6 : Bool × List (List Nat × List Nat):=(true,[([],[]),([],[]),([0,1],[0,1]),([],[]),([],[]),([3,4],[3,4]),([2,5],[2,5]),([],[]),([],[]),([8],[8]),([7,9],[7,9]),([6,10],[6,10]),([11,5,0,1,2,3,4,5,6,7,8,9,10,11],[11])])
def spec_mutate.B6 : List Nat:=[0,0,3,0,0,24,63,0,0,256,896,2047,4095]
theorem spec_mutate.tab6 : rtab .any (opsOf Try.f111 6) = spec_mutate.T6:=by kernel_rfl
theorem spec_mutate.bits6 : waitsOk spec_mutate.T6.2 spec_mutate.B6 = true:=by kernel_rfl
set_option maxHeartbeats 8000000 in
set_option maxRecDepth 100000 in
theorem spec_mutate.calls (k : Nat) (g : Nat) (s0_0 : List Int) (s0_1 : Int) (a1 : ByteArray) (r1 : ByteArray) (r2 : Int) (w0 w : World) (hI : IsS148 w0 w g s0_0 s0_1) (hB : Below w0.heap.size w0 w) (h : spec_mutate.f k s0_0 s0_1 a1 = some (r1,r2)) :
  Calls Try.prog 111 #[.pointer (some ⟨g,0,none⟩),.string a1] w fun e w'=>e = .returned (.string r1) ∧ IsS148 w0 w' g s0_0 r2 ∧ Below w0.heap.size w0 w' ∧ KeepBut w w' g none:=by
 have HI0:=a0_ hI
 have HK:=a0_ (KeepBut.refl w g none)
 have HL:=a0_ hB.size
 clear hI
 have HW0:=a0_ hB.size
 have HB:=a0_ hB
 clear hB
 have H : ((spec_reader_pick.f k s0_0 s0_1 (wrap64 ((a1.size : Int) + 1))).bind fun bt1=>((spec_reader_pick.f k s0_0 bt1.2 5).bind fun bt3=>(if bt3.1 = 0 then (spec_mutate.j0 k a1 bt1.1 bt3.1 (bt3.1 == 0) s0_0 bt3.2) else (spec_mutate.j0 k a1 bt1.1 bt3.1 (bt3.1 == 1) s0_0 bt3.2)))) = some (r1,r2):=h
 clear h
 replace H:=Option.bind_eq_some_iff.mp H
 obtain ⟨⟨t1,t2⟩,A30,H⟩:=H
 try dsimp only at H
 have A3:=a0_ A30
 clear A30
 replace H:=Option.bind_eq_some_iff.mp H
 obtain ⟨⟨t3,t4⟩,A40,H⟩:=H
 try dsimp only at H
 have A4:=a0_ A40
 clear A40
 have HC5:=a0_ H
 clear H
 go_enter Try.func111,Try.ntmps111
 go_upto_if 13 with (first | ((with_reducible refine gate_callee (f:=110) rfl ?_);refine goesL_ (some 10) rfl rfl Try.func110 (by kernel_rfl) rfl #[.pointer (some ⟨g,0,none⟩),.int .i64 (wrap64 ((a1.size : Int) + 1))] rfl lm_ ?_;(with_reducible refine (spec_reader_pick.calls k g s0_0 s0_1 (wrap64 ((a1.size : Int) + 1)) t1 t2 w0 _ ?side1 ?side2 A3.out).mono ?_);(case side1=>exact is0_);(case side2=>exact hbi0_);rintro e w6 ⟨rfl,hi,hb,hk⟩;refine ⟨_,rfl,?_⟩;replace HK:=a0_ (KeepBut.trans (w:=w) hk_ hk (.inl rfl));replace HI0:=a0_ (hi);replace HB:=a0_ (hb);(try clear hb);(try clear hb2);(try clear hk);(try clear hi)) | ((with_reducible refine gate_callee (f:=110) rfl ?_);refine goesL_ (some 12) rfl rfl Try.func110 (by kernel_rfl) rfl #[.pointer (some ⟨g,0,none⟩),.int .i64 5] rfl lm_ ?_;(with_reducible refine (spec_reader_pick.calls k g s0_0 t2 5 t3 t4 w0 _ ?side1 ?side2 A4.out).mono ?_);(case side1=>exact is0_);(case side2=>exact hbi0_);rintro e w7 ⟨rfl,hi,hb,hk⟩;refine ⟨_,rfl,?_⟩;replace HK:=a0_ (KeepBut.trans (w:=w) hk_ hk (.inl rfl));replace HI0:=a0_ (hi);replace HB:=a0_ (hb);(try clear hb);(try clear hb2);(try clear hk);(try clear hi)))
 (try simp only [Act.put,s1_,s2_,s3_])
 go_cut [13] (fun v13 wc=>∃ (kq : Nat) (x13_4 : Bool),v13 = .bool x13_4 ∧ Aside0 (spec_mutate.j0 kq a1 t1 t3 x13_4 s0_0 t4 = some (r1,r2)) ∧ Aside0 (kq ≤ k) ∧ Aside0 (IsS148 w0 wc g s0_0 t4) ∧ Aside0 (KeepBut w wc g none) ∧ Aside0 (Below w0.heap.size w0 wc))
 case first =>
  have H:=HC5.out
  clear HC5
  by_cases c8 : t3 = 0
  ·rw [if_pos c8] at H
   have c8b0 : (t3 == 0) = true:=beq_iff_eq.mpr c8
   have c8b1 : (t3 != 0) = false:=bne_eq_false_iff_eq.mpr c8
   clear c8
   (first | rw [c8b0] | (simp only [i64_w,i32_w];rw [c8b0]) | skip)
   have H':=a0_ H
   clear H
   go_wp2
   go_meet
   case rel=>exact ⟨_,((t3 == 0)),(by first | rfl | (simp;done) | (simp [*];done)),H',⟨by first | omega | exact Nat.le_refl _⟩,⟨is0_⟩,⟨hk_⟩,⟨hbi0_⟩⟩
  ·rw [if_neg c8] at H
   have c8b0 : (t3 == 0) = false:=beq_eq_false_iff_ne.mpr c8
   have c8b1 : (t3 != 0) = true:=bne_iff_ne.mpr c8
   (first | rw [c8b0] | (simp only [i64_w,i32_w];rw [c8b0]) | skip)
   have H':=a0_ H
   clear H
   go_wp2
   go_meet
   case rel=>exact ⟨_,((t3 == 1)),(by first | rfl | (simp;done) | (simp [*];done)),H',⟨by first | omega | exact Nat.le_refl _⟩,⟨is0_⟩,⟨hk_⟩,⟨hbi0_⟩⟩
 case rest =>
  clear HC5
  try clear c1
  try clear p2
  try clear p6
  try clear c8
  try clear c8b0
  try clear c8b1
  obtain ⟨kq,x13_4,rfl,HA,HJ4,HI0,HK,HB⟩:=hcut
  cases kq with
  | zero=>exact absurd HA.out (by simp [spec_mutate.j0])
  | succ kj4 =>
   have H:=HA.out
   clear HA
   simp only [spec_mutate.j0] at H
   by_cases c9 : x13_4 = true
   ·subst c9
    have H1 : (if t1 < (a1.size : Int) then (if 0 ≤ t1 then (if t1 ≤ (a1.size : Int) then ((spec_reader_of.f kj4 s0_0 t4 (([(⟨#[48]⟩ : ByteArray),(⟨#[49]⟩ : ByteArray),(⟨#[32]⟩ : ByteArray),(⟨#[58]⟩ : ByteArray),(⟨#[97]⟩ : ByteArray),(⟨#[40]⟩ : ByteArray),(⟨#[41]⟩ : ByteArray),(⟨#[42]⟩ : ByteArray),(⟨#[10]⟩ : ByteArray)] : List ByteArray))).bind fun bt8=>(if (a1.extract 0 (t1 : Int).toNat).size + bt8.1.size ≤ 9223372036854775807 then (if 0 ≤ (wrap64 (t1 + 1)) then (if (wrap64 (t1 + 1)) ≤ (a1.size : Int) then (if ((a1.extract 0 (t1 : Int).toNat) ++ bt8.1).size + (a1.extract ((wrap64 (t1 + 1)) : Int).toNat a1.size).size ≤ 9223372036854775807 then (some (((a1.extract 0 (t1 : Int).toNat) ++ bt8.1) ++ (a1.extract ((wrap64 (t1 + 1)) : Int).toNat a1.size),bt8.2)) else (none)) else (none)) else (none)) else (none))) else (none)) else (none)) else (some (a1,t4))) = some (r1,r2):=by rw [if_pos rfl] at H;exact H
    clear H
    have H:=H1
    clear H1
    by_cases c10 : t1 < (a1.size : Int)
    ·rw [if_pos c10] at H
     have c10b0 : decide (t1 < (a1.size : Int)) = true:=decide_eq_true c10
     clear c10
     by_cases c11 : 0 ≤ t1
     ·rw [if_pos c11] at H
      have c11b0:=eq_true c11
      have c11b1 : decide (0 ≤ t1) = true:=decide_eq_true c11
      clear c11
      by_cases c12 : t1 ≤ (a1.size : Int)
      ·rw [if_pos c12] at H
       have c12b0:=eq_true c12
       have c12b1 : decide (t1 ≤ (a1.size : Int)) = true:=decide_eq_true c12
       clear c12
       obtain ⟨y5,hy5⟩ : ∃ y_ : List ByteArray,y_ = (([(⟨#[48]⟩ : ByteArray),(⟨#[49]⟩ : ByteArray),(⟨#[32]⟩ : ByteArray),(⟨#[58]⟩ : ByteArray),(⟨#[97]⟩ : ByteArray),(⟨#[40]⟩ : ByteArray),(⟨#[41]⟩ : ByteArray),(⟨#[42]⟩ : ByteArray),(⟨#[10]⟩ : ByteArray)] : List ByteArray)):=⟨_,rfl⟩
       replace H : ((spec_reader_of.f kj4 s0_0 t4 y5).bind fun bt8=>(if (a1.extract 0 (t1 : Int).toNat).size + bt8.1.size ≤ 9223372036854775807 then (if 0 ≤ (wrap64 (t1 + 1)) then (if (wrap64 (t1 + 1)) ≤ (a1.size : Int) then (if ((a1.extract 0 (t1 : Int).toNat) ++ bt8.1).size + (a1.extract ((wrap64 (t1 + 1)) : Int).toNat a1.size).size ≤ 9223372036854775807 then (some (((a1.extract 0 (t1 : Int).toNat) ++ bt8.1) ++ (a1.extract ((wrap64 (t1 + 1)) : Int).toNat a1.size),bt8.2)) else (none)) else (none)) else (none)) else (none))) = some (r1,r2):=by first | (rw [hy5];with_reducible exact H) | (have H2_:=(Option.bind_some _ _).symm.trans H;rw [hy5];with_reducible exact H2_) | (have H2_:=(Option.bind_some _ _).symm.trans H;with_reducible exact H2_) | with_reducible exact H | (rw [hy5];exact H) | exact H
       have Ny5:=a0_ hy5
       clear hy5
       replace H:=Option.bind_eq_some_iff.mp H
       obtain ⟨⟨t8,t9⟩,A130,H⟩:=H
       try dsimp only at H
       have A13:=a0_ A130
       clear A130
       by_cases c14 : (a1.extract 0 (t1 : Int).toNat).size + t8.size ≤ 9223372036854775807
       ·rw [if_pos c14] at H
        have c14b0:=eq_true c14
        have c14b1 : decide ((a1.extract 0 (t1 : Int).toNat).size + t8.size ≤ 9223372036854775807) = true:=decide_eq_true c14
        try have c14b2 : (9223372036854775807 < (a1.extract 0 (t1 : Int).toNat).size + t8.size) = False:=eq_false (Nat.not_lt.2 c14)
        have c14b3 : (9223372036854775807 < t1.toNat + t8.size) = False:=eq_false (by have h_:=c14;have h2_:=of_eq_true c12b0;simp only [ByteArray.size_append,ByteArray.size_extract] at h_;omega)
        obtain ⟨ji15,hji15⟩ : ∃ j_ : Int,(wrap64 (t1 + 1)) = j_:=⟨_,rfl⟩
        replace H : (if 0 ≤ (ji15) then (if (ji15) ≤ (a1.size : Int) then (if ((a1.extract 0 (t1 : Int).toNat) ++ t8).size + (a1.extract ((ji15) : Int).toNat a1.size).size ≤ 9223372036854775807 then (some (((a1.extract 0 (t1 : Int).toNat) ++ t8) ++ (a1.extract ((ji15) : Int).toNat a1.size),t9)) else (none)) else (none)) else (none)) = some (r1,r2):=by first | (rw [hji15] at H;exact H) | (simp only [hji15] at H ⊢;exact H)
        (try rw [hji15] at A13)
        have hji15w : (IntKind.i64.wrap (t1 + 1)) = ji15:=(i64_w _).trans hji15
        by_cases c16 : 0 ≤ (ji15)
        ·rw [if_pos c16] at H
         have c16b0:=eq_true c16
         have c16b1 : decide (0 ≤ (ji15)) = true:=decide_eq_true c16
         clear c16
         by_cases c17 : (ji15) ≤ (a1.size : Int)
         ·rw [if_pos c17] at H
          have c17b0:=eq_true c17
          have c17b1 : decide ((ji15) ≤ (a1.size : Int)) = true:=decide_eq_true c17
          clear c17
          by_cases c18 : ((a1.extract 0 (t1 : Int).toNat) ++ t8).size + (a1.extract ((ji15) : Int).toNat a1.size).size ≤ 9223372036854775807
          ·rw [if_pos c18] at H
           have c18b0:=eq_true c18
           have c18b1 : decide (((a1.extract 0 (t1 : Int).toNat) ++ t8).size + (a1.extract ((ji15) : Int).toNat a1.size).size ≤ 9223372036854775807) = true:=decide_eq_true c18
           try have c18b2 : (9223372036854775807 < ((a1.extract 0 (t1 : Int).toNat) ++ t8).size + (a1.extract ((ji15) : Int).toNat a1.size).size) = False:=eq_false (Nat.not_lt.2 c18)
           have c18b3 : (9223372036854775807 < t1.toNat + t8.size + (a1.size - ji15.toNat)) = False:=eq_false (by have h_:=c18;have h2_:=of_eq_true c12b0;simp only [ByteArray.size_append,ByteArray.size_extract] at h_;omega)
           simp only [Option.some.injEq,Prod.mk.injEq] at H
           obtain ⟨rfl,rfl⟩:=H
           try go_wp2
           have n0_:=a0_ (IsS148.drew HI0.out)
           have n1_:=a0_ (keep_drew HK.out)
           have n2_:=a0_ (below_drew1 HB.out)
           clear HI0
           clear HK
           clear HB
           have HI0:=n0_
           have HK:=n1_
           have HB:=n2_
           clear n0_ n1_ n2_
           refine start_ (n:=13) (S:=fun w'=>True) (ds:=[]) #[false,false,false,false,false,false,false,false,false,false,false,false,false] (by kernel_rfl) rfl rfl trivial (fun hHeld=>?_);refine with_tabW spec_mutate.tab6 spec_mutate.bits6 (fun HT_ HW_=>?_)
           generalize wc.drew = w19 at HI0 HK HB hHeld ⊢
           refine pure_ (i:=0) (N:=some 20) (v:=?_) (a':=?_) #[true,false,false,false,false,false,false,false,false,false,false,false,false] rfl rfl (any_of HT_.out (by kernel_rfl)) (fun _ _ _ h=>h) (Or.inl ⟨by rfl,?_⟩) ?_ ?_
           rotate_left
           ·intro w'
            go_simp
            with_reducible rfl
           rotate_left
           ·simp only [Act.put,s1_,s2_,s3_,i64_w,i32_w]
            rfl
           refine pure_ (i:=1) (N:=some 21) (v:=?_) (a':=?_) #[true,true,false,false,false,false,false,false,false,false,false,false,false] rfl rfl (any_of HT_.out (by kernel_rfl)) (fun _ _ _ h=>h) (Or.inl ⟨by rfl,?_⟩) ?_ ?_
           rotate_left
           ·intro w'
            go_simp
            with_reducible rfl
           rotate_left
           ·simp only [Act.put,s1_,s2_,s3_,i64_w,i32_w]
            rfl
           refine pure_ (i:=2) (N:=some 22) (v:=?_) (a':=?_) #[true,true,true,false,false,false,false,false,false,false,false,false,false] rfl rfl (any_of HT_.out (by kernel_rfl)) (fun _ _ _ h=>h) (Or.inl ⟨by rfl,?_⟩) ?_ ?_
           rotate_left
           ·intro w'
            go_simp
            with_reducible rfl
           rotate_left
           ·simp only [Act.put,s1_,s2_,s3_,i64_w,i32_w]
            rfl
           refine pure_ (i:=3) (N:=some 23) (v:=?_) (a':=?_) #[true,true,true,true,false,false,false,false,false,false,false,false,false] rfl rfl (any_of HT_.out (by kernel_rfl)) (fun _ _ _ h=>h) (Or.inl ⟨by rfl,?_⟩) ?_ ?_
           rotate_left
           ·intro w'
            go_simp
            with_reducible rfl
           rotate_left
           ·simp only [Act.put,s1_,s2_,s3_,i64_w,i32_w]
            rfl
           refine pure_ (i:=7) (N:=some 27) (v:=?_) (a':=?_) #[true,true,true,true,false,false,false,true,false,false,false,false,false] rfl rfl (any_of HT_.out (by kernel_rfl)) (fun _ _ _ h=>h) (Or.inl ⟨by rfl,?_⟩) ?_ ?_
           rotate_left
           ·intro w'
            go_simp
            with_reducible rfl
           rotate_left
           ·simp only [Act.put,s1_,s2_,s3_,i64_w,i32_w]
            rfl
           refine pure_ (i:=8) (N:=some 28) (v:=?_) (a':=?_) #[true,true,true,true,false,false,false,true,true,false,false,false,false] rfl rfl (any_of HT_.out (by kernel_rfl)) (fun _ _ _ h=>h) (Or.inl ⟨by rfl,?_⟩) ?_ ?_
           rotate_left
           ·intro w'
            go_simp
            with_reducible rfl
           rotate_left
           ·simp only [Act.put,s1_,s2_,s3_,i64_w,i32_w]
            rfl
           refine pure_ (i:=9) (N:=some 29) (v:=?_) (a':=?_) #[true,true,true,true,false,false,false,true,true,true,false,false,false] rfl rfl (any_of HT_.out (by kernel_rfl)) (fun _ _ _ h=>h) (Or.inl ⟨by rfl,?_⟩) ?_ ?_
           rotate_left
           ·intro w'
            go_simp
            with_reducible rfl
           rotate_left
           ·simp only [Act.put,s1_,s2_,s3_,i64_w,i32_w]
            rfl
           refine pure_ (i:=10) (N:=some 30) (v:=?_) (a':=?_) #[true,true,true,true,false,false,false,true,true,true,true,false,false] rfl rfl (any_of HT_.out (by kernel_rfl)) (fun _ _ _ h=>h) (Or.inl ⟨by rfl,?_⟩) ?_ ?_
           rotate_left
           ·intro w'
            go_simp
            with_reducible rfl
           rotate_left
           ·simp only [Act.put,s1_,s2_,s3_,i64_w,i32_w]
            rfl
           refine one_ (i:=4) (N:=some 24) #[true,true,true,true,true,false,false,true,true,true,true,false,false] rfl rfl (one_of HT_.out (by kernel_rfl)) (by decide) (fun K hK=>?_)
           refine Kd.R_lit_step Kd.string _ 9 ?hg (N:=24) ?hd (xs:=([(⟨#[48]⟩ : ByteArray),(⟨#[49]⟩ : ByteArray),(⟨#[32]⟩ : ByteArray),(⟨#[58]⟩ : ByteArray),(⟨#[97]⟩ : ByteArray),(⟨#[40]⟩ : ByteArray),(⟨#[41]⟩ : ByteArray),(⟨#[42]⟩ : ByteArray),(⟨#[10]⟩ : ByteArray)] : List ByteArray)) (inner:=[.string (⟨#[48]⟩ : ByteArray),.string (⟨#[49]⟩ : ByteArray),.string (⟨#[32]⟩ : ByteArray),.string (⟨#[58]⟩ : ByteArray),.string (⟨#[97]⟩ : ByteArray),.string (⟨#[40]⟩ : ByteArray),.string (⟨#[41]⟩ : ByteArray),.string (⟨#[42]⟩ : ByteArray),.string (⟨#[10]⟩ : ByteArray)]) (ok:=fun _=>True) (okp:=fun _=>True) ?hr ?hp (fun _ hk=>hk) trivial (Below.refl _ _) (Nat.le_refl _) (by simp) ?_;(case hd=>rfl);(case hg=>rfl);(case hr=>first | (go_simp;done) | (go_simp;rfl));(case hp=>exact (Reps.one (show Kd.M Kd.string _ _ _ (⟨#[48]⟩ : ByteArray) [.string (⟨#[48]⟩ : ByteArray)] from rfl) (Reps.one (show Kd.M Kd.string _ _ _ (⟨#[49]⟩ : ByteArray) [.string (⟨#[49]⟩ : ByteArray)] from rfl) (Reps.one (show Kd.M Kd.string _ _ _ (⟨#[32]⟩ : ByteArray) [.string (⟨#[32]⟩ : ByteArray)] from rfl) (Reps.one (show Kd.M Kd.string _ _ _ (⟨#[58]⟩ : ByteArray) [.string (⟨#[58]⟩ : ByteArray)] from rfl) (Reps.one (show Kd.M Kd.string _ _ _ (⟨#[97]⟩ : ByteArray) [.string (⟨#[97]⟩ : ByteArray)] from rfl) (Reps.one (show Kd.M Kd.string _ _ _ (⟨#[40]⟩ : ByteArray) [.string (⟨#[40]⟩ : ByteArray)] from rfl) (Reps.one (show Kd.M Kd.string _ _ _ (⟨#[41]⟩ : ByteArray) [.string (⟨#[41]⟩ : ByteArray)] from rfl) (Reps.one (show Kd.M Kd.string _ _ _ (⟨#[42]⟩ : ByteArray) [.string (⟨#[42]⟩ : ByteArray)] from rfl) (Reps.one (show Kd.M Kd.string _ _ _ (⟨#[10]⟩ : ByteArray) [.string (⟨#[10]⟩ : ByteArray)] from rfl) (Reps.none _ _)))))))))))
           intro v6 w20 ho21 hb hg_ hnew_
           clear hg_ hnew_
           (first | rw [← Ny5.out] at ho21 | (simp only [Int.reduceToNat] at ho21;rw [← Ny5.out] at ho21))
           have n0_:=a0_ (Kd.R_lower ho21 (keep_size (w:=w) (g:=g) (row:=none) hk_))
           have n1_:=a0_ (IsS148.below is0_ hb)
           have n2_:=a0_ (KeepBut.trans (w:=w) hk_ (KeepBut.of_below hb g none) (.inl rfl))
           have n3_:=a0_ (below_step hbi0_ hb)
           clear HI0
           clear HK
           clear HB
           have HO7:=n0_
           have HI0:=n1_
           have HK:=n2_
           have HB:=n3_
           clear n0_ n1_ n2_ n3_
           clear hb ho21
           obtain ⟨Ao22,co22,eo22⟩:=Kd.R_slice HO7.out
           (first | subst eo22 | (injection eo22 with f1_ f2_ f3_;have f4_:=f1_.symm;have f5_:=f3_.symm;clear f1_ f2_ f3_;subst f4_;subst f5_))
           refine hK.out _ _ trivial (fun hHeld=>?_)
           clear hK K
           refine norm_ (a':=?_) ?_ ?_
           rotate_left
           ·show Act.put _ (some 24) _ = _
            simp only [Act.put,s1_,s2_,s3_,i64_w,i32_w]
            rfl
           refine one_ (i:=5) (N:=some 25) #[true,true,true,true,true,true,false,true,true,true,true,false,false] rfl rfl (one_of HT_.out (by kernel_rfl)) (by decide) (fun K hK=>?_)
           refine goes_ Try.func147 (by kernel_rfl) rfl #[.pointer (some ⟨g,0,none⟩),.slice Ao22 y5.length co22] (by rfl) rfl rfl lm_ ?_
           with_reducible refine (spec_reader_of.calls kj4 g s0_0 t4 _ _ y5 t8 t9 w0 _ ?side1 ?side2 ?side3 ?side4 ?side5 A13.out).mono ?_
           (case side1=>exact is0_)
           (case side2=>exact hbi0_)
           (case side3=>exact cc_ (Kd.R_reads' HO7.out).2.2)
           (case side4=>exact (Kd.R_reads' HO7.out).2.1)
           (case side5=>exact far_slice (IsS148.own_ne HI0.out HO7.out (by decide)))
           rintro e w23 ⟨rfl,hi,hb,hk⟩
           refine ⟨_,rfl,?_⟩
           have n0_:=a0_ (Kd.R_mono (Kd.R_keep (IsS148.apart (is0_ : IsS148 w0 _ g s0_0 t4) (rr_ HO7.out) (by decide)) hk (fun _ h=>h.2)) (fun _ h=>h.1))
           have n1_:=a0_ (KeepBut.trans (w:=w) hk_ hk (.inl rfl))
           have n2_:=a0_ (hb)
           have n3_:=a0_ (hi)
           clear HO7
           clear HK
           clear HB
           clear HI0
           have HO7:=n0_
           have HK:=n1_
           have HB:=n2_
           have HI0:=n3_
           clear n0_ n1_ n2_ n3_
           (try clear hb)
           (try clear hb2)
           (try clear hk)
           (try clear hi)
           refine hK.out _ _ trivial (fun hHeld=>?_)
           clear hK K
           refine norm_ (a':=?_) ?_ ?_
           rotate_left
           ·show Act.put _ (some 25) _ = _
            simp only [Act.put,s1_,s2_,s3_,i64_w,i32_w]
            rfl
           refine pure_ (i:=6) (N:=some 26) (v:=?_) (a':=?_) #[true,true,true,true,true,true,true,true,true,true,true,false,false] rfl rfl (any_of HT_.out (by kernel_rfl)) (fun _ _ _ h=>h) (Or.inl ⟨by rfl,?_⟩) ?_ ?_
           rotate_left
           ·intro w'
            go_simp
            with_reducible rfl
           rotate_left
           ·simp only [Act.put,s1_,s2_,s3_,i64_w,i32_w]
            rfl
           refine pure_ (i:=11) (N:=some 31) (v:=?_) (a':=?_) #[true,true,true,true,true,true,true,true,true,true,true,true,false] rfl rfl (any_of HT_.out (by kernel_rfl)) (fun _ _ _ h=>h) (Or.inl ⟨by rfl,?_⟩) ?_ ?_
           rotate_left
           ·intro w'
            go_simp
            with_reducible rfl
           rotate_left
           ·simp only [Act.put,s1_,s2_,s3_,i64_w,i32_w]
            rfl
           refine pure_ (i:=12) (N:=some 4) (v:=?_) (a':=?_) #[true,true,true,true,true,true,true,true,true,true,true,true,true] rfl rfl (any_of HT_.out (by kernel_rfl)) (fun _ _ _ h=>h) (Or.inl ⟨by rfl,?_⟩) ?_ ?_
           rotate_left
           ·intro w'
            go_simp
            with_reducible rfl
           rotate_left
           ·simp only [Act.put,s1_,s2_,s3_,i64_w,i32_w]
            rfl
           refine done_ (done_of HT_.out (by kernel_rfl)) ?_
           try go_wp2
           go_ret
           exact ⟨by first | rfl | (simp [errW_none,errW_some] <;> rfl) | (simp only [← hji15];first | rfl | (simp [errW_none,errW_some] <;> rfl)) | (simp [*,errW_none,errW_some] <;> rfl),is0_,hbi0_,hk_⟩
          ·rw [if_neg c18] at H
           exact absurd H (by simp)
         ·rw [if_neg c17] at H
          exact absurd H (by simp)
        ·rw [if_neg c16] at H
         exact absurd H (by simp)
       ·rw [if_neg c14] at H
        exact absurd H (by simp)
      ·rw [if_neg c12] at H
       exact absurd H (by simp)
     ·rw [if_neg c11] at H
      exact absurd H (by simp)
    ·rw [if_neg c10] at H
     have c10b0 : decide (t1 < (a1.size : Int)) = false:=decide_eq_false c10
     clear c10
     simp only [Option.some.injEq,Prod.mk.injEq] at H
     obtain ⟨rfl,rfl⟩:=H
     go_wp2
     go_ret
     exact ⟨by first | rfl | (simp [errW_none,errW_some] <;> rfl) | (simp [*,errW_none,errW_some] <;> rfl),is0_,hbi0_,hk_⟩
   ·replace c9:=Bool.eq_false_iff.mpr c9
    subst c9
    have H1 : (if t3 = 2 then (if 0 ≤ t1 then (if t1 ≤ (a1.size : Int) then (some (a1.extract 0 (t1 : Int).toNat,t4)) else (none)) else (none)) else (if t3 = 3 then ((spec_reader_of.f kj4 s0_0 t4 (([(⟨#[48]⟩ : ByteArray),(⟨#[32]⟩ : ByteArray),(⟨#[10]⟩ : ByteArray),(⟨#[120]⟩ : ByteArray),(⟨#[41]⟩ : ByteArray)] : List ByteArray))).bind fun bt13=>(if a1.size + bt13.1.size ≤ 9223372036854775807 then (some (a1 ++ bt13.1,bt13.2)) else (none))) else (some (a1,t4)))) = some (r1,r2):=by rw [if_neg (show ¬ (false = true) by decide)] at H;exact H
    clear H
    have H:=H1
    clear H1
    by_cases c24 : t3 = 2
    ·rw [if_pos c24] at H
     have c24b0 : (t3 == 2) = true:=beq_iff_eq.mpr c24
     have c24b1 : (t3 != 2) = false:=bne_eq_false_iff_eq.mpr c24
     clear c24
     by_cases c25 : 0 ≤ t1
     ·rw [if_pos c25] at H
      have c25b0:=eq_true c25
      have c25b1 : decide (0 ≤ t1) = true:=decide_eq_true c25
      clear c25
      by_cases c26 : t1 ≤ (a1.size : Int)
      ·rw [if_pos c26] at H
       have c26b0:=eq_true c26
       have c26b1 : decide (t1 ≤ (a1.size : Int)) = true:=decide_eq_true c26
       clear c26
       simp only [Option.some.injEq,Prod.mk.injEq] at H
       obtain ⟨rfl,rfl⟩:=H
       go_wp2
       go_ret
       exact ⟨by first | rfl | (simp [errW_none,errW_some] <;> rfl) | (simp [*,errW_none,errW_some] <;> rfl),is0_,hbi0_,hk_⟩
      ·rw [if_neg c26] at H
       exact absurd H (by simp)
     ·rw [if_neg c25] at H
      exact absurd H (by simp)
    ·rw [if_neg c24] at H
     have c24b0 : (t3 == 2) = false:=beq_eq_false_iff_ne.mpr c24
     have c24b1 : (t3 != 2) = true:=bne_iff_ne.mpr c24
     by_cases c27 : t3 = 3
     ·rw [if_pos c27] at H
      have c27b0 : (t3 == 3) = true:=beq_iff_eq.mpr c27
      have c27b1 : (t3 != 3) = false:=bne_eq_false_iff_eq.mpr c27
      clear c27
      obtain ⟨y10,hy10⟩ : ∃ y_ : List ByteArray,y_ = (([(⟨#[48]⟩ : ByteArray),(⟨#[32]⟩ : ByteArray),(⟨#[10]⟩ : ByteArray),(⟨#[120]⟩ : ByteArray),(⟨#[41]⟩ : ByteArray)] : List ByteArray)):=⟨_,rfl⟩
      replace H : ((spec_reader_of.f kj4 s0_0 t4 y10).bind fun bt13=>(if a1.size + bt13.1.size ≤ 9223372036854775807 then (some (a1 ++ bt13.1,bt13.2)) else (none))) = some (r1,r2):=by first | (rw [hy10];with_reducible exact H) | (have H2_:=(Option.bind_some _ _).symm.trans H;rw [hy10];with_reducible exact H2_) | (have H2_:=(Option.bind_some _ _).symm.trans H;with_reducible exact H2_) | with_reducible exact H | (rw [hy10];exact H) | exact H
      have Ny10:=a0_ hy10
      clear hy10
      replace H:=Option.bind_eq_some_iff.mp H
      obtain ⟨⟨t13,t14⟩,A280,H⟩:=H
      try dsimp only at H
      have A28:=a0_ A280
      clear A280
      by_cases c29 : a1.size + t13.size ≤ 9223372036854775807
      ·rw [if_pos c29] at H
       have c29b0:=eq_true c29
       have c29b1 : decide (a1.size + t13.size ≤ 9223372036854775807) = true:=decide_eq_true c29
       try have c29b2 : (9223372036854775807 < a1.size + t13.size) = False:=eq_false (Nat.not_lt.2 c29)
       simp only [Option.some.injEq,Prod.mk.injEq] at H
       obtain ⟨rfl,rfl⟩:=H
       go_wp2_with (first | ((with_reducible refine gate_dst (N:=41) rfl ?_);refine Kd.R_lit Kd.string _ 9 ?hg (N:=41) ?hd (xs:=([(⟨#[48]⟩ : ByteArray),(⟨#[32]⟩ : ByteArray),(⟨#[10]⟩ : ByteArray),(⟨#[120]⟩ : ByteArray),(⟨#[41]⟩ : ByteArray)] : List ByteArray)) (inner:=[.string (⟨#[48]⟩ : ByteArray),.string (⟨#[32]⟩ : ByteArray),.string (⟨#[10]⟩ : ByteArray),.string (⟨#[120]⟩ : ByteArray),.string (⟨#[41]⟩ : ByteArray)]) (ok:=fun _=>True) (okp:=fun _=>True) ?hr ?hp (fun _ hk=>hk) trivial (Below.refl _ _) (Nat.le_refl _) (by simp) ?_;(case hd=>rfl);(case hg=>rfl);(case hr=>first | (go_simp;done) | (go_simp;rfl));(case hp=>exact (Reps.one (show Kd.M Kd.string _ _ _ (⟨#[48]⟩ : ByteArray) [.string (⟨#[48]⟩ : ByteArray)] from rfl) (Reps.one (show Kd.M Kd.string _ _ _ (⟨#[32]⟩ : ByteArray) [.string (⟨#[32]⟩ : ByteArray)] from rfl) (Reps.one (show Kd.M Kd.string _ _ _ (⟨#[10]⟩ : ByteArray) [.string (⟨#[10]⟩ : ByteArray)] from rfl) (Reps.one (show Kd.M Kd.string _ _ _ (⟨#[120]⟩ : ByteArray) [.string (⟨#[120]⟩ : ByteArray)] from rfl) (Reps.one (show Kd.M Kd.string _ _ _ (⟨#[41]⟩ : ByteArray) [.string (⟨#[41]⟩ : ByteArray)] from rfl) (Reps.none _ _)))))));intro v11 w30 ho31 hb hg_ hnew_;clear hg_ hnew_;(first | rw [← Ny10.out] at ho31 | (simp only [Int.reduceToNat] at ho31;rw [← Ny10.out] at ho31));have n0_:=a0_ (Kd.R_lower ho31 (keep_size (w:=w) (g:=g) (row:=none) hk_));have n1_:=a0_ (IsS148.below is0_ hb);have n2_:=a0_ (KeepBut.trans (w:=w) hk_ (KeepBut.of_below hb g none) (.inl rfl));have n3_:=a0_ (below_step hbi0_ hb);clear HI0 HK HB;have HO12:=n0_;have HI0:=n1_;have HK:=n2_;have HB:=n3_;clear n0_ n1_ n2_ n3_;clear hb ho31;obtain ⟨Ao32,co32,eo32⟩:=Kd.R_slice HO12.out;subst eo32) | ((with_reducible refine gate_callee (f:=147) rfl ?_);refine goesL_ (some 42) rfl rfl Try.func147 (by kernel_rfl) rfl #[.pointer (some ⟨g,0,none⟩),.slice Ao32 y10.length co32] rfl lm_ ?_;(with_reducible refine (spec_reader_of.calls kj4 g s0_0 t4 _ _ y10 t13 t14 w0 _ ?side1 ?side2 ?side3 ?side4 ?side5 A28.out).mono ?_);(case side1=>exact is0_);(case side2=>exact hbi0_);(case side3=>exact cc_ (Kd.R_reads' HO12.out).2.2);(case side4=>exact (Kd.R_reads' HO12.out).2.1);(case side5=>exact far_slice (IsS148.own_ne HI0.out HO12.out (by decide)));rintro e w33 ⟨rfl,hi,hb,hk⟩;refine ⟨_,rfl,?_⟩;replace HO12:=a0_ (Kd.R_mono (Kd.R_keep (IsS148.apart (is0_ : IsS148 w0 _ g s0_0 t4) (rr_ HO12.out) (by decide)) hk (fun _ h=>h.2)) (fun _ h=>h.1));replace HK:=a0_ (KeepBut.trans (w:=w) hk_ hk (.inl rfl));replace HI0:=a0_ (hi);replace HB:=a0_ (hb);(try clear hb);(try clear hb2);(try clear hk);(try clear hi)))
       go_ret
       exact ⟨by first | rfl | (simp [errW_none,errW_some] <;> rfl) | (simp [*,errW_none,errW_some] <;> rfl),is0_,hbi0_,hk_⟩
      ·rw [if_neg c29] at H
       exact absurd H (by simp)
     ·rw [if_neg c27] at H
      have c27b0 : (t3 == 3) = false:=beq_eq_false_iff_ne.mpr c27
      have c27b1 : (t3 != 3) = true:=bne_iff_ne.mpr c27
      simp only [Option.some.injEq,Prod.mk.injEq] at H
      obtain ⟨rfl,rfl⟩:=H
      go_wp2
      go_ret
      exact ⟨by first | rfl | (simp [errW_none,errW_some] <;> rfl) | (simp [*,errW_none,errW_some] <;> rfl),is0_,hbi0_,hk_⟩
theorem spec_mutate_ev (b : List Int) (p : Int) (s : ByteArray) (hb : byL b) (h0 : 0 ≤ p) (hp : p ≤ 1099511627000) (hs : s.size ≤ 1000) : ∃ s' q,Ev (fun k=>spec_mutate.f k b p s) (s',q) ∧ s'.size ≤ 1001:=by
 have hw : wrap64 ((s.size : Int) + 1) = (s.size : Int) + 1:=wrap_in (by omega) (by omega)
 obtain ⟨x,hx,x0,x1,_⟩:=spec_pick_ev b p ((s.size : Int) + 1) hb h0 (by omega)
 have hxi:=x1 (by omega)
 obtain ⟨y,hy,y0,y1,_⟩:=spec_pick_ev b (p + 1) 5 hb (by omega) (by omega)
 have hyi:=y1 (by omega)
 obtain ⟨z,hz,hzm⟩:=spec_of_ev b (p + 1 + 1) [(⟨#[48]⟩ : ByteArray),(⟨#[49]⟩ : ByteArray),(⟨#[32]⟩ : ByteArray),(⟨#[58]⟩ : ByteArray),(⟨#[97]⟩ : ByteArray),(⟨#[40]⟩ : ByteArray),(⟨#[41]⟩ : ByteArray),(⟨#[42]⟩ : ByteArray),(⟨#[10]⟩ : ByteArray)] hb (by omega) (by omega) (by simp)
 have hzs : z.size = 1:=by
  simp only [List.mem_cons,List.not_mem_nil,or_false] at hzm
  rcases hzm with rfl | rfl | rfl | rfl | rfl | rfl | rfl | rfl | rfl <;> rfl
 obtain ⟨v,hv,hvm⟩:=spec_of_ev b (p + 1 + 1) [(⟨#[48]⟩ : ByteArray),(⟨#[32]⟩ : ByteArray),(⟨#[10]⟩ : ByteArray),(⟨#[120]⟩ : ByteArray),(⟨#[41]⟩ : ByteArray)] hb (by omega) (by omega) (by simp)
 have hvs : v.size = 1:=by
  simp only [List.mem_cons,List.not_mem_nil,or_false] at hvm
  rcases hvm with rfl | rfl | rfl | rfl | rfl <;> rfl
 have hj : ∀ c : Bool,∃ s' q,Ev (fun k=>spec_mutate.j0 k s x y c b (p + 1 + 1)) (s',q) ∧ s'.size ≤ 1001:=by
  intro c
  cases c with
  | true =>
   by_cases hk : x < (s.size : Int)
   ·have hw2 : wrap64 (x + 1) = x + 1:=wrap_in (by omega) (by omega)
    refine ⟨(s.extract 0 (x : Int).toNat ++ z) ++ s.extract (x + 1 : Int).toNat s.size,p + 1 + 1 + 1,Ev.succ ?_,?_⟩
    ·simp only [spec_mutate.j0,hw2]
     refine Ev.pos trivial ?_
     refine Ev.pos hk ?_
     refine Ev.pos x0 ?_
     refine Ev.pos (by omega) ?_
     refine Ev.bind hz ?_
     refine Ev.pos (by dsimp only;rw [ByteArray.size_extract];omega) ?_
     refine Ev.pos (by omega) ?_
     refine Ev.pos (by omega) ?_
     refine Ev.pos (by dsimp only;rw [ByteArray.size_append,ByteArray.size_extract,ByteArray.size_extract];omega) ?_
     exact Ev.const rfl
    ·rw [ByteArray.size_append,ByteArray.size_append,ByteArray.size_extract,ByteArray.size_extract]
     omega
   ·refine ⟨s,p + 1 + 1,Ev.succ ?_,by omega⟩
    simp only [spec_mutate.j0]
    exact Ev.pos trivial (Ev.neg hk (Ev.const rfl))
  | false =>
   by_cases h2 : y = 2
   ·refine ⟨s.extract 0 (x : Int).toNat,p + 1 + 1,Ev.succ ?_,by rw [ByteArray.size_extract];omega⟩
    simp only [spec_mutate.j0]
    exact Ev.neg (by simp) (Ev.pos h2 (Ev.pos x0 (Ev.pos (by omega) (Ev.const rfl))))
   ·by_cases h3 : y = 3
    ·refine ⟨s ++ v,p + 1 + 1 + 1,Ev.succ ?_,by rw [ByteArray.size_append];omega⟩
     simp only [spec_mutate.j0]
     exact Ev.neg (by simp) (Ev.neg h2 (Ev.pos h3 (Ev.bind hv (Ev.pos (by dsimp only;omega) (Ev.const rfl)))))
    ·refine ⟨s,p + 1 + 1,Ev.succ ?_,by omega⟩
     simp only [spec_mutate.j0]
     exact Ev.neg (by simp) (Ev.neg h2 (Ev.neg h3 (Ev.const rfl)))
 unfold spec_mutate.f
 rw [hw]
 by_cases e : y = 0
 ·obtain ⟨s',q,h1,h2⟩:=hj (y == 0)
  exact ⟨s',q,Ev.bind hx (Ev.bind hy (Ev.pos e h1)),h2⟩
 ·obtain ⟨s',q,h1,h2⟩:=hj (y == 1)
  exact ⟨s',q,Ev.bind hx (Ev.bind hy (Ev.neg e h1)),h2⟩
end Go.Proofs.Ytacgehaipacehaa.P
namespace Go.Proofs.Ytacgehaipacehaa.P
open Go.RowKit Go.Proofs.YtacgehaipacehaaW.PrintWords Go.Proofs.YtacgehaipacehaaW.PrintLast Go.Proofs.YtacgehaipacehaaW.PrintMore
attribute [local go_sem] max2_int min2_int max_two min_two max_three min_three max_four min_four
set_option linter.unusedVariables false
set_option linter.unusedSimpArgs false
def spec_DrawParseTree.f (k : Nat) (l0 : List Int) : Option (ByteArray):=(spec_newReader.f l0).bind fun bt1=>((spec_goodTree.f k bt1.1 bt1.2).bind fun bt4=>((spec_treeText.f k bt4.1).bind fun t8=>((spec_reader_pick.f k bt1.1 bt4.2 3).bind fun bt9=>(if bt9.1 = 0 then ((spec_mutate.f k bt1.1 bt9.2 t8).bind fun bt11=>(some bt11.1)) else (some t8)))))
theorem spec_DrawParseTree.mono : ∀ a0 k,LeO (spec_DrawParseTree.f k a0) (spec_DrawParseTree.f (k + 1) a0):=by
 intro a0 k
 unfold spec_DrawParseTree.f
 repeat' first
   | (with_reducible exact spec_goodTree.mono _ _ _)
   | (with_reducible exact spec_mutate.mono _ _ _ _)
   | (with_reducible exact spec_reader_pick.mono _ _ _ _)
   | (with_reducible exact spec_treeText.mono _ _)
   | (with_reducible exact LeO.refl _)
   | (with_reducible exact LeO.none _)
   | (with_reducible refine LeO.ite ?_ ?_)
   | (with_reducible refine LeO.bind ?_ (fun _=>?_))
   | exact spec_goodTree.mono _ _ _
   | exact spec_mutate.mono _ _ _ _
   | exact spec_reader_pick.mono _ _ _ _
   | exact spec_treeText.mono _ _
   | exact LeO.none _
   | refine LeO.ite ?_ ?_
   | refine LeO.bind ?_ (fun _=>?_)
set_option maxHeartbeats 8000000 in
set_option maxRecDepth 100000 in
theorem spec_DrawParseTree.calls (k : Nat) (A0 : Option Addr) (c0 : Nat) (l0 : List Int) (r : ByteArray) (w : World) (hr0 : Kd.C (Kd.int .u8) w A0 l0.length l0) (hc0 : l0.length ≤ c0) (h : spec_DrawParseTree.f k l0 = some r) :
  Calls Try.prog 53 #[.slice A0 l0.length c0] w fun e w'=>e = .returned (.string r) ∧ Below w.heap.size w w':=by
 have HR0:=a0_ hr0
 have HC0:=a0_ hc0
 clear hr0 hc0
 have HB:=a0_ (Below.refl w.heap.size w)
 have H : ((spec_newReader.f l0).bind fun bt1=>((spec_goodTree.f k bt1.1 bt1.2).bind fun bt4=>((spec_treeText.f k bt4.1).bind fun t8=>((spec_reader_pick.f k bt1.1 bt4.2 3).bind fun bt9=>(if bt9.1 = 0 then ((spec_mutate.f k bt1.1 bt9.2 t8).bind fun bt11=>(some bt11.1)) else (some t8)))))) = some r:=h
 clear h
 replace H:=Option.bind_eq_some_iff.mp H
 obtain ⟨⟨t1,t2⟩,A20,H⟩:=H
 try dsimp only at H
 have A2:=a0_ A20
 clear A20
 replace H:=Option.bind_eq_some_iff.mp H
 obtain ⟨⟨t4,t7⟩,A30,H⟩:=H
 try dsimp only at H
 have A3:=a0_ A30
 clear A30
 replace H:=Option.bind_eq_some_iff.mp H
 obtain ⟨t8,A40,H⟩:=H
 try dsimp only at H
 have A4:=a0_ A40
 clear A40
 replace H:=Option.bind_eq_some_iff.mp H
 obtain ⟨⟨t9,t10⟩,A50,H⟩:=H
 try dsimp only at H
 have A5:=a0_ A50
 clear A50
 by_cases c6 : t9 = 0
 ·rw [if_pos c6] at H
  have c6b0 : (t9 == 0) = true:=beq_iff_eq.mpr c6
  have c6b1 : (t9 != 0) = false:=bne_eq_false_iff_eq.mpr c6
  clear c6
  replace H:=Option.bind_eq_some_iff.mp H
  obtain ⟨⟨t11,t12⟩,A70,H⟩:=H
  replace H : (some t11) = some r:=H
  have A7:=a0_ A70
  clear A70
  obtain rfl:=Option.some.inj H
  go_enter Try.func53,Try.ntmps53
  go_wp2_with (first | ((with_reducible refine gate_callee (f:=56) rfl ?_);refine goesL_ (some 6) rfl rfl Try.func56 (by kernel_rfl) rfl #[.slice A0 l0.length c0] rfl lm_ ?_;(with_reducible refine (spec_newReader.calls _ _ l0 t1 t2 w _ ?side1 ?side2 ?side3 A2.out).mono ?_);(case side1=>exact hbw_);(case side2=>exact HR0.out);(case side3=>exact HC0.out);rintro e w8 ⟨g3,rfl,hi,hb,hb2⟩;refine ⟨_,rfl,?_⟩;have HI3:=a0_ (hi);replace HB:=a0_ (hb);(try clear hb);(try clear hb2);(try clear hk);(try clear hi)) | ((with_reducible refine gate_callee (f:=109) rfl ?_);refine goesL_ (some 8) rfl rfl Try.func109 (by kernel_rfl) rfl #[.pointer (some ⟨g3,0,none⟩)] rfl lm_ ?_;(with_reducible refine (spec_goodTree.calls k g3 t1 t2 t4 t7 w _ ?side1 ?side2 A3.out).mono ?_);(case side1=>repeat (first | (with_reducible first | exact HI3.out | apply IsS148.alloc | apply IsS148.drewN | apply IsS148.drew | apply IsS148.set_1) | exact HI3.out));(case side2=>repeat (first | (with_reducible first | exact HB.out | apply below_alloc | apply pw_below_drewN | apply below_drew1 | refine below_set ?_ (IsS148.ge HI3.out)) | exact HB.out));rintro e w9 ⟨v5,rfl,ho0,hi,hb,hk⟩;refine ⟨_,rfl,?_⟩;have HO6:=a0_ (Kd.R_lower ho0 (below_size (by repeat (first | (with_reducible first | exact HB.out | apply below_alloc | apply pw_below_drewN | apply below_drew1 | refine below_set ?_ (IsS148.ge HI3.out)) | exact HB.out))));replace HI3:=a0_ (hi);replace HB:=a0_ (hb);(try clear hb);(try clear ho0);obtain ⟨Ao10,co10,eo10⟩:=Kd.R_slice HO6.out;subst eo10) | ((with_reducible refine gate_callee (f:=108) rfl ?_);refine goesL_ (some 9) rfl rfl Try.func108 (by kernel_rfl) rfl #[.agg #[.slice Ao10 t4.length co10]] rfl lm_ ?_;(with_reducible refine (spec_treeText.calls k _ _ t4 t8 _ ?side1 ?side2 A4.out).mono ?_);(case side1=>exact cc_ (Kd.R_reads' HO6.out).2.2);(case side2=>exact (Kd.R_reads' HO6.out).2.1);rintro e w11 ⟨rfl,hb⟩;refine ⟨_,rfl,?_⟩;have n0_:=rb_ HO6 hb;have n1_:=a0_ (IsS148.below (by repeat (first | (with_reducible first | exact HI3.out | apply IsS148.alloc | apply IsS148.drewN | apply IsS148.drew | apply IsS148.set_1) | exact HI3.out)) hb);have n2_:=a0_ (below_step (by repeat (first | (with_reducible first | exact HB.out | apply below_alloc | apply pw_below_drewN | apply below_drew1 | refine below_set ?_ (IsS148.ge HI3.out)) | exact HB.out)) hb);clear HO6 HI3 HB;have HO6:=n0_;have HI3:=n1_;have HB:=n2_;clear n0_ n1_ n2_;(try clear hb);(try clear hb2);(try clear hk);(try clear hi)) | ((with_reducible refine gate_callee (f:=110) rfl ?_);refine goesL_ (some 11) rfl rfl Try.func110 (by kernel_rfl) rfl #[.pointer (some ⟨g3,0,none⟩),.int .i64 3] rfl lm_ ?_;(with_reducible refine (spec_reader_pick.calls k g3 t1 t7 3 t9 t10 w _ ?side1 ?side2 A5.out).mono ?_);(case side1=>repeat (first | (with_reducible first | exact HI3.out | apply IsS148.alloc | apply IsS148.drewN | apply IsS148.drew | apply IsS148.set_1) | exact HI3.out));(case side2=>repeat (first | (with_reducible first | exact HB.out | apply below_alloc | apply pw_below_drewN | apply below_drew1 | refine below_set ?_ (IsS148.ge HI3.out)) | exact HB.out));rintro e w12 ⟨rfl,hi,hb,hk⟩;refine ⟨_,rfl,?_⟩;replace HO6:=a0_ (Kd.R_mono (Kd.R_keep (IsS148.apart (show IsS148 w _ g3 t1 t7 from by repeat (first | (with_reducible first | exact HI3.out | apply IsS148.alloc | apply IsS148.drewN | apply IsS148.drew | apply IsS148.set_1) | exact HI3.out)) (rr_ HO6.out) (by decide)) hk (fun _ h=>h.2)) (fun _ h=>h.1));replace HI3:=a0_ (hi);replace HB:=a0_ (hb);(try clear hb);(try clear hb2);(try clear hk);(try clear hi)) | ((with_reducible refine gate_callee (f:=111) rfl ?_);refine goesL_ (some 15) rfl rfl Try.func111 (by kernel_rfl) rfl #[.pointer (some ⟨g3,0,none⟩),.string t8] rfl lm_ ?_;(with_reducible refine (spec_mutate.calls k g3 t1 t10 t8 t11 t12 w _ ?side1 ?side2 A7.out).mono ?_);(case side1=>repeat (first | (with_reducible first | exact HI3.out | apply IsS148.alloc | apply IsS148.drewN | apply IsS148.drew | apply IsS148.set_1) | exact HI3.out));(case side2=>repeat (first | (with_reducible first | exact HB.out | apply below_alloc | apply pw_below_drewN | apply below_drew1 | refine below_set ?_ (IsS148.ge HI3.out)) | exact HB.out));rintro e w13 ⟨rfl,hi,hb,hk⟩;refine ⟨_,rfl,?_⟩;replace HO6:=a0_ (Kd.R_mono (Kd.R_keep (IsS148.apart (show IsS148 w _ g3 t1 t10 from by repeat (first | (with_reducible first | exact HI3.out | apply IsS148.alloc | apply IsS148.drewN | apply IsS148.drew | apply IsS148.set_1) | exact HI3.out)) (rr_ HO6.out) (by decide)) hk (fun _ h=>h.2)) (fun _ h=>h.1));replace HI3:=a0_ (hi);replace HB:=a0_ (hb);(try clear hb);(try clear hb2);(try clear hk);(try clear hi)))
  go_ret
  exact ⟨by first | rfl | (simp [errW_none,errW_some] <;> rfl) | (simp [*,errW_none,errW_some] <;> rfl),by repeat (first | (with_reducible first | exact HB.out | apply below_alloc | apply pw_below_drewN | apply below_drew1 | refine below_set ?_ (IsS148.ge HI3.out)) | exact HB.out)⟩
 ·rw [if_neg c6] at H
  have c6b0 : (t9 == 0) = false:=beq_eq_false_iff_ne.mpr c6
  have c6b1 : (t9 != 0) = true:=bne_iff_ne.mpr c6
  obtain rfl:=Option.some.inj H
  go_enter Try.func53,Try.ntmps53
  go_wp2_with (first | ((with_reducible refine gate_callee (f:=56) rfl ?_);refine goesL_ (some 6) rfl rfl Try.func56 (by kernel_rfl) rfl #[.slice A0 l0.length c0] rfl lm_ ?_;(with_reducible refine (spec_newReader.calls _ _ l0 t1 t2 w _ ?side1 ?side2 ?side3 A2.out).mono ?_);(case side1=>exact hbw_);(case side2=>exact HR0.out);(case side3=>exact HC0.out);rintro e w14 ⟨g3,rfl,hi,hb,hb2⟩;refine ⟨_,rfl,?_⟩;have HI3:=a0_ (hi);replace HB:=a0_ (hb);(try clear hb);(try clear hb2);(try clear hk);(try clear hi)) | ((with_reducible refine gate_callee (f:=109) rfl ?_);refine goesL_ (some 8) rfl rfl Try.func109 (by kernel_rfl) rfl #[.pointer (some ⟨g3,0,none⟩)] rfl lm_ ?_;(with_reducible refine (spec_goodTree.calls k g3 t1 t2 t4 t7 w _ ?side1 ?side2 A3.out).mono ?_);(case side1=>repeat (first | (with_reducible first | exact HI3.out | apply IsS148.alloc | apply IsS148.drewN | apply IsS148.drew | apply IsS148.set_1) | exact HI3.out));(case side2=>repeat (first | (with_reducible first | exact HB.out | apply below_alloc | apply pw_below_drewN | apply below_drew1 | refine below_set ?_ (IsS148.ge HI3.out)) | exact HB.out));rintro e w15 ⟨v5,rfl,ho0,hi,hb,hk⟩;refine ⟨_,rfl,?_⟩;have HO6:=a0_ (Kd.R_lower ho0 (below_size (by repeat (first | (with_reducible first | exact HB.out | apply below_alloc | apply pw_below_drewN | apply below_drew1 | refine below_set ?_ (IsS148.ge HI3.out)) | exact HB.out))));replace HI3:=a0_ (hi);replace HB:=a0_ (hb);(try clear hb);(try clear ho0);obtain ⟨Ao16,co16,eo16⟩:=Kd.R_slice HO6.out;subst eo16) | ((with_reducible refine gate_callee (f:=108) rfl ?_);refine goesL_ (some 9) rfl rfl Try.func108 (by kernel_rfl) rfl #[.agg #[.slice Ao16 t4.length co16]] rfl lm_ ?_;(with_reducible refine (spec_treeText.calls k _ _ t4 t8 _ ?side1 ?side2 A4.out).mono ?_);(case side1=>exact cc_ (Kd.R_reads' HO6.out).2.2);(case side2=>exact (Kd.R_reads' HO6.out).2.1);rintro e w17 ⟨rfl,hb⟩;refine ⟨_,rfl,?_⟩;have n0_:=rb_ HO6 hb;have n1_:=a0_ (IsS148.below (by repeat (first | (with_reducible first | exact HI3.out | apply IsS148.alloc | apply IsS148.drewN | apply IsS148.drew | apply IsS148.set_1) | exact HI3.out)) hb);have n2_:=a0_ (below_step (by repeat (first | (with_reducible first | exact HB.out | apply below_alloc | apply pw_below_drewN | apply below_drew1 | refine below_set ?_ (IsS148.ge HI3.out)) | exact HB.out)) hb);clear HO6 HI3 HB;have HO6:=n0_;have HI3:=n1_;have HB:=n2_;clear n0_ n1_ n2_;(try clear hb);(try clear hb2);(try clear hk);(try clear hi)) | ((with_reducible refine gate_callee (f:=110) rfl ?_);refine goesL_ (some 11) rfl rfl Try.func110 (by kernel_rfl) rfl #[.pointer (some ⟨g3,0,none⟩),.int .i64 3] rfl lm_ ?_;(with_reducible refine (spec_reader_pick.calls k g3 t1 t7 3 t9 t10 w _ ?side1 ?side2 A5.out).mono ?_);(case side1=>repeat (first | (with_reducible first | exact HI3.out | apply IsS148.alloc | apply IsS148.drewN | apply IsS148.drew | apply IsS148.set_1) | exact HI3.out));(case side2=>repeat (first | (with_reducible first | exact HB.out | apply below_alloc | apply pw_below_drewN | apply below_drew1 | refine below_set ?_ (IsS148.ge HI3.out)) | exact HB.out));rintro e w18 ⟨rfl,hi,hb,hk⟩;refine ⟨_,rfl,?_⟩;replace HO6:=a0_ (Kd.R_mono (Kd.R_keep (IsS148.apart (show IsS148 w _ g3 t1 t7 from by repeat (first | (with_reducible first | exact HI3.out | apply IsS148.alloc | apply IsS148.drewN | apply IsS148.drew | apply IsS148.set_1) | exact HI3.out)) (rr_ HO6.out) (by decide)) hk (fun _ h=>h.2)) (fun _ h=>h.1));replace HI3:=a0_ (hi);replace HB:=a0_ (hb);(try clear hb);(try clear hb2);(try clear hk);(try clear hi)))
  go_ret
  exact ⟨by first | rfl | (simp [errW_none,errW_some] <;> rfl) | (simp [*,errW_none,errW_some] <;> rfl),by repeat (first | (with_reducible first | exact HB.out | apply below_alloc | apply pw_below_drewN | apply below_drew1 | refine below_set ?_ (IsS148.ge HI3.out)) | exact HB.out)⟩
theorem spec_DrawParseTree_ev (l : List Int) (hl : ∀ x ∈ l,(Lit.int .u8 x).wf = true) : ∃ s,Ev (fun k=>spec_DrawParseTree.f k l) s ∧ s.size ≤ 1001:=by
 obtain ⟨b,hb,hy⟩:=spec_newReader_ev l hl
 obtain ⟨t,q,ht,h1,h2,h3,h4,h5⟩:=spec_goodTree_ev b 0 hy (by omega) (by omega)
 have hg : gTx t:=⟨h4,h5.1,fun j hj=>⟨(h5.2 j hj).1,fun h=>by have:=(h5.2 j hj).2 h;omega⟩⟩
 have hT:=spec_treeText_gev t hg
 have hsz:=gTx_size hg
 obtain ⟨x,hx,x0,x1,_⟩:=spec_pick_ev b q 3 hy (by omega) (by omega)
 by_cases e : x = 0
 ·obtain ⟨s',q',hm,hs'⟩:=spec_mutate_ev b (q + 1) (treeTx t) hy (by omega) (by omega) (by omega)
  exact ⟨s',Ev.bind (Ev.const hb) (Ev.bind ht (Ev.bind hT (Ev.bind hx (Ev.pos e (Ev.bind hm (Ev.const rfl)))))),hs'⟩
 ·exact ⟨treeTx t,Ev.bind (Ev.const hb) (Ev.bind ht (Ev.bind hT (Ev.bind hx (Ev.neg e (Ev.const rfl))))),by omega⟩
end Go.Proofs.Ytacgehaipacehaa.P
namespace Go.Proofs.Ytacgehaipacehaa.P
open Go.RowKit Go.Proofs.YtacgehaipacehaaW.PrintWords Go.Proofs.YtacgehaipacehaaW.PrintLast Go.Proofs.YtacgehaipacehaaW.PrintMore
attribute [local go_sem] max2_int min2_int max_two min_two max_three min_three max_four min_four
set_option linter.unusedVariables false
set_option linter.unusedSimpArgs false
def laws_FnParseTree.j0 : Nat → ByteArray → Bool → Bool → Bool → List (S125) → List (S125) → Option (Bool)
 | 0,_,_,_,_,_,_=>none
 | k + 1,x3,x5,x7,x35,x7000,x12000=>if x35 = true then ((laws_equalTree.f k x7000 x12000).bind fun t13=>(if t13 = true then (some (x5 == x7)) else (some false))) else ((impl_TreeText.f x7000).bind fun t14=>(if t14.toList = x3.toList then ((impl_ValidTree.f x7000).bind fun t15=>(some t15)) else (some false)))
def laws_FnParseTree.f (k : Nat) (l0 : List Int) : Option (Bool):=if (l0.length : Int) > 1048576 then (some true) else ((spec_DrawParseTree.f k l0).bind fun t1=>((impl_ParseTree.f k t1).bind fun bt2=>((spec_ParseTree.f k t1).bind fun bt7=>((laws_equalTree.f k bt2.1 bt7.1).bind fun t12=>(if t12 = true then (if (bt2.2 != bt7.2) = true then (laws_FnParseTree.j0 k t1 bt2.2 bt7.2 true bt2.1 bt7.1) else (laws_FnParseTree.j0 k t1 bt2.2 bt7.2 (!bt2.2) bt2.1 bt7.1)) else (laws_FnParseTree.j0 k t1 bt2.2 bt7.2 true bt2.1 bt7.1))))))
theorem laws_FnParseTree.mono_l : ∀ k,(∀ y0 y1 y2 y3 y4 y5,LeO (laws_FnParseTree.j0 k y0 y1 y2 y3 y4 y5) (laws_FnParseTree.j0 (k + 1) y0 y1 y2 y3 y4 y5))
 | 0=>fun _ _ _ _ _ _ r h=>by simp [laws_FnParseTree.j0] at h
 | k + 1=>by
  have ih0:=laws_FnParseTree.mono_l k
  ·intro y0 y1 y2 y3 y4 y5
   unfold laws_FnParseTree.j0
   repeat' first
   | (with_reducible exact ih0 _ _ _ _ _ _)
   | (with_reducible exact impl_ParseTree.mono _ _)
   | (with_reducible exact laws_equalTree.mono _ _ _)
   | (with_reducible exact spec_DrawParseTree.mono _ _)
   | (with_reducible exact spec_ParseTree.mono _ _)
   | (with_reducible exact LeO.refl _)
   | (with_reducible exact LeO.none _)
   | (with_reducible refine LeO.ite ?_ ?_)
   | (with_reducible refine LeO.bind ?_ (fun _=>?_))
   | exact ih0 _ _ _ _ _ _
   | exact impl_ParseTree.mono _ _
   | exact laws_equalTree.mono _ _ _
   | exact spec_DrawParseTree.mono _ _
   | exact spec_ParseTree.mono _ _
   | exact LeO.none _
   | refine LeO.ite ?_ ?_
   | refine LeO.bind ?_ (fun _=>?_)
theorem laws_FnParseTree.mono : ∀ a0 k,LeO (laws_FnParseTree.f k a0) (laws_FnParseTree.f (k + 1) a0):=by
 intro a0 k
 have ih0:=laws_FnParseTree.mono_l k
 unfold laws_FnParseTree.f
 repeat' first
   | (with_reducible exact ih0 _ _ _ _ _ _)
   | (with_reducible exact impl_ParseTree.mono _ _)
   | (with_reducible exact laws_equalTree.mono _ _ _)
   | (with_reducible exact spec_DrawParseTree.mono _ _)
   | (with_reducible exact spec_ParseTree.mono _ _)
   | (with_reducible exact LeO.refl _)
   | (with_reducible exact LeO.none _)
   | (with_reducible refine LeO.ite ?_ ?_)
   | (with_reducible refine LeO.bind ?_ (fun _=>?_))
   | exact ih0 _ _ _ _ _ _
   | exact impl_ParseTree.mono _ _
   | exact laws_equalTree.mono _ _ _
   | exact spec_DrawParseTree.mono _ _
   | exact spec_ParseTree.mono _ _
   | exact LeO.none _
   | refine LeO.ite ?_ ?_
   | refine LeO.bind ?_ (fun _=>?_)
set_option maxHeartbeats 8000000 in
set_option maxRecDepth 100000 in
theorem laws_FnParseTree.calls (k : Nat) (A0 : Option Addr) (c0 : Nat) (l0 : List Int) (r : Bool) (w : World) (hr0 : Kd.C (Kd.int .u8) w A0 l0.length l0) (hc0 : l0.length ≤ c0) (h : laws_FnParseTree.f k l0 = some r) :
  Calls Try.prog 10 #[.slice A0 l0.length c0] w fun e w'=>e = .returned (.bool r) ∧ Below w.heap.size w w':=by
 have hu25:=Try.underlying25
 have HR0:=a0_ hr0
 have HC0:=a0_ hc0
 clear hr0 hc0
 have HB:=a0_ (Below.refl w.heap.size w)
 have H : (if (l0.length : Int) > 1048576 then (some true) else ((spec_DrawParseTree.f k l0).bind fun t1=>((impl_ParseTree.f k t1).bind fun bt2=>((spec_ParseTree.f k t1).bind fun bt7=>((laws_equalTree.f k bt2.1 bt7.1).bind fun t12=>(if t12 = true then (if (bt2.2 != bt7.2) = true then (laws_FnParseTree.j0 k t1 bt2.2 bt7.2 true bt2.1 bt7.1) else (laws_FnParseTree.j0 k t1 bt2.2 bt7.2 (!bt2.2) bt2.1 bt7.1)) else (laws_FnParseTree.j0 k t1 bt2.2 bt7.2 true bt2.1 bt7.1))))))) = some r:=h
 clear h
 by_cases c2 : (l0.length : Int) > 1048576
 ·rw [if_pos c2] at H
  have c2b0 : decide (1048576 < (l0.length : Int)) = true:=decide_eq_true c2
  have c2b1 : decide (1048576 < l0.length) = true:=decide_eq_true (by omega)
  clear c2
  obtain rfl:=Option.some.inj H
  go_enter Try.func10,Try.ntmps10
  go_wp2
  go_ret
  exact ⟨by first | rfl | (simp [errW_none,errW_some] <;> rfl) | (simp [*,errW_none,errW_some] <;> rfl),hbw_⟩
 ·rw [if_neg c2] at H
  have c2b0 : decide (1048576 < (l0.length : Int)) = false:=decide_eq_false c2
  have c2b1 : decide (1048576 < l0.length) = false:=decide_eq_false (by omega)
  clear c2
  replace H:=Option.bind_eq_some_iff.mp H
  obtain ⟨t1,A30,H⟩:=H
  try dsimp only at H
  have A3:=a0_ A30
  clear A30
  replace H:=Option.bind_eq_some_iff.mp H
  obtain ⟨⟨t2,t5⟩,A40,H⟩:=H
  try dsimp only at H
  have A4:=a0_ A40
  clear A40
  replace H:=Option.bind_eq_some_iff.mp H
  obtain ⟨⟨t7,t10⟩,A50,H⟩:=H
  try dsimp only at H
  have A5:=a0_ A50
  clear A50
  have HC6:=a0_ H
  clear H
  go_enter Try.func10,Try.ntmps10
  go_upto_region 6 with (first | ((with_reducible refine gate_callee (f:=53) rfl ?_);refine goesL_ (some 12) rfl rfl Try.func53 (by kernel_rfl) rfl #[.slice A0 l0.length c0] rfl lm_ ?_;(with_reducible refine (spec_DrawParseTree.calls k _ _ l0 t1 _ ?side1 ?side2 A3.out).mono ?_);(case side1=>repeat (first | exact HR0.out | (with_reducible refine Kd.C_alloc ?_ _) | (with_reducible refine Kd.C_drewN ?_ _) | (with_reducible refine Kd.C_drew ?_)));(case side2=>exact HC0.out);rintro e w7 ⟨rfl,hb⟩;refine ⟨_,rfl,?_⟩;replace HB:=a0_ (below_step hbw_ hb);(try clear hb);(try clear hb2);(try clear hk);(try clear hi)) | ((with_reducible refine gate_callee (f:=39) rfl ?_);refine goesL_ (some 15) rfl rfl Try.func39 (by kernel_rfl) rfl #[.string t1] rfl lm_ ?_;(with_reducible refine (impl_ParseTree.calls k t1 t2 t5 _ A4.out).mono ?_);rintro e w8 ⟨v3,rfl,ho0,hb⟩;refine ⟨_,rfl,?_⟩;have HO4:=a0_ (Kd.R_lower ho0 (below_size hbw_));replace HB:=a0_ (below_step hbw_ hb);(try clear hb);(try clear ho0)) | ((with_reducible refine gate_dst (N:=4) rfl ?_);refine box_event ?hg (N:=4) ?hd (cs:=#[.slice none 0 0]) (t:=25) ?hr ?_;(case hd=>rfl);(case hg=>rfl);(case hr=>first | (go_simp;done) | (go_simp;rfl));intro gb6 hg w9 hbox hb;replace HO4:=rb_ HO4 hb;have BK6:=a0_ (hbox);have GW6:=a0_ ((by rw [hg];exact (below_size hbw_) : w.heap.size ≤ gb6));have GE6:=a0_ ((by rw [hg];exact (below_size hbw_) : w.heap.size ≤ gb6));replace HB:=a0_ (below_step hbw_ hb);clear hb hbox hg;obtain ⟨Ao10,co10,eo10⟩:=Kd.R_slice HO4.out;subst eo10;have hcz11_0 : w9.cell? ⟨gb6,0,none⟩ = some (.slice none 0 0):=(blk_cell BK6.out 0).trans rfl;have hfz11_0:=blk_frozen BK6.out 0) | ((with_reducible refine gate_callee (f:=38) rfl ?_);refine goesL_ (some 20) rfl rfl Try.func38 (by kernel_rfl) rfl #[.string t1] rfl lm_ ?_;(with_reducible refine (spec_ParseTree.calls k t1 t7 t10 _ A5.out).mono ?_);rintro e w12 ⟨v8,rfl,ho0,hb⟩;refine ⟨_,rfl,?_⟩;have n0_:=a0_ (Kd.R_elder' (by (with_reducible repeat (first | apply Kd.R_alloc | apply Kd.R_drewN | apply Kd.R_drew));exact (Kd.R_mono (Kd.R_far (p:=⟨gb6,0,none⟩) (Kd.R_types HO4.out BK6.out (by decide)) (fun _ hk=>hk.2) (.slice Ao10 t2.length co10)) (fun _ h_=>h_.1))) (Kd.R_base ho0) hb);have n1_:=a0_ (Kd.R_lower (Kd.R_new' ho0 (Kd.R_lt (by (with_reducible repeat (first | apply Kd.R_alloc | apply Kd.R_drewN | apply Kd.R_drew));exact (Kd.R_mono (Kd.R_far (p:=⟨gb6,0,none⟩) (Kd.R_types HO4.out BK6.out (by decide)) (fun _ hk=>hk.2) (.slice Ao10 t2.length co10)) (fun _ h_=>h_.1))))) (below_size hbw_));have n2_:=a0_ (blk_below (g:=gb6) (o:=.cells #[.slice Ao10 t2.length co10] 25 (0,0)) (by (with_reducible repeat (first | refine blk_drewN ?_ _ | refine blk_drew ?_ | refine blk_alloc ?_ _));refine blk_put (cs:=#[.slice none 0 0]) ?_ 0 _ rfl;(with_reducible repeat (first | refine blk_drewN ?_ _ | refine blk_drew ?_ | refine blk_alloc ?_ _));exact BK6.out) hb);have n3_:=a0_ (below_step hbw_ hb);clear HO4 BK6 HB;have HO4:=n0_;have HO9:=n1_;have BK6:=n2_;have HB:=n3_;clear n0_ n1_ n2_ n3_;(try clear hb);(try clear ho0)) | ((with_reducible refine gate_dst (N:=6) rfl ?_);refine box_event ?hg (N:=6) ?hd (cs:=#[.slice none 0 0]) (t:=25) ?hr ?_;(case hd=>rfl);(case hg=>rfl);(case hr=>first | (go_simp;done) | (go_simp;rfl));intro gb11 hg w13 hbox hb;have n0_:=rb_ HO4 hb;have n1_:=rb_ HO9 hb;have n2_:=kb_ BK6 hb;have n3_:=a0_ (below_step hbw_ hb);have n4_:=a0_ (hbox);have n5_:=a0_ ((by rw [hg];exact (below_size hbw_) : w.heap.size ≤ gb11));have n6_:=a0_ ((by rw [hg];exact (below_size hbw_) : w.heap.size ≤ gb11));have n7_:=a0_ ((by rw [hg];exact Nat.ne_of_lt (blk_lt (bb_ BK6.out)) : gb6 ≠ gb11));have n8_:=a0_ ((by rw [hg];exact Nat.ne_of_gt (blk_lt (bb_ BK6.out)) : gb11 ≠ gb6));clear HO4 HO9;clear BK6 HB;have HO4:=n0_;have HO9:=n1_;have BK6:=n2_;have HB:=n3_;have BK11:=n4_;have GW11:=n5_;have GE11:=n6_;have NB6_11:=n7_;have NB11_6:=n8_;clear n0_ n1_ n2_ n3_ n4_ n5_ n6_ n7_ n8_;clear hb hbox hg;obtain ⟨Ao14,co14,eo14⟩:=Kd.R_slice HO9.out;subst eo14;have hnb15:=NB11_6.out;have hnc15:=NB6_11.out;have hcz16_0 : w13.cell? ⟨gb11,0,none⟩ = some (.slice none 0 0):=(blk_cell BK11.out 0).trans rfl;have hfz16_0:=blk_frozen BK11.out 0))
  (try simp only [Act.put,s1_,s2_,s3_])
  go_cut [35] (fun v35 wc=>∃ (kq : Nat) (x35_5 : Bool),v35 = .bool x35_5 ∧ Aside0 (laws_FnParseTree.j0 kq t1 t5 t10 x35_5 t2 t7 = some r) ∧ Aside0 (kq ≤ k) ∧ Aside0 (Kd.R k125 125 wc w.heap.size (fun k_=>some k_ ≠ ((.slice Ao14 t7.length co14) : Value).ownBlock) (.slice Ao10 t2.length co10) t2) ∧ Aside0 (Kd.R k125 125 wc w.heap.size (fun k_=>some k_ ≠ ((.slice Ao10 t2.length co10) : Value).ownBlock) (.slice Ao14 t7.length co14) t7) ∧ Aside0 (wc.heap[gb6]? = some (.cells #[(.slice Ao10 t2.length co10)] 25 (0,0))) ∧ Aside0 (wc.heap[gb11]? = some (.cells #[(.slice Ao14 t7.length co14)] 25 (0,0))) ∧ Aside0 (Below w.heap.size w wc))
  case first =>
   have H:=HC6.out
   clear HC6
   replace H:=Option.bind_eq_some_iff.mp H
   obtain ⟨t12,A170,H⟩:=H
   try dsimp only at H
   have A17:=a0_ A170
   clear A170
   by_cases c18 : t12 = true
   ·subst c18
    have H1 : (if (t5 != t10) = true then (laws_FnParseTree.j0 k t1 t5 t10 true t2 t7) else (laws_FnParseTree.j0 k t1 t5 t10 (!t5) t2 t7)) = some r:=by rw [if_pos rfl] at H;exact H
    clear H
    have H:=H1
    clear H1
    by_cases c19 : (t5 != t10) = true
    ·rw [if_pos c19] at H
     have c19b0 : (t5 != t10) = true:=c19
     (try (have c19b1 : decide (t5 = t10) = false:=by simpa using c19))
     (try (have c19b2 : (t5 == t10) = false:=by simpa using c19))
     (try (have c19b3 : ¬ (t5 = t10):=by simpa using c19))
     clear c19
     (first | rw [c19b0] | (simp only [i64_w,i32_w];rw [c19b0]) | skip)
     have H':=a0_ H
     clear H
     have hnb20:=NB6_11.out
     have hnc20:=NB11_6.out
     have hcz21_0 : w13.cell? ⟨gb6,0,none⟩ = some (.slice Ao10 t2.length co10):=(blk_cell BK6.out 0).trans rfl
     have hfz21_0:=blk_frozen BK6.out 0
     have hcz22_0 : w13.cell? ⟨gb11,0,none⟩ = some (.slice none 0 0):=(blk_cell BK11.out 0).trans rfl
     have hfz22_0:=blk_frozen BK11.out 0
     go_wp2_with (first | ((with_reducible refine gate_callee (f:=51) rfl ?_);refine goesL_ (some 25) rfl rfl Try.func51 (by kernel_rfl) rfl #[.agg #[.slice Ao10 t2.length co10],.agg #[.slice Ao14 t7.length co14]] rfl lm_ ?_;(with_reducible refine (laws_equalTree.calls k _ _ t2 _ _ t7 true _ ?side1 ?side2 ?side3 ?side4 A17.out).mono ?_);(case side1=>refine (Kd.R_reads' (e:=125) (base:=w.heap.size) (ok:=fun k_=>(True ∧ some k_ ≠ (.slice Ao14 t7.length co14 : Value).ownBlock)) (n:=t2.length) (c:=co10) ?_).2.2;exact (by (with_reducible repeat (first | apply Kd.R_alloc | apply Kd.R_drewN | apply Kd.R_drew));exact (Kd.R_mono (Kd.R_far (p:=⟨gb11,0,none⟩) (Kd.R_types HO4.out BK11.out (by decide)) (fun _ hk=>hk.2) (.slice Ao14 t7.length co14)) (fun _ h_=>h_.1))));(case side2=>exact (Kd.R_reads' HO4.out).2.1);(case side3=>refine (Kd.R_reads' (e:=125) (base:=w.heap.size) (ok:=fun k_=>(True ∧ some k_ ≠ (.slice Ao10 t2.length co10 : Value).ownBlock)) (n:=t7.length) (c:=co14) ?_).2.2;exact (by (with_reducible repeat (first | apply Kd.R_alloc | apply Kd.R_drewN | apply Kd.R_drew));exact (Kd.R_mono (Kd.R_far (p:=⟨gb11,0,none⟩) (Kd.R_types HO9.out BK11.out (by decide)) (fun _ hk=>hk.2) (.slice Ao14 t7.length co14)) (fun _ h_=>h_.1))));(case side4=>exact (Kd.R_reads' HO9.out).2.1);rintro e w23 ⟨rfl,hb⟩;refine ⟨_,rfl,?_⟩;replace HO4:=a0_ (Kd.R_below (by (with_reducible repeat (first | apply Kd.R_alloc | apply Kd.R_drewN | apply Kd.R_drew));exact (Kd.R_mono (Kd.R_far (p:=⟨gb11,0,none⟩) (Kd.R_types HO4.out BK11.out (by decide)) (fun _ hk=>hk.2) (.slice Ao14 t7.length co14)) (fun _ h_=>h_.1))) hb);replace HO9:=a0_ (Kd.R_below (by (with_reducible repeat (first | apply Kd.R_alloc | apply Kd.R_drewN | apply Kd.R_drew));exact (Kd.R_mono (Kd.R_far (p:=⟨gb11,0,none⟩) (Kd.R_types HO9.out BK11.out (by decide)) (fun _ hk=>hk.2) (.slice Ao14 t7.length co14)) (fun _ h_=>h_.1))) hb);replace BK6:=kf_ BK6 NB6_11 hb;replace BK11:=a0_ (blk_below (g:=gb11) (o:=.cells #[.slice Ao14 t7.length co14] 25 (0,0)) (by (with_reducible repeat (first | refine blk_drewN ?_ _ | refine blk_drew ?_ | refine blk_alloc ?_ _));refine blk_put (cs:=#[.slice none 0 0]) ?_ 0 _ rfl;(with_reducible repeat (first | refine blk_drewN ?_ _ | refine blk_drew ?_ | refine blk_alloc ?_ _));exact BK11.out) hb);replace HB:=a0_ (below_step hbw_ hb);(try clear hb);(try clear hb2);(try clear hk);(try clear hi)))
     go_meet
     case rel=>exact ⟨_,(true),(by first | rfl | (simp;done) | (simp [*];done)),H',⟨by first | omega | exact Nat.le_refl _⟩,⟨by (with_reducible repeat (first | apply Kd.R_alloc | apply Kd.R_drewN | apply Kd.R_drew));exact Kd.R_mono HO4.out (fun _ hk=>hk.2)⟩,⟨by (with_reducible repeat (first | apply Kd.R_alloc | apply Kd.R_drewN | apply Kd.R_drew));exact Kd.R_mono HO9.out (fun _ hk=>hk.2)⟩,⟨by (with_reducible repeat (first | refine blk_drewN ?_ _ | refine blk_drew ?_ | refine blk_alloc ?_ _));exact BK6.out⟩,⟨by (with_reducible repeat (first | refine blk_drewN ?_ _ | refine blk_drew ?_ | refine blk_alloc ?_ _));exact BK11.out⟩,⟨hbw_⟩⟩
    ·rw [if_neg c19] at H
     have c19b0 : (t5 != t10) = false:=by simpa using c19
     (try (have c19b1 : decide (t5 = t10) = true:=by simpa using c19))
     (try (have c19b2 : (t5 == t10) = true:=by simpa using c19))
     clear c19
     (first | rw [c19b0] | (simp only [i64_w,i32_w];rw [c19b0]) | skip)
     have H':=a0_ H
     clear H
     have hnb24:=NB6_11.out
     have hnc24:=NB11_6.out
     have hcz25_0 : w13.cell? ⟨gb6,0,none⟩ = some (.slice Ao10 t2.length co10):=(blk_cell BK6.out 0).trans rfl
     have hfz25_0:=blk_frozen BK6.out 0
     have hcz26_0 : w13.cell? ⟨gb11,0,none⟩ = some (.slice none 0 0):=(blk_cell BK11.out 0).trans rfl
     have hfz26_0:=blk_frozen BK11.out 0
     go_wp2_with (first | ((with_reducible refine gate_callee (f:=51) rfl ?_);refine goesL_ (some 25) rfl rfl Try.func51 (by kernel_rfl) rfl #[.agg #[.slice Ao10 t2.length co10],.agg #[.slice Ao14 t7.length co14]] rfl lm_ ?_;(with_reducible refine (laws_equalTree.calls k _ _ t2 _ _ t7 true _ ?side1 ?side2 ?side3 ?side4 A17.out).mono ?_);(case side1=>refine (Kd.R_reads' (e:=125) (base:=w.heap.size) (ok:=fun k_=>(True ∧ some k_ ≠ (.slice Ao14 t7.length co14 : Value).ownBlock)) (n:=t2.length) (c:=co10) ?_).2.2;exact (by (with_reducible repeat (first | apply Kd.R_alloc | apply Kd.R_drewN | apply Kd.R_drew));exact (Kd.R_mono (Kd.R_far (p:=⟨gb11,0,none⟩) (Kd.R_types HO4.out BK11.out (by decide)) (fun _ hk=>hk.2) (.slice Ao14 t7.length co14)) (fun _ h_=>h_.1))));(case side2=>exact (Kd.R_reads' HO4.out).2.1);(case side3=>refine (Kd.R_reads' (e:=125) (base:=w.heap.size) (ok:=fun k_=>(True ∧ some k_ ≠ (.slice Ao10 t2.length co10 : Value).ownBlock)) (n:=t7.length) (c:=co14) ?_).2.2;exact (by (with_reducible repeat (first | apply Kd.R_alloc | apply Kd.R_drewN | apply Kd.R_drew));exact (Kd.R_mono (Kd.R_far (p:=⟨gb11,0,none⟩) (Kd.R_types HO9.out BK11.out (by decide)) (fun _ hk=>hk.2) (.slice Ao14 t7.length co14)) (fun _ h_=>h_.1))));(case side4=>exact (Kd.R_reads' HO9.out).2.1);rintro e w27 ⟨rfl,hb⟩;refine ⟨_,rfl,?_⟩;replace HO4:=a0_ (Kd.R_below (by (with_reducible repeat (first | apply Kd.R_alloc | apply Kd.R_drewN | apply Kd.R_drew));exact (Kd.R_mono (Kd.R_far (p:=⟨gb11,0,none⟩) (Kd.R_types HO4.out BK11.out (by decide)) (fun _ hk=>hk.2) (.slice Ao14 t7.length co14)) (fun _ h_=>h_.1))) hb);replace HO9:=a0_ (Kd.R_below (by (with_reducible repeat (first | apply Kd.R_alloc | apply Kd.R_drewN | apply Kd.R_drew));exact (Kd.R_mono (Kd.R_far (p:=⟨gb11,0,none⟩) (Kd.R_types HO9.out BK11.out (by decide)) (fun _ hk=>hk.2) (.slice Ao14 t7.length co14)) (fun _ h_=>h_.1))) hb);replace BK6:=kf_ BK6 NB6_11 hb;replace BK11:=a0_ (blk_below (g:=gb11) (o:=.cells #[.slice Ao14 t7.length co14] 25 (0,0)) (by (with_reducible repeat (first | refine blk_drewN ?_ _ | refine blk_drew ?_ | refine blk_alloc ?_ _));refine blk_put (cs:=#[.slice none 0 0]) ?_ 0 _ rfl;(with_reducible repeat (first | refine blk_drewN ?_ _ | refine blk_drew ?_ | refine blk_alloc ?_ _));exact BK11.out) hb);replace HB:=a0_ (below_step hbw_ hb);(try clear hb);(try clear hb2);(try clear hk);(try clear hi)))
     go_meet
     case rel=>exact ⟨_,(!t5),(by first | rfl | (simp;done) | (simp [*];done)),H',⟨by first | omega | exact Nat.le_refl _⟩,⟨by (with_reducible repeat (first | apply Kd.R_alloc | apply Kd.R_drewN | apply Kd.R_drew));exact Kd.R_mono HO4.out (fun _ hk=>hk.2)⟩,⟨by (with_reducible repeat (first | apply Kd.R_alloc | apply Kd.R_drewN | apply Kd.R_drew));exact Kd.R_mono HO9.out (fun _ hk=>hk.2)⟩,⟨by (with_reducible repeat (first | refine blk_drewN ?_ _ | refine blk_drew ?_ | refine blk_alloc ?_ _));exact BK6.out⟩,⟨by (with_reducible repeat (first | refine blk_drewN ?_ _ | refine blk_drew ?_ | refine blk_alloc ?_ _));exact BK11.out⟩,⟨hbw_⟩⟩
   ·replace c18:=Bool.eq_false_iff.mpr c18
    subst c18
    have H1 : (laws_FnParseTree.j0 k t1 t5 t10 true t2 t7) = some r:=by rw [if_neg (show ¬ (false = true) by decide)] at H;exact H
    clear H
    have H:=H1
    clear H1
    have H':=a0_ H
    clear H
    have hnb28:=NB6_11.out
    have hnc28:=NB11_6.out
    have hcz29_0 : w13.cell? ⟨gb6,0,none⟩ = some (.slice Ao10 t2.length co10):=(blk_cell BK6.out 0).trans rfl
    have hfz29_0:=blk_frozen BK6.out 0
    have hcz30_0 : w13.cell? ⟨gb11,0,none⟩ = some (.slice none 0 0):=(blk_cell BK11.out 0).trans rfl
    have hfz30_0:=blk_frozen BK11.out 0
    go_wp2_with (first | ((with_reducible refine gate_callee (f:=51) rfl ?_);refine goesL_ (some 25) rfl rfl Try.func51 (by kernel_rfl) rfl #[.agg #[.slice Ao10 t2.length co10],.agg #[.slice Ao14 t7.length co14]] rfl lm_ ?_;(with_reducible refine (laws_equalTree.calls k _ _ t2 _ _ t7 false _ ?side1 ?side2 ?side3 ?side4 A17.out).mono ?_);(case side1=>refine (Kd.R_reads' (e:=125) (base:=w.heap.size) (ok:=fun k_=>(True ∧ some k_ ≠ (.slice Ao14 t7.length co14 : Value).ownBlock)) (n:=t2.length) (c:=co10) ?_).2.2;exact (by (with_reducible repeat (first | apply Kd.R_alloc | apply Kd.R_drewN | apply Kd.R_drew));exact (Kd.R_mono (Kd.R_far (p:=⟨gb11,0,none⟩) (Kd.R_types HO4.out BK11.out (by decide)) (fun _ hk=>hk.2) (.slice Ao14 t7.length co14)) (fun _ h_=>h_.1))));(case side2=>exact (Kd.R_reads' HO4.out).2.1);(case side3=>refine (Kd.R_reads' (e:=125) (base:=w.heap.size) (ok:=fun k_=>(True ∧ some k_ ≠ (.slice Ao10 t2.length co10 : Value).ownBlock)) (n:=t7.length) (c:=co14) ?_).2.2;exact (by (with_reducible repeat (first | apply Kd.R_alloc | apply Kd.R_drewN | apply Kd.R_drew));exact (Kd.R_mono (Kd.R_far (p:=⟨gb11,0,none⟩) (Kd.R_types HO9.out BK11.out (by decide)) (fun _ hk=>hk.2) (.slice Ao14 t7.length co14)) (fun _ h_=>h_.1))));(case side4=>exact (Kd.R_reads' HO9.out).2.1);rintro e w31 ⟨rfl,hb⟩;refine ⟨_,rfl,?_⟩;replace HO4:=a0_ (Kd.R_below (by (with_reducible repeat (first | apply Kd.R_alloc | apply Kd.R_drewN | apply Kd.R_drew));exact (Kd.R_mono (Kd.R_far (p:=⟨gb11,0,none⟩) (Kd.R_types HO4.out BK11.out (by decide)) (fun _ hk=>hk.2) (.slice Ao14 t7.length co14)) (fun _ h_=>h_.1))) hb);replace HO9:=a0_ (Kd.R_below (by (with_reducible repeat (first | apply Kd.R_alloc | apply Kd.R_drewN | apply Kd.R_drew));exact (Kd.R_mono (Kd.R_far (p:=⟨gb11,0,none⟩) (Kd.R_types HO9.out BK11.out (by decide)) (fun _ hk=>hk.2) (.slice Ao14 t7.length co14)) (fun _ h_=>h_.1))) hb);replace BK6:=kf_ BK6 NB6_11 hb;replace BK11:=a0_ (blk_below (g:=gb11) (o:=.cells #[.slice Ao14 t7.length co14] 25 (0,0)) (by (with_reducible repeat (first | refine blk_drewN ?_ _ | refine blk_drew ?_ | refine blk_alloc ?_ _));refine blk_put (cs:=#[.slice none 0 0]) ?_ 0 _ rfl;(with_reducible repeat (first | refine blk_drewN ?_ _ | refine blk_drew ?_ | refine blk_alloc ?_ _));exact BK11.out) hb);replace HB:=a0_ (below_step hbw_ hb);(try clear hb);(try clear hb2);(try clear hk);(try clear hi)))
    go_meet
    case rel=>exact ⟨_,(true),(by first | rfl | (simp;done) | (simp [*];done)),H',⟨by first | omega | exact Nat.le_refl _⟩,⟨by (with_reducible repeat (first | apply Kd.R_alloc | apply Kd.R_drewN | apply Kd.R_drew));exact Kd.R_mono HO4.out (fun _ hk=>hk.2)⟩,⟨by (with_reducible repeat (first | apply Kd.R_alloc | apply Kd.R_drewN | apply Kd.R_drew));exact Kd.R_mono HO9.out (fun _ hk=>hk.2)⟩,⟨by (with_reducible repeat (first | refine blk_drewN ?_ _ | refine blk_drew ?_ | refine blk_alloc ?_ _));exact BK6.out⟩,⟨by (with_reducible repeat (first | refine blk_drewN ?_ _ | refine blk_drew ?_ | refine blk_alloc ?_ _));exact BK11.out⟩,⟨hbw_⟩⟩
  case rest =>
   clear HC6
   try clear c1
   try clear c2
   try clear c2b0
   try clear c2b1
   try clear p2
   try clear c3
   try clear c5
   try clear c10
   try clear c15
   try clear c18
   try clear c19
   try clear c19b0
   try clear c19b1
   try clear c19b2
   try clear c20
   try clear c24
   try clear c28
   try clear hcz11_0
   try clear hcz16_0
   try clear hcz21_0
   try clear hcz22_0
   try clear hcz25_0
   try clear hcz26_0
   try clear hcz29_0
   try clear hcz30_0
   try clear hfz11_0
   try clear hfz16_0
   try clear hfz21_0
   try clear hfz22_0
   try clear hfz25_0
   try clear hfz26_0
   try clear hfz29_0
   try clear hfz30_0
   obtain ⟨kq,x35_5,rfl,HA,HJ5,Z7,Z12,BK6,BK11,HB⟩:=hcut
   cases kq with
   | zero=>exact absurd HA.out (by simp [laws_FnParseTree.j0])
   | succ kj5 =>
    have H:=HA.out
    clear HA
    simp only [laws_FnParseTree.j0] at H
    by_cases c32 : x35_5 = true
    ·subst c32
     have H1 : ((laws_equalTree.f kj5 t2 t7).bind fun t13=>(if t13 = true then (some (t5 == t10)) else (some false))) = some r:=by rw [if_pos rfl] at H;exact H
     clear H
     have H:=H1
     clear H1
     replace H:=Option.bind_eq_some_iff.mp H
     obtain ⟨t13,A330,H⟩:=H
     try dsimp only at H
     have A33:=a0_ A330
     clear A330
     by_cases c34 : t13 = true
     ·subst c34
      have H1 : (some (t5 == t10)) = some r:=by rw [if_pos rfl] at H;exact H
      clear H
      have H:=H1
      clear H1
      obtain rfl:=Option.some.inj H
      have hnb35:=NB6_11.out
      have hnc35:=NB11_6.out
      have hcz36_0 : wc.cell? ⟨gb6,0,none⟩ = some (.slice Ao10 t2.length co10):=(blk_cell BK6.out 0).trans rfl
      have hfz36_0:=blk_frozen BK6.out 0
      have hcz37_0 : wc.cell? ⟨gb11,0,none⟩ = some (.slice Ao14 t7.length co14):=(blk_cell BK11.out 0).trans rfl
      have hfz37_0:=blk_frozen BK11.out 0
      go_wp2_with (first | ((with_reducible refine gate_callee (f:=51) rfl ?_);refine goesL_ (some 38) rfl rfl Try.func51 (by kernel_rfl) rfl #[.agg #[.slice Ao10 t2.length co10],.agg #[.slice Ao14 t7.length co14]] rfl lm_ ?_;(with_reducible refine (laws_equalTree.calls kj5 _ _ t2 _ _ t7 true _ ?side1 ?side2 ?side3 ?side4 A33.out).mono ?_);(case side1=>exact cc_ (Kd.R_reads' Z7.out).2.2);(case side2=>exact (Kd.R_reads' Z7.out).2.1);(case side3=>exact cc_ (Kd.R_reads' Z12.out).2.2);(case side4=>exact (Kd.R_reads' Z12.out).2.1);rintro e w38 ⟨rfl,hb⟩;refine ⟨_,rfl,?_⟩;replace Z7:=rb_ Z7 hb;replace Z12:=rb_ Z12 hb;replace BK6:=kb_ BK6 hb;replace BK11:=kb_ BK11 hb;replace HB:=a0_ (below_step hbw_ hb);(try clear hb);(try clear hb2);(try clear hk);(try clear hi)))
      go_ret
      exact ⟨by first | rfl | (simp [errW_none,errW_some] <;> rfl) | (simp [*,errW_none,errW_some] <;> rfl),hbw_⟩
     ·replace c34:=Bool.eq_false_iff.mpr c34
      subst c34
      have H1 : (some false) = some r:=by rw [if_neg (show ¬ (false = true) by decide)] at H;exact H
      clear H
      have H:=H1
      clear H1
      obtain rfl:=Option.some.inj H
      have hnb39:=NB6_11.out
      have hnc39:=NB11_6.out
      have hcz40_0 : wc.cell? ⟨gb6,0,none⟩ = some (.slice Ao10 t2.length co10):=(blk_cell BK6.out 0).trans rfl
      have hfz40_0:=blk_frozen BK6.out 0
      have hcz41_0 : wc.cell? ⟨gb11,0,none⟩ = some (.slice Ao14 t7.length co14):=(blk_cell BK11.out 0).trans rfl
      have hfz41_0:=blk_frozen BK11.out 0
      go_wp2_with (first | ((with_reducible refine gate_callee (f:=51) rfl ?_);refine goesL_ (some 38) rfl rfl Try.func51 (by kernel_rfl) rfl #[.agg #[.slice Ao10 t2.length co10],.agg #[.slice Ao14 t7.length co14]] rfl lm_ ?_;(with_reducible refine (laws_equalTree.calls kj5 _ _ t2 _ _ t7 false _ ?side1 ?side2 ?side3 ?side4 A33.out).mono ?_);(case side1=>exact cc_ (Kd.R_reads' Z7.out).2.2);(case side2=>exact (Kd.R_reads' Z7.out).2.1);(case side3=>exact cc_ (Kd.R_reads' Z12.out).2.2);(case side4=>exact (Kd.R_reads' Z12.out).2.1);rintro e w42 ⟨rfl,hb⟩;refine ⟨_,rfl,?_⟩;replace Z7:=rb_ Z7 hb;replace Z12:=rb_ Z12 hb;replace BK6:=kb_ BK6 hb;replace BK11:=kb_ BK11 hb;replace HB:=a0_ (below_step hbw_ hb);(try clear hb);(try clear hb2);(try clear hk);(try clear hi)))
      go_ret
      exact ⟨by first | rfl | (simp [errW_none,errW_some] <;> rfl) | (simp [*,errW_none,errW_some] <;> rfl),hbw_⟩
    ·replace c32:=Bool.eq_false_iff.mpr c32
     subst c32
     have H1 : ((impl_TreeText.f t2).bind fun t14=>(if t14.toList = t1.toList then ((impl_ValidTree.f t2).bind fun t15=>(some t15)) else (some false))) = some r:=by rw [if_neg (show ¬ (false = true) by decide)] at H;exact H
     clear H
     have H:=H1
     clear H1
     replace H:=Option.bind_eq_some_iff.mp H
     obtain ⟨t14,A430,H⟩:=H
     try dsimp only at H
     have A43:=a0_ A430
     clear A430
     by_cases c44 : t14.toList = t1.toList
     ·rw [if_pos c44] at H
      have c44b0 : (t14.toList == t1.toList) = true:=beq_iff_eq.mpr c44
      have c44b1 : (t14.toList != t1.toList) = false:=bne_eq_false_iff_eq.mpr c44
      clear c44
      replace H:=Option.bind_eq_some_iff.mp H
      obtain ⟨t15,A450,H⟩:=H
      replace H : (some t15) = some r:=H
      have A45:=a0_ A450
      clear A450
      obtain rfl:=Option.some.inj H
      have hnb46:=NB6_11.out
      have hnc46:=NB11_6.out
      have hcz47_0 : wc.cell? ⟨gb6,0,none⟩ = some (.slice Ao10 t2.length co10):=(blk_cell BK6.out 0).trans rfl
      have hfz47_0:=blk_frozen BK6.out 0
      go_wp2_with (first | ((with_reducible refine gate_callee (f:=49) rfl ?_);refine goesL_ (some 45) rfl rfl Try.func49 (by kernel_rfl) rfl #[.agg #[.slice Ao10 t2.length co10]] rfl lm_ ?_;(with_reducible refine (impl_TreeText.calls _ _ t2 t14 _ ?side1 ?side2 A43.out).mono ?_);(case side1=>exact cc_ (Kd.R_reads' Z7.out).2.2);(case side2=>exact (Kd.R_reads' Z7.out).2.1);rintro e w48 ⟨rfl,hb⟩;refine ⟨_,rfl,?_⟩;replace Z7:=rb_ Z7 hb;replace Z12:=rb_ Z12 hb;replace BK6:=kb_ BK6 hb;replace BK11:=kb_ BK11 hb;replace HB:=a0_ (below_step hbw_ hb);(try clear hb);have hcz49_0 : w48.cell? ⟨gb6,0,none⟩ = some (.slice Ao10 t2.length co10):=(blk_cell BK6.out 0).trans rfl;have hfz49_0:=blk_frozen BK6.out 0) | (go_at_call 54;(with_reducible refine (impl_ValidTree.calls _ _ t2 t15 _ ?side1 ?side2 A45.out).mono ?_);(case side1=>exact cc_ (Kd.R_reads' Z7.out).2.2);(case side2=>exact (Kd.R_reads' Z7.out).2.1);rintro e w50 ⟨rfl,hb⟩;replace Z7:=rb_ Z7 hb;replace Z12:=rb_ Z12 hb;replace BK6:=kb_ BK6 hb;replace BK11:=kb_ BK11 hb;replace HB:=a0_ (below_step hbw_ hb);(try clear hb);(try clear hb2);(try clear hk);(try clear hi)))
      go_ret
      exact ⟨by first | rfl | (simp [errW_none,errW_some] <;> rfl) | (simp [*,errW_none,errW_some] <;> rfl),hbw_⟩
     ·rw [if_neg c44] at H
      have c44b0 : (t14.toList == t1.toList) = false:=beq_eq_false_iff_ne.mpr c44
      have c44b1 : (t14.toList != t1.toList) = true:=bne_iff_ne.mpr c44
      obtain rfl:=Option.some.inj H
      have hnb51:=NB6_11.out
      have hnc51:=NB11_6.out
      have hcz52_0 : wc.cell? ⟨gb6,0,none⟩ = some (.slice Ao10 t2.length co10):=(blk_cell BK6.out 0).trans rfl
      have hfz52_0:=blk_frozen BK6.out 0
      go_wp2_with (first | ((with_reducible refine gate_callee (f:=49) rfl ?_);refine goesL_ (some 45) rfl rfl Try.func49 (by kernel_rfl) rfl #[.agg #[.slice Ao10 t2.length co10]] rfl lm_ ?_;(with_reducible refine (impl_TreeText.calls _ _ t2 t14 _ ?side1 ?side2 A43.out).mono ?_);(case side1=>exact cc_ (Kd.R_reads' Z7.out).2.2);(case side2=>exact (Kd.R_reads' Z7.out).2.1);rintro e w53 ⟨rfl,hb⟩;refine ⟨_,rfl,?_⟩;replace Z7:=rb_ Z7 hb;replace Z12:=rb_ Z12 hb;replace BK6:=kb_ BK6 hb;replace BK11:=kb_ BK11 hb;replace HB:=a0_ (below_step hbw_ hb);(try clear hb);(try clear hb2);(try clear hk);(try clear hi)))
      go_ret
      exact ⟨by first | rfl | (simp [errW_none,errW_some] <;> rfl) | (simp [*,errW_none,errW_some] <;> rfl),hbw_⟩
def laws_FnParseTree.Pure : Prop:=∀ (l0 : List Int),l0.length ≤ maxLen → l0.length * 1 ≤ 140737488351232 → (∀ x ∈ l0,(Lit.int .u8 x).wf = true) → ∃ k,laws_FnParseTree.f k l0 = some true
theorem laws_FnParseTree.walk (P : laws_FnParseTree.Pure) (a0 : Option Addr) (len0 cap0 : Nat) (z0 : List Int) (w : World) (w0 : (a0 = none ∧ len0 = 0 ∧ cap0 = 0 ∧ z0 = []) ∨ ∃ x,a0 = some x ∧ len0 ≤ cap0 ∧ cap0 ≤ maxLen ∧ z0.length = cap0 ∧ (∀ i,i < z0.length → w.cell? (x.add i) = some (.int .u8 (z0.getD i 0))) ∧ ∀ n ∈ z0,(Lit.int .u8 n).wf = true) (y0 : len0 * 1 ≤ 140737488351232) :
  Calls Try.prog 10 #[.slice a0 len0 cap0] w fun e w'=>e = .returned (.bool true) ∧ Below w.heap.size w w':=by
 obtain ⟨l0,rfl,hr0,hm0,hw0,hc0⟩:=ReadsInt.ofRowC w0
 obtain ⟨k,h⟩:=P l0 hm0 y0 hw0
 refine (laws_FnParseTree.calls k _ _ l0 true w (Kd.C_of_reads (d:=(0 : Int)) (h1:=fun _=>rfl) hr0) hc0 h).mono ?_
 rintro e w' ⟨rfl,hd⟩
 exact ⟨rfl,hd⟩
end Go.Proofs.Ytacgehaipacehaa.P
namespace Go.Proofs.Ytacgehaipacehaa.Pure
open Go.RowKit Go.Proofs.Ytacgehaipacehaa.P
open Go.Proofs.YtacgehaipacehaaW.PrintWords (rd rdOf wrap_succ wrap_pred wrap_in toL_beq idxP)
set_option linter.unusedVariables false
theorem FnParseTree : laws_FnParseTree.Pure:=by
 intro l0 _ _ hw
 refine Ev.out (F:=fun k=>laws_FnParseTree.f k l0) ?_
 unfold laws_FnParseTree.f
 by_cases hbig : (l0.length : Int) > 1048576
 ·exact Ev.pos hbig (Ev.const rfl)
 refine Ev.neg hbig ?_
 obtain ⟨s,hd,hsz⟩:=spec_DrawParseTree_ev l0 hw
 have hI:=impl_ParseTree_ev s (by omega)
 have hS:=spec_ParseTree_ev s (by omega)
 cases hp : parP s with
 | mk t ok =>
  rw [hp] at hI hS
  cases ok with
  | false =>
   obtain rfl:=parP_no hp
   refine Ev.bind hd ?_
   refine Ev.bind hI ?_
   refine Ev.bind hS ?_
   refine Ev.bind (laws_equalTree_ev [] (by simp)) ?_
   refine Ev.pos rfl ?_
   refine Ev.neg (by simp) ?_
   refine Ev.succ ?_
   simp only [laws_FnParseTree.j0]
   refine Ev.pos rfl ?_
   refine Ev.bind (laws_equalTree_ev [] (by simp)) ?_
   exact Ev.pos rfl (Ev.const (by rfl))
  | true =>
   obtain ⟨hv,he⟩:=parP_yes hp
   have hsm:=vT_small hv
   have hl:=vT_len hv
   have hT:=impl_TreeText_ev t hsm
   have e : textP t = s:=by unfold textP;rw [hv,if_pos rfl];exact he
   rw [e] at hT
   have hV : impl_ValidTree.f t = some true:=by rw [impl_ValidTree.f,if_pos hsm,hv]
   refine Ev.bind hd ?_
   refine Ev.bind hI ?_
   refine Ev.bind hS ?_
   refine Ev.bind (laws_equalTree_ev t (by omega)) ?_
   refine Ev.pos rfl ?_
   refine Ev.neg (by simp) ?_
   refine Ev.succ ?_
   simp only [laws_FnParseTree.j0]
   refine Ev.neg (by simp) ?_
   refine Ev.bind (Ev.const hT) ?_
   refine Ev.pos rfl ?_
   exact Ev.bind (Ev.const hV) (Ev.const rfl)
end Go.Proofs.Ytacgehaipacehaa.Pure
