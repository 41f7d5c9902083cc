/- Texts under the proof of FnHandleGroup: helper words, the functions' contracts and the plain laws. No condition. -/
import Derived.Test.YtfphcdbnnienhaaQFnHandleGroupa
import Derived.Test.YtfphcdbnnienhaaQFnHandleGroupc
import Derived.Test.YtfphcdbnnienhaaQFnHandleGroupd
import Derived.Test.YtfphcdbnnienhaaQFnHandleGroupe
namespace Go.Proofs.Ytfphcdbnnienhaa.P
open Go.RowKit Go.Proofs.YtfphcdbnnienhaaW.PrintWords Go.Proofs.YtfphcdbnnienhaaW.PrintLast Go.Proofs.YtfphcdbnnienhaaW.PrintMore
attribute [local go_sem] max2_int min2_int max_two min_two max_three min_three max_four min_four
set_option linter.unusedVariables false
set_option linter.unusedSimpArgs false
mutual
def laws_FnHandleGroup.j0 : Nat → List (S47) → List Int → List (List (S47)) → List (S47) → List (List (S47)) → List (S47) → Bool → List (S85) → Option (Bool)
 | 0,_,_,_,_,_,_,_,_=>none
 | k + 1,x4,x5,x6,x7,x8,x9,x58,x311000=>if x58 = true then ((laws_equalGroups.f k x6 x8).bind fun t326=>(if t326 = true then ((laws_equalGroup.f k x7 x9).bind fun t327=>(some t327)) else (some false))) else ((impl_DeadCatches.f k x311000 x5).bind fun t328=>((impl_LeavesOf.f k x311000 x7).bind fun t331=>(laws_FnHandleGroup.l0 k x4 x5 x6 x7 t328 (t331.length : Int) 0 x311000)))
def laws_FnHandleGroup.l0 : Nat → List (S47) → List Int → List (List (S47)) → List (S47) → List Int → Int → Int → List (S85) → Option (Bool)
 | 0,_,_,_,_,_,_,_,_=>none
 | k + 1,x4,x5,x6,x7,x10,x11,x12,x311000=>if x12 < (x6.length : Int) then (if 0 ≤ x12 then ((impl_LeavesOf.f k x311000 (rd_L8 x6 x12)).bind fun t338=>((laws_isIn.f k x10 x12).bind fun t341=>(if t341 = true then (if ((rd_L8 x6 x12).length : Int) > 0 then (some false) else (if x12 < (x5.length : Int) then ((impl_HasClass.f x311000 x7 (rd x5 x12)).bind fun t344=>(if t344 = true then (some false) else (laws_FnHandleGroup.l0 k x4 x5 x6 x7 x10 (wrap64 (x11 + (t338.length : Int))) (wrap64 (x12 + 1)) x311000))) else (none))) else (if x12 < (x5.length : Int) then ((impl_HasClass.f x311000 x7 (rd x5 x12)).bind fun t346=>(if t346 = true then (some false) else (laws_FnHandleGroup.l0 k x4 x5 x6 x7 x10 (wrap64 (x11 + (t338.length : Int))) (wrap64 (x12 + 1)) x311000))) else (none))))) else (none)) else ((impl_LeavesOf.f k x311000 x4).bind fun t334=>(if x11 = (t334.length : Int) then (some true) else (some ((x5.length : Int) == 0))))
end
def laws_FnHandleGroup.f (k : Nat) (l0 : List Int) : Option (Bool):=if (l0.length : Int) > 1048576 then (some true) else ((spec_DrawHandleGroup.f k l0).bind fun bt301=>((impl_HandleGroup.f k bt301.1 bt301.2.1 bt301.2.2).bind fun bt311=>((spec_HandleGroup.f k bt301.1 bt301.2.1 bt301.2.2).bind fun bt317=>((laws_equalGroups.f k bt311.1 bt317.1).bind fun t323=>(if t323 = true then ((laws_equalGroup.f k bt311.2 bt317.2).bind fun t324=>(if t324 = true then (if (bt311.1.length : Int) = (bt301.2.2.length : Int) then ((impl_ValidGroup.f k bt301.1 bt301.2.1).bind fun t325=>(laws_FnHandleGroup.j0 k bt301.2.1 bt301.2.2 bt311.1 bt311.2 bt317.1 bt317.2 (!t325) bt301.1)) else (laws_FnHandleGroup.j0 k bt301.2.1 bt301.2.2 bt311.1 bt311.2 bt317.1 bt317.2 true bt301.1)) else (laws_FnHandleGroup.j0 k bt301.2.1 bt301.2.2 bt311.1 bt311.2 bt317.1 bt317.2 true bt301.1))) else (laws_FnHandleGroup.j0 k bt301.2.1 bt301.2.2 bt311.1 bt311.2 bt317.1 bt317.2 true bt301.1))))))
theorem laws_FnHandleGroup.mono_l : ∀ k,(∀ y0 y1 y2 y3 y4 y5 y6 y7,LeO (laws_FnHandleGroup.j0 k y0 y1 y2 y3 y4 y5 y6 y7) (laws_FnHandleGroup.j0 (k + 1) y0 y1 y2 y3 y4 y5 y6 y7)) ∧ (∀ y0 y1 y2 y3 y4 y5 y6 y7,LeO (laws_FnHandleGroup.l0 k y0 y1 y2 y3 y4 y5 y6 y7) (laws_FnHandleGroup.l0 (k + 1) y0 y1 y2 y3 y4 y5 y6 y7))
 | 0=>⟨fun _ _ _ _ _ _ _ _ r h=>by simp [laws_FnHandleGroup.j0] at h,fun _ _ _ _ _ _ _ _ r h=>by simp [laws_FnHandleGroup.l0] at h⟩
 | k + 1=>by
  obtain ⟨ih0,ih1⟩:=laws_FnHandleGroup.mono_l k
  refine ⟨?_,?_⟩
  ·intro y0 y1 y2 y3 y4 y5 y6 y7
   unfold laws_FnHandleGroup.j0
   repeat' first
   | (with_reducible exact ih0 _ _ _ _ _ _ _ _)
   | (with_reducible exact ih1 _ _ _ _ _ _ _ _)
   | (with_reducible exact impl_DeadCatches.mono _ _ _)
   | (with_reducible exact impl_HandleGroup.mono _ _ _ _)
   | (with_reducible exact impl_LeavesOf.mono _ _ _)
   | (with_reducible exact impl_ValidGroup.mono _ _ _)
   | (with_reducible exact laws_equalGroup.mono _ _ _)
   | (with_reducible exact laws_equalGroups.mono _ _ _)
   | (with_reducible exact laws_isIn.mono _ _ _)
   | (with_reducible exact spec_DrawHandleGroup.mono _ _)
   | (with_reducible exact spec_HandleGroup.mono _ _ _ _)
   | (with_reducible exact LeO.refl _)
   | (with_reducible exact LeO.none _)
   | (with_reducible refine LeO.ite ?_ ?_)
   | (with_reducible refine LeO.bind ?_ (fun _=>?_))
   | exact ih0 _ _ _ _ _ _ _ _
   | exact ih1 _ _ _ _ _ _ _ _
   | exact impl_DeadCatches.mono _ _ _
   | exact impl_HandleGroup.mono _ _ _ _
   | exact impl_LeavesOf.mono _ _ _
   | exact impl_ValidGroup.mono _ _ _
   | exact laws_equalGroup.mono _ _ _
   | exact laws_equalGroups.mono _ _ _
   | exact laws_isIn.mono _ _ _
   | exact spec_DrawHandleGroup.mono _ _
   | exact spec_HandleGroup.mono _ _ _ _
   | exact LeO.none _
   | refine LeO.ite ?_ ?_
   | refine LeO.bind ?_ (fun _=>?_)
  ·intro y0 y1 y2 y3 y4 y5 y6 y7
   unfold laws_FnHandleGroup.l0
   repeat' first
   | (with_reducible exact ih0 _ _ _ _ _ _ _ _)
   | (with_reducible exact ih1 _ _ _ _ _ _ _ _)
   | (with_reducible exact impl_DeadCatches.mono _ _ _)
   | (with_reducible exact impl_HandleGroup.mono _ _ _ _)
   | (with_reducible exact impl_LeavesOf.mono _ _ _)
   | (with_reducible exact impl_ValidGroup.mono _ _ _)
   | (with_reducible exact laws_equalGroup.mono _ _ _)
   | (with_reducible exact laws_equalGroups.mono _ _ _)
   | (with_reducible exact laws_isIn.mono _ _ _)
   | (with_reducible exact spec_DrawHandleGroup.mono _ _)
   | (with_reducible exact spec_HandleGroup.mono _ _ _ _)
   | (with_reducible exact LeO.refl _)
   | (with_reducible exact LeO.none _)
   | (with_reducible refine LeO.ite ?_ ?_)
   | (with_reducible refine LeO.bind ?_ (fun _=>?_))
   | exact ih0 _ _ _ _ _ _ _ _
   | exact ih1 _ _ _ _ _ _ _ _
   | exact impl_DeadCatches.mono _ _ _
   | exact impl_HandleGroup.mono _ _ _ _
   | exact impl_LeavesOf.mono _ _ _
   | exact impl_ValidGroup.mono _ _ _
   | exact laws_equalGroup.mono _ _ _
   | exact laws_equalGroups.mono _ _ _
   | exact laws_isIn.mono _ _ _
   | exact spec_DrawHandleGroup.mono _ _
   | exact spec_HandleGroup.mono _ _ _ _
   | exact LeO.none _
   | refine LeO.ite ?_ ?_
   | refine LeO.bind ?_ (fun _=>?_)
theorem laws_FnHandleGroup.mono : ∀ a0 k,LeO (laws_FnHandleGroup.f k a0) (laws_FnHandleGroup.f (k + 1) a0):=by
 intro a0 k
 obtain ⟨ih0,ih1⟩:=laws_FnHandleGroup.mono_l k
 unfold laws_FnHandleGroup.f
 repeat' first
   | (with_reducible exact ih0 _ _ _ _ _ _ _ _)
   | (with_reducible exact ih1 _ _ _ _ _ _ _ _)
   | (with_reducible exact impl_DeadCatches.mono _ _ _)
   | (with_reducible exact impl_HandleGroup.mono _ _ _ _)
   | (with_reducible exact impl_LeavesOf.mono _ _ _)
   | (with_reducible exact impl_ValidGroup.mono _ _ _)
   | (with_reducible exact laws_equalGroup.mono _ _ _)
   | (with_reducible exact laws_equalGroups.mono _ _ _)
   | (with_reducible exact laws_isIn.mono _ _ _)
   | (with_reducible exact spec_DrawHandleGroup.mono _ _)
   | (with_reducible exact spec_HandleGroup.mono _ _ _ _)
   | (with_reducible exact LeO.refl _)
   | (with_reducible exact LeO.none _)
   | (with_reducible refine LeO.ite ?_ ?_)
   | (with_reducible refine LeO.bind ?_ (fun _=>?_))
   | exact ih0 _ _ _ _ _ _ _ _
   | exact ih1 _ _ _ _ _ _ _ _
   | exact impl_DeadCatches.mono _ _ _
   | exact impl_HandleGroup.mono _ _ _ _
   | exact impl_LeavesOf.mono _ _ _
   | exact impl_ValidGroup.mono _ _ _
   | exact laws_equalGroup.mono _ _ _
   | exact laws_equalGroups.mono _ _ _
   | exact laws_isIn.mono _ _ _
   | exact spec_DrawHandleGroup.mono _ _
   | exact spec_HandleGroup.mono _ _ _ _
   | exact LeO.none _
   | refine LeO.ite ?_ ?_
   | refine LeO.bind ?_ (fun _=>?_)
def laws_FnHandleGroup.T13 : Bool × List (List Nat × List Nat):=(true,[([],[]),([],[]),([],[]),([],[]),([2,3],[2,3]),([4],[4]),([1,5],[1,5]),([6],[6]),([0,7],[0,7]),([8,6,0,1,2,3,4,5,6,7,8],[0,8])])
def laws_FnHandleGroup.B13 : List Nat:=[0,0,0,0,12,28,62,126,255,511]
theorem laws_FnHandleGroup.tab13 : rtab .any (opsOf Try.f9 13) = laws_FnHandleGroup.T13:=by kernel_rfl
theorem laws_FnHandleGroup.bits13 : waitsOk laws_FnHandleGroup.T13.2 laws_FnHandleGroup.B13 = true:=by kernel_rfl
def laws_FnHandleGroup.T14 : Bool × List (List Nat × List Nat):=(true,[([],[]),([],[]),([0,1],[0,1]),([2,2],[2]),([3],[3]),([3],[3]),([4,5,3],[3,4,5]),([6,3],[3,6]),([7,3],[3,7]),([8,3],[3,8]),([3,9],[3,9]),([10,3],[10]),([11],[11]),([11],[11]),([11],[11]),([11],[11]),([14,15,11],[11,14,15]),([16,11],[11,16]),([12,13,17,11,11],[11,12,13,17]),([11,18],[11,18])])
def laws_FnHandleGroup.B14 : List Nat:=[0,0,3,7,15,15,63,127,255,511,1023,2047,4095,4095,4095,4095,53247,118783,262143,524287]
theorem laws_FnHandleGroup.tab14 : rtab .any (opsOf Try.f9 14) = laws_FnHandleGroup.T14:=by kernel_rfl
theorem laws_FnHandleGroup.bits14 : waitsOk laws_FnHandleGroup.T14.2 laws_FnHandleGroup.B14 = true:=by kernel_rfl
theorem c_keep_ {α : Type} {d : Kd α} {w W : World} {A : Option Addr} {n : Nat} {xs : List α} (x : d.C w A n xs) (h : d.C w A n xs → d.C W A n xs:=by intro x_;repeat (first | (with_reducible exact x_) | (with_reducible refine Kd.C_alloc ?_ _) | (with_reducible refine Kd.C_drewN ?_ _) | (with_reducible refine Kd.C_drew ?_) | exact x_)) : d.C W A n xs:=h x
set_option maxHeartbeats 8000000 in
set_option maxRecDepth 100000 in
theorem laws_FnHandleGroup.calls (k : Nat) (A0 : Option Addr) (c0 : Nat) (l0 : List Int) (r : Bool) (w : World) (hr0 : Kd.C (Kd.int .u8) w A0 l0.length l0) (hc0 : l0.length ≤ c0) (h : laws_FnHandleGroup.f k l0 = some r) :
  Calls Try.prog 9 #[.slice A0 l0.length c0] w fun e w'=>e = .returned (.bool r) ∧ Below w.heap.size w w':=by
 have hu25:=Try.underlying25
 have HR0:=a0_ hr0
 have HC0:=a0_ hc0
 clear hr0 hc0
 have HB:=a0_ (Below.refl w.heap.size w)
 have H : (if (l0.length : Int) > 1048576 then (some true) else ((spec_DrawHandleGroup.f k l0).bind fun bt301=>((impl_HandleGroup.f k bt301.1 bt301.2.1 bt301.2.2).bind fun bt311=>((spec_HandleGroup.f k bt301.1 bt301.2.1 bt301.2.2).bind fun bt317=>((laws_equalGroups.f k bt311.1 bt317.1).bind fun t323=>(if t323 = true then ((laws_equalGroup.f k bt311.2 bt317.2).bind fun t324=>(if t324 = true then (if (bt311.1.length : Int) = (bt301.2.2.length : Int) then ((impl_ValidGroup.f k bt301.1 bt301.2.1).bind fun t325=>(laws_FnHandleGroup.j0 k bt301.2.1 bt301.2.2 bt311.1 bt311.2 bt317.1 bt317.2 (!t325) bt301.1)) else (laws_FnHandleGroup.j0 k bt301.2.1 bt301.2.2 bt311.1 bt311.2 bt317.1 bt317.2 true bt301.1)) else (laws_FnHandleGroup.j0 k bt301.2.1 bt301.2.2 bt311.1 bt311.2 bt317.1 bt317.2 true bt301.1))) else (laws_FnHandleGroup.j0 k bt301.2.1 bt301.2.2 bt311.1 bt311.2 bt317.1 bt317.2 true bt301.1))))))) = some r:=h
 clear h
 by_cases c2 : (l0.length : Int) > 1048576
 ·rw [if_pos c2] at H
  have c2b0 : decide (1048576 < (l0.length : Int)) = true:=decide_eq_true c2
  have c2b1 : decide (1048576 < l0.length) = true:=decide_eq_true (by omega)
  clear c2
  obtain rfl:=Option.some.inj H
  go_enter Try.func9,Try.ntmps9
  go_wp2
  go_ret
  exact ⟨by first | rfl | (simp [errW_none,errW_some] <;> rfl) | (simp [*,errW_none,errW_some] <;> rfl),hb_⟩
 ·rw [if_neg c2] at H
  have c2b0 : decide (1048576 < (l0.length : Int)) = false:=decide_eq_false c2
  have c2b1 : decide (1048576 < l0.length) = false:=decide_eq_false (by omega)
  clear c2
  replace H:=Option.bind_eq_some_iff.mp H
  obtain ⟨⟨t301,t304,t307⟩,A30,H⟩:=H
  try dsimp only at H
  have A3:=a0_ A30
  clear A30
  replace H:=Option.bind_eq_some_iff.mp H
  obtain ⟨⟨t311,t314⟩,A40,H⟩:=H
  try dsimp only at H
  have A4:=a0_ A40
  clear A40
  replace H:=Option.bind_eq_some_iff.mp H
  obtain ⟨⟨t317,t320⟩,A50,H⟩:=H
  try dsimp only at H
  have A5:=a0_ A50
  clear A50
  have HC6:=a0_ H
  clear H
  go_enter Try.func9,Try.ntmps9
  go_upto_region 6 with (first | ((with_reducible refine gate_callee (f:=28) rfl ?_);refine goesL_ (some 18) rfl rfl Try.func28 (by kernel_rfl) rfl #[.slice A0 l0.length c0] rfl lm_ ?_;(with_reducible refine (spec_DrawHandleGroup.calls k _ _ l0 t301 t304 t307 _ ?side1 ?side2 A3.out).mono ?_);(case side1=>repeat (first | exact HR0.out | (with_reducible refine Kd.C_alloc ?_ _) | (with_reducible refine Kd.C_drewN ?_ _) | (with_reducible refine Kd.C_drew ?_)));(case side2=>exact HC0.out);rintro e w7 ⟨v302,v305,v308,rfl,ho0,ho1,ho2,hb⟩;refine ⟨_,rfl,?_⟩;have HO303:=a0_ (Kd.R_lower ho0 (below_size hb_));have HO306:=a0_ (Kd.R_lower ho1 (below_size hb_));have HO309:=a0_ (Kd.R_lower ho2 (below_size hb_));replace HB:=a0_ (below_step hb_ hb);(try clear hb);(try clear ho0);(try clear ho1);(try clear ho2)) | ((with_reducible refine gate_dst (N:=3) rfl ?_);(try (refine gate_guard (by rfl) ?_;dsimp only));refine box_event ?hg (N:=3) ?hd (cs:=#[.slice none 0 0]) (t:=25) ?hr ?_;(case hd=>rfl);(case hg=>rfl);(case hr=>first | (go_simp;done) | (go_simp;rfl));intro gb310 hg w8 hbox hb;replace HO303:=rb_ HO303 hb;replace HO306:=rb_ HO306 hb;replace HO309:=rb_ HO309 hb;have BK310:=a0_ (hbox);have GW310:=a0_ ((by rw [hg];exact (below_size hb_) : w.heap.size ≤ gb310));have GE310:=a0_ ((by rw [hg];exact (below_size hb_) : w.heap.size ≤ gb310));replace HB:=a0_ (below_step hb_ hb);clear hb hbox hg;obtain ⟨Ao9,co9,eo9⟩:=Kd.R_slice HO303.out;subst eo9;have hcz10_0 : w8.cell? ⟨gb310,0,none⟩ = some (.slice none 0 0):=(blk_cell BK310.out 0).trans rfl;have hfz10_0:=blk_frozen BK310.out 0;obtain ⟨Ao11,co11,eo11⟩:=Kd.R_slice HO306.out;subst eo11;obtain ⟨Ao12,co12,eo12⟩:=Kd.R_slice HO309.out;subst eo12) | ((with_reducible refine gate_callee (f:=29) rfl ?_);refine goesL_ (some 26) rfl rfl Try.func29 (by kernel_rfl) rfl #[.agg #[.slice Ao9 t301.length co9],.slice Ao11 t304.length co11,.slice Ao12 t307.length co12] rfl lm_ ?_;(with_reducible refine (impl_HandleGroup.calls k _ _ t301 _ _ t304 _ _ t307 t311 t314 _ ?side1 ?side2 ?side3 ?side4 ?side5 ?side6 A4.out).mono ?_);(case side1=>refine (Kd.R_reads' (e:=85) (base:=w.heap.size) (ok:=fun k_=>True) (n:=t301.length) (c:=co9) ?_).2.2;exact (by (with_reducible repeat (first | apply Kd.R_alloc | apply Kd.R_drewN | apply Kd.R_drew));exact (Kd.R_mono (Kd.R_far (p:=⟨gb310,0,none⟩) (Kd.R_types HO303.out BK310.out (by decide)) (fun _ hk=>hk.2) (.slice Ao9 t301.length co9)) (fun _ h_=>h_.1))));(case side2=>exact (Kd.R_reads' HO303.out).2.1);(case side3=>refine (Kd.R_reads' (e:=47) (base:=w.heap.size) (ok:=fun k_=>True) (n:=t304.length) (c:=co11) ?_).2.2;exact (by (with_reducible repeat (first | apply Kd.R_alloc | apply Kd.R_drewN | apply Kd.R_drew));exact (Kd.R_mono (Kd.R_far (p:=⟨gb310,0,none⟩) (Kd.R_types HO306.out BK310.out (by decide)) (fun _ hk=>hk.2) (.slice Ao9 t301.length co9)) (fun _ h_=>h_.1))));(case side4=>exact (Kd.R_reads' HO306.out).2.1);(case side5=>refine (Kd.R_reads' (e:=3) (base:=w.heap.size) (ok:=fun k_=>True) (n:=t307.length) (c:=co12) ?_).2.2;exact (by (with_reducible repeat (first | apply Kd.R_alloc | apply Kd.R_drewN | apply Kd.R_drew));exact (Kd.R_mono (Kd.R_far (p:=⟨gb310,0,none⟩) (Kd.R_types HO309.out BK310.out (by decide)) (fun _ hk=>hk.2) (.slice Ao9 t301.length co9)) (fun _ h_=>h_.1))));(case side6=>exact (Kd.R_reads' HO309.out).2.1);rintro e w13 ⟨v312,v315,rfl,ho0,ho1,hb⟩;refine ⟨_,rfl,?_⟩;have n0_:=a0_ (Kd.R_below (by (with_reducible repeat (first | apply Kd.R_alloc | apply Kd.R_drewN | apply Kd.R_drew));exact (Kd.R_mono (Kd.R_far (p:=⟨gb310,0,none⟩) (Kd.R_types HO303.out BK310.out (by decide)) (fun _ hk=>hk.2) (.slice Ao9 t301.length co9)) (fun _ h_=>h_.1))) hb);have n1_:=a0_ (Kd.R_elder' (by (with_reducible repeat (first | apply Kd.R_alloc | apply Kd.R_drewN | apply Kd.R_drew));exact (Kd.R_mono (Kd.R_far (p:=⟨gb310,0,none⟩) (Kd.R_types HO306.out BK310.out (by decide)) (fun _ hk=>hk.2) (.slice Ao9 t301.length co9)) (fun _ h_=>h_.1))) (Kd.R_base ho1) hb);have n2_:=a0_ (Kd.R_below (by (with_reducible repeat (first | apply Kd.R_alloc | apply Kd.R_drewN | apply Kd.R_drew));exact (Kd.R_mono (Kd.R_far (p:=⟨gb310,0,none⟩) (Kd.R_types HO309.out BK310.out (by decide)) (fun _ hk=>hk.2) (.slice Ao9 t301.length co9)) (fun _ h_=>h_.1))) hb);have n3_:=a0_ (Kd.S_lower (Kd.S_new' ho0 (Kd.R_lt (by (with_reducible repeat (first | apply Kd.R_alloc | apply Kd.R_drewN | apply Kd.R_drew));exact (Kd.R_mono (Kd.R_far (p:=⟨gb310,0,none⟩) (Kd.R_types HO306.out BK310.out (by decide)) (fun _ hk=>hk.2) (.slice Ao9 t301.length co9)) (fun _ h_=>h_.1))))) (below_size hb_));have n4_:=a0_ (Kd.R_lower (Kd.R_new' ho1 (Kd.R_lt (by (with_reducible repeat (first | apply Kd.R_alloc | apply Kd.R_drewN | apply Kd.R_drew));exact (Kd.R_mono (Kd.R_far (p:=⟨gb310,0,none⟩) (Kd.R_types HO306.out BK310.out (by decide)) (fun _ hk=>hk.2) (.slice Ao9 t301.length co9)) (fun _ h_=>h_.1))))) (below_size hb_));have n5_:=a0_ (blk_below (g:=gb310) (o:=.cells #[.slice Ao9 t301.length co9] 25 (0,0)) (by (with_reducible repeat (first | refine blk_drewN ?_ _ | refine blk_drew ?_ | refine blk_alloc ?_ _));refine blk_put (cs:=#[.slice none 0 0]) ?_ 0 _ rfl;(with_reducible repeat (first | refine blk_drewN ?_ _ | refine blk_drew ?_ | refine blk_alloc ?_ _));exact BK310.out) hb);have n6_:=a0_ (below_step hb_ hb);clear HO303 HO306;clear HO309 BK310 HB;have HO303:=n0_;have HO306:=n1_;have HO309:=n2_;have HO313:=n3_;have HO316:=n4_;have BK310:=n5_;have HB:=n6_;clear n0_ n1_ n2_ n3_ n4_ n5_ n6_;(try clear hb);(try clear ho0);(try clear ho1);have hcz14_0 : w13.cell? ⟨gb310,0,none⟩ = some (.slice Ao9 t301.length co9):=(blk_cell BK310.out 0).trans rfl;have hfz14_0:=blk_frozen BK310.out 0) | ((with_reducible refine gate_callee (f:=30) rfl ?_);refine goesL_ (some 33) rfl rfl Try.func30 (by kernel_rfl) rfl #[.agg #[.slice Ao9 t301.length co9],.slice Ao11 t304.length co11,.slice Ao12 t307.length co12] rfl lm_ ?_;(with_reducible refine (spec_HandleGroup.calls k _ _ t301 _ _ t304 _ _ t307 t317 t320 _ ?side1 ?side2 ?side3 ?side4 ?side5 ?side6 A5.out).mono ?_);(case side1=>exact cc_ (Kd.R_reads' HO303.out).2.2);(case side2=>exact (Kd.R_reads' HO303.out).2.1);(case side3=>exact cc_ (Kd.R_reads' HO306.out).2.2);(case side4=>exact (Kd.R_reads' HO306.out).2.1);(case side5=>exact cc_ (Kd.R_reads' HO309.out).2.2);(case side6=>exact (Kd.R_reads' HO309.out).2.1);rintro e w15 ⟨v318,v321,rfl,ho0,ho1,hb⟩;refine ⟨_,rfl,?_⟩;have n0_:=rb_ HO303 hb;have n1_:=a0_ (Kd.R_elder' (rr_ HO306.out) (Kd.R_base ho1) hb);have n2_:=rb_ HO309 hb;have n3_:=a0_ (Kd.S_mono (Kd.S_told (Kd.S_told (Kd.S_old (by (with_reducible repeat (first | apply Kd.S_alloc | apply Kd.S_drewN | apply Kd.S_drew));exact HO313.out) hb) (Kd.S_base ho0)) (Kd.R_base ho1)) (fun _ h_=>h_.1));have n4_:=a0_ (Kd.R_elder' (rr_ HO316.out) (Kd.R_base ho1) hb);have n5_:=a0_ (Kd.S_lower (Kd.S_new' (Kd.S_new' (Kd.S_new' ho0 (Kd.R_lt (rr_ HO306.out))) (Kd.S_lt (by (with_reducible repeat (first | apply Kd.S_alloc | apply Kd.S_drewN | apply Kd.S_drew));exact HO313.out))) (Kd.R_lt (rr_ HO316.out))) (below_size hb_));have n6_:=a0_ (Kd.R_lower (Kd.R_new' (Kd.R_new' ho1 (Kd.R_lt (rr_ HO306.out))) (Kd.R_lt (rr_ HO316.out))) (below_size hb_));have n7_:=kb_ BK310 hb;have n8_:=a0_ (below_step hb_ hb);clear HO303 HO306;clear HO309 HO313;clear HO316 BK310 HB;have HO303:=n0_;have HO306:=n1_;have HO309:=n2_;have HO313:=n3_;have HO316:=n4_;have HO319:=n5_;have HO322:=n6_;have BK310:=n7_;have HB:=n8_;clear n0_ n1_ n2_ n3_ n4_ n5_ n6_ n7_ n8_;(try clear hb);(try clear ho0);(try clear ho1)))
  (try simp only [Act.put,s1_,s2_,s3_])
  go_cut [58] (fun v58 wc=>∃ (kq : Nat) (x58_5 : Bool),v58 = .bool x58_5 ∧ Aside0 (laws_FnHandleGroup.j0 kq t304 t307 t311 t314 t317 t320 x58_5 t301 = some r) ∧ Aside0 (kq ≤ k) ∧ Aside0 (Kd.R k47 47 wc w.heap.size (fun k_=>some k_ ≠ (v315 : Value).ownBlock ∧ some k_ ≠ (v321 : Value).ownBlock) (.slice Ao11 t304.length co11) t304) ∧ Aside0 (Kd.R (Kd.int .i64) 3 wc w.heap.size (fun _=>True) (.slice Ao12 t307.length co12) t307) ∧ Aside0 (Kd.S (Kd.slice 47 k47) 26 wc w.heap.size (fun k_=>some k_ ≠ ((.slice Ao11 t304.length co11) : Value).ownBlock ∧ some k_ ≠ (v315 : Value).ownBlock ∧ some k_ ≠ (v318 : Value).ownBlock ∧ some k_ ≠ (v321 : Value).ownBlock) v312 t311) ∧ Aside0 (Kd.R k47 47 wc w.heap.size (fun k_=>some k_ ≠ ((.slice Ao11 t304.length co11) : Value).ownBlock ∧ some k_ ≠ (v321 : Value).ownBlock) v315 t314) ∧ Aside0 (Kd.S (Kd.slice 47 k47) 26 wc w.heap.size (fun k_=>some k_ ≠ ((.slice Ao11 t304.length co11) : Value).ownBlock ∧ some k_ ≠ (v312 : Value).ownBlock ∧ some k_ ≠ (v315 : Value).ownBlock ∧ some k_ ≠ (v321 : Value).ownBlock) v318 t317) ∧ Aside0 (Kd.R k47 47 wc w.heap.size (fun k_=>some k_ ≠ ((.slice Ao11 t304.length co11) : Value).ownBlock ∧ some k_ ≠ (v315 : Value).ownBlock) v321 t320) ∧ Aside0 (Kd.R k85 85 wc w.heap.size (fun _=>True) (.slice Ao9 t301.length co9) t301) ∧ Aside0 (wc.heap[gb310]? = some (.cells #[(.slice Ao9 t301.length co9)] 25 (0,0))) ∧ Aside0 (Below w.heap.size w wc))
  case first =>
   have H:=HC6.out
   clear HC6
   replace H:=Option.bind_eq_some_iff.mp H
   obtain ⟨t323,A160,H⟩:=H
   try dsimp only at H
   have A16:=a0_ A160
   clear A160
   by_cases c17 : t323 = true
   ·subst c17
    have H1 : ((laws_equalGroup.f k t314 t320).bind fun t324=>(if t324 = true then (if (t311.length : Int) = (t307.length : Int) then ((impl_ValidGroup.f k t301 t304).bind fun t325=>(laws_FnHandleGroup.j0 k t304 t307 t311 t314 t317 t320 (!t325) t301)) else (laws_FnHandleGroup.j0 k t304 t307 t311 t314 t317 t320 true t301)) else (laws_FnHandleGroup.j0 k t304 t307 t311 t314 t317 t320 true t301))) = some r:=by rw [if_pos rfl] at H;exact H
    clear H
    have H:=H1
    clear H1
    replace H:=Option.bind_eq_some_iff.mp H
    obtain ⟨t324,A180,H⟩:=H
    try dsimp only at H
    have A18:=a0_ A180
    clear A180
    by_cases c19 : t324 = true
    ·subst c19
     have H1 : (if (t311.length : Int) = (t307.length : Int) then ((impl_ValidGroup.f k t301 t304).bind fun t325=>(laws_FnHandleGroup.j0 k t304 t307 t311 t314 t317 t320 (!t325) t301)) else (laws_FnHandleGroup.j0 k t304 t307 t311 t314 t317 t320 true t301)) = some r:=by rw [if_pos rfl] at H;exact H
     clear H
     have H:=H1
     clear H1
     by_cases c20 : (t311.length : Int) = (t307.length : Int)
     ·rw [if_pos c20] at H
      have c20b0 : ((t311.length : Int) == (t307.length : Int)) = true:=beq_iff_eq.mpr c20
      have c20b1 : ((t311.length : Int) != (t307.length : Int)) = false:=bne_eq_false_iff_eq.mpr c20
      have c20b2 : (t311.length == t307.length) = true:=by first | simpa using c20 | (simp at c20 ⊢;omega)
      clear c20
      (first | rw [c20b0] | (simp only [i64_w,i32_w];rw [c20b0]) | skip)
      replace H:=Option.bind_eq_some_iff.mp H
      obtain ⟨t325,A210,H⟩:=H
      try dsimp only at H
      have A21:=a0_ A210
      clear A210
      have H':=a0_ H
      clear H
      obtain ⟨Ao22,co22,eo22⟩:=Kd.S_slice HO313.out
      subst eo22
      obtain ⟨Ao23,co23,eo23⟩:=Kd.S_slice HO319.out
      subst eo23
      go_wp2_with (first | ((with_reducible refine gate_callee (f:=31) rfl ?_);refine goesL_ (some 38) rfl rfl Try.func31 (by kernel_rfl) rfl #[.slice Ao22 t311.length co22,.slice Ao23 t317.length co23] rfl lm_ ?_;(with_reducible refine (laws_equalGroups.calls k _ _ t311 _ _ t317 true _ ?side1 ?side2 ?side3 ?side4 A16.out).mono ?_);(case side1=>repeat (first | exact (Kd.S_reads' HO313.out).2.2 | (with_reducible refine Kd.C_alloc ?_ _) | (with_reducible refine Kd.C_drewN ?_ _) | (with_reducible refine Kd.C_drew ?_)));(case side2=>exact (Kd.S_reads' HO313.out).2.1);(case side3=>repeat (first | exact (Kd.S_reads' HO319.out).2.2 | (with_reducible refine Kd.C_alloc ?_ _) | (with_reducible refine Kd.C_drewN ?_ _) | (with_reducible refine Kd.C_drew ?_)));(case side4=>exact (Kd.S_reads' HO319.out).2.1);rintro e w' ⟨rfl,⟨nd,rfl⟩⟩;refine ⟨_,rfl,?_⟩;obtain ⟨Ao24,co24,eo24⟩:=Kd.R_slice HO316.out;subst eo24;obtain ⟨Ao25,co25,eo25⟩:=Kd.R_slice HO322.out;subst eo25) | (go_at_call 13;(with_reducible refine (laws_equalGroup.calls k _ _ t314 _ _ t320 true _ ?side1 ?side2 ?side3 ?side4 A18.out).mono ?_);(case side1=>exact cc_ (Kd.R_reads' HO316.out).2.2);(case side2=>exact (Kd.R_reads' HO316.out).2.1);(case side3=>exact cc_ (Kd.R_reads' HO322.out).2.2);(case side4=>exact (Kd.R_reads' HO322.out).2.1);rintro e w' ⟨rfl,⟨nd,rfl⟩⟩;have hcz26_0 : w15.cell? ⟨gb310,0,none⟩ = some (.slice Ao9 t301.length co9):=(blk_cell BK310.out 0).trans rfl;have hfz26_0:=blk_frozen BK310.out 0) | (go_at_call 15;(with_reducible refine (impl_ValidGroup.calls k _ _ t301 _ _ t304 t325 _ ?side1 ?side2 ?side3 ?side4 A21.out).mono ?_);(case side1=>exact cc_ (Kd.R_reads' HO303.out).2.2);(case side2=>exact (Kd.R_reads' HO303.out).2.1);(case side3=>exact cc_ (Kd.R_reads' HO306.out).2.2);(case side4=>exact (Kd.R_reads' HO306.out).2.1);rintro e w27 ⟨rfl,hb⟩;replace HO303:=rb_ HO303 hb;replace HO306:=rb_ HO306 hb;replace HO309:=rb_ HO309 hb;replace HO313:=a0_ (Kd.S_below (by (with_reducible repeat (first | apply Kd.S_alloc | apply Kd.S_drewN | apply Kd.S_drew));exact HO313.out) hb);replace HO316:=rb_ HO316 hb;replace HO319:=a0_ (Kd.S_below (by (with_reducible repeat (first | apply Kd.S_alloc | apply Kd.S_drewN | apply Kd.S_drew));exact HO319.out) hb);replace HO322:=rb_ HO322 hb;replace BK310:=kb_ BK310 hb;replace HB:=a0_ (below_step hb_ hb);(try clear hb);(try clear hb2);(try clear hk);(try clear hi)))
      go_meet
      case rel=>exact ⟨_,(!t325),(by first | rfl | (simp;done) | (simp [*];done)),H',⟨by first | omega | exact Nat.le_refl _⟩,⟨by (with_reducible repeat (first | apply Kd.R_alloc | apply Kd.R_drewN | apply Kd.R_drew));exact Kd.R_mono HO306.out (fun _ hk=>⟨hk.1.2,hk.2⟩)⟩,⟨by (with_reducible repeat (first | apply Kd.R_alloc | apply Kd.R_drewN | apply Kd.R_drew));exact HO309.out⟩,⟨by (with_reducible repeat (first | apply Kd.S_alloc | apply Kd.S_drewN | apply Kd.S_drew));exact Kd.S_mono HO313.out (fun _ hk=>⟨hk.1.1.2,⟨hk.1.1.1,⟨hk.1.2,hk.2⟩⟩⟩)⟩,⟨by (with_reducible repeat (first | apply Kd.R_alloc | apply Kd.R_drewN | apply Kd.R_drew));exact Kd.R_mono HO316.out (fun _ hk=>⟨hk.1.2,hk.2⟩)⟩,⟨by (with_reducible repeat (first | apply Kd.S_alloc | apply Kd.S_drewN | apply Kd.S_drew));exact Kd.S_mono HO319.out (fun _ hk=>⟨hk.1.1.2,⟨hk.1.2,⟨hk.2,hk.1.1.1⟩⟩⟩)⟩,⟨by (with_reducible repeat (first | apply Kd.R_alloc | apply Kd.R_drewN | apply Kd.R_drew));exact Kd.R_mono HO322.out (fun _ hk=>⟨hk.1.2,hk.2⟩)⟩,⟨by (with_reducible repeat (first | apply Kd.R_alloc | apply Kd.R_drewN | apply Kd.R_drew));exact HO303.out⟩,⟨by (with_reducible repeat (first | refine blk_drewN ?_ _ | refine blk_drew ?_ | refine blk_alloc ?_ _));exact BK310.out⟩,⟨hb_⟩⟩
     ·rw [if_neg c20] at H
      have c20b0 : ((t311.length : Int) == (t307.length : Int)) = false:=beq_eq_false_iff_ne.mpr c20
      have c20b1 : ((t311.length : Int) != (t307.length : Int)) = true:=bne_iff_ne.mpr c20
      have c20b2 : (t311.length == t307.length) = false:=by first | simpa using c20 | (simp at c20 ⊢;omega)
      (first | rw [c20b0] | (simp only [i64_w,i32_w];rw [c20b0]) | skip)
      have H':=a0_ H
      clear H
      obtain ⟨Ao28,co28,eo28⟩:=Kd.S_slice HO313.out
      subst eo28
      obtain ⟨Ao29,co29,eo29⟩:=Kd.S_slice HO319.out
      subst eo29
      go_wp2_with (first | ((with_reducible refine gate_callee (f:=31) rfl ?_);refine goesL_ (some 38) rfl rfl Try.func31 (by kernel_rfl) rfl #[.slice Ao28 t311.length co28,.slice Ao29 t317.length co29] rfl lm_ ?_;(with_reducible refine (laws_equalGroups.calls k _ _ t311 _ _ t317 true _ ?side1 ?side2 ?side3 ?side4 A16.out).mono ?_);(case side1=>repeat (first | exact (Kd.S_reads' HO313.out).2.2 | (with_reducible refine Kd.C_alloc ?_ _) | (with_reducible refine Kd.C_drewN ?_ _) | (with_reducible refine Kd.C_drew ?_)));(case side2=>exact (Kd.S_reads' HO313.out).2.1);(case side3=>repeat (first | exact (Kd.S_reads' HO319.out).2.2 | (with_reducible refine Kd.C_alloc ?_ _) | (with_reducible refine Kd.C_drewN ?_ _) | (with_reducible refine Kd.C_drew ?_)));(case side4=>exact (Kd.S_reads' HO319.out).2.1);rintro e w' ⟨rfl,⟨nd,rfl⟩⟩;refine ⟨_,rfl,?_⟩;obtain ⟨Ao30,co30,eo30⟩:=Kd.R_slice HO316.out;subst eo30;obtain ⟨Ao31,co31,eo31⟩:=Kd.R_slice HO322.out;subst eo31) | (go_at_call 13;(with_reducible refine (laws_equalGroup.calls k _ _ t314 _ _ t320 true _ ?side1 ?side2 ?side3 ?side4 A18.out).mono ?_);(case side1=>exact cc_ (Kd.R_reads' HO316.out).2.2);(case side2=>exact (Kd.R_reads' HO316.out).2.1);(case side3=>exact cc_ (Kd.R_reads' HO322.out).2.2);(case side4=>exact (Kd.R_reads' HO322.out).2.1);rintro e w' ⟨rfl,⟨nd,rfl⟩⟩))
      go_meet
      case rel=>exact ⟨_,(true),(by first | rfl | (simp;done) | (simp [*];done)),H',⟨by first | omega | exact Nat.le_refl _⟩,⟨by (with_reducible repeat (first | apply Kd.R_alloc | apply Kd.R_drewN | apply Kd.R_drew));exact Kd.R_mono HO306.out (fun _ hk=>⟨hk.1.2,hk.2⟩)⟩,⟨by (with_reducible repeat (first | apply Kd.R_alloc | apply Kd.R_drewN | apply Kd.R_drew));exact HO309.out⟩,⟨by (with_reducible repeat (first | apply Kd.S_alloc | apply Kd.S_drewN | apply Kd.S_drew));exact Kd.S_mono HO313.out (fun _ hk=>⟨hk.1.1.2,⟨hk.1.1.1,⟨hk.1.2,hk.2⟩⟩⟩)⟩,⟨by (with_reducible repeat (first | apply Kd.R_alloc | apply Kd.R_drewN | apply Kd.R_drew));exact Kd.R_mono HO316.out (fun _ hk=>⟨hk.1.2,hk.2⟩)⟩,⟨by (with_reducible repeat (first | apply Kd.S_alloc | apply Kd.S_drewN | apply Kd.S_drew));exact Kd.S_mono HO319.out (fun _ hk=>⟨hk.1.1.2,⟨hk.1.2,⟨hk.2,hk.1.1.1⟩⟩⟩)⟩,⟨by (with_reducible repeat (first | apply Kd.R_alloc | apply Kd.R_drewN | apply Kd.R_drew));exact Kd.R_mono HO322.out (fun _ hk=>⟨hk.1.2,hk.2⟩)⟩,⟨by (with_reducible repeat (first | apply Kd.R_alloc | apply Kd.R_drewN | apply Kd.R_drew));exact HO303.out⟩,⟨by (with_reducible repeat (first | refine blk_drewN ?_ _ | refine blk_drew ?_ | refine blk_alloc ?_ _));exact BK310.out⟩,⟨hb_⟩⟩
    ·replace c19:=Bool.eq_false_iff.mpr c19
     subst c19
     have H1 : (laws_FnHandleGroup.j0 k t304 t307 t311 t314 t317 t320 true t301) = some r:=by rw [if_neg (show ¬ (false = true) by decide)] at H;exact H
     clear H
     have H:=H1
     clear H1
     have H':=a0_ H
     clear H
     obtain ⟨Ao32,co32,eo32⟩:=Kd.S_slice HO313.out
     subst eo32
     obtain ⟨Ao33,co33,eo33⟩:=Kd.S_slice HO319.out
     subst eo33
     go_wp2_with (first | ((with_reducible refine gate_callee (f:=31) rfl ?_);refine goesL_ (some 38) rfl rfl Try.func31 (by kernel_rfl) rfl #[.slice Ao32 t311.length co32,.slice Ao33 t317.length co33] rfl lm_ ?_;(with_reducible refine (laws_equalGroups.calls k _ _ t311 _ _ t317 true _ ?side1 ?side2 ?side3 ?side4 A16.out).mono ?_);(case side1=>repeat (first | exact (Kd.S_reads' HO313.out).2.2 | (with_reducible refine Kd.C_alloc ?_ _) | (with_reducible refine Kd.C_drewN ?_ _) | (with_reducible refine Kd.C_drew ?_)));(case side2=>exact (Kd.S_reads' HO313.out).2.1);(case side3=>repeat (first | exact (Kd.S_reads' HO319.out).2.2 | (with_reducible refine Kd.C_alloc ?_ _) | (with_reducible refine Kd.C_drewN ?_ _) | (with_reducible refine Kd.C_drew ?_)));(case side4=>exact (Kd.S_reads' HO319.out).2.1);rintro e w' ⟨rfl,⟨nd,rfl⟩⟩;refine ⟨_,rfl,?_⟩;obtain ⟨Ao34,co34,eo34⟩:=Kd.R_slice HO316.out;subst eo34;obtain ⟨Ao35,co35,eo35⟩:=Kd.R_slice HO322.out;subst eo35) | (go_at_call 13;(with_reducible refine (laws_equalGroup.calls k _ _ t314 _ _ t320 false _ ?side1 ?side2 ?side3 ?side4 A18.out).mono ?_);(case side1=>exact cc_ (Kd.R_reads' HO316.out).2.2);(case side2=>exact (Kd.R_reads' HO316.out).2.1);(case side3=>exact cc_ (Kd.R_reads' HO322.out).2.2);(case side4=>exact (Kd.R_reads' HO322.out).2.1);rintro e w' ⟨rfl,⟨nd,rfl⟩⟩))
     go_meet
     case rel=>exact ⟨_,(true),(by first | rfl | (simp;done) | (simp [*];done)),H',⟨by first | omega | exact Nat.le_refl _⟩,⟨by (with_reducible repeat (first | apply Kd.R_alloc | apply Kd.R_drewN | apply Kd.R_drew));exact Kd.R_mono HO306.out (fun _ hk=>⟨hk.1.2,hk.2⟩)⟩,⟨by (with_reducible repeat (first | apply Kd.R_alloc | apply Kd.R_drewN | apply Kd.R_drew));exact HO309.out⟩,⟨by (with_reducible repeat (first | apply Kd.S_alloc | apply Kd.S_drewN | apply Kd.S_drew));exact Kd.S_mono HO313.out (fun _ hk=>⟨hk.1.1.2,⟨hk.1.1.1,⟨hk.1.2,hk.2⟩⟩⟩)⟩,⟨by (with_reducible repeat (first | apply Kd.R_alloc | apply Kd.R_drewN | apply Kd.R_drew));exact Kd.R_mono HO316.out (fun _ hk=>⟨hk.1.2,hk.2⟩)⟩,⟨by (with_reducible repeat (first | apply Kd.S_alloc | apply Kd.S_drewN | apply Kd.S_drew));exact Kd.S_mono HO319.out (fun _ hk=>⟨hk.1.1.2,⟨hk.1.2,⟨hk.2,hk.1.1.1⟩⟩⟩)⟩,⟨by (with_reducible repeat (first | apply Kd.R_alloc | apply Kd.R_drewN | apply Kd.R_drew));exact Kd.R_mono HO322.out (fun _ hk=>⟨hk.1.2,hk.2⟩)⟩,⟨by (with_reducible repeat (first | apply Kd.R_alloc | apply Kd.R_drewN | apply Kd.R_drew));exact HO303.out⟩,⟨by (with_reducible repeat (first | refine blk_drewN ?_ _ | refine blk_drew ?_ | refine blk_alloc ?_ _));exact BK310.out⟩,⟨hb_⟩⟩
   ·replace c17:=Bool.eq_false_iff.mpr c17
    subst c17
    have H1 : (laws_FnHandleGroup.j0 k t304 t307 t311 t314 t317 t320 true t301) = some r:=by rw [if_neg (show ¬ (false = true) by decide)] at H;exact H
    clear H
    have H:=H1
    clear H1
    have H':=a0_ H
    clear H
    obtain ⟨Ao36,co36,eo36⟩:=Kd.S_slice HO313.out
    subst eo36
    obtain ⟨Ao37,co37,eo37⟩:=Kd.S_slice HO319.out
    subst eo37
    go_wp2_with (first | ((with_reducible refine gate_callee (f:=31) rfl ?_);refine goesL_ (some 38) rfl rfl Try.func31 (by kernel_rfl) rfl #[.slice Ao36 t311.length co36,.slice Ao37 t317.length co37] rfl lm_ ?_;(with_reducible refine (laws_equalGroups.calls k _ _ t311 _ _ t317 false _ ?side1 ?side2 ?side3 ?side4 A16.out).mono ?_);(case side1=>repeat (first | exact (Kd.S_reads' HO313.out).2.2 | (with_reducible refine Kd.C_alloc ?_ _) | (with_reducible refine Kd.C_drewN ?_ _) | (with_reducible refine Kd.C_drew ?_)));(case side2=>exact (Kd.S_reads' HO313.out).2.1);(case side3=>repeat (first | exact (Kd.S_reads' HO319.out).2.2 | (with_reducible refine Kd.C_alloc ?_ _) | (with_reducible refine Kd.C_drewN ?_ _) | (with_reducible refine Kd.C_drew ?_)));(case side4=>exact (Kd.S_reads' HO319.out).2.1);rintro e w' ⟨rfl,⟨nd,rfl⟩⟩;refine ⟨_,rfl,?_⟩))
    go_meet
    case rel=>exact ⟨_,(true),(by first | rfl | (simp;done) | (simp [*];done)),H',⟨by first | omega | exact Nat.le_refl _⟩,⟨by (with_reducible repeat (first | apply Kd.R_alloc | apply Kd.R_drewN | apply Kd.R_drew));exact Kd.R_mono HO306.out (fun _ hk=>⟨hk.1.2,hk.2⟩)⟩,⟨by (with_reducible repeat (first | apply Kd.R_alloc | apply Kd.R_drewN | apply Kd.R_drew));exact HO309.out⟩,⟨by (with_reducible repeat (first | apply Kd.S_alloc | apply Kd.S_drewN | apply Kd.S_drew));exact Kd.S_mono HO313.out (fun _ hk=>⟨hk.1.1.2,⟨hk.1.1.1,⟨hk.1.2,hk.2⟩⟩⟩)⟩,⟨by (with_reducible repeat (first | apply Kd.R_alloc | apply Kd.R_drewN | apply Kd.R_drew));exact Kd.R_mono HO316.out (fun _ hk=>⟨hk.1.2,hk.2⟩)⟩,⟨by (with_reducible repeat (first | apply Kd.S_alloc | apply Kd.S_drewN | apply Kd.S_drew));exact Kd.S_mono HO319.out (fun _ hk=>⟨hk.1.1.2,⟨hk.1.2,⟨hk.2,hk.1.1.1⟩⟩⟩)⟩,⟨by (with_reducible repeat (first | apply Kd.R_alloc | apply Kd.R_drewN | apply Kd.R_drew));exact Kd.R_mono HO322.out (fun _ hk=>⟨hk.1.2,hk.2⟩)⟩,⟨by (with_reducible repeat (first | apply Kd.R_alloc | apply Kd.R_drewN | apply Kd.R_drew));exact HO303.out⟩,⟨by (with_reducible repeat (first | refine blk_drewN ?_ _ | refine blk_drew ?_ | refine blk_alloc ?_ _));exact BK310.out⟩,⟨hb_⟩⟩
  case rest =>
   clear HC6
   try clear c1
   try clear c2
   try clear c2b0
   try clear c2b1
   try clear p2
   try clear c3
   try clear c9
   try clear c17
   try clear c19
   try clear c20
   try clear c20b0
   try clear c20b1
   try clear c20b2
   try clear c28
   try clear c29
   try clear c30
   try clear c31
   try clear hcz10_0
   try clear hcz14_0
   try clear hcz26_0
   try clear hfz10_0
   try clear hfz14_0
   try clear hfz26_0
   obtain ⟨kq,x58_5,rfl,HA,HJ5,HO_4,HO_5,HO_6,HO_7,HO_8,HO_9,Z311,BK310,HB⟩:=hcut
   cases kq with
   | zero=>exact absurd HA.out (by simp [laws_FnHandleGroup.j0])
   | succ kj5 =>
    have H:=HA.out
    clear HA
    simp only [laws_FnHandleGroup.j0] at H
    by_cases c38 : x58_5 = true
    ·subst c38
     have H1 : ((laws_equalGroups.f kj5 t311 t317).bind fun t326=>(if t326 = true then ((laws_equalGroup.f kj5 t314 t320).bind fun t327=>(some t327)) else (some false))) = some r:=by rw [if_pos rfl] at H;exact H
     clear H
     have H:=H1
     clear H1
     replace H:=Option.bind_eq_some_iff.mp H
     obtain ⟨t326,A390,H⟩:=H
     try dsimp only at H
     have A39:=a0_ A390
     clear A390
     by_cases c40 : t326 = true
     ·subst c40
      have H1 : ((laws_equalGroup.f kj5 t314 t320).bind fun t327=>(some t327)) = some r:=by rw [if_pos rfl] at H;exact H
      clear H
      have H:=H1
      clear H1
      replace H:=Option.bind_eq_some_iff.mp H
      obtain ⟨t327,A410,H⟩:=H
      replace H : (some t327) = some r:=H
      have A41:=a0_ A410
      clear A410
      obtain rfl:=Option.some.inj H
      obtain ⟨Ao42,co42,eo42⟩:=Kd.S_slice HO_6.out
      subst eo42
      obtain ⟨Ao43,co43,eo43⟩:=Kd.S_slice HO_8.out
      subst eo43
      go_wp2_with (first | ((with_reducible refine gate_callee (f:=31) rfl ?_);refine goesL_ (some 61) rfl rfl Try.func31 (by kernel_rfl) rfl #[.slice Ao42 t311.length co42,.slice Ao43 t317.length co43] rfl lm_ ?_;(with_reducible refine (laws_equalGroups.calls kj5 _ _ t311 _ _ t317 true _ ?side1 ?side2 ?side3 ?side4 A39.out).mono ?_);(case side1=>repeat (first | exact (Kd.S_reads' HO_6.out).2.2 | (with_reducible refine Kd.C_alloc ?_ _) | (with_reducible refine Kd.C_drewN ?_ _) | (with_reducible refine Kd.C_drew ?_)));(case side2=>exact (Kd.S_reads' HO_6.out).2.1);(case side3=>repeat (first | exact (Kd.S_reads' HO_8.out).2.2 | (with_reducible refine Kd.C_alloc ?_ _) | (with_reducible refine Kd.C_drewN ?_ _) | (with_reducible refine Kd.C_drew ?_)));(case side4=>exact (Kd.S_reads' HO_8.out).2.1);rintro e w' ⟨rfl,⟨nd,rfl⟩⟩;refine ⟨_,rfl,?_⟩;obtain ⟨Ao44,co44,eo44⟩:=Kd.R_slice HO_7.out;subst eo44;obtain ⟨Ao45,co45,eo45⟩:=Kd.R_slice HO_9.out;subst eo45) | (go_at_call 13;(with_reducible refine (laws_equalGroup.calls kj5 _ _ t314 _ _ t320 t327 _ ?side1 ?side2 ?side3 ?side4 A41.out).mono ?_);(case side1=>exact cc_ (Kd.R_reads' HO_7.out).2.2);(case side2=>exact (Kd.R_reads' HO_7.out).2.1);(case side3=>exact cc_ (Kd.R_reads' HO_9.out).2.2);(case side4=>exact (Kd.R_reads' HO_9.out).2.1);rintro e w' ⟨rfl,⟨nd,rfl⟩⟩))
      go_ret
      exact ⟨by first | rfl | (simp [errW_none,errW_some] <;> rfl) | (simp [*,errW_none,errW_some] <;> rfl),hb_⟩
     ·replace c40:=Bool.eq_false_iff.mpr c40
      subst c40
      have H1 : (some false) = some r:=by rw [if_neg (show ¬ (false = true) by decide)] at H;exact H
      clear H
      have H:=H1
      clear H1
      obtain rfl:=Option.some.inj H
      obtain ⟨Ao46,co46,eo46⟩:=Kd.S_slice HO_6.out
      subst eo46
      obtain ⟨Ao47,co47,eo47⟩:=Kd.S_slice HO_8.out
      subst eo47
      go_wp2_with (first | ((with_reducible refine gate_callee (f:=31) rfl ?_);refine goesL_ (some 61) rfl rfl Try.func31 (by kernel_rfl) rfl #[.slice Ao46 t311.length co46,.slice Ao47 t317.length co47] rfl lm_ ?_;(with_reducible refine (laws_equalGroups.calls kj5 _ _ t311 _ _ t317 false _ ?side1 ?side2 ?side3 ?side4 A39.out).mono ?_);(case side1=>repeat (first | exact (Kd.S_reads' HO_6.out).2.2 | (with_reducible refine Kd.C_alloc ?_ _) | (with_reducible refine Kd.C_drewN ?_ _) | (with_reducible refine Kd.C_drew ?_)));(case side2=>exact (Kd.S_reads' HO_6.out).2.1);(case side3=>repeat (first | exact (Kd.S_reads' HO_8.out).2.2 | (with_reducible refine Kd.C_alloc ?_ _) | (with_reducible refine Kd.C_drewN ?_ _) | (with_reducible refine Kd.C_drew ?_)));(case side4=>exact (Kd.S_reads' HO_8.out).2.1);rintro e w' ⟨rfl,⟨nd,rfl⟩⟩;refine ⟨_,rfl,?_⟩))
      go_ret
      exact ⟨by first | rfl | (simp [errW_none,errW_some] <;> rfl) | (simp [*,errW_none,errW_some] <;> rfl),hb_⟩
    ·replace c38:=Bool.eq_false_iff.mpr c38
     subst c38
     have H1 : ((impl_DeadCatches.f kj5 t301 t307).bind fun t328=>((impl_LeavesOf.f kj5 t301 t314).bind fun t331=>(laws_FnHandleGroup.l0 kj5 t304 t307 t311 t314 t328 (t331.length : Int) 0 t301))) = some r:=by rw [if_neg (show ¬ (false = true) by decide)] at H;exact H
     clear H
     have H:=H1
     clear H1
     replace H:=Option.bind_eq_some_iff.mp H
     obtain ⟨t328,A480,H⟩:=H
     try dsimp only at H
     have A48:=a0_ A480
     clear A480
     replace H:=Option.bind_eq_some_iff.mp H
     obtain ⟨t331,A490,H⟩:=H
     try dsimp only at H
     have A49:=a0_ A490
     clear A490
     have H':=a0_ H
     clear H
     have hcz50_0 : wc.cell? ⟨gb310,0,none⟩ = some (.slice Ao9 t301.length co9):=(blk_cell BK310.out 0).trans rfl
     have hfz50_0:=blk_frozen BK310.out 0
     go_wp2_with (first | ((with_reducible refine gate_callee (f:=32) rfl ?_);refine goesL_ (some 69) rfl rfl Try.func32 (by kernel_rfl) rfl #[.agg #[.slice Ao9 t301.length co9],.slice Ao12 t307.length co12] rfl lm_ ?_;(with_reducible refine (impl_DeadCatches.calls kj5 _ _ t301 _ _ t307 t328 _ ?side1 ?side2 ?side3 ?side4 A48.out).mono ?_);(case side1=>exact cc_ (Kd.R_reads' Z311.out).2.2);(case side2=>exact (Kd.R_reads' Z311.out).2.1);(case side3=>exact cc_ (Kd.R_reads' HO_5.out).2.2);(case side4=>exact (Kd.R_reads' HO_5.out).2.1);rintro e w51 ⟨v329,rfl,ho0,hb⟩;refine ⟨_,rfl,?_⟩;have n0_:=rb_ HO_4 hb;have n1_:=a0_ (Kd.R_elder' (rr_ HO_5.out) (Kd.R_base ho0) hb);have n2_:=a0_ (Kd.S_below (by (with_reducible repeat (first | apply Kd.S_alloc | apply Kd.S_drewN | apply Kd.S_drew));exact HO_6.out) hb);have n3_:=rb_ HO_7 hb;have n4_:=a0_ (Kd.S_below (by (with_reducible repeat (first | apply Kd.S_alloc | apply Kd.S_drewN | apply Kd.S_drew));exact HO_8.out) hb);have n5_:=rb_ HO_9 hb;have n6_:=rb_ Z311 hb;have n7_:=a0_ (Kd.R_lower (Kd.R_new' ho0 (Kd.R_lt (rr_ HO_5.out))) (below_size hb_));have n8_:=kb_ BK310 hb;have n9_:=a0_ (below_step hb_ hb);clear HO_4 HO_5;clear HO_6 HO_7;clear HO_8 HO_9;clear Z311 BK310 HB;have HO_4:=n0_;have HO_5:=n1_;have HO_6:=n2_;have HO_7:=n3_;have HO_8:=n4_;have HO_9:=n5_;have Z311:=n6_;have HO330:=n7_;have BK310:=n8_;have HB:=n9_;clear n0_ n1_ n2_ n3_ n4_ n5_ n6_ n7_ n8_ n9_;(try clear hb);(try clear ho0);have hcz52_0 : w51.cell? ⟨gb310,0,none⟩ = some (.slice Ao9 t301.length co9):=(blk_cell BK310.out 0).trans rfl;have hfz52_0:=blk_frozen BK310.out 0;obtain ⟨Ao53,co53,eo53⟩:=Kd.R_slice HO_7.out;subst eo53) | ((with_reducible refine gate_callee (f:=17) rfl ?_);refine goesL_ (some 72) rfl rfl Try.func17 (by kernel_rfl) rfl #[.agg #[.slice Ao9 t301.length co9],.slice Ao53 t314.length co53] rfl lm_ ?_;(with_reducible refine (impl_LeavesOf.calls kj5 _ _ t301 _ _ t314 t331 _ ?side1 ?side2 ?side3 ?side4 A49.out).mono ?_);(case side1=>exact cc_ (Kd.R_reads' Z311.out).2.2);(case side2=>exact (Kd.R_reads' Z311.out).2.1);(case side3=>exact cc_ (Kd.R_reads' HO_7.out).2.2);(case side4=>exact (Kd.R_reads' HO_7.out).2.1);rintro e w54 ⟨v332,rfl,ho0,hb⟩;refine ⟨_,rfl,?_⟩;replace HO_4:=rb_ HO_4 hb;replace HO_5:=rb_ HO_5 hb;replace HO_6:=a0_ (Kd.S_below (by (with_reducible repeat (first | apply Kd.S_alloc | apply Kd.S_drewN | apply Kd.S_drew));exact HO_6.out) hb);replace HO_7:=rb_ HO_7 hb;replace HO_8:=a0_ (Kd.S_below (by (with_reducible repeat (first | apply Kd.S_alloc | apply Kd.S_drewN | apply Kd.S_drew));exact HO_8.out) hb);replace HO_9:=rb_ HO_9 hb;replace Z311:=rb_ Z311 hb;replace HO330:=rb_ HO330 hb;have HO333:=a0_ (Kd.R_lower ho0 (below_size hb_));replace BK310:=kb_ BK310 hb;replace HB:=a0_ (below_step hb_ hb);(try clear hb);(try clear ho0);obtain ⟨Ao55,co55,eo55⟩:=Kd.R_slice HO333.out;subst eo55))
     go_loopg [11,12] kj5 (fun kq v11 v12 w'=>∃ (x11_2 : Int) (x12_2 : Int),v11 = .int .i64 x11_2 ∧ v12 = .int .i64 x12_2 ∧ Aside0 (laws_FnHandleGroup.l0 kq t304 t307 t311 t314 t328 x11_2 x12_2 t301 = some r) ∧ Aside0 (kq ≤ kj5) ∧ Aside0 (Kd.R k47 47 w' w.heap.size (fun k_=>some k_ ≠ ((.slice Ao53 t314.length co53) : Value).ownBlock) (.slice Ao11 t304.length co11) t304) ∧ Aside0 (Kd.R (Kd.int .i64) 3 w' w.heap.size (fun k_=>some k_ ≠ (v329 : Value).ownBlock) (.slice Ao12 t307.length co12) t307) ∧ Aside0 (Kd.S (Kd.slice 47 k47) 26 w' w.heap.size (fun k_=>some k_ ≠ ((.slice Ao11 t304.length co11) : Value).ownBlock ∧ some k_ ≠ ((.slice Ao53 t314.length co53) : Value).ownBlock) v312 t311) ∧ Aside0 (Kd.R k47 47 w' w.heap.size (fun k_=>some k_ ≠ ((.slice Ao11 t304.length co11) : Value).ownBlock) (.slice Ao53 t314.length co53) t314) ∧ Aside0 (Kd.R (Kd.int .i64) 3 w' w.heap.size (fun k_=>some k_ ≠ ((.slice Ao12 t307.length co12) : Value).ownBlock) v329 t328) ∧ Aside0 (Kd.R k85 85 w' w.heap.size (fun _=>True) (.slice Ao9 t301.length co9) t301) ∧ Aside0 (w'.heap[gb310]? = some (.cells #[(.slice Ao9 t301.length co9)] 25 (0,0))) ∧ Aside0 (Below w.heap.size w w'))
     case atStart=>exact ⟨((t331.length : Int)),(0),(by first | rfl | (simp;done) | (simp [*];done)),(by first | rfl | (simp;done) | (simp [*];done)),H',⟨Nat.le_refl _⟩,⟨by (with_reducible repeat (first | apply Kd.R_alloc | apply Kd.R_drewN | apply Kd.R_drew));exact Kd.R_mono HO_4.out (fun _ hk=>hk.1)⟩,⟨by (with_reducible repeat (first | apply Kd.R_alloc | apply Kd.R_drewN | apply Kd.R_drew));exact Kd.R_mono HO_5.out (fun _ hk=>hk.2)⟩,⟨by (with_reducible repeat (first | apply Kd.S_alloc | apply Kd.S_drewN | apply Kd.S_drew));exact Kd.S_mono HO_6.out (fun _ hk=>⟨hk.1,hk.2.1⟩)⟩,⟨by (with_reducible repeat (first | apply Kd.R_alloc | apply Kd.R_drewN | apply Kd.R_drew));exact Kd.R_mono HO_7.out (fun _ hk=>hk.1)⟩,⟨by (with_reducible repeat (first | apply Kd.R_alloc | apply Kd.R_drewN | apply Kd.R_drew));exact Kd.R_mono HO330.out (fun _ hk=>hk.2)⟩,⟨by (with_reducible repeat (first | apply Kd.R_alloc | apply Kd.R_drewN | apply Kd.R_drew));exact Z311.out⟩,⟨by (with_reducible repeat (first | refine blk_drewN ?_ _ | refine blk_drew ?_ | refine blk_alloc ?_ _));exact BK310.out⟩,⟨hb_⟩⟩
     case round =>
      clear H'
      try clear c1
      try clear c2
      try clear c2b0
      try clear c2b1
      try clear p2
      try clear c3
      try clear c4
      try clear c9
      try clear c17
      try clear c19
      try clear c20
      try clear c20b0
      try clear c20b1
      try clear c20b2
      try clear c28
      try clear c29
      try clear c30
      try clear c31
      try clear c32
      try clear c38
      try clear c40
      try clear hcz10_0
      try clear hcz14_0
      try clear hcz26_0
      try clear hcz50_0
      try clear hcz52_0
      try clear hfz10_0
      try clear hfz14_0
      try clear hfz26_0
      try clear hfz50_0
      try clear hfz52_0
      try clear p2
      obtain ⟨x11_2,x12_2,rfl,rfl,HA,HK2,HO_4,HO_5,HO_6,HO_7,HO_10,Z311,BK310,HB⟩:=hrel
      cases gk with
      | zero=>exact absurd HA.out (by simp [laws_FnHandleGroup.l0])
      | succ k2 =>
       have H:=HA.out
       clear HA
       simp only [laws_FnHandleGroup.l0] at H
       by_cases c56 : x12_2 < (t311.length : Int)
       ·rw [if_pos c56] at H
        have c56b0 : decide (x12_2 < (t311.length : Int)) = true:=decide_eq_true c56
        clear c56
        by_cases c57 : 0 ≤ x12_2
        ·rw [if_pos c57] at H
         have c57b0 : decide (0 ≤ x12_2) = true:=decide_eq_true c57
         clear c57
         replace H:=Option.bind_eq_some_iff.mp H
         obtain ⟨t338,A580,H⟩:=H
         try dsimp only at H
         have A58:=a0_ A580
         clear A580
         replace H:=Option.bind_eq_some_iff.mp H
         obtain ⟨t341,A590,H⟩:=H
         try dsimp only at H
         have A59:=a0_ A590
         clear A590
         by_cases c60 : t341 = true
         ·subst c60
          have H1 : (if ((rd_L8 t311 x12_2).length : Int) > 0 then (some false) else (if x12_2 < (t307.length : Int) then ((impl_HasClass.f t301 t314 (rd t307 x12_2)).bind fun t344=>(if t344 = true then (some false) else (laws_FnHandleGroup.l0 k2 t304 t307 t311 t314 t328 (wrap64 (x11_2 + (t338.length : Int))) (wrap64 (x12_2 + 1)) t301))) else (none))) = some r:=by rw [if_pos rfl] at H;exact H
          clear H
          have H:=H1
          clear H1
          by_cases c61 : ((rd_L8 t311 x12_2).length : Int) > 0
          ·rw [if_pos c61] at H
           have c61b0 : decide (0 < ((rd_L8 t311 x12_2).length : Int)) = true:=decide_eq_true c61
           have c61b1 : decide (0 < (rd_L8 t311 x12_2).length) = true:=decide_eq_true (by omega)
           clear c61
           obtain rfl:=Option.some.inj H
           obtain ⟨Ao62,co62,eo62⟩:=Kd.S_slice HO_6.out
           subst eo62
           try go_wp2
           have n0_:=a0_ (Kd.R_drew HO_4.out)
           have n1_:=a0_ (Kd.R_drew HO_5.out)
           have n2_:=a0_ (Kd.S_drew HO_6.out)
           have n3_:=a0_ (Kd.R_drew HO_7.out)
           have n4_:=a0_ (Kd.R_drew HO_10.out)
           have n5_:=a0_ (Kd.R_drew Z311.out)
           have n6_:=a0_ (blk_drew BK310.out)
           have n7_:=a0_ (below_drew1 HB.out)
           clear HO_4
           clear HO_5
           clear HO_6
           clear HO_7
           clear HO_10
           clear Z311
           clear BK310
           clear HB
           have HO_4:=n0_
           have HO_5:=n1_
           have HO_6:=n2_
           have HO_7:=n3_
           have HO_10:=n4_
           have Z311:=n5_
           have BK310:=n6_
           have HB:=n7_
           clear n0_ n1_ n2_ n3_ n4_ n5_ n6_ n7_
           have p337 : 0 ≤ (x12_2 : Int):=of_decide_eq_true (by first | (with_reducible assumption) | assumption)
           have q337 : x12_2 < (t311.length : Int):=of_decide_eq_true (by first | (with_reducible assumption) | assumption)
           obtain ⟨ad337,A337_0,c337_0,e337,hx337_0,hl337_0,hi337_0⟩:=at_L8 (Kd.S_reads' HO_6.out).2.2 x12_2 p337 q337
           cases e337
           obtain ⟨ce337,hce337,hMe337,hcc337⟩:=Kd.S_get HO_6.out [] x12_2 p337 (by first | exact q337 | exact of_decide_eq_true (by first | (with_reducible assumption) | assumption) | (have e_:=(Kd.S_reads' HO_6.out).1;omega))
           obtain ⟨ve337_0,rfl,ge337_0⟩:=hMe337
           have hv337_0:=hcc337 0 _ rfl
           rw [Nat.add_zero,show ((Kd.slice 47 k47)).sz = 1 from rfl,Nat.mul_one] at hv337_0
           replace hv337_0:=Option.some.inj (hv337_0.symm.trans hx337_0)
           rw [hv337_0] at ge337_0
           have HL337_0:=a0_ (show Kd.R k47 47 _ _ _ _ (rd_L8 t311 x12_2) from ge337_0)
           clear hv337_0 ge337_0
           clear hcc337 hce337
           have HR337_0:=a0_ hi337_0
           have HC337_0:=a0_ hl337_0
           clear hi337_0 hl337_0
           replace p337:=eq_true p337
           replace q337:=eq_true q337
           refine start_ (n:=10) (S:=fun w'=>w'.cell? ⟨gb310,0,none⟩ = some (.slice Ao9 t301.length co9) ∧ w'.cell? (ad337.add (x12_2).toNat) = some (.slice A337_0 (rd_L8 t311 x12_2).length c337_0)) (ds:=[]) #[false,false,false,false,false,false,false,false,false,false] (by kernel_rfl) rfl rfl ⟨(blk_cell BK310.out 0).trans rfl,hx337_0⟩ (fun hHeld=>?_);refine with_tabW laws_FnHandleGroup.tab13 laws_FnHandleGroup.bits13 (fun HT_ HW_=>?_)
           generalize wr.drew = w63 at HO_4 HO_5 HO_6 HO_7 HO_10 Z311 BK310 HB HL337_0 HR337_0 hx337_0 hHeld ⊢
           refine pure_ (i:=0) (N:=some 80) (v:=?_) (a':=?_) #[true,false,false,false,false,false,false,false,false,false] rfl rfl (any_of HT_.out (by kernel_rfl)) (fun _ _ _ h=>h) (Or.inl ⟨by rfl,?_⟩) ?_ ?_
           rotate_left
           ·intro w'
            go_simp
            with_reducible rfl
           rotate_left
           ·simp only [Act.put,s1_,s2_,s3_,i64_w,i32_w]
            rfl
           refine pure_ (i:=2) (N:=some 82) (v:=?_) (a':=?_) #[true,false,true,false,false,false,false,false,false,false] rfl rfl (any_of HT_.out (by kernel_rfl)) (fun _ _ _ h=>h) (Or.inl ⟨by rfl,?_⟩) ?_ ?_
           rotate_left
           ·intro w'
            go_simp
            with_reducible rfl
           rotate_left
           ·simp only [Act.put,s1_,s2_,s3_,i64_w,i32_w]
            rfl
           refine pure_ (i:=3) (N:=some 83) (v:=?_) (a':=?_) #[true,false,true,true,false,false,false,false,false,false] rfl rfl (any_of HT_.out (by kernel_rfl)) (fun _ _ _ h=>h) (Or.inl ⟨by rfl,?_⟩) ?_ ?_
           rotate_left
           ·intro w'
            go_simp
            with_reducible rfl
           rotate_left
           ·simp only [Act.put,s1_,s2_,s3_,i64_w,i32_w]
            rfl
           refine pure_ (i:=4) (N:=some 84) (v:=?_) (a':=?_) #[true,false,true,true,true,false,false,false,false,false] rfl rfl (any_of HT_.out (by kernel_rfl)) (fun _ _ _ h=>h) (Or.inl ⟨by rfl,?_⟩) ?_ ?_
           rotate_left
           ·intro w'
            go_simp
            with_reducible rfl
           rotate_left
           ·simp only [Act.put,s1_,s2_,s3_,i64_w,i32_w]
            rfl
           refine take_ (i:=1) (N:=some 81) (v:=?_) (a':=?_) #[true,true,true,true,true,false,false,false,false,false] rfl rfl (take_ofW HT_.out HW_.out (by kernel_rfl)) (fun _ _ _ h=>h) (Or.inl ⟨by rfl,?_⟩) hHeld ?_ ?_
           rotate_left
           ·rintro w' ⟨s0,s1⟩
            go_simp
            with_reducible rfl
           rotate_left
           ·simp only [Act.put,s1_,s2_,s3_,i64_w,i32_w]
            rfl
           refine take_ (i:=5) (N:=some 85) (v:=?_) (a':=?_) #[true,true,true,true,true,true,false,false,false,false] rfl rfl (take_ofW HT_.out HW_.out (by kernel_rfl)) (fun _ _ _ h=>h) (Or.inl ⟨by rfl,?_⟩) hHeld ?_ ?_
           rotate_left
           ·rintro w' ⟨s0,s1⟩
            go_simp
            with_reducible rfl
           rotate_left
           ·simp only [Act.put,s1_,s2_,s3_,i64_w,i32_w]
            rfl
           refine one_ (i:=6) (N:=some 86) #[true,true,true,true,true,true,true,false,false,false] rfl rfl (one_of HT_.out (by kernel_rfl)) (by decide) (fun K hK=>?_)
           refine goes_ Try.func17 (by kernel_rfl) rfl #[.agg #[.slice Ao9 t301.length co9],.slice A337_0 (rd_L8 t311 x12_2).length c337_0] (by rfl) rfl rfl lm_ ?_
           with_reducible refine (impl_LeavesOf.calls k2 _ _ t301 _ _ (rd_L8 t311 x12_2) t338 _ ?side1 ?side2 ?side3 ?side4 A58.out).mono ?_
           (case side1=>exact cc_ (Kd.R_reads' Z311.out).2.2)
           (case side2=>exact (Kd.R_reads' Z311.out).2.1)
           (case side3=>repeat (first | exact (by repeat (first | (with_reducible exact HR337_0.out) | (with_reducible refine Kd.C_alloc ?_ _) | (with_reducible refine Kd.C_drewN ?_ _) | (with_reducible refine Kd.C_drew ?_) | exact HR337_0.out)) | (with_reducible refine Kd.C_alloc ?_ _) | (with_reducible refine Kd.C_drewN ?_ _) | (with_reducible refine Kd.C_drew ?_)))
           (case side4=>exact HC337_0.out)
           rintro e w64 ⟨v339,rfl,ho0,hb⟩
           have HS1_:=(hb.cell (World.block_lt_of_cell? _ _ (hHeld.2))).trans (hHeld.2)
           refine ⟨_,rfl,?_⟩
           have n0_:=rb_ HO_4 hb
           have n1_:=rb_ HO_5 hb
           have n2_:=a0_ (Kd.S_below (by (with_reducible repeat (first | apply Kd.S_alloc | apply Kd.S_drewN | apply Kd.S_drew));exact HO_6.out) hb)
           have n3_:=rb_ HO_7 hb
           have n4_:=rb_ HO_10 hb
           have n5_:=rb_ Z311 hb
           have n6_:=rb_ HL337_0 hb
           have n7_:=a0_ (Kd.R_lower ho0 (below_size hb_))
           have n8_:=kb_ BK310 hb
           have n9_:=a0_ (Kd.C_below (c_keep_ HR337_0.out) hb)
           have n10_:=a0_ (below_step hb_ hb)
           clear HO_4
           clear HO_5
           clear HO_6
           clear HO_7
           clear HO_10
           clear Z311
           clear HL337_0
           clear BK310
           clear HR337_0
           clear HB
           have HO_4:=n0_
           have HO_5:=n1_
           have HO_6:=n2_
           have HO_7:=n3_
           have HO_10:=n4_
           have Z311:=n5_
           have HL337_0:=n6_
           have HO340:=n7_
           have BK310:=n8_
           have HR337_0:=n9_
           have HB:=n10_
           clear n0_ n1_ n2_ n3_ n4_ n5_ n6_ n7_ n8_ n9_ n10_
           (try clear hb)
           (try clear hb2)
           (try clear hk)
           (try clear hi)
           (try clear ho0)
           obtain ⟨Ao65,co65,eo65⟩:=Kd.R_slice HO340.out
           (first | subst eo65 | (injection eo65 with f1_ f2_ f3_;have f4_:=f1_.symm;have f5_:=f3_.symm;clear f1_ f2_ f3_;subst f4_;subst f5_))
           refine hK.out _ _ ⟨(blk_cell BK310.out 0).trans rfl,HS1_⟩ (fun hHeld=>?_)
           clear hK K
           refine norm_ (a':=?_) ?_ ?_
           rotate_left
           ·show Act.put _ (some 86) _ = _
            simp only [Act.put,s1_,s2_,s3_,i64_w,i32_w]
            rfl
           refine pure_ (i:=7) (N:=some 87) (v:=?_) (a':=?_) #[true,true,true,true,true,true,true,true,false,false] rfl rfl (any_of HT_.out (by kernel_rfl)) (fun _ _ _ h=>h) (Or.inl ⟨by rfl,?_⟩) ?_ ?_
           rotate_left
           ·intro w'
            go_simp
            with_reducible rfl
           rotate_left
           ·simp only [Act.put,s1_,s2_,s3_,i64_w,i32_w]
            rfl
           refine pure_ (i:=8) (N:=some 88) (v:=?_) (a':=?_) #[true,true,true,true,true,true,true,true,true,false] rfl rfl (any_of HT_.out (by kernel_rfl)) (fun _ _ _ h=>h) (Or.inl ⟨by rfl,?_⟩) ?_ ?_
           rotate_left
           ·intro w'
            go_simp
            with_reducible rfl
           rotate_left
           ·simp only [Act.put,s1_,s2_,s3_,i64_w,i32_w]
            rfl
           refine pure_ (i:=9) (N:=some 11) (v:=?_) (a':=?_) #[true,true,true,true,true,true,true,true,true,true] rfl rfl (any_of HT_.out (by kernel_rfl)) (fun _ _ _ h=>h) (Or.inl ⟨by rfl,?_⟩) ?_ ?_
           rotate_left
           ·intro w'
            go_simp
            with_reducible rfl
           rotate_left
           ·simp only [Act.put,s1_,s2_,s3_,i64_w,i32_w]
            rfl
           refine done_ (done_of HT_.out (by kernel_rfl)) ?_
           try go_wp2
           have n0_:=a0_ (Kd.R_drew HO_4.out)
           have n1_:=a0_ (Kd.R_drew HO_5.out)
           have n2_:=a0_ (Kd.S_drew HO_6.out)
           have n3_:=a0_ (Kd.R_drew HO_7.out)
           have n4_:=a0_ (Kd.R_drew HO_10.out)
           have n5_:=a0_ (Kd.R_drew Z311.out)
           have n6_:=a0_ (Kd.R_drew HL337_0.out)
           have n7_:=a0_ (Kd.R_drew HO340.out)
           have n8_:=a0_ (blk_drew BK310.out)
           have n9_:=a0_ (Kd.C_drew HR337_0.out)
           have n10_:=a0_ (below_drew1 HB.out)
           clear HO_4
           clear HO_5
           clear HO_6
           clear HO_7
           clear HO_10
           clear Z311
           clear HL337_0
           clear HO340
           clear BK310
           clear HR337_0
           clear HB
           have HO_4:=n0_
           have HO_5:=n1_
           have HO_6:=n2_
           have HO_7:=n3_
           have HO_10:=n4_
           have Z311:=n5_
           have HL337_0:=n6_
           have HO340:=n7_
           have BK310:=n8_
           have HR337_0:=n9_
           have HB:=n10_
           clear n0_ n1_ n2_ n3_ n4_ n5_ n6_ n7_ n8_ n9_ n10_
           obtain ⟨Ao67,co67,eo67⟩:=Kd.R_slice HO_10.out
           (first | subst eo67 | (injection eo67 with f1_ f2_ f3_;have f4_:=f1_.symm;have f5_:=f3_.symm;clear f1_ f2_ f3_;subst f4_;subst f5_))
           have p342 : 0 ≤ (x12_2 : Int):=of_decide_eq_true (by first | (with_reducible assumption) | assumption)
           have q342 : x12_2 < (t311.length : Int):=of_decide_eq_true (by first | (with_reducible assumption) | assumption)
           obtain ⟨ad342,A342_0,c342_0,e342,hx342_0,hl342_0,hi342_0⟩:=at_L8 (Kd.S_reads' HO_6.out).2.2 x12_2 p342 q342
           obtain rfl : ad337 = ad342:=(by injection e342)
           obtain ⟨ce342,hce342,hMe342,hcc342⟩:=Kd.S_get HO_6.out [] x12_2 p342 (by first | exact q342 | exact of_decide_eq_true (by first | (with_reducible assumption) | assumption) | (have e_:=(Kd.S_reads' HO_6.out).1;omega))
           obtain ⟨ve342_0,rfl,ge342_0⟩:=hMe342
           have hv342_0:=hcc342 0 _ rfl
           rw [Nat.add_zero,show ((Kd.slice 47 k47)).sz = 1 from rfl,Nat.mul_one] at hv342_0
           replace hv342_0:=Option.some.inj (hv342_0.symm.trans hx342_0)
           rw [hv342_0] at ge342_0
           have HL342_0:=a0_ (show Kd.R k47 47 _ _ _ _ (rd_L8 t311 x12_2) from ge342_0)
           clear hv342_0 ge342_0
           clear hcc342 hce342
           have HR342_0:=a0_ hi342_0
           have HC342_0:=a0_ hl342_0
           clear hi342_0 hl342_0
           replace p342:=eq_true p342
           replace q342:=eq_true q342
           refine start_ (n:=20) (S:=fun w'=>w'.cell? (ad337.add (x12_2).toNat) = some (.slice A342_0 (rd_L8 t311 x12_2).length c342_0)) (ds:=[]) #[false,false,false,false,false,false,false,false,false,false,false,false,false,false,false,false,false,false,false,false] (by kernel_rfl) rfl rfl (hx342_0) (fun hHeld=>?_);refine with_tabW laws_FnHandleGroup.tab14 laws_FnHandleGroup.bits14 (fun HT_ HW_=>?_)
           generalize w64.drew = w66 at HO_4 HO_5 HO_6 HO_7 HO_10 Z311 HL337_0 HO340 BK310 HR337_0 HB HL342_0 HR342_0 hx342_0 hHeld ⊢
           refine pure_ (i:=0) (N:=some 89) (v:=?_) (a':=?_) #[true,false,false,false,false,false,false,false,false,false,false,false,false,false,false,false,false,false,false,false] rfl rfl (any_of HT_.out (by kernel_rfl)) (fun _ _ _ h=>h) (Or.inl ⟨by rfl,?_⟩) ?_ ?_
           rotate_left
           ·intro w'
            go_simp
            with_reducible rfl
           rotate_left
           ·simp only [Act.put,s1_,s2_,s3_,i64_w,i32_w]
            rfl
           refine pure_ (i:=1) (N:=some 90) (v:=?_) (a':=?_) #[true,true,false,false,false,false,false,false,false,false,false,false,false,false,false,false,false,false,false,false] rfl rfl (any_of HT_.out (by kernel_rfl)) (fun _ _ _ h=>h) (Or.inl ⟨by rfl,?_⟩) ?_ ?_
           rotate_left
           ·intro w'
            go_simp
            with_reducible rfl
           rotate_left
           ·simp only [Act.put,s1_,s2_,s3_,i64_w,i32_w]
            rfl
           refine one_ (i:=2) (N:=some 91) #[true,true,true,false,false,false,false,false,false,false,false,false,false,false,false,false,false,false,false,false] rfl rfl (one_of HT_.out (by kernel_rfl)) (by decide) (fun K hK=>?_)
           refine goes_ Try.func33 (by kernel_rfl) rfl #[.slice Ao67 t328.length co67,.int .i64 x12_2] (by rfl) rfl rfl lm_ ?_
           with_reducible refine (laws_isIn.calls k2 _ _ t328 x12_2 true _ ?side1 ?side2 A59.out).mono ?_
           (case side1=>exact cc_ (Kd.R_reads' HO_10.out).2.2)
           (case side2=>exact (Kd.R_reads' HO_10.out).2.1)
           rintro e w' ⟨rfl,⟨nd,rfl⟩⟩
           refine ⟨_,rfl,?_⟩
           refine hK.out _ _ (hHeld) (fun hHeld=>?_)
           clear hK K
           refine norm_ (a':=?_) ?_ ?_
           rotate_left
           ·show Act.put _ (some 91) _ = _
            simp only [Act.put,s1_,s2_,s3_,i64_w,i32_w]
            rfl
           refine pure_ (i:=3) (N:=some 92) (v:=?_) (a':=?_) #[true,true,true,true,false,false,false,false,false,false,false,false,false,false,false,false,false,false,false,false] rfl rfl (any_of HT_.out (by kernel_rfl)) (fun _ _ _ h=>h) (Or.inl ⟨by rfl,?_⟩) ?_ ?_
           rotate_left
           ·intro w'
            go_simp
            with_reducible rfl
           rotate_left
           ·simp only [Act.put,s1_,s2_,s3_,i64_w,i32_w]
            rfl
           refine pure_ (i:=4) (N:=some 93) (v:=?_) (a':=?_) #[true,true,true,true,true,false,false,false,false,false,false,false,false,false,false,false,false,false,false,false] rfl rfl (any_of HT_.out (by kernel_rfl)) (fun _ _ _ h=>h) (Or.inl ⟨by rfl,?_⟩) ?_ ?_
           rotate_left
           ·intro w'
            go_simp
            with_reducible rfl
           rotate_left
           ·simp only [Act.put,s1_,s2_,s3_,i64_w,i32_w]
            rfl
           refine pure_ (i:=5) (N:=some 94) (v:=?_) (a':=?_) #[true,true,true,true,true,true,false,false,false,false,false,false,false,false,false,false,false,false,false,false] rfl rfl (any_of HT_.out (by kernel_rfl)) (fun _ _ _ h=>h) (Or.inl ⟨by rfl,?_⟩) ?_ ?_
           rotate_left
           ·intro w'
            go_simp
            with_reducible rfl
           rotate_left
           ·simp only [Act.put,s1_,s2_,s3_,i64_w,i32_w]
            rfl
           refine pure_ (i:=6) (N:=some 95) (v:=?_) (a':=?_) #[true,true,true,true,true,true,true,false,false,false,false,false,false,false,false,false,false,false,false,false] rfl rfl (any_of HT_.out (by kernel_rfl)) (fun _ _ _ h=>h) (Or.inl ⟨by rfl,?_⟩) ?_ ?_
           rotate_left
           ·intro w'
            go_simp
            with_reducible rfl
           rotate_left
           ·simp only [Act.put,s1_,s2_,s3_,i64_w,i32_w]
            rfl
           refine take_ (i:=7) (N:=some 96) (v:=?_) (a':=?_) #[true,true,true,true,true,true,true,true,false,false,false,false,false,false,false,false,false,false,false,false] rfl rfl (take_ofW HT_.out HW_.out (by kernel_rfl)) (fun _ _ _ h=>h) (Or.inl ⟨by rfl,?_⟩) hHeld ?_ ?_
           rotate_left
           ·intro w' s0
            go_simp
            with_reducible rfl
           rotate_left
           ·simp only [Act.put,s1_,s2_,s3_,i64_w,i32_w]
            rfl
           refine pure_ (i:=8) (N:=some 97) (v:=?_) (a':=?_) #[true,true,true,true,true,true,true,true,true,false,false,false,false,false,false,false,false,false,false,false] rfl rfl (any_of HT_.out (by kernel_rfl)) (fun _ _ _ h=>h) (Or.inl ⟨by rfl,?_⟩) ?_ ?_
           rotate_left
           ·intro w'
            go_simp
            with_reducible rfl
           rotate_left
           ·simp only [Act.put,s1_,s2_,s3_,i64_w,i32_w]
            rfl
           refine pure_ (i:=9) (N:=some 98) (v:=?_) (a':=?_) #[true,true,true,true,true,true,true,true,true,true,false,false,false,false,false,false,false,false,false,false] rfl rfl (any_of HT_.out (by kernel_rfl)) (fun _ _ _ h=>h) (Or.inl ⟨by rfl,?_⟩) ?_ ?_
           rotate_left
           ·intro w'
            go_simp
            with_reducible rfl
           rotate_left
           ·simp only [Act.put,s1_,s2_,s3_,i64_w,i32_w]
            rfl
           refine pure_ (i:=10) (N:=some 99) (v:=?_) (a':=?_) #[true,true,true,true,true,true,true,true,true,true,true,false,false,false,false,false,false,false,false,false] rfl rfl (any_of HT_.out (by kernel_rfl)) (fun _ _ _ h=>h) (Or.inl ⟨by rfl,?_⟩) ?_ ?_
           rotate_left
           ·intro w'
            go_simp
            with_reducible rfl
           rotate_left
           ·simp only [Act.put,s1_,s2_,s3_,i64_w,i32_w]
            rfl
           refine pure_ (i:=11) (N:=some 100) (v:=?_) (a':=?_) #[true,true,true,true,true,true,true,true,true,true,true,true,false,false,false,false,false,false,false,false] rfl rfl (any_of HT_.out (by kernel_rfl)) (fun _ _ _ h=>h) (Or.inl ⟨by rfl,?_⟩) ?_ ?_
           rotate_left
           ·intro w'
            go_simp
            with_reducible rfl
           rotate_left
           ·simp only [Act.put,s1_,s2_,s3_,i64_w,i32_w]
            rfl
           refine pure_ (i:=12) (N:=some 101) (v:=undef) (a':=?_) #[true,true,true,true,true,true,true,true,true,true,true,true,true,false,false,false,false,false,false,false] rfl rfl (any_of HT_.out (by kernel_rfl)) (fun _ _ _ h=>h) (Or.inr ⟨by rfl,rfl⟩) ?_ ?_
           rotate_left
           ·simp only [Act.put,s1_,s2_,s3_,i64_w,i32_w]
            rfl
           refine pure_ (i:=13) (N:=some 102) (v:=undef) (a':=?_) #[true,true,true,true,true,true,true,true,true,true,true,true,true,true,false,false,false,false,false,false] rfl rfl (any_of HT_.out (by kernel_rfl)) (fun _ _ _ h=>h) (Or.inr ⟨by rfl,rfl⟩) ?_ ?_
           rotate_left
           ·simp only [Act.put,s1_,s2_,s3_,i64_w,i32_w]
            rfl
           refine pure_ (i:=14) (N:=some 103) (v:=undef) (a':=?_) #[true,true,true,true,true,true,true,true,true,true,true,true,true,true,true,false,false,false,false,false] rfl rfl (any_of HT_.out (by kernel_rfl)) (fun _ _ _ h=>h) (Or.inr ⟨by rfl,rfl⟩) ?_ ?_
           rotate_left
           ·simp only [Act.put,s1_,s2_,s3_,i64_w,i32_w]
            rfl
           refine pure_ (i:=15) (N:=some 104) (v:=undef) (a':=?_) #[true,true,true,true,true,true,true,true,true,true,true,true,true,true,true,true,false,false,false,false] rfl rfl (any_of HT_.out (by kernel_rfl)) (fun _ _ _ h=>h) (Or.inr ⟨by rfl,rfl⟩) ?_ ?_
           rotate_left
           ·simp only [Act.put,s1_,s2_,s3_,i64_w,i32_w]
            rfl
           refine pure_ (i:=16) (N:=some 105) (v:=undef) (a':=?_) #[true,true,true,true,true,true,true,true,true,true,true,true,true,true,true,true,true,false,false,false] rfl rfl (any_of HT_.out (by kernel_rfl)) (fun _ _ _ h=>h) (Or.inr ⟨by rfl,rfl⟩) ?_ ?_
           rotate_left
           ·simp only [Act.put,s1_,s2_,s3_,i64_w,i32_w]
            rfl
           refine pure_ (i:=17) (N:=some 106) (v:=undef) (a':=?_) #[true,true,true,true,true,true,true,true,true,true,true,true,true,true,true,true,true,true,false,false] rfl rfl (any_of HT_.out (by kernel_rfl)) (fun _ _ _ h=>h) (Or.inr ⟨by rfl,rfl⟩) ?_ ?_
           rotate_left
           ·simp only [Act.put,s1_,s2_,s3_,i64_w,i32_w]
            rfl
           refine pure_ (i:=18) (N:=some 107) (v:=undef) (a':=?_) #[true,true,true,true,true,true,true,true,true,true,true,true,true,true,true,true,true,true,true,false] rfl rfl (any_of HT_.out (by kernel_rfl)) (fun _ _ _ h=>h) (Or.inr ⟨by rfl,rfl⟩) ?_ ?_
           rotate_left
           ·simp only [Act.put,s1_,s2_,s3_,i64_w,i32_w]
            rfl
           refine pure_ (i:=19) (N:=some 108) (v:=?_) (a':=?_) #[true,true,true,true,true,true,true,true,true,true,true,true,true,true,true,true,true,true,true,true] rfl rfl (any_of HT_.out (by kernel_rfl)) (fun _ _ _ h=>h) (Or.inl ⟨by rfl,?_⟩) ?_ ?_
           rotate_left
           ·intro w'
            go_simp
            with_reducible rfl
           rotate_left
           ·simp only [Act.put,s1_,s2_,s3_,i64_w,i32_w]
            rfl
           refine done_ (done_of HT_.out (by kernel_rfl)) ?_
           try go_wp2
           go_ret
           exact ⟨by first | rfl | (simp [errW_none,errW_some] <;> rfl) | (simp [*,errW_none,errW_some] <;> rfl),hb_⟩
          ·rw [if_neg c61] at H
           have c61b0 : decide (0 < ((rd_L8 t311 x12_2).length : Int)) = false:=decide_eq_false c61
           have c61b1 : decide (0 < (rd_L8 t311 x12_2).length) = false:=decide_eq_false (by omega)
           clear c61
           by_cases c68 : x12_2 < (t307.length : Int)
           ·rw [if_pos c68] at H
            have c68b0 : decide (x12_2 < (t307.length : Int)) = true:=decide_eq_true c68
            clear c68
            replace H:=Option.bind_eq_some_iff.mp H
            obtain ⟨t344,A690,H⟩:=H
            try dsimp only at H
            have A69:=a0_ A690
            clear A690
            by_cases c70 : t344 = true
            ·subst c70
             have H1 : (some false) = some r:=by rw [if_pos rfl] at H;exact H
             clear H
             have H:=H1
             clear H1
             obtain rfl:=Option.some.inj H
             obtain ⟨Ao71,co71,eo71⟩:=Kd.S_slice HO_6.out
             subst eo71
             try go_wp2
             have n0_:=a0_ (Kd.R_drew HO_4.out)
             have n1_:=a0_ (Kd.R_drew HO_5.out)
             have n2_:=a0_ (Kd.S_drew HO_6.out)
             have n3_:=a0_ (Kd.R_drew HO_7.out)
             have n4_:=a0_ (Kd.R_drew HO_10.out)
             have n5_:=a0_ (Kd.R_drew Z311.out)
             have n6_:=a0_ (blk_drew BK310.out)
             have n7_:=a0_ (below_drew1 HB.out)
             clear HO_4
             clear HO_5
             clear HO_6
             clear HO_7
             clear HO_10
             clear Z311
             clear BK310
             clear HB
             have HO_4:=n0_
             have HO_5:=n1_
             have HO_6:=n2_
             have HO_7:=n3_
             have HO_10:=n4_
             have Z311:=n5_
             have BK310:=n6_
             have HB:=n7_
             clear n0_ n1_ n2_ n3_ n4_ n5_ n6_ n7_
             have p337 : 0 ≤ (x12_2 : Int):=of_decide_eq_true (by first | (with_reducible assumption) | assumption)
             have q337 : x12_2 < (t311.length : Int):=of_decide_eq_true (by first | (with_reducible assumption) | assumption)
             obtain ⟨ad337,A337_0,c337_0,e337,hx337_0,hl337_0,hi337_0⟩:=at_L8 (Kd.S_reads' HO_6.out).2.2 x12_2 p337 q337
             cases e337
             obtain ⟨ce337,hce337,hMe337,hcc337⟩:=Kd.S_get HO_6.out [] x12_2 p337 (by first | exact q337 | exact of_decide_eq_true (by first | (with_reducible assumption) | assumption) | (have e_:=(Kd.S_reads' HO_6.out).1;omega))
             obtain ⟨ve337_0,rfl,ge337_0⟩:=hMe337
             have hv337_0:=hcc337 0 _ rfl
             rw [Nat.add_zero,show ((Kd.slice 47 k47)).sz = 1 from rfl,Nat.mul_one] at hv337_0
             replace hv337_0:=Option.some.inj (hv337_0.symm.trans hx337_0)
             rw [hv337_0] at ge337_0
             have HL337_0:=a0_ (show Kd.R k47 47 _ _ _ _ (rd_L8 t311 x12_2) from ge337_0)
             clear hv337_0 ge337_0
             clear hcc337 hce337
             have HR337_0:=a0_ hi337_0
             have HC337_0:=a0_ hl337_0
             clear hi337_0 hl337_0
             replace p337:=eq_true p337
             replace q337:=eq_true q337
             refine start_ (n:=10) (S:=fun w'=>w'.cell? ⟨gb310,0,none⟩ = some (.slice Ao9 t301.length co9) ∧ w'.cell? (ad337.add (x12_2).toNat) = some (.slice A337_0 (rd_L8 t311 x12_2).length c337_0)) (ds:=[]) #[false,false,false,false,false,false,false,false,false,false] (by kernel_rfl) rfl rfl ⟨(blk_cell BK310.out 0).trans rfl,hx337_0⟩ (fun hHeld=>?_);refine with_tabW laws_FnHandleGroup.tab13 laws_FnHandleGroup.bits13 (fun HT_ HW_=>?_)
             generalize wr.drew = w72 at HO_4 HO_5 HO_6 HO_7 HO_10 Z311 BK310 HB HL337_0 HR337_0 hx337_0 hHeld ⊢
             refine pure_ (i:=0) (N:=some 80) (v:=?_) (a':=?_) #[true,false,false,false,false,false,false,false,false,false] rfl rfl (any_of HT_.out (by kernel_rfl)) (fun _ _ _ h=>h) (Or.inl ⟨by rfl,?_⟩) ?_ ?_
             rotate_left
             ·intro w'
              go_simp
              with_reducible rfl
             rotate_left
             ·simp only [Act.put,s1_,s2_,s3_,i64_w,i32_w]
              rfl
             refine pure_ (i:=2) (N:=some 82) (v:=?_) (a':=?_) #[true,false,true,false,false,false,false,false,false,false] rfl rfl (any_of HT_.out (by kernel_rfl)) (fun _ _ _ h=>h) (Or.inl ⟨by rfl,?_⟩) ?_ ?_
             rotate_left
             ·intro w'
              go_simp
              with_reducible rfl
             rotate_left
             ·simp only [Act.put,s1_,s2_,s3_,i64_w,i32_w]
              rfl
             refine pure_ (i:=3) (N:=some 83) (v:=?_) (a':=?_) #[true,false,true,true,false,false,false,false,false,false] rfl rfl (any_of HT_.out (by kernel_rfl)) (fun _ _ _ h=>h) (Or.inl ⟨by rfl,?_⟩) ?_ ?_
             rotate_left
             ·intro w'
              go_simp
              with_reducible rfl
             rotate_left
             ·simp only [Act.put,s1_,s2_,s3_,i64_w,i32_w]
              rfl
             refine pure_ (i:=4) (N:=some 84) (v:=?_) (a':=?_) #[true,false,true,true,true,false,false,false,false,false] rfl rfl (any_of HT_.out (by kernel_rfl)) (fun _ _ _ h=>h) (Or.inl ⟨by rfl,?_⟩) ?_ ?_
             rotate_left
             ·intro w'
              go_simp
              with_reducible rfl
             rotate_left
             ·simp only [Act.put,s1_,s2_,s3_,i64_w,i32_w]
              rfl
             refine take_ (i:=1) (N:=some 81) (v:=?_) (a':=?_) #[true,true,true,true,true,false,false,false,false,false] rfl rfl (take_ofW HT_.out HW_.out (by kernel_rfl)) (fun _ _ _ h=>h) (Or.inl ⟨by rfl,?_⟩) hHeld ?_ ?_
             rotate_left
             ·rintro w' ⟨s0,s1⟩
              go_simp
              with_reducible rfl
             rotate_left
             ·simp only [Act.put,s1_,s2_,s3_,i64_w,i32_w]
              rfl
             refine take_ (i:=5) (N:=some 85) (v:=?_) (a':=?_) #[true,true,true,true,true,true,false,false,false,false] rfl rfl (take_ofW HT_.out HW_.out (by kernel_rfl)) (fun _ _ _ h=>h) (Or.inl ⟨by rfl,?_⟩) hHeld ?_ ?_
             rotate_left
             ·rintro w' ⟨s0,s1⟩
              go_simp
              with_reducible rfl
             rotate_left
             ·simp only [Act.put,s1_,s2_,s3_,i64_w,i32_w]
              rfl
             refine one_ (i:=6) (N:=some 86) #[true,true,true,true,true,true,true,false,false,false] rfl rfl (one_of HT_.out (by kernel_rfl)) (by decide) (fun K hK=>?_)
             refine goes_ Try.func17 (by kernel_rfl) rfl #[.agg #[.slice Ao9 t301.length co9],.slice A337_0 (rd_L8 t311 x12_2).length c337_0] (by rfl) rfl rfl lm_ ?_
             with_reducible refine (impl_LeavesOf.calls k2 _ _ t301 _ _ (rd_L8 t311 x12_2) t338 _ ?side1 ?side2 ?side3 ?side4 A58.out).mono ?_
             (case side1=>exact cc_ (Kd.R_reads' Z311.out).2.2)
             (case side2=>exact (Kd.R_reads' Z311.out).2.1)
             (case side3=>repeat (first | exact (by repeat (first | (with_reducible exact HR337_0.out) | (with_reducible refine Kd.C_alloc ?_ _) | (with_reducible refine Kd.C_drewN ?_ _) | (with_reducible refine Kd.C_drew ?_) | exact HR337_0.out)) | (with_reducible refine Kd.C_alloc ?_ _) | (with_reducible refine Kd.C_drewN ?_ _) | (with_reducible refine Kd.C_drew ?_)))
             (case side4=>exact HC337_0.out)
             rintro e w73 ⟨v339,rfl,ho0,hb⟩
             have HS1_:=(hb.cell (World.block_lt_of_cell? _ _ (hHeld.2))).trans (hHeld.2)
             refine ⟨_,rfl,?_⟩
             have n0_:=rb_ HO_4 hb
             have n1_:=rb_ HO_5 hb
             have n2_:=a0_ (Kd.S_below (by (with_reducible repeat (first | apply Kd.S_alloc | apply Kd.S_drewN | apply Kd.S_drew));exact HO_6.out) hb)
             have n3_:=rb_ HO_7 hb
             have n4_:=rb_ HO_10 hb
             have n5_:=rb_ Z311 hb
             have n6_:=rb_ HL337_0 hb
             have n7_:=a0_ (Kd.R_lower ho0 (below_size hb_))
             have n8_:=kb_ BK310 hb
             have n9_:=a0_ (Kd.C_below (c_keep_ HR337_0.out) hb)
             have n10_:=a0_ (below_step hb_ hb)
             clear HO_4
             clear HO_5
             clear HO_6
             clear HO_7
             clear HO_10
             clear Z311
             clear HL337_0
             clear BK310
             clear HR337_0
             clear HB
             have HO_4:=n0_
             have HO_5:=n1_
             have HO_6:=n2_
             have HO_7:=n3_
             have HO_10:=n4_
             have Z311:=n5_
             have HL337_0:=n6_
             have HO340:=n7_
             have BK310:=n8_
             have HR337_0:=n9_
             have HB:=n10_
             clear n0_ n1_ n2_ n3_ n4_ n5_ n6_ n7_ n8_ n9_ n10_
             (try clear hb)
             (try clear hb2)
             (try clear hk)
             (try clear hi)
             (try clear ho0)
             obtain ⟨Ao74,co74,eo74⟩:=Kd.R_slice HO340.out
             (first | subst eo74 | (injection eo74 with f1_ f2_ f3_;have f4_:=f1_.symm;have f5_:=f3_.symm;clear f1_ f2_ f3_;subst f4_;subst f5_))
             refine hK.out _ _ ⟨(blk_cell BK310.out 0).trans rfl,HS1_⟩ (fun hHeld=>?_)
             clear hK K
             refine norm_ (a':=?_) ?_ ?_
             rotate_left
             ·show Act.put _ (some 86) _ = _
              simp only [Act.put,s1_,s2_,s3_,i64_w,i32_w]
              rfl
             refine pure_ (i:=7) (N:=some 87) (v:=?_) (a':=?_) #[true,true,true,true,true,true,true,true,false,false] rfl rfl (any_of HT_.out (by kernel_rfl)) (fun _ _ _ h=>h) (Or.inl ⟨by rfl,?_⟩) ?_ ?_
             rotate_left
             ·intro w'
              go_simp
              with_reducible rfl
             rotate_left
             ·simp only [Act.put,s1_,s2_,s3_,i64_w,i32_w]
              rfl
             refine pure_ (i:=8) (N:=some 88) (v:=?_) (a':=?_) #[true,true,true,true,true,true,true,true,true,false] rfl rfl (any_of HT_.out (by kernel_rfl)) (fun _ _ _ h=>h) (Or.inl ⟨by rfl,?_⟩) ?_ ?_
             rotate_left
             ·intro w'
              go_simp
              with_reducible rfl
             rotate_left
             ·simp only [Act.put,s1_,s2_,s3_,i64_w,i32_w]
              rfl
             refine pure_ (i:=9) (N:=some 11) (v:=?_) (a':=?_) #[true,true,true,true,true,true,true,true,true,true] rfl rfl (any_of HT_.out (by kernel_rfl)) (fun _ _ _ h=>h) (Or.inl ⟨by rfl,?_⟩) ?_ ?_
             rotate_left
             ·intro w'
              go_simp
              with_reducible rfl
             rotate_left
             ·simp only [Act.put,s1_,s2_,s3_,i64_w,i32_w]
              rfl
             refine done_ (done_of HT_.out (by kernel_rfl)) ?_
             try go_wp2
             have n0_:=a0_ (Kd.R_drew HO_4.out)
             have n1_:=a0_ (Kd.R_drew HO_5.out)
             have n2_:=a0_ (Kd.S_drew HO_6.out)
             have n3_:=a0_ (Kd.R_drew HO_7.out)
             have n4_:=a0_ (Kd.R_drew HO_10.out)
             have n5_:=a0_ (Kd.R_drew Z311.out)
             have n6_:=a0_ (Kd.R_drew HL337_0.out)
             have n7_:=a0_ (Kd.R_drew HO340.out)
             have n8_:=a0_ (blk_drew BK310.out)
             have n9_:=a0_ (Kd.C_drew HR337_0.out)
             have n10_:=a0_ (below_drew1 HB.out)
             clear HO_4
             clear HO_5
             clear HO_6
             clear HO_7
             clear HO_10
             clear Z311
             clear HL337_0
             clear HO340
             clear BK310
             clear HR337_0
             clear HB
             have HO_4:=n0_
             have HO_5:=n1_
             have HO_6:=n2_
             have HO_7:=n3_
             have HO_10:=n4_
             have Z311:=n5_
             have HL337_0:=n6_
             have HO340:=n7_
             have BK310:=n8_
             have HR337_0:=n9_
             have HB:=n10_
             clear n0_ n1_ n2_ n3_ n4_ n5_ n6_ n7_ n8_ n9_ n10_
             obtain ⟨Ao76,co76,eo76⟩:=Kd.R_slice HO_10.out
             (first | subst eo76 | (injection eo76 with f1_ f2_ f3_;have f4_:=f1_.symm;have f5_:=f3_.symm;clear f1_ f2_ f3_;subst f4_;subst f5_))
             have p342 : 0 ≤ (x12_2 : Int):=of_decide_eq_true (by first | (with_reducible assumption) | assumption)
             have q342 : x12_2 < (t311.length : Int):=of_decide_eq_true (by first | (with_reducible assumption) | assumption)
             obtain ⟨ad342,A342_0,c342_0,e342,hx342_0,hl342_0,hi342_0⟩:=at_L8 (Kd.S_reads' HO_6.out).2.2 x12_2 p342 q342
             obtain rfl : ad337 = ad342:=(by injection e342)
             obtain ⟨ce342,hce342,hMe342,hcc342⟩:=Kd.S_get HO_6.out [] x12_2 p342 (by first | exact q342 | exact of_decide_eq_true (by first | (with_reducible assumption) | assumption) | (have e_:=(Kd.S_reads' HO_6.out).1;omega))
             obtain ⟨ve342_0,rfl,ge342_0⟩:=hMe342
             have hv342_0:=hcc342 0 _ rfl
             rw [Nat.add_zero,show ((Kd.slice 47 k47)).sz = 1 from rfl,Nat.mul_one] at hv342_0
             replace hv342_0:=Option.some.inj (hv342_0.symm.trans hx342_0)
             rw [hv342_0] at ge342_0
             have HL342_0:=a0_ (show Kd.R k47 47 _ _ _ _ (rd_L8 t311 x12_2) from ge342_0)
             clear hv342_0 ge342_0
             clear hcc342 hce342
             have HR342_0:=a0_ hi342_0
             have HC342_0:=a0_ hl342_0
             clear hi342_0 hl342_0
             replace p342:=eq_true p342
             replace q342:=eq_true q342
             have p343 : 0 ≤ (x12_2 : Int):=of_decide_eq_true (by first | (with_reducible assumption) | assumption)
             have q343 : x12_2 < (t307.length : Int):=of_decide_eq_true (by first | (with_reducible assumption) | assumption)
             obtain ⟨ad343,e343,hx343_0⟩:=Kd.at_int (Kd.R_reads' HO_5.out).2.2 x12_2 p343 q343
             cases e343
             replace p343:=eq_true p343
             replace q343:=eq_true q343
             refine start_ (n:=20) (S:=fun w'=>w'.cell? ⟨gb310,0,none⟩ = some (.slice Ao9 t301.length co9) ∧ w'.cell? (ad337.add (x12_2).toNat) = some (.slice A342_0 (rd_L8 t311 x12_2).length c342_0) ∧ w'.cell? (ad343.add (x12_2).toNat) = some (.int .i64 (rd t307 x12_2))) (ds:=[]) #[false,false,false,false,false,false,false,false,false,false,false,false,false,false,false,false,false,false,false,false] (by kernel_rfl) rfl rfl ⟨(blk_cell BK310.out 0).trans rfl,hx342_0,hx343_0⟩ (fun hHeld=>?_);refine with_tabW laws_FnHandleGroup.tab14 laws_FnHandleGroup.bits14 (fun HT_ HW_=>?_)
             generalize w73.drew = w75 at HO_4 HO_5 HO_6 HO_7 HO_10 Z311 HL337_0 HO340 BK310 HR337_0 HB HL342_0 HR342_0 hx342_0 hx343_0 hHeld ⊢
             refine pure_ (i:=0) (N:=some 89) (v:=?_) (a':=?_) #[true,false,false,false,false,false,false,false,false,false,false,false,false,false,false,false,false,false,false,false] rfl rfl (any_of HT_.out (by kernel_rfl)) (fun _ _ _ h=>h) (Or.inl ⟨by rfl,?_⟩) ?_ ?_
             rotate_left
             ·intro w'
              go_simp
              with_reducible rfl
             rotate_left
             ·simp only [Act.put,s1_,s2_,s3_,i64_w,i32_w]
              rfl
             refine pure_ (i:=1) (N:=some 90) (v:=?_) (a':=?_) #[true,true,false,false,false,false,false,false,false,false,false,false,false,false,false,false,false,false,false,false] rfl rfl (any_of HT_.out (by kernel_rfl)) (fun _ _ _ h=>h) (Or.inl ⟨by rfl,?_⟩) ?_ ?_
             rotate_left
             ·intro w'
              go_simp
              with_reducible rfl
             rotate_left
             ·simp only [Act.put,s1_,s2_,s3_,i64_w,i32_w]
              rfl
             refine one_ (i:=2) (N:=some 91) #[true,true,true,false,false,false,false,false,false,false,false,false,false,false,false,false,false,false,false,false] rfl rfl (one_of HT_.out (by kernel_rfl)) (by decide) (fun K hK=>?_)
             refine goes_ Try.func33 (by kernel_rfl) rfl #[.slice Ao76 t328.length co76,.int .i64 x12_2] (by rfl) rfl rfl lm_ ?_
             with_reducible refine (laws_isIn.calls k2 _ _ t328 x12_2 true _ ?side1 ?side2 A59.out).mono ?_
             (case side1=>exact cc_ (Kd.R_reads' HO_10.out).2.2)
             (case side2=>exact (Kd.R_reads' HO_10.out).2.1)
             rintro e w' ⟨rfl,⟨nd,rfl⟩⟩
             refine ⟨_,rfl,?_⟩
             refine hK.out _ _ ⟨(blk_cell BK310.out 0).trans rfl,hHeld.2.1,hHeld.2.2⟩ (fun hHeld=>?_)
             clear hK K
             refine norm_ (a':=?_) ?_ ?_
             rotate_left
             ·show Act.put _ (some 91) _ = _
              simp only [Act.put,s1_,s2_,s3_,i64_w,i32_w]
              rfl
             refine pure_ (i:=3) (N:=some 92) (v:=?_) (a':=?_) #[true,true,true,true,false,false,false,false,false,false,false,false,false,false,false,false,false,false,false,false] rfl rfl (any_of HT_.out (by kernel_rfl)) (fun _ _ _ h=>h) (Or.inl ⟨by rfl,?_⟩) ?_ ?_
             rotate_left
             ·intro w'
              go_simp
              with_reducible rfl
             rotate_left
             ·simp only [Act.put,s1_,s2_,s3_,i64_w,i32_w]
              rfl
             refine pure_ (i:=4) (N:=some 93) (v:=?_) (a':=?_) #[true,true,true,true,true,false,false,false,false,false,false,false,false,false,false,false,false,false,false,false] rfl rfl (any_of HT_.out (by kernel_rfl)) (fun _ _ _ h=>h) (Or.inl ⟨by rfl,?_⟩) ?_ ?_
             rotate_left
             ·intro w'
              go_simp
              with_reducible rfl
             rotate_left
             ·simp only [Act.put,s1_,s2_,s3_,i64_w,i32_w]
              rfl
             refine pure_ (i:=5) (N:=some 94) (v:=?_) (a':=?_) #[true,true,true,true,true,true,false,false,false,false,false,false,false,false,false,false,false,false,false,false] rfl rfl (any_of HT_.out (by kernel_rfl)) (fun _ _ _ h=>h) (Or.inl ⟨by rfl,?_⟩) ?_ ?_
             rotate_left
             ·intro w'
              go_simp
              with_reducible rfl
             rotate_left
             ·simp only [Act.put,s1_,s2_,s3_,i64_w,i32_w]
              rfl
             refine pure_ (i:=6) (N:=some 95) (v:=?_) (a':=?_) #[true,true,true,true,true,true,true,false,false,false,false,false,false,false,false,false,false,false,false,false] rfl rfl (any_of HT_.out (by kernel_rfl)) (fun _ _ _ h=>h) (Or.inl ⟨by rfl,?_⟩) ?_ ?_
             rotate_left
             ·intro w'
              go_simp
              with_reducible rfl
             rotate_left
             ·simp only [Act.put,s1_,s2_,s3_,i64_w,i32_w]
              rfl
             refine take_ (i:=7) (N:=some 96) (v:=?_) (a':=?_) #[true,true,true,true,true,true,true,true,false,false,false,false,false,false,false,false,false,false,false,false] rfl rfl (take_ofW HT_.out HW_.out (by kernel_rfl)) (fun _ _ _ h=>h) (Or.inl ⟨by rfl,?_⟩) hHeld ?_ ?_
             rotate_left
             ·rintro w' ⟨s0,s1,s2⟩
              go_simp
              with_reducible rfl
             rotate_left
             ·simp only [Act.put,s1_,s2_,s3_,i64_w,i32_w]
              rfl
             refine pure_ (i:=8) (N:=some 97) (v:=?_) (a':=?_) #[true,true,true,true,true,true,true,true,true,false,false,false,false,false,false,false,false,false,false,false] rfl rfl (any_of HT_.out (by kernel_rfl)) (fun _ _ _ h=>h) (Or.inl ⟨by rfl,?_⟩) ?_ ?_
             rotate_left
             ·intro w'
              go_simp
              with_reducible rfl
             rotate_left
             ·simp only [Act.put,s1_,s2_,s3_,i64_w,i32_w]
              rfl
             refine pure_ (i:=9) (N:=some 98) (v:=?_) (a':=?_) #[true,true,true,true,true,true,true,true,true,true,false,false,false,false,false,false,false,false,false,false] rfl rfl (any_of HT_.out (by kernel_rfl)) (fun _ _ _ h=>h) (Or.inl ⟨by rfl,?_⟩) ?_ ?_
             rotate_left
             ·intro w'
              go_simp
              with_reducible rfl
             rotate_left
             ·simp only [Act.put,s1_,s2_,s3_,i64_w,i32_w]
              rfl
             refine pure_ (i:=10) (N:=some 99) (v:=?_) (a':=?_) #[true,true,true,true,true,true,true,true,true,true,true,false,false,false,false,false,false,false,false,false] rfl rfl (any_of HT_.out (by kernel_rfl)) (fun _ _ _ h=>h) (Or.inl ⟨by rfl,?_⟩) ?_ ?_
             rotate_left
             ·intro w'
              go_simp
              with_reducible rfl
             rotate_left
             ·simp only [Act.put,s1_,s2_,s3_,i64_w,i32_w]
              rfl
             refine pure_ (i:=11) (N:=some 100) (v:=?_) (a':=?_) #[true,true,true,true,true,true,true,true,true,true,true,true,false,false,false,false,false,false,false,false] rfl rfl (any_of HT_.out (by kernel_rfl)) (fun _ _ _ h=>h) (Or.inl ⟨by rfl,?_⟩) ?_ ?_
             rotate_left
             ·intro w'
              go_simp
              with_reducible rfl
             rotate_left
             ·simp only [Act.put,s1_,s2_,s3_,i64_w,i32_w]
              rfl
             refine pure_ (i:=13) (N:=some 102) (v:=?_) (a':=?_) #[true,true,true,true,true,true,true,true,true,true,true,true,false,true,false,false,false,false,false,false] rfl rfl (any_of HT_.out (by kernel_rfl)) (fun _ _ _ h=>h) (Or.inl ⟨by rfl,?_⟩) ?_ ?_
             rotate_left
             ·intro w'
              go_simp
              with_reducible rfl
             rotate_left
             ·simp only [Act.put,s1_,s2_,s3_,i64_w,i32_w]
              rfl
             refine pure_ (i:=14) (N:=some 103) (v:=?_) (a':=?_) #[true,true,true,true,true,true,true,true,true,true,true,true,false,true,true,false,false,false,false,false] rfl rfl (any_of HT_.out (by kernel_rfl)) (fun _ _ _ h=>h) (Or.inl ⟨by rfl,?_⟩) ?_ ?_
             rotate_left
             ·intro w'
              go_simp
              with_reducible rfl
             rotate_left
             ·simp only [Act.put,s1_,s2_,s3_,i64_w,i32_w]
              rfl
             refine pure_ (i:=15) (N:=some 104) (v:=?_) (a':=?_) #[true,true,true,true,true,true,true,true,true,true,true,true,false,true,true,true,false,false,false,false] rfl rfl (any_of HT_.out (by kernel_rfl)) (fun _ _ _ h=>h) (Or.inl ⟨by rfl,?_⟩) ?_ ?_
             rotate_left
             ·intro w'
              go_simp
              with_reducible rfl
             rotate_left
             ·simp only [Act.put,s1_,s2_,s3_,i64_w,i32_w]
              rfl
             refine pure_ (i:=16) (N:=some 105) (v:=?_) (a':=?_) #[true,true,true,true,true,true,true,true,true,true,true,true,false,true,true,true,true,false,false,false] rfl rfl (any_of HT_.out (by kernel_rfl)) (fun _ _ _ h=>h) (Or.inl ⟨by rfl,?_⟩) ?_ ?_
             rotate_left
             ·intro w'
              go_simp
              with_reducible rfl
             rotate_left
             ·simp only [Act.put,s1_,s2_,s3_,i64_w,i32_w]
              rfl
             refine take_ (i:=12) (N:=some 101) (v:=?_) (a':=?_) #[true,true,true,true,true,true,true,true,true,true,true,true,true,true,true,true,true,false,false,false] rfl rfl (take_ofW HT_.out HW_.out (by kernel_rfl)) (fun _ _ _ h=>h) (Or.inl ⟨by rfl,?_⟩) hHeld ?_ ?_
             rotate_left
             ·rintro w' ⟨s0,s1,s2⟩
              go_simp
              with_reducible rfl
             rotate_left
             ·simp only [Act.put,s1_,s2_,s3_,i64_w,i32_w]
              rfl
             refine take_ (i:=17) (N:=some 106) (v:=?_) (a':=?_) #[true,true,true,true,true,true,true,true,true,true,true,true,true,true,true,true,true,true,false,false] rfl rfl (take_ofW HT_.out HW_.out (by kernel_rfl)) (fun _ _ _ h=>h) (Or.inl ⟨by rfl,?_⟩) hHeld ?_ ?_
             rotate_left
             ·rintro w' ⟨s0,s1,s2⟩
              go_simp
              with_reducible rfl
             rotate_left
             ·simp only [Act.put,s1_,s2_,s3_,i64_w,i32_w]
              rfl
             refine one_ (i:=18) (N:=some 107) #[true,true,true,true,true,true,true,true,true,true,true,true,true,true,true,true,true,true,true,false] rfl rfl (one_of HT_.out (by kernel_rfl)) (by decide) (fun K hK=>?_)
             refine goes_ Try.func20 (by kernel_rfl) rfl #[.agg #[.slice Ao9 t301.length co9],.slice Ao53 t314.length co53,.int .i64 (rd t307 x12_2)] (by rfl) rfl rfl lm_ ?_
             with_reducible refine (impl_HasClass.calls _ _ t301 _ _ t314 (rd t307 x12_2) true _ ?side1 ?side2 ?side3 ?side4 A69.out).mono ?_
             (case side1=>exact cc_ (Kd.R_reads' Z311.out).2.2)
             (case side2=>exact (Kd.R_reads' Z311.out).2.1)
             (case side3=>exact cc_ (Kd.R_reads' HO_7.out).2.2)
             (case side4=>exact (Kd.R_reads' HO_7.out).2.1)
             rintro e w77 ⟨rfl,hb⟩
             have HS1_:=(hb.cell (World.block_lt_of_cell? _ _ (hHeld.2.1))).trans (hHeld.2.1)
             have HS2_:=(hb.cell (World.block_lt_of_cell? _ _ (hHeld.2.2))).trans (hHeld.2.2)
             refine ⟨_,rfl,?_⟩
             have n0_:=rb_ HO_4 hb
             have n1_:=rb_ HO_5 hb
             have n2_:=a0_ (Kd.S_below (by (with_reducible repeat (first | apply Kd.S_alloc | apply Kd.S_drewN | apply Kd.S_drew));exact HO_6.out) hb)
             have n3_:=rb_ HO_7 hb
             have n4_:=rb_ HO_10 hb
             have n5_:=rb_ Z311 hb
             have n6_:=rb_ HL337_0 hb
             have n7_:=rb_ HO340 hb
             have n8_:=rb_ HL342_0 hb
             have n9_:=kb_ BK310 hb
             have n10_:=a0_ (Kd.C_below (c_keep_ HR337_0.out) hb)
             have n11_:=a0_ (Kd.C_below (c_keep_ HR342_0.out) hb)
             have n12_:=a0_ (below_step hb_ hb)
             clear HO_4
             clear HO_5
             clear HO_6
             clear HO_7
             clear HO_10
             clear Z311
             clear HL337_0
             clear HO340
             clear HL342_0
             clear BK310
             clear HR337_0
             clear HR342_0
             clear HB
             have HO_4:=n0_
             have HO_5:=n1_
             have HO_6:=n2_
             have HO_7:=n3_
             have HO_10:=n4_
             have Z311:=n5_
             have HL337_0:=n6_
             have HO340:=n7_
             have HL342_0:=n8_
             have BK310:=n9_
             have HR337_0:=n10_
             have HR342_0:=n11_
             have HB:=n12_
             clear n0_ n1_ n2_ n3_ n4_ n5_ n6_ n7_ n8_ n9_ n10_ n11_ n12_
             (try clear hb)
             (try clear hb2)
             (try clear hk)
             (try clear hi)
             refine hK.out _ _ ⟨(blk_cell BK310.out 0).trans rfl,HS1_,HS2_⟩ (fun hHeld=>?_)
             clear hK K
             refine norm_ (a':=?_) ?_ ?_
             rotate_left
             ·show Act.put _ (some 107) _ = _
              simp only [Act.put,s1_,s2_,s3_,i64_w,i32_w]
              rfl
             refine pure_ (i:=19) (N:=some 108) (v:=?_) (a':=?_) #[true,true,true,true,true,true,true,true,true,true,true,true,true,true,true,true,true,true,true,true] rfl rfl (any_of HT_.out (by kernel_rfl)) (fun _ _ _ h=>h) (Or.inl ⟨by rfl,?_⟩) ?_ ?_
             rotate_left
             ·intro w'
              go_simp
              with_reducible rfl
             rotate_left
             ·simp only [Act.put,s1_,s2_,s3_,i64_w,i32_w]
              rfl
             refine done_ (done_of HT_.out (by kernel_rfl)) ?_
             try go_wp2
             go_ret
             exact ⟨by first | rfl | (simp [errW_none,errW_some] <;> rfl) | (simp [*,errW_none,errW_some] <;> rfl),hb_⟩
            ·replace c70:=Bool.eq_false_iff.mpr c70
             subst c70
             have H1 : (laws_FnHandleGroup.l0 k2 t304 t307 t311 t314 t328 (wrap64 (x11_2 + (t338.length : Int))) (wrap64 (x12_2 + 1)) t301) = some r:=by rw [if_neg (show ¬ (false = true) by decide)] at H;exact H
             clear H
             have H:=H1
             clear H1
             have H':=a0_ H
             clear H
             obtain ⟨Ao78,co78,eo78⟩:=Kd.S_slice HO_6.out
             subst eo78
             try go_wp2
             have n0_:=a0_ (Kd.R_drew HO_4.out)
             have n1_:=a0_ (Kd.R_drew HO_5.out)
             have n2_:=a0_ (Kd.S_drew HO_6.out)
             have n3_:=a0_ (Kd.R_drew HO_7.out)
             have n4_:=a0_ (Kd.R_drew HO_10.out)
             have n5_:=a0_ (Kd.R_drew Z311.out)
             have n6_:=a0_ (blk_drew BK310.out)
             have n7_:=a0_ (below_drew1 HB.out)
             clear HO_4
             clear HO_5
             clear HO_6
             clear HO_7
             clear HO_10
             clear Z311
             clear BK310
             clear HB
             have HO_4:=n0_
             have HO_5:=n1_
             have HO_6:=n2_
             have HO_7:=n3_
             have HO_10:=n4_
             have Z311:=n5_
             have BK310:=n6_
             have HB:=n7_
             clear n0_ n1_ n2_ n3_ n4_ n5_ n6_ n7_
             have p337 : 0 ≤ (x12_2 : Int):=of_decide_eq_true (by first | (with_reducible assumption) | assumption)
             have q337 : x12_2 < (t311.length : Int):=of_decide_eq_true (by first | (with_reducible assumption) | assumption)
             obtain ⟨ad337,A337_0,c337_0,e337,hx337_0,hl337_0,hi337_0⟩:=at_L8 (Kd.S_reads' HO_6.out).2.2 x12_2 p337 q337
             cases e337
             obtain ⟨ce337,hce337,hMe337,hcc337⟩:=Kd.S_get HO_6.out [] x12_2 p337 (by first | exact q337 | exact of_decide_eq_true (by first | (with_reducible assumption) | assumption) | (have e_:=(Kd.S_reads' HO_6.out).1;omega))
             obtain ⟨ve337_0,rfl,ge337_0⟩:=hMe337
             have hv337_0:=hcc337 0 _ rfl
             rw [Nat.add_zero,show ((Kd.slice 47 k47)).sz = 1 from rfl,Nat.mul_one] at hv337_0
             replace hv337_0:=Option.some.inj (hv337_0.symm.trans hx337_0)
             rw [hv337_0] at ge337_0
             have HL337_0:=a0_ (show Kd.R k47 47 _ _ _ _ (rd_L8 t311 x12_2) from ge337_0)
             clear hv337_0 ge337_0
             clear hcc337 hce337
             have HR337_0:=a0_ hi337_0
             have HC337_0:=a0_ hl337_0
             clear hi337_0 hl337_0
             replace p337:=eq_true p337
             replace q337:=eq_true q337
             refine start_ (n:=10) (S:=fun w'=>w'.cell? ⟨gb310,0,none⟩ = some (.slice Ao9 t301.length co9) ∧ w'.cell? (ad337.add (x12_2).toNat) = some (.slice A337_0 (rd_L8 t311 x12_2).length c337_0)) (ds:=[]) #[false,false,false,false,false,false,false,false,false,false] (by kernel_rfl) rfl rfl ⟨(blk_cell BK310.out 0).trans rfl,hx337_0⟩ (fun hHeld=>?_);refine with_tabW laws_FnHandleGroup.tab13 laws_FnHandleGroup.bits13 (fun HT_ HW_=>?_)
             generalize wr.drew = w79 at HO_4 HO_5 HO_6 HO_7 HO_10 Z311 BK310 HB HL337_0 HR337_0 hx337_0 hHeld ⊢
             refine pure_ (i:=0) (N:=some 80) (v:=?_) (a':=?_) #[true,false,false,false,false,false,false,false,false,false] rfl rfl (any_of HT_.out (by kernel_rfl)) (fun _ _ _ h=>h) (Or.inl ⟨by rfl,?_⟩) ?_ ?_
             rotate_left
             ·intro w'
              go_simp
              with_reducible rfl
             rotate_left
             ·simp only [Act.put,s1_,s2_,s3_,i64_w,i32_w]
              rfl
             refine pure_ (i:=2) (N:=some 82) (v:=?_) (a':=?_) #[true,false,true,false,false,false,false,false,false,false] rfl rfl (any_of HT_.out (by kernel_rfl)) (fun _ _ _ h=>h) (Or.inl ⟨by rfl,?_⟩) ?_ ?_
             rotate_left
             ·intro w'
              go_simp
              with_reducible rfl
             rotate_left
             ·simp only [Act.put,s1_,s2_,s3_,i64_w,i32_w]
              rfl
             refine pure_ (i:=3) (N:=some 83) (v:=?_) (a':=?_) #[true,false,true,true,false,false,false,false,false,false] rfl rfl (any_of HT_.out (by kernel_rfl)) (fun _ _ _ h=>h) (Or.inl ⟨by rfl,?_⟩) ?_ ?_
             rotate_left
             ·intro w'
              go_simp
              with_reducible rfl
             rotate_left
             ·simp only [Act.put,s1_,s2_,s3_,i64_w,i32_w]
              rfl
             refine pure_ (i:=4) (N:=some 84) (v:=?_) (a':=?_) #[true,false,true,true,true,false,false,false,false,false] rfl rfl (any_of HT_.out (by kernel_rfl)) (fun _ _ _ h=>h) (Or.inl ⟨by rfl,?_⟩) ?_ ?_
             rotate_left
             ·intro w'
              go_simp
              with_reducible rfl
             rotate_left
             ·simp only [Act.put,s1_,s2_,s3_,i64_w,i32_w]
              rfl
             refine take_ (i:=1) (N:=some 81) (v:=?_) (a':=?_) #[true,true,true,true,true,false,false,false,false,false] rfl rfl (take_ofW HT_.out HW_.out (by kernel_rfl)) (fun _ _ _ h=>h) (Or.inl ⟨by rfl,?_⟩) hHeld ?_ ?_
             rotate_left
             ·rintro w' ⟨s0,s1⟩
              go_simp
              with_reducible rfl
             rotate_left
             ·simp only [Act.put,s1_,s2_,s3_,i64_w,i32_w]
              rfl
             refine take_ (i:=5) (N:=some 85) (v:=?_) (a':=?_) #[true,true,true,true,true,true,false,false,false,false] rfl rfl (take_ofW HT_.out HW_.out (by kernel_rfl)) (fun _ _ _ h=>h) (Or.inl ⟨by rfl,?_⟩) hHeld ?_ ?_
             rotate_left
             ·rintro w' ⟨s0,s1⟩
              go_simp
              with_reducible rfl
             rotate_left
             ·simp only [Act.put,s1_,s2_,s3_,i64_w,i32_w]
              rfl
             refine one_ (i:=6) (N:=some 86) #[true,true,true,true,true,true,true,false,false,false] rfl rfl (one_of HT_.out (by kernel_rfl)) (by decide) (fun K hK=>?_)
             refine goes_ Try.func17 (by kernel_rfl) rfl #[.agg #[.slice Ao9 t301.length co9],.slice A337_0 (rd_L8 t311 x12_2).length c337_0] (by rfl) rfl rfl lm_ ?_
             with_reducible refine (impl_LeavesOf.calls k2 _ _ t301 _ _ (rd_L8 t311 x12_2) t338 _ ?side1 ?side2 ?side3 ?side4 A58.out).mono ?_
             (case side1=>exact cc_ (Kd.R_reads' Z311.out).2.2)
             (case side2=>exact (Kd.R_reads' Z311.out).2.1)
             (case side3=>repeat (first | exact (by repeat (first | (with_reducible exact HR337_0.out) | (with_reducible refine Kd.C_alloc ?_ _) | (with_reducible refine Kd.C_drewN ?_ _) | (with_reducible refine Kd.C_drew ?_) | exact HR337_0.out)) | (with_reducible refine Kd.C_alloc ?_ _) | (with_reducible refine Kd.C_drewN ?_ _) | (with_reducible refine Kd.C_drew ?_)))
             (case side4=>exact HC337_0.out)
             rintro e w80 ⟨v339,rfl,ho0,hb⟩
             have HS1_:=(hb.cell (World.block_lt_of_cell? _ _ (hHeld.2))).trans (hHeld.2)
             refine ⟨_,rfl,?_⟩
             have n0_:=rb_ HO_4 hb
             have n1_:=rb_ HO_5 hb
             have n2_:=a0_ (Kd.S_below (by (with_reducible repeat (first | apply Kd.S_alloc | apply Kd.S_drewN | apply Kd.S_drew));exact HO_6.out) hb)
             have n3_:=rb_ HO_7 hb
             have n4_:=rb_ HO_10 hb
             have n5_:=rb_ Z311 hb
             have n6_:=rb_ HL337_0 hb
             have n7_:=a0_ (Kd.R_lower ho0 (below_size hb_))
             have n8_:=kb_ BK310 hb
             have n9_:=a0_ (Kd.C_below (c_keep_ HR337_0.out) hb)
             have n10_:=a0_ (below_step hb_ hb)
             clear HO_4
             clear HO_5
             clear HO_6
             clear HO_7
             clear HO_10
             clear Z311
             clear HL337_0
             clear BK310
             clear HR337_0
             clear HB
             have HO_4:=n0_
             have HO_5:=n1_
             have HO_6:=n2_
             have HO_7:=n3_
             have HO_10:=n4_
             have Z311:=n5_
             have HL337_0:=n6_
             have HO340:=n7_
             have BK310:=n8_
             have HR337_0:=n9_
             have HB:=n10_
             clear n0_ n1_ n2_ n3_ n4_ n5_ n6_ n7_ n8_ n9_ n10_
             (try clear hb)
             (try clear hb2)
             (try clear hk)
             (try clear hi)
             (try clear ho0)
             obtain ⟨Ao81,co81,eo81⟩:=Kd.R_slice HO340.out
             (first | subst eo81 | (injection eo81 with f1_ f2_ f3_;have f4_:=f1_.symm;have f5_:=f3_.symm;clear f1_ f2_ f3_;subst f4_;subst f5_))
             refine hK.out _ _ ⟨(blk_cell BK310.out 0).trans rfl,HS1_⟩ (fun hHeld=>?_)
             clear hK K
             refine norm_ (a':=?_) ?_ ?_
             rotate_left
             ·show Act.put _ (some 86) _ = _
              simp only [Act.put,s1_,s2_,s3_,i64_w,i32_w]
              rfl
             refine pure_ (i:=7) (N:=some 87) (v:=?_) (a':=?_) #[true,true,true,true,true,true,true,true,false,false] rfl rfl (any_of HT_.out (by kernel_rfl)) (fun _ _ _ h=>h) (Or.inl ⟨by rfl,?_⟩) ?_ ?_
             rotate_left
             ·intro w'
              go_simp
              with_reducible rfl
             rotate_left
             ·simp only [Act.put,s1_,s2_,s3_,i64_w,i32_w]
              rfl
             refine pure_ (i:=8) (N:=some 88) (v:=?_) (a':=?_) #[true,true,true,true,true,true,true,true,true,false] rfl rfl (any_of HT_.out (by kernel_rfl)) (fun _ _ _ h=>h) (Or.inl ⟨by rfl,?_⟩) ?_ ?_
             rotate_left
             ·intro w'
              go_simp
              with_reducible rfl
             rotate_left
             ·simp only [Act.put,s1_,s2_,s3_,i64_w,i32_w]
              rfl
             refine pure_ (i:=9) (N:=some 11) (v:=?_) (a':=?_) #[true,true,true,true,true,true,true,true,true,true] rfl rfl (any_of HT_.out (by kernel_rfl)) (fun _ _ _ h=>h) (Or.inl ⟨by rfl,?_⟩) ?_ ?_
             rotate_left
             ·intro w'
              go_simp
              with_reducible rfl
             rotate_left
             ·simp only [Act.put,s1_,s2_,s3_,i64_w,i32_w]
              rfl
             refine done_ (done_of HT_.out (by kernel_rfl)) ?_
             try go_wp2
             have n0_:=a0_ (Kd.R_drew HO_4.out)
             have n1_:=a0_ (Kd.R_drew HO_5.out)
             have n2_:=a0_ (Kd.S_drew HO_6.out)
             have n3_:=a0_ (Kd.R_drew HO_7.out)
             have n4_:=a0_ (Kd.R_drew HO_10.out)
             have n5_:=a0_ (Kd.R_drew Z311.out)
             have n6_:=a0_ (Kd.R_drew HL337_0.out)
             have n7_:=a0_ (Kd.R_drew HO340.out)
             have n8_:=a0_ (blk_drew BK310.out)
             have n9_:=a0_ (Kd.C_drew HR337_0.out)
             have n10_:=a0_ (below_drew1 HB.out)
             clear HO_4
             clear HO_5
             clear HO_6
             clear HO_7
             clear HO_10
             clear Z311
             clear HL337_0
             clear HO340
             clear BK310
             clear HR337_0
             clear HB
             have HO_4:=n0_
             have HO_5:=n1_
             have HO_6:=n2_
             have HO_7:=n3_
             have HO_10:=n4_
             have Z311:=n5_
             have HL337_0:=n6_
             have HO340:=n7_
             have BK310:=n8_
             have HR337_0:=n9_
             have HB:=n10_
             clear n0_ n1_ n2_ n3_ n4_ n5_ n6_ n7_ n8_ n9_ n10_
             obtain ⟨Ao83,co83,eo83⟩:=Kd.R_slice HO_10.out
             (first | subst eo83 | (injection eo83 with f1_ f2_ f3_;have f4_:=f1_.symm;have f5_:=f3_.symm;clear f1_ f2_ f3_;subst f4_;subst f5_))
             have p342 : 0 ≤ (x12_2 : Int):=of_decide_eq_true (by first | (with_reducible assumption) | assumption)
             have q342 : x12_2 < (t311.length : Int):=of_decide_eq_true (by first | (with_reducible assumption) | assumption)
             obtain ⟨ad342,A342_0,c342_0,e342,hx342_0,hl342_0,hi342_0⟩:=at_L8 (Kd.S_reads' HO_6.out).2.2 x12_2 p342 q342
             obtain rfl : ad337 = ad342:=(by injection e342)
             obtain ⟨ce342,hce342,hMe342,hcc342⟩:=Kd.S_get HO_6.out [] x12_2 p342 (by first | exact q342 | exact of_decide_eq_true (by first | (with_reducible assumption) | assumption) | (have e_:=(Kd.S_reads' HO_6.out).1;omega))
             obtain ⟨ve342_0,rfl,ge342_0⟩:=hMe342
             have hv342_0:=hcc342 0 _ rfl
             rw [Nat.add_zero,show ((Kd.slice 47 k47)).sz = 1 from rfl,Nat.mul_one] at hv342_0
             replace hv342_0:=Option.some.inj (hv342_0.symm.trans hx342_0)
             rw [hv342_0] at ge342_0
             have HL342_0:=a0_ (show Kd.R k47 47 _ _ _ _ (rd_L8 t311 x12_2) from ge342_0)
             clear hv342_0 ge342_0
             clear hcc342 hce342
             have HR342_0:=a0_ hi342_0
             have HC342_0:=a0_ hl342_0
             clear hi342_0 hl342_0
             replace p342:=eq_true p342
             replace q342:=eq_true q342
             have p343 : 0 ≤ (x12_2 : Int):=of_decide_eq_true (by first | (with_reducible assumption) | assumption)
             have q343 : x12_2 < (t307.length : Int):=of_decide_eq_true (by first | (with_reducible assumption) | assumption)
             obtain ⟨ad343,e343,hx343_0⟩:=Kd.at_int (Kd.R_reads' HO_5.out).2.2 x12_2 p343 q343
             cases e343
             replace p343:=eq_true p343
             replace q343:=eq_true q343
             refine start_ (n:=20) (S:=fun w'=>w'.cell? ⟨gb310,0,none⟩ = some (.slice Ao9 t301.length co9) ∧ w'.cell? (ad337.add (x12_2).toNat) = some (.slice A342_0 (rd_L8 t311 x12_2).length c342_0) ∧ w'.cell? (ad343.add (x12_2).toNat) = some (.int .i64 (rd t307 x12_2))) (ds:=[]) #[false,false,false,false,false,false,false,false,false,false,false,false,false,false,false,false,false,false,false,false] (by kernel_rfl) rfl rfl ⟨(blk_cell BK310.out 0).trans rfl,hx342_0,hx343_0⟩ (fun hHeld=>?_);refine with_tabW laws_FnHandleGroup.tab14 laws_FnHandleGroup.bits14 (fun HT_ HW_=>?_)
             generalize w80.drew = w82 at HO_4 HO_5 HO_6 HO_7 HO_10 Z311 HL337_0 HO340 BK310 HR337_0 HB HL342_0 HR342_0 hx342_0 hx343_0 hHeld ⊢
             refine pure_ (i:=0) (N:=some 89) (v:=?_) (a':=?_) #[true,false,false,false,false,false,false,false,false,false,false,false,false,false,false,false,false,false,false,false] rfl rfl (any_of HT_.out (by kernel_rfl)) (fun _ _ _ h=>h) (Or.inl ⟨by rfl,?_⟩) ?_ ?_
             rotate_left
             ·intro w'
              go_simp
              with_reducible rfl
             rotate_left
             ·simp only [Act.put,s1_,s2_,s3_,i64_w,i32_w]
              rfl
             refine pure_ (i:=1) (N:=some 90) (v:=?_) (a':=?_) #[true,true,false,false,false,false,false,false,false,false,false,false,false,false,false,false,false,false,false,false] rfl rfl (any_of HT_.out (by kernel_rfl)) (fun _ _ _ h=>h) (Or.inl ⟨by rfl,?_⟩) ?_ ?_
             rotate_left
             ·intro w'
              go_simp
              with_reducible rfl
             rotate_left
             ·simp only [Act.put,s1_,s2_,s3_,i64_w,i32_w]
              rfl
             refine one_ (i:=2) (N:=some 91) #[true,true,true,false,false,false,false,false,false,false,false,false,false,false,false,false,false,false,false,false] rfl rfl (one_of HT_.out (by kernel_rfl)) (by decide) (fun K hK=>?_)
             refine goes_ Try.func33 (by kernel_rfl) rfl #[.slice Ao83 t328.length co83,.int .i64 x12_2] (by rfl) rfl rfl lm_ ?_
             with_reducible refine (laws_isIn.calls k2 _ _ t328 x12_2 true _ ?side1 ?side2 A59.out).mono ?_
             (case side1=>exact cc_ (Kd.R_reads' HO_10.out).2.2)
             (case side2=>exact (Kd.R_reads' HO_10.out).2.1)
             rintro e w' ⟨rfl,⟨nd,rfl⟩⟩
             refine ⟨_,rfl,?_⟩
             refine hK.out _ _ ⟨(blk_cell BK310.out 0).trans rfl,hHeld.2.1,hHeld.2.2⟩ (fun hHeld=>?_)
             clear hK K
             refine norm_ (a':=?_) ?_ ?_
             rotate_left
             ·show Act.put _ (some 91) _ = _
              simp only [Act.put,s1_,s2_,s3_,i64_w,i32_w]
              rfl
             refine pure_ (i:=3) (N:=some 92) (v:=?_) (a':=?_) #[true,true,true,true,false,false,false,false,false,false,false,false,false,false,false,false,false,false,false,false] rfl rfl (any_of HT_.out (by kernel_rfl)) (fun _ _ _ h=>h) (Or.inl ⟨by rfl,?_⟩) ?_ ?_
             rotate_left
             ·intro w'
              go_simp
              with_reducible rfl
             rotate_left
             ·simp only [Act.put,s1_,s2_,s3_,i64_w,i32_w]
              rfl
             refine pure_ (i:=4) (N:=some 93) (v:=?_) (a':=?_) #[true,true,true,true,true,false,false,false,false,false,false,false,false,false,false,false,false,false,false,false] rfl rfl (any_of HT_.out (by kernel_rfl)) (fun _ _ _ h=>h) (Or.inl ⟨by rfl,?_⟩) ?_ ?_
             rotate_left
             ·intro w'
              go_simp
              with_reducible rfl
             rotate_left
             ·simp only [Act.put,s1_,s2_,s3_,i64_w,i32_w]
              rfl
             refine pure_ (i:=5) (N:=some 94) (v:=?_) (a':=?_) #[true,true,true,true,true,true,false,false,false,false,false,false,false,false,false,false,false,false,false,false] rfl rfl (any_of HT_.out (by kernel_rfl)) (fun _ _ _ h=>h) (Or.inl ⟨by rfl,?_⟩) ?_ ?_
             rotate_left
             ·intro w'
              go_simp
              with_reducible rfl
             rotate_left
             ·simp only [Act.put,s1_,s2_,s3_,i64_w,i32_w]
              rfl
             refine pure_ (i:=6) (N:=some 95) (v:=?_) (a':=?_) #[true,true,true,true,true,true,true,false,false,false,false,false,false,false,false,false,false,false,false,false] rfl rfl (any_of HT_.out (by kernel_rfl)) (fun _ _ _ h=>h) (Or.inl ⟨by rfl,?_⟩) ?_ ?_
             rotate_left
             ·intro w'
              go_simp
              with_reducible rfl
             rotate_left
             ·simp only [Act.put,s1_,s2_,s3_,i64_w,i32_w]
              rfl
             refine take_ (i:=7) (N:=some 96) (v:=?_) (a':=?_) #[true,true,true,true,true,true,true,true,false,false,false,false,false,false,false,false,false,false,false,false] rfl rfl (take_ofW HT_.out HW_.out (by kernel_rfl)) (fun _ _ _ h=>h) (Or.inl ⟨by rfl,?_⟩) hHeld ?_ ?_
             rotate_left
             ·rintro w' ⟨s0,s1,s2⟩
              go_simp
              with_reducible rfl
             rotate_left
             ·simp only [Act.put,s1_,s2_,s3_,i64_w,i32_w]
              rfl
             refine pure_ (i:=8) (N:=some 97) (v:=?_) (a':=?_) #[true,true,true,true,true,true,true,true,true,false,false,false,false,false,false,false,false,false,false,false] rfl rfl (any_of HT_.out (by kernel_rfl)) (fun _ _ _ h=>h) (Or.inl ⟨by rfl,?_⟩) ?_ ?_
             rotate_left
             ·intro w'
              go_simp
              with_reducible rfl
             rotate_left
             ·simp only [Act.put,s1_,s2_,s3_,i64_w,i32_w]
              rfl
             refine pure_ (i:=9) (N:=some 98) (v:=?_) (a':=?_) #[true,true,true,true,true,true,true,true,true,true,false,false,false,false,false,false,false,false,false,false] rfl rfl (any_of HT_.out (by kernel_rfl)) (fun _ _ _ h=>h) (Or.inl ⟨by rfl,?_⟩) ?_ ?_
             rotate_left
             ·intro w'
              go_simp
              with_reducible rfl
             rotate_left
             ·simp only [Act.put,s1_,s2_,s3_,i64_w,i32_w]
              rfl
             refine pure_ (i:=10) (N:=some 99) (v:=?_) (a':=?_) #[true,true,true,true,true,true,true,true,true,true,true,false,false,false,false,false,false,false,false,false] rfl rfl (any_of HT_.out (by kernel_rfl)) (fun _ _ _ h=>h) (Or.inl ⟨by rfl,?_⟩) ?_ ?_
             rotate_left
             ·intro w'
              go_simp
              with_reducible rfl
             rotate_left
             ·simp only [Act.put,s1_,s2_,s3_,i64_w,i32_w]
              rfl
             refine pure_ (i:=11) (N:=some 100) (v:=?_) (a':=?_) #[true,true,true,true,true,true,true,true,true,true,true,true,false,false,false,false,false,false,false,false] rfl rfl (any_of HT_.out (by kernel_rfl)) (fun _ _ _ h=>h) (Or.inl ⟨by rfl,?_⟩) ?_ ?_
             rotate_left
             ·intro w'
              go_simp
              with_reducible rfl
             rotate_left
             ·simp only [Act.put,s1_,s2_,s3_,i64_w,i32_w]
              rfl
             refine pure_ (i:=13) (N:=some 102) (v:=?_) (a':=?_) #[true,true,true,true,true,true,true,true,true,true,true,true,false,true,false,false,false,false,false,false] rfl rfl (any_of HT_.out (by kernel_rfl)) (fun _ _ _ h=>h) (Or.inl ⟨by rfl,?_⟩) ?_ ?_
             rotate_left
             ·intro w'
              go_simp
              with_reducible rfl
             rotate_left
             ·simp only [Act.put,s1_,s2_,s3_,i64_w,i32_w]
              rfl
             refine pure_ (i:=14) (N:=some 103) (v:=?_) (a':=?_) #[true,true,true,true,true,true,true,true,true,true,true,true,false,true,true,false,false,false,false,false] rfl rfl (any_of HT_.out (by kernel_rfl)) (fun _ _ _ h=>h) (Or.inl ⟨by rfl,?_⟩) ?_ ?_
             rotate_left
             ·intro w'
              go_simp
              with_reducible rfl
             rotate_left
             ·simp only [Act.put,s1_,s2_,s3_,i64_w,i32_w]
              rfl
             refine pure_ (i:=15) (N:=some 104) (v:=?_) (a':=?_) #[true,true,true,true,true,true,true,true,true,true,true,true,false,true,true,true,false,false,false,false] rfl rfl (any_of HT_.out (by kernel_rfl)) (fun _ _ _ h=>h) (Or.inl ⟨by rfl,?_⟩) ?_ ?_
             rotate_left
             ·intro w'
              go_simp
              with_reducible rfl
             rotate_left
             ·simp only [Act.put,s1_,s2_,s3_,i64_w,i32_w]
              rfl
             refine pure_ (i:=16) (N:=some 105) (v:=?_) (a':=?_) #[true,true,true,true,true,true,true,true,true,true,true,true,false,true,true,true,true,false,false,false] rfl rfl (any_of HT_.out (by kernel_rfl)) (fun _ _ _ h=>h) (Or.inl ⟨by rfl,?_⟩) ?_ ?_
             rotate_left
             ·intro w'
              go_simp
              with_reducible rfl
             rotate_left
             ·simp only [Act.put,s1_,s2_,s3_,i64_w,i32_w]
              rfl
             refine take_ (i:=12) (N:=some 101) (v:=?_) (a':=?_) #[true,true,true,true,true,true,true,true,true,true,true,true,true,true,true,true,true,false,false,false] rfl rfl (take_ofW HT_.out HW_.out (by kernel_rfl)) (fun _ _ _ h=>h) (Or.inl ⟨by rfl,?_⟩) hHeld ?_ ?_
             rotate_left
             ·rintro w' ⟨s0,s1,s2⟩
              go_simp
              with_reducible rfl
             rotate_left
             ·simp only [Act.put,s1_,s2_,s3_,i64_w,i32_w]
              rfl
             refine take_ (i:=17) (N:=some 106) (v:=?_) (a':=?_) #[true,true,true,true,true,true,true,true,true,true,true,true,true,true,true,true,true,true,false,false] rfl rfl (take_ofW HT_.out HW_.out (by kernel_rfl)) (fun _ _ _ h=>h) (Or.inl ⟨by rfl,?_⟩) hHeld ?_ ?_
             rotate_left
             ·rintro w' ⟨s0,s1,s2⟩
              go_simp
              with_reducible rfl
             rotate_left
             ·simp only [Act.put,s1_,s2_,s3_,i64_w,i32_w]
              rfl
             refine one_ (i:=18) (N:=some 107) #[true,true,true,true,true,true,true,true,true,true,true,true,true,true,true,true,true,true,true,false] rfl rfl (one_of HT_.out (by kernel_rfl)) (by decide) (fun K hK=>?_)
             refine goes_ Try.func20 (by kernel_rfl) rfl #[.agg #[.slice Ao9 t301.length co9],.slice Ao53 t314.length co53,.int .i64 (rd t307 x12_2)] (by rfl) rfl rfl lm_ ?_
             with_reducible refine (impl_HasClass.calls _ _ t301 _ _ t314 (rd t307 x12_2) false _ ?side1 ?side2 ?side3 ?side4 A69.out).mono ?_
             (case side1=>exact cc_ (Kd.R_reads' Z311.out).2.2)
             (case side2=>exact (Kd.R_reads' Z311.out).2.1)
             (case side3=>exact cc_ (Kd.R_reads' HO_7.out).2.2)
             (case side4=>exact (Kd.R_reads' HO_7.out).2.1)
             rintro e w84 ⟨rfl,hb⟩
             have HS1_:=(hb.cell (World.block_lt_of_cell? _ _ (hHeld.2.1))).trans (hHeld.2.1)
             have HS2_:=(hb.cell (World.block_lt_of_cell? _ _ (hHeld.2.2))).trans (hHeld.2.2)
             refine ⟨_,rfl,?_⟩
             have n0_:=rb_ HO_4 hb
             have n1_:=rb_ HO_5 hb
             have n2_:=a0_ (Kd.S_below (by (with_reducible repeat (first | apply Kd.S_alloc | apply Kd.S_drewN | apply Kd.S_drew));exact HO_6.out) hb)
             have n3_:=rb_ HO_7 hb
             have n4_:=rb_ HO_10 hb
             have n5_:=rb_ Z311 hb
             have n6_:=rb_ HL337_0 hb
             have n7_:=rb_ HO340 hb
             have n8_:=rb_ HL342_0 hb
             have n9_:=kb_ BK310 hb
             have n10_:=a0_ (Kd.C_below (c_keep_ HR337_0.out) hb)
             have n11_:=a0_ (Kd.C_below (c_keep_ HR342_0.out) hb)
             have n12_:=a0_ (below_step hb_ hb)
             clear HO_4
             clear HO_5
             clear HO_6
             clear HO_7
             clear HO_10
             clear Z311
             clear HL337_0
             clear HO340
             clear HL342_0
             clear BK310
             clear HR337_0
             clear HR342_0
             clear HB
             have HO_4:=n0_
             have HO_5:=n1_
             have HO_6:=n2_
             have HO_7:=n3_
             have HO_10:=n4_
             have Z311:=n5_
             have HL337_0:=n6_
             have HO340:=n7_
             have HL342_0:=n8_
             have BK310:=n9_
             have HR337_0:=n10_
             have HR342_0:=n11_
             have HB:=n12_
             clear n0_ n1_ n2_ n3_ n4_ n5_ n6_ n7_ n8_ n9_ n10_ n11_ n12_
             (try clear hb)
             (try clear hb2)
             (try clear hk)
             (try clear hi)
             refine hK.out _ _ ⟨(blk_cell BK310.out 0).trans rfl,HS1_,HS2_⟩ (fun hHeld=>?_)
             clear hK K
             refine norm_ (a':=?_) ?_ ?_
             rotate_left
             ·show Act.put _ (some 107) _ = _
              simp only [Act.put,s1_,s2_,s3_,i64_w,i32_w]
              rfl
             refine pure_ (i:=19) (N:=some 108) (v:=?_) (a':=?_) #[true,true,true,true,true,true,true,true,true,true,true,true,true,true,true,true,true,true,true,true] rfl rfl (any_of HT_.out (by kernel_rfl)) (fun _ _ _ h=>h) (Or.inl ⟨by rfl,?_⟩) ?_ ?_
             rotate_left
             ·intro w'
              go_simp
              with_reducible rfl
             rotate_left
             ·simp only [Act.put,s1_,s2_,s3_,i64_w,i32_w]
              rfl
             refine done_ (done_of HT_.out (by kernel_rfl)) ?_
             try go_wp2
             go_roundg k2
             case measure=>have:=HJ5.out;have:=HK2.out;omega
             case rel=>exact ⟨(wrap64 (x11_2 + (t338.length : Int))),(wrap64 (x12_2 + 1)),(by first | rfl | (simp;done) | (simp [*];done)),(by first | rfl | (simp;done) | (simp [*];done)),H',⟨by have:=HJ5.out;have:=HK2.out;omega⟩,⟨by (with_reducible repeat (first | apply Kd.R_alloc | apply Kd.R_drewN | apply Kd.R_drew));exact HO_4.out⟩,⟨by (with_reducible repeat (first | apply Kd.R_alloc | apply Kd.R_drewN | apply Kd.R_drew));exact HO_5.out⟩,⟨by (with_reducible repeat (first | apply Kd.S_alloc | apply Kd.S_drewN | apply Kd.S_drew));exact HO_6.out⟩,⟨by (with_reducible repeat (first | apply Kd.R_alloc | apply Kd.R_drewN | apply Kd.R_drew));exact HO_7.out⟩,⟨by (with_reducible repeat (first | apply Kd.R_alloc | apply Kd.R_drewN | apply Kd.R_drew));exact HO_10.out⟩,⟨by (with_reducible repeat (first | apply Kd.R_alloc | apply Kd.R_drewN | apply Kd.R_drew));exact Z311.out⟩,⟨by (with_reducible repeat (first | refine blk_drewN ?_ _ | refine blk_drew ?_ | refine blk_alloc ?_ _));exact BK310.out⟩,⟨hb_⟩⟩
           ·rw [if_neg c68] at H
            exact absurd H (by simp)
         ·replace c60:=Bool.eq_false_iff.mpr c60
          subst c60
          have H1 : (if x12_2 < (t307.length : Int) then ((impl_HasClass.f t301 t314 (rd t307 x12_2)).bind fun t346=>(if t346 = true then (some false) else (laws_FnHandleGroup.l0 k2 t304 t307 t311 t314 t328 (wrap64 (x11_2 + (t338.length : Int))) (wrap64 (x12_2 + 1)) t301))) else (none)) = some r:=by rw [if_neg (show ¬ (false = true) by decide)] at H;exact H
          clear H
          have H:=H1
          clear H1
          by_cases c85 : x12_2 < (t307.length : Int)
          ·rw [if_pos c85] at H
           have c85b0 : decide (x12_2 < (t307.length : Int)) = true:=decide_eq_true c85
           clear c85
           replace H:=Option.bind_eq_some_iff.mp H
           obtain ⟨t346,A860,H⟩:=H
           try dsimp only at H
           have A86:=a0_ A860
           clear A860
           by_cases c87 : t346 = true
           ·subst c87
            have H1 : (some false) = some r:=by rw [if_pos rfl] at H;exact H
            clear H
            have H:=H1
            clear H1
            obtain rfl:=Option.some.inj H
            obtain ⟨Ao88,co88,eo88⟩:=Kd.S_slice HO_6.out
            subst eo88
            try go_wp2
            have n0_:=a0_ (Kd.R_drew HO_4.out)
            have n1_:=a0_ (Kd.R_drew HO_5.out)
            have n2_:=a0_ (Kd.S_drew HO_6.out)
            have n3_:=a0_ (Kd.R_drew HO_7.out)
            have n4_:=a0_ (Kd.R_drew HO_10.out)
            have n5_:=a0_ (Kd.R_drew Z311.out)
            have n6_:=a0_ (blk_drew BK310.out)
            have n7_:=a0_ (below_drew1 HB.out)
            clear HO_4
            clear HO_5
            clear HO_6
            clear HO_7
            clear HO_10
            clear Z311
            clear BK310
            clear HB
            have HO_4:=n0_
            have HO_5:=n1_
            have HO_6:=n2_
            have HO_7:=n3_
            have HO_10:=n4_
            have Z311:=n5_
            have BK310:=n6_
            have HB:=n7_
            clear n0_ n1_ n2_ n3_ n4_ n5_ n6_ n7_
            have p337 : 0 ≤ (x12_2 : Int):=of_decide_eq_true (by first | (with_reducible assumption) | assumption)
            have q337 : x12_2 < (t311.length : Int):=of_decide_eq_true (by first | (with_reducible assumption) | assumption)
            obtain ⟨ad337,A337_0,c337_0,e337,hx337_0,hl337_0,hi337_0⟩:=at_L8 (Kd.S_reads' HO_6.out).2.2 x12_2 p337 q337
            cases e337
            obtain ⟨ce337,hce337,hMe337,hcc337⟩:=Kd.S_get HO_6.out [] x12_2 p337 (by first | exact q337 | exact of_decide_eq_true (by first | (with_reducible assumption) | assumption) | (have e_:=(Kd.S_reads' HO_6.out).1;omega))
            obtain ⟨ve337_0,rfl,ge337_0⟩:=hMe337
            have hv337_0:=hcc337 0 _ rfl
            rw [Nat.add_zero,show ((Kd.slice 47 k47)).sz = 1 from rfl,Nat.mul_one] at hv337_0
            replace hv337_0:=Option.some.inj (hv337_0.symm.trans hx337_0)
            rw [hv337_0] at ge337_0
            have HL337_0:=a0_ (show Kd.R k47 47 _ _ _ _ (rd_L8 t311 x12_2) from ge337_0)
            clear hv337_0 ge337_0
            clear hcc337 hce337
            have HR337_0:=a0_ hi337_0
            have HC337_0:=a0_ hl337_0
            clear hi337_0 hl337_0
            replace p337:=eq_true p337
            replace q337:=eq_true q337
            refine start_ (n:=10) (S:=fun w'=>w'.cell? ⟨gb310,0,none⟩ = some (.slice Ao9 t301.length co9) ∧ w'.cell? (ad337.add (x12_2).toNat) = some (.slice A337_0 (rd_L8 t311 x12_2).length c337_0)) (ds:=[]) #[false,false,false,false,false,false,false,false,false,false] (by kernel_rfl) rfl rfl ⟨(blk_cell BK310.out 0).trans rfl,hx337_0⟩ (fun hHeld=>?_);refine with_tabW laws_FnHandleGroup.tab13 laws_FnHandleGroup.bits13 (fun HT_ HW_=>?_)
            generalize wr.drew = w89 at HO_4 HO_5 HO_6 HO_7 HO_10 Z311 BK310 HB HL337_0 HR337_0 hx337_0 hHeld ⊢
            refine pure_ (i:=0) (N:=some 80) (v:=?_) (a':=?_) #[true,false,false,false,false,false,false,false,false,false] rfl rfl (any_of HT_.out (by kernel_rfl)) (fun _ _ _ h=>h) (Or.inl ⟨by rfl,?_⟩) ?_ ?_
            rotate_left
            ·intro w'
             go_simp
             with_reducible rfl
            rotate_left
            ·simp only [Act.put,s1_,s2_,s3_,i64_w,i32_w]
             rfl
            refine pure_ (i:=2) (N:=some 82) (v:=?_) (a':=?_) #[true,false,true,false,false,false,false,false,false,false] rfl rfl (any_of HT_.out (by kernel_rfl)) (fun _ _ _ h=>h) (Or.inl ⟨by rfl,?_⟩) ?_ ?_
            rotate_left
            ·intro w'
             go_simp
             with_reducible rfl
            rotate_left
            ·simp only [Act.put,s1_,s2_,s3_,i64_w,i32_w]
             rfl
            refine pure_ (i:=3) (N:=some 83) (v:=?_) (a':=?_) #[true,false,true,true,false,false,false,false,false,false] rfl rfl (any_of HT_.out (by kernel_rfl)) (fun _ _ _ h=>h) (Or.inl ⟨by rfl,?_⟩) ?_ ?_
            rotate_left
            ·intro w'
             go_simp
             with_reducible rfl
            rotate_left
            ·simp only [Act.put,s1_,s2_,s3_,i64_w,i32_w]
             rfl
            refine pure_ (i:=4) (N:=some 84) (v:=?_) (a':=?_) #[true,false,true,true,true,false,false,false,false,false] rfl rfl (any_of HT_.out (by kernel_rfl)) (fun _ _ _ h=>h) (Or.inl ⟨by rfl,?_⟩) ?_ ?_
            rotate_left
            ·intro w'
             go_simp
             with_reducible rfl
            rotate_left
            ·simp only [Act.put,s1_,s2_,s3_,i64_w,i32_w]
             rfl
            refine take_ (i:=1) (N:=some 81) (v:=?_) (a':=?_) #[true,true,true,true,true,false,false,false,false,false] rfl rfl (take_ofW HT_.out HW_.out (by kernel_rfl)) (fun _ _ _ h=>h) (Or.inl ⟨by rfl,?_⟩) hHeld ?_ ?_
            rotate_left
            ·rintro w' ⟨s0,s1⟩
             go_simp
             with_reducible rfl
            rotate_left
            ·simp only [Act.put,s1_,s2_,s3_,i64_w,i32_w]
             rfl
            refine take_ (i:=5) (N:=some 85) (v:=?_) (a':=?_) #[true,true,true,true,true,true,false,false,false,false] rfl rfl (take_ofW HT_.out HW_.out (by kernel_rfl)) (fun _ _ _ h=>h) (Or.inl ⟨by rfl,?_⟩) hHeld ?_ ?_
            rotate_left
            ·rintro w' ⟨s0,s1⟩
             go_simp
             with_reducible rfl
            rotate_left
            ·simp only [Act.put,s1_,s2_,s3_,i64_w,i32_w]
             rfl
            refine one_ (i:=6) (N:=some 86) #[true,true,true,true,true,true,true,false,false,false] rfl rfl (one_of HT_.out (by kernel_rfl)) (by decide) (fun K hK=>?_)
            refine goes_ Try.func17 (by kernel_rfl) rfl #[.agg #[.slice Ao9 t301.length co9],.slice A337_0 (rd_L8 t311 x12_2).length c337_0] (by rfl) rfl rfl lm_ ?_
            with_reducible refine (impl_LeavesOf.calls k2 _ _ t301 _ _ (rd_L8 t311 x12_2) t338 _ ?side1 ?side2 ?side3 ?side4 A58.out).mono ?_
            (case side1=>exact cc_ (Kd.R_reads' Z311.out).2.2)
            (case side2=>exact (Kd.R_reads' Z311.out).2.1)
            (case side3=>repeat (first | exact (by repeat (first | (with_reducible exact HR337_0.out) | (with_reducible refine Kd.C_alloc ?_ _) | (with_reducible refine Kd.C_drewN ?_ _) | (with_reducible refine Kd.C_drew ?_) | exact HR337_0.out)) | (with_reducible refine Kd.C_alloc ?_ _) | (with_reducible refine Kd.C_drewN ?_ _) | (with_reducible refine Kd.C_drew ?_)))
            (case side4=>exact HC337_0.out)
            rintro e w90 ⟨v339,rfl,ho0,hb⟩
            have HS1_:=(hb.cell (World.block_lt_of_cell? _ _ (hHeld.2))).trans (hHeld.2)
            refine ⟨_,rfl,?_⟩
            have n0_:=rb_ HO_4 hb
            have n1_:=rb_ HO_5 hb
            have n2_:=a0_ (Kd.S_below (by (with_reducible repeat (first | apply Kd.S_alloc | apply Kd.S_drewN | apply Kd.S_drew));exact HO_6.out) hb)
            have n3_:=rb_ HO_7 hb
            have n4_:=rb_ HO_10 hb
            have n5_:=rb_ Z311 hb
            have n6_:=rb_ HL337_0 hb
            have n7_:=a0_ (Kd.R_lower ho0 (below_size hb_))
            have n8_:=kb_ BK310 hb
            have n9_:=a0_ (Kd.C_below (c_keep_ HR337_0.out) hb)
            have n10_:=a0_ (below_step hb_ hb)
            clear HO_4
            clear HO_5
            clear HO_6
            clear HO_7
            clear HO_10
            clear Z311
            clear HL337_0
            clear BK310
            clear HR337_0
            clear HB
            have HO_4:=n0_
            have HO_5:=n1_
            have HO_6:=n2_
            have HO_7:=n3_
            have HO_10:=n4_
            have Z311:=n5_
            have HL337_0:=n6_
            have HO340:=n7_
            have BK310:=n8_
            have HR337_0:=n9_
            have HB:=n10_
            clear n0_ n1_ n2_ n3_ n4_ n5_ n6_ n7_ n8_ n9_ n10_
            (try clear hb)
            (try clear hb2)
            (try clear hk)
            (try clear hi)
            (try clear ho0)
            obtain ⟨Ao91,co91,eo91⟩:=Kd.R_slice HO340.out
            (first | subst eo91 | (injection eo91 with f1_ f2_ f3_;have f4_:=f1_.symm;have f5_:=f3_.symm;clear f1_ f2_ f3_;subst f4_;subst f5_))
            refine hK.out _ _ ⟨(blk_cell BK310.out 0).trans rfl,HS1_⟩ (fun hHeld=>?_)
            clear hK K
            refine norm_ (a':=?_) ?_ ?_
            rotate_left
            ·show Act.put _ (some 86) _ = _
             simp only [Act.put,s1_,s2_,s3_,i64_w,i32_w]
             rfl
            refine pure_ (i:=7) (N:=some 87) (v:=?_) (a':=?_) #[true,true,true,true,true,true,true,true,false,false] rfl rfl (any_of HT_.out (by kernel_rfl)) (fun _ _ _ h=>h) (Or.inl ⟨by rfl,?_⟩) ?_ ?_
            rotate_left
            ·intro w'
             go_simp
             with_reducible rfl
            rotate_left
            ·simp only [Act.put,s1_,s2_,s3_,i64_w,i32_w]
             rfl
            refine pure_ (i:=8) (N:=some 88) (v:=?_) (a':=?_) #[true,true,true,true,true,true,true,true,true,false] rfl rfl (any_of HT_.out (by kernel_rfl)) (fun _ _ _ h=>h) (Or.inl ⟨by rfl,?_⟩) ?_ ?_
            rotate_left
            ·intro w'
             go_simp
             with_reducible rfl
            rotate_left
            ·simp only [Act.put,s1_,s2_,s3_,i64_w,i32_w]
             rfl
            refine pure_ (i:=9) (N:=some 11) (v:=?_) (a':=?_) #[true,true,true,true,true,true,true,true,true,true] rfl rfl (any_of HT_.out (by kernel_rfl)) (fun _ _ _ h=>h) (Or.inl ⟨by rfl,?_⟩) ?_ ?_
            rotate_left
            ·intro w'
             go_simp
             with_reducible rfl
            rotate_left
            ·simp only [Act.put,s1_,s2_,s3_,i64_w,i32_w]
             rfl
            refine done_ (done_of HT_.out (by kernel_rfl)) ?_
            try go_wp2
            have n0_:=a0_ (Kd.R_drew HO_4.out)
            have n1_:=a0_ (Kd.R_drew HO_5.out)
            have n2_:=a0_ (Kd.S_drew HO_6.out)
            have n3_:=a0_ (Kd.R_drew HO_7.out)
            have n4_:=a0_ (Kd.R_drew HO_10.out)
            have n5_:=a0_ (Kd.R_drew Z311.out)
            have n6_:=a0_ (Kd.R_drew HL337_0.out)
            have n7_:=a0_ (Kd.R_drew HO340.out)
            have n8_:=a0_ (blk_drew BK310.out)
            have n9_:=a0_ (Kd.C_drew HR337_0.out)
            have n10_:=a0_ (below_drew1 HB.out)
            clear HO_4
            clear HO_5
            clear HO_6
            clear HO_7
            clear HO_10
            clear Z311
            clear HL337_0
            clear HO340
            clear BK310
            clear HR337_0
            clear HB
            have HO_4:=n0_
            have HO_5:=n1_
            have HO_6:=n2_
            have HO_7:=n3_
            have HO_10:=n4_
            have Z311:=n5_
            have HL337_0:=n6_
            have HO340:=n7_
            have BK310:=n8_
            have HR337_0:=n9_
            have HB:=n10_
            clear n0_ n1_ n2_ n3_ n4_ n5_ n6_ n7_ n8_ n9_ n10_
            obtain ⟨Ao93,co93,eo93⟩:=Kd.R_slice HO_10.out
            (first | subst eo93 | (injection eo93 with f1_ f2_ f3_;have f4_:=f1_.symm;have f5_:=f3_.symm;clear f1_ f2_ f3_;subst f4_;subst f5_))
            have p345 : 0 ≤ (x12_2 : Int):=of_decide_eq_true (by first | (with_reducible assumption) | assumption)
            have q345 : x12_2 < (t307.length : Int):=of_decide_eq_true (by first | (with_reducible assumption) | assumption)
            obtain ⟨ad345,e345,hx345_0⟩:=Kd.at_int (Kd.R_reads' HO_5.out).2.2 x12_2 p345 q345
            cases e345
            replace p345:=eq_true p345
            replace q345:=eq_true q345
            refine start_ (n:=20) (S:=fun w'=>w'.cell? ⟨gb310,0,none⟩ = some (.slice Ao9 t301.length co9) ∧ w'.cell? (ad345.add (x12_2).toNat) = some (.int .i64 (rd t307 x12_2))) (ds:=[]) #[false,false,false,false,false,false,false,false,false,false,false,false,false,false,false,false,false,false,false,false] (by kernel_rfl) rfl rfl ⟨(blk_cell BK310.out 0).trans rfl,hx345_0⟩ (fun hHeld=>?_);refine with_tabW laws_FnHandleGroup.tab14 laws_FnHandleGroup.bits14 (fun HT_ HW_=>?_)
            generalize w90.drew = w92 at HO_4 HO_5 HO_6 HO_7 HO_10 Z311 HL337_0 HO340 BK310 HR337_0 HB hx345_0 hHeld ⊢
            refine pure_ (i:=0) (N:=some 89) (v:=?_) (a':=?_) #[true,false,false,false,false,false,false,false,false,false,false,false,false,false,false,false,false,false,false,false] rfl rfl (any_of HT_.out (by kernel_rfl)) (fun _ _ _ h=>h) (Or.inl ⟨by rfl,?_⟩) ?_ ?_
            rotate_left
            ·intro w'
             go_simp
             with_reducible rfl
            rotate_left
            ·simp only [Act.put,s1_,s2_,s3_,i64_w,i32_w]
             rfl
            refine pure_ (i:=1) (N:=some 90) (v:=?_) (a':=?_) #[true,true,false,false,false,false,false,false,false,false,false,false,false,false,false,false,false,false,false,false] rfl rfl (any_of HT_.out (by kernel_rfl)) (fun _ _ _ h=>h) (Or.inl ⟨by rfl,?_⟩) ?_ ?_
            rotate_left
            ·intro w'
             go_simp
             with_reducible rfl
            rotate_left
            ·simp only [Act.put,s1_,s2_,s3_,i64_w,i32_w]
             rfl
            refine one_ (i:=2) (N:=some 91) #[true,true,true,false,false,false,false,false,false,false,false,false,false,false,false,false,false,false,false,false] rfl rfl (one_of HT_.out (by kernel_rfl)) (by decide) (fun K hK=>?_)
            refine goes_ Try.func33 (by kernel_rfl) rfl #[.slice Ao93 t328.length co93,.int .i64 x12_2] (by rfl) rfl rfl lm_ ?_
            with_reducible refine (laws_isIn.calls k2 _ _ t328 x12_2 false _ ?side1 ?side2 A59.out).mono ?_
            (case side1=>exact cc_ (Kd.R_reads' HO_10.out).2.2)
            (case side2=>exact (Kd.R_reads' HO_10.out).2.1)
            rintro e w' ⟨rfl,⟨nd,rfl⟩⟩
            refine ⟨_,rfl,?_⟩
            refine hK.out _ _ ⟨(blk_cell BK310.out 0).trans rfl,hHeld.2⟩ (fun hHeld=>?_)
            clear hK K
            refine norm_ (a':=?_) ?_ ?_
            rotate_left
            ·show Act.put _ (some 91) _ = _
             simp only [Act.put,s1_,s2_,s3_,i64_w,i32_w]
             rfl
            refine pure_ (i:=3) (N:=some 92) (v:=?_) (a':=?_) #[true,true,true,true,false,false,false,false,false,false,false,false,false,false,false,false,false,false,false,false] rfl rfl (any_of HT_.out (by kernel_rfl)) (fun _ _ _ h=>h) (Or.inl ⟨by rfl,?_⟩) ?_ ?_
            rotate_left
            ·intro w'
             go_simp
             with_reducible rfl
            rotate_left
            ·simp only [Act.put,s1_,s2_,s3_,i64_w,i32_w]
             rfl
            refine pure_ (i:=4) (N:=some 93) (v:=undef) (a':=?_) #[true,true,true,true,true,false,false,false,false,false,false,false,false,false,false,false,false,false,false,false] rfl rfl (any_of HT_.out (by kernel_rfl)) (fun _ _ _ h=>h) (Or.inr ⟨by rfl,rfl⟩) ?_ ?_
            rotate_left
            ·simp only [Act.put,s1_,s2_,s3_,i64_w,i32_w]
             rfl
            refine pure_ (i:=5) (N:=some 94) (v:=undef) (a':=?_) #[true,true,true,true,true,true,false,false,false,false,false,false,false,false,false,false,false,false,false,false] rfl rfl (any_of HT_.out (by kernel_rfl)) (fun _ _ _ h=>h) (Or.inr ⟨by rfl,rfl⟩) ?_ ?_
            rotate_left
            ·simp only [Act.put,s1_,s2_,s3_,i64_w,i32_w]
             rfl
            refine pure_ (i:=6) (N:=some 95) (v:=undef) (a':=?_) #[true,true,true,true,true,true,true,false,false,false,false,false,false,false,false,false,false,false,false,false] rfl rfl (any_of HT_.out (by kernel_rfl)) (fun _ _ _ h=>h) (Or.inr ⟨by rfl,rfl⟩) ?_ ?_
            rotate_left
            ·simp only [Act.put,s1_,s2_,s3_,i64_w,i32_w]
             rfl
            refine pure_ (i:=7) (N:=some 96) (v:=undef) (a':=?_) #[true,true,true,true,true,true,true,true,false,false,false,false,false,false,false,false,false,false,false,false] rfl rfl (any_of HT_.out (by kernel_rfl)) (fun _ _ _ h=>h) (Or.inr ⟨by rfl,rfl⟩) ?_ ?_
            rotate_left
            ·simp only [Act.put,s1_,s2_,s3_,i64_w,i32_w]
             rfl
            refine pure_ (i:=8) (N:=some 97) (v:=undef) (a':=?_) #[true,true,true,true,true,true,true,true,true,false,false,false,false,false,false,false,false,false,false,false] rfl rfl (any_of HT_.out (by kernel_rfl)) (fun _ _ _ h=>h) (Or.inr ⟨by rfl,rfl⟩) ?_ ?_
            rotate_left
            ·simp only [Act.put,s1_,s2_,s3_,i64_w,i32_w]
             rfl
            refine pure_ (i:=9) (N:=some 98) (v:=undef) (a':=?_) #[true,true,true,true,true,true,true,true,true,true,false,false,false,false,false,false,false,false,false,false] rfl rfl (any_of HT_.out (by kernel_rfl)) (fun _ _ _ h=>h) (Or.inr ⟨by rfl,rfl⟩) ?_ ?_
            rotate_left
            ·simp only [Act.put,s1_,s2_,s3_,i64_w,i32_w]
             rfl
            refine pure_ (i:=10) (N:=some 99) (v:=?_) (a':=?_) #[true,true,true,true,true,true,true,true,true,true,true,false,false,false,false,false,false,false,false,false] rfl rfl (any_of HT_.out (by kernel_rfl)) (fun _ _ _ h=>h) (Or.inl ⟨by rfl,?_⟩) ?_ ?_
            rotate_left
            ·intro w'
             go_simp
             with_reducible rfl
            rotate_left
            ·simp only [Act.put,s1_,s2_,s3_,i64_w,i32_w]
             rfl
            refine pure_ (i:=11) (N:=some 100) (v:=?_) (a':=?_) #[true,true,true,true,true,true,true,true,true,true,true,true,false,false,false,false,false,false,false,false] rfl rfl (any_of HT_.out (by kernel_rfl)) (fun _ _ _ h=>h) (Or.inl ⟨by rfl,?_⟩) ?_ ?_
            rotate_left
            ·intro w'
             go_simp
             with_reducible rfl
            rotate_left
            ·simp only [Act.put,s1_,s2_,s3_,i64_w,i32_w]
             rfl
            refine pure_ (i:=13) (N:=some 102) (v:=?_) (a':=?_) #[true,true,true,true,true,true,true,true,true,true,true,true,false,true,false,false,false,false,false,false] rfl rfl (any_of HT_.out (by kernel_rfl)) (fun _ _ _ h=>h) (Or.inl ⟨by rfl,?_⟩) ?_ ?_
            rotate_left
            ·intro w'
             go_simp
             with_reducible rfl
            rotate_left
            ·simp only [Act.put,s1_,s2_,s3_,i64_w,i32_w]
             rfl
            refine pure_ (i:=14) (N:=some 103) (v:=?_) (a':=?_) #[true,true,true,true,true,true,true,true,true,true,true,true,false,true,true,false,false,false,false,false] rfl rfl (any_of HT_.out (by kernel_rfl)) (fun _ _ _ h=>h) (Or.inl ⟨by rfl,?_⟩) ?_ ?_
            rotate_left
            ·intro w'
             go_simp
             with_reducible rfl
            rotate_left
            ·simp only [Act.put,s1_,s2_,s3_,i64_w,i32_w]
             rfl
            refine pure_ (i:=15) (N:=some 104) (v:=?_) (a':=?_) #[true,true,true,true,true,true,true,true,true,true,true,true,false,true,true,true,false,false,false,false] rfl rfl (any_of HT_.out (by kernel_rfl)) (fun _ _ _ h=>h) (Or.inl ⟨by rfl,?_⟩) ?_ ?_
            rotate_left
            ·intro w'
             go_simp
             with_reducible rfl
            rotate_left
            ·simp only [Act.put,s1_,s2_,s3_,i64_w,i32_w]
             rfl
            refine pure_ (i:=16) (N:=some 105) (v:=?_) (a':=?_) #[true,true,true,true,true,true,true,true,true,true,true,true,false,true,true,true,true,false,false,false] rfl rfl (any_of HT_.out (by kernel_rfl)) (fun _ _ _ h=>h) (Or.inl ⟨by rfl,?_⟩) ?_ ?_
            rotate_left
            ·intro w'
             go_simp
             with_reducible rfl
            rotate_left
            ·simp only [Act.put,s1_,s2_,s3_,i64_w,i32_w]
             rfl
            refine take_ (i:=12) (N:=some 101) (v:=?_) (a':=?_) #[true,true,true,true,true,true,true,true,true,true,true,true,true,true,true,true,true,false,false,false] rfl rfl (take_ofW HT_.out HW_.out (by kernel_rfl)) (fun _ _ _ h=>h) (Or.inl ⟨by rfl,?_⟩) hHeld ?_ ?_
            rotate_left
            ·rintro w' ⟨s0,s1⟩
             go_simp
             with_reducible rfl
            rotate_left
            ·simp only [Act.put,s1_,s2_,s3_,i64_w,i32_w]
             rfl
            refine take_ (i:=17) (N:=some 106) (v:=?_) (a':=?_) #[true,true,true,true,true,true,true,true,true,true,true,true,true,true,true,true,true,true,false,false] rfl rfl (take_ofW HT_.out HW_.out (by kernel_rfl)) (fun _ _ _ h=>h) (Or.inl ⟨by rfl,?_⟩) hHeld ?_ ?_
            rotate_left
            ·rintro w' ⟨s0,s1⟩
             go_simp
             with_reducible rfl
            rotate_left
            ·simp only [Act.put,s1_,s2_,s3_,i64_w,i32_w]
             rfl
            refine one_ (i:=18) (N:=some 107) #[true,true,true,true,true,true,true,true,true,true,true,true,true,true,true,true,true,true,true,false] rfl rfl (one_of HT_.out (by kernel_rfl)) (by decide) (fun K hK=>?_)
            refine goes_ Try.func20 (by kernel_rfl) rfl #[.agg #[.slice Ao9 t301.length co9],.slice Ao53 t314.length co53,.int .i64 (rd t307 x12_2)] (by rfl) rfl rfl lm_ ?_
            with_reducible refine (impl_HasClass.calls _ _ t301 _ _ t314 (rd t307 x12_2) true _ ?side1 ?side2 ?side3 ?side4 A86.out).mono ?_
            (case side1=>exact cc_ (Kd.R_reads' Z311.out).2.2)
            (case side2=>exact (Kd.R_reads' Z311.out).2.1)
            (case side3=>exact cc_ (Kd.R_reads' HO_7.out).2.2)
            (case side4=>exact (Kd.R_reads' HO_7.out).2.1)
            rintro e w94 ⟨rfl,hb⟩
            have HS1_:=(hb.cell (World.block_lt_of_cell? _ _ (hHeld.2))).trans (hHeld.2)
            refine ⟨_,rfl,?_⟩
            have n0_:=rb_ HO_4 hb
            have n1_:=rb_ HO_5 hb
            have n2_:=a0_ (Kd.S_below (by (with_reducible repeat (first | apply Kd.S_alloc | apply Kd.S_drewN | apply Kd.S_drew));exact HO_6.out) hb)
            have n3_:=rb_ HO_7 hb
            have n4_:=rb_ HO_10 hb
            have n5_:=rb_ Z311 hb
            have n6_:=rb_ HL337_0 hb
            have n7_:=rb_ HO340 hb
            have n8_:=kb_ BK310 hb
            have n9_:=a0_ (Kd.C_below (c_keep_ HR337_0.out) hb)
            have n10_:=a0_ (below_step hb_ hb)
            clear HO_4
            clear HO_5
            clear HO_6
            clear HO_7
            clear HO_10
            clear Z311
            clear HL337_0
            clear HO340
            clear BK310
            clear HR337_0
            clear HB
            have HO_4:=n0_
            have HO_5:=n1_
            have HO_6:=n2_
            have HO_7:=n3_
            have HO_10:=n4_
            have Z311:=n5_
            have HL337_0:=n6_
            have HO340:=n7_
            have BK310:=n8_
            have HR337_0:=n9_
            have HB:=n10_
            clear n0_ n1_ n2_ n3_ n4_ n5_ n6_ n7_ n8_ n9_ n10_
            (try clear hb)
            (try clear hb2)
            (try clear hk)
            (try clear hi)
            refine hK.out _ _ ⟨(blk_cell BK310.out 0).trans rfl,HS1_⟩ (fun hHeld=>?_)
            clear hK K
            refine norm_ (a':=?_) ?_ ?_
            rotate_left
            ·show Act.put _ (some 107) _ = _
             simp only [Act.put,s1_,s2_,s3_,i64_w,i32_w]
             rfl
            refine pure_ (i:=19) (N:=some 108) (v:=?_) (a':=?_) #[true,true,true,true,true,true,true,true,true,true,true,true,true,true,true,true,true,true,true,true] rfl rfl (any_of HT_.out (by kernel_rfl)) (fun _ _ _ h=>h) (Or.inl ⟨by rfl,?_⟩) ?_ ?_
            rotate_left
            ·intro w'
             go_simp
             with_reducible rfl
            rotate_left
            ·simp only [Act.put,s1_,s2_,s3_,i64_w,i32_w]
             rfl
            refine done_ (done_of HT_.out (by kernel_rfl)) ?_
            try go_wp2
            go_ret
            exact ⟨by first | rfl | (simp [errW_none,errW_some] <;> rfl) | (simp [*,errW_none,errW_some] <;> rfl),hb_⟩
           ·replace c87:=Bool.eq_false_iff.mpr c87
            subst c87
            have H1 : (laws_FnHandleGroup.l0 k2 t304 t307 t311 t314 t328 (wrap64 (x11_2 + (t338.length : Int))) (wrap64 (x12_2 + 1)) t301) = some r:=by rw [if_neg (show ¬ (false = true) by decide)] at H;exact H
            clear H
            have H:=H1
            clear H1
            have H':=a0_ H
            clear H
            obtain ⟨Ao95,co95,eo95⟩:=Kd.S_slice HO_6.out
            subst eo95
            try go_wp2
            have n0_:=a0_ (Kd.R_drew HO_4.out)
            have n1_:=a0_ (Kd.R_drew HO_5.out)
            have n2_:=a0_ (Kd.S_drew HO_6.out)
            have n3_:=a0_ (Kd.R_drew HO_7.out)
            have n4_:=a0_ (Kd.R_drew HO_10.out)
            have n5_:=a0_ (Kd.R_drew Z311.out)
            have n6_:=a0_ (blk_drew BK310.out)
            have n7_:=a0_ (below_drew1 HB.out)
            clear HO_4
            clear HO_5
            clear HO_6
            clear HO_7
            clear HO_10
            clear Z311
            clear BK310
            clear HB
            have HO_4:=n0_
            have HO_5:=n1_
            have HO_6:=n2_
            have HO_7:=n3_
            have HO_10:=n4_
            have Z311:=n5_
            have BK310:=n6_
            have HB:=n7_
            clear n0_ n1_ n2_ n3_ n4_ n5_ n6_ n7_
            have p337 : 0 ≤ (x12_2 : Int):=of_decide_eq_true (by first | (with_reducible assumption) | assumption)
            have q337 : x12_2 < (t311.length : Int):=of_decide_eq_true (by first | (with_reducible assumption) | assumption)
            obtain ⟨ad337,A337_0,c337_0,e337,hx337_0,hl337_0,hi337_0⟩:=at_L8 (Kd.S_reads' HO_6.out).2.2 x12_2 p337 q337
            cases e337
            obtain ⟨ce337,hce337,hMe337,hcc337⟩:=Kd.S_get HO_6.out [] x12_2 p337 (by first | exact q337 | exact of_decide_eq_true (by first | (with_reducible assumption) | assumption) | (have e_:=(Kd.S_reads' HO_6.out).1;omega))
            obtain ⟨ve337_0,rfl,ge337_0⟩:=hMe337
            have hv337_0:=hcc337 0 _ rfl
            rw [Nat.add_zero,show ((Kd.slice 47 k47)).sz = 1 from rfl,Nat.mul_one] at hv337_0
            replace hv337_0:=Option.some.inj (hv337_0.symm.trans hx337_0)
            rw [hv337_0] at ge337_0
            have HL337_0:=a0_ (show Kd.R k47 47 _ _ _ _ (rd_L8 t311 x12_2) from ge337_0)
            clear hv337_0 ge337_0
            clear hcc337 hce337
            have HR337_0:=a0_ hi337_0
            have HC337_0:=a0_ hl337_0
            clear hi337_0 hl337_0
            replace p337:=eq_true p337
            replace q337:=eq_true q337
            refine start_ (n:=10) (S:=fun w'=>w'.cell? ⟨gb310,0,none⟩ = some (.slice Ao9 t301.length co9) ∧ w'.cell? (ad337.add (x12_2).toNat) = some (.slice A337_0 (rd_L8 t311 x12_2).length c337_0)) (ds:=[]) #[false,false,false,false,false,false,false,false,false,false] (by kernel_rfl) rfl rfl ⟨(blk_cell BK310.out 0).trans rfl,hx337_0⟩ (fun hHeld=>?_);refine with_tabW laws_FnHandleGroup.tab13 laws_FnHandleGroup.bits13 (fun HT_ HW_=>?_)
            generalize wr.drew = w96 at HO_4 HO_5 HO_6 HO_7 HO_10 Z311 BK310 HB HL337_0 HR337_0 hx337_0 hHeld ⊢
            refine pure_ (i:=0) (N:=some 80) (v:=?_) (a':=?_) #[true,false,false,false,false,false,false,false,false,false] rfl rfl (any_of HT_.out (by kernel_rfl)) (fun _ _ _ h=>h) (Or.inl ⟨by rfl,?_⟩) ?_ ?_
            rotate_left
            ·intro w'
             go_simp
             with_reducible rfl
            rotate_left
            ·simp only [Act.put,s1_,s2_,s3_,i64_w,i32_w]
             rfl
            refine pure_ (i:=2) (N:=some 82) (v:=?_) (a':=?_) #[true,false,true,false,false,false,false,false,false,false] rfl rfl (any_of HT_.out (by kernel_rfl)) (fun _ _ _ h=>h) (Or.inl ⟨by rfl,?_⟩) ?_ ?_
            rotate_left
            ·intro w'
             go_simp
             with_reducible rfl
            rotate_left
            ·simp only [Act.put,s1_,s2_,s3_,i64_w,i32_w]
             rfl
            refine pure_ (i:=3) (N:=some 83) (v:=?_) (a':=?_) #[true,false,true,true,false,false,false,false,false,false] rfl rfl (any_of HT_.out (by kernel_rfl)) (fun _ _ _ h=>h) (Or.inl ⟨by rfl,?_⟩) ?_ ?_
            rotate_left
            ·intro w'
             go_simp
             with_reducible rfl
            rotate_left
            ·simp only [Act.put,s1_,s2_,s3_,i64_w,i32_w]
             rfl
            refine pure_ (i:=4) (N:=some 84) (v:=?_) (a':=?_) #[true,false,true,true,true,false,false,false,false,false] rfl rfl (any_of HT_.out (by kernel_rfl)) (fun _ _ _ h=>h) (Or.inl ⟨by rfl,?_⟩) ?_ ?_
            rotate_left
            ·intro w'
             go_simp
             with_reducible rfl
            rotate_left
            ·simp only [Act.put,s1_,s2_,s3_,i64_w,i32_w]
             rfl
            refine take_ (i:=1) (N:=some 81) (v:=?_) (a':=?_) #[true,true,true,true,true,false,false,false,false,false] rfl rfl (take_ofW HT_.out HW_.out (by kernel_rfl)) (fun _ _ _ h=>h) (Or.inl ⟨by rfl,?_⟩) hHeld ?_ ?_
            rotate_left
            ·rintro w' ⟨s0,s1⟩
             go_simp
             with_reducible rfl
            rotate_left
            ·simp only [Act.put,s1_,s2_,s3_,i64_w,i32_w]
             rfl
            refine take_ (i:=5) (N:=some 85) (v:=?_) (a':=?_) #[true,true,true,true,true,true,false,false,false,false] rfl rfl (take_ofW HT_.out HW_.out (by kernel_rfl)) (fun _ _ _ h=>h) (Or.inl ⟨by rfl,?_⟩) hHeld ?_ ?_
            rotate_left
            ·rintro w' ⟨s0,s1⟩
             go_simp
             with_reducible rfl
            rotate_left
            ·simp only [Act.put,s1_,s2_,s3_,i64_w,i32_w]
             rfl
            refine one_ (i:=6) (N:=some 86) #[true,true,true,true,true,true,true,false,false,false] rfl rfl (one_of HT_.out (by kernel_rfl)) (by decide) (fun K hK=>?_)
            refine goes_ Try.func17 (by kernel_rfl) rfl #[.agg #[.slice Ao9 t301.length co9],.slice A337_0 (rd_L8 t311 x12_2).length c337_0] (by rfl) rfl rfl lm_ ?_
            with_reducible refine (impl_LeavesOf.calls k2 _ _ t301 _ _ (rd_L8 t311 x12_2) t338 _ ?side1 ?side2 ?side3 ?side4 A58.out).mono ?_
            (case side1=>exact cc_ (Kd.R_reads' Z311.out).2.2)
            (case side2=>exact (Kd.R_reads' Z311.out).2.1)
            (case side3=>repeat (first | exact (by repeat (first | (with_reducible exact HR337_0.out) | (with_reducible refine Kd.C_alloc ?_ _) | (with_reducible refine Kd.C_drewN ?_ _) | (with_reducible refine Kd.C_drew ?_) | exact HR337_0.out)) | (with_reducible refine Kd.C_alloc ?_ _) | (with_reducible refine Kd.C_drewN ?_ _) | (with_reducible refine Kd.C_drew ?_)))
            (case side4=>exact HC337_0.out)
            rintro e w97 ⟨v339,rfl,ho0,hb⟩
            have HS1_:=(hb.cell (World.block_lt_of_cell? _ _ (hHeld.2))).trans (hHeld.2)
            refine ⟨_,rfl,?_⟩
            have n0_:=rb_ HO_4 hb
            have n1_:=rb_ HO_5 hb
            have n2_:=a0_ (Kd.S_below (by (with_reducible repeat (first | apply Kd.S_alloc | apply Kd.S_drewN | apply Kd.S_drew));exact HO_6.out) hb)
            have n3_:=rb_ HO_7 hb
            have n4_:=rb_ HO_10 hb
            have n5_:=rb_ Z311 hb
            have n6_:=rb_ HL337_0 hb
            have n7_:=a0_ (Kd.R_lower ho0 (below_size hb_))
            have n8_:=kb_ BK310 hb
            have n9_:=a0_ (Kd.C_below (c_keep_ HR337_0.out) hb)
            have n10_:=a0_ (below_step hb_ hb)
            clear HO_4
            clear HO_5
            clear HO_6
            clear HO_7
            clear HO_10
            clear Z311
            clear HL337_0
            clear BK310
            clear HR337_0
            clear HB
            have HO_4:=n0_
            have HO_5:=n1_
            have HO_6:=n2_
            have HO_7:=n3_
            have HO_10:=n4_
            have Z311:=n5_
            have HL337_0:=n6_
            have HO340:=n7_
            have BK310:=n8_
            have HR337_0:=n9_
            have HB:=n10_
            clear n0_ n1_ n2_ n3_ n4_ n5_ n6_ n7_ n8_ n9_ n10_
            (try clear hb)
            (try clear hb2)
            (try clear hk)
            (try clear hi)
            (try clear ho0)
            obtain ⟨Ao98,co98,eo98⟩:=Kd.R_slice HO340.out
            (first | subst eo98 | (injection eo98 with f1_ f2_ f3_;have f4_:=f1_.symm;have f5_:=f3_.symm;clear f1_ f2_ f3_;subst f4_;subst f5_))
            refine hK.out _ _ ⟨(blk_cell BK310.out 0).trans rfl,HS1_⟩ (fun hHeld=>?_)
            clear hK K
            refine norm_ (a':=?_) ?_ ?_
            rotate_left
            ·show Act.put _ (some 86) _ = _
             simp only [Act.put,s1_,s2_,s3_,i64_w,i32_w]
             rfl
            refine pure_ (i:=7) (N:=some 87) (v:=?_) (a':=?_) #[true,true,true,true,true,true,true,true,false,false] rfl rfl (any_of HT_.out (by kernel_rfl)) (fun _ _ _ h=>h) (Or.inl ⟨by rfl,?_⟩) ?_ ?_
            rotate_left
            ·intro w'
             go_simp
             with_reducible rfl
            rotate_left
            ·simp only [Act.put,s1_,s2_,s3_,i64_w,i32_w]
             rfl
            refine pure_ (i:=8) (N:=some 88) (v:=?_) (a':=?_) #[true,true,true,true,true,true,true,true,true,false] rfl rfl (any_of HT_.out (by kernel_rfl)) (fun _ _ _ h=>h) (Or.inl ⟨by rfl,?_⟩) ?_ ?_
            rotate_left
            ·intro w'
             go_simp
             with_reducible rfl
            rotate_left
            ·simp only [Act.put,s1_,s2_,s3_,i64_w,i32_w]
             rfl
            refine pure_ (i:=9) (N:=some 11) (v:=?_) (a':=?_) #[true,true,true,true,true,true,true,true,true,true] rfl rfl (any_of HT_.out (by kernel_rfl)) (fun _ _ _ h=>h) (Or.inl ⟨by rfl,?_⟩) ?_ ?_
            rotate_left
            ·intro w'
             go_simp
             with_reducible rfl
            rotate_left
            ·simp only [Act.put,s1_,s2_,s3_,i64_w,i32_w]
             rfl
            refine done_ (done_of HT_.out (by kernel_rfl)) ?_
            try go_wp2
            have n0_:=a0_ (Kd.R_drew HO_4.out)
            have n1_:=a0_ (Kd.R_drew HO_5.out)
            have n2_:=a0_ (Kd.S_drew HO_6.out)
            have n3_:=a0_ (Kd.R_drew HO_7.out)
            have n4_:=a0_ (Kd.R_drew HO_10.out)
            have n5_:=a0_ (Kd.R_drew Z311.out)
            have n6_:=a0_ (Kd.R_drew HL337_0.out)
            have n7_:=a0_ (Kd.R_drew HO340.out)
            have n8_:=a0_ (blk_drew BK310.out)
            have n9_:=a0_ (Kd.C_drew HR337_0.out)
            have n10_:=a0_ (below_drew1 HB.out)
            clear HO_4
            clear HO_5
            clear HO_6
            clear HO_7
            clear HO_10
            clear Z311
            clear HL337_0
            clear HO340
            clear BK310
            clear HR337_0
            clear HB
            have HO_4:=n0_
            have HO_5:=n1_
            have HO_6:=n2_
            have HO_7:=n3_
            have HO_10:=n4_
            have Z311:=n5_
            have HL337_0:=n6_
            have HO340:=n7_
            have BK310:=n8_
            have HR337_0:=n9_
            have HB:=n10_
            clear n0_ n1_ n2_ n3_ n4_ n5_ n6_ n7_ n8_ n9_ n10_
            obtain ⟨Ao100,co100,eo100⟩:=Kd.R_slice HO_10.out
            (first | subst eo100 | (injection eo100 with f1_ f2_ f3_;have f4_:=f1_.symm;have f5_:=f3_.symm;clear f1_ f2_ f3_;subst f4_;subst f5_))
            have p345 : 0 ≤ (x12_2 : Int):=of_decide_eq_true (by first | (with_reducible assumption) | assumption)
            have q345 : x12_2 < (t307.length : Int):=of_decide_eq_true (by first | (with_reducible assumption) | assumption)
            obtain ⟨ad345,e345,hx345_0⟩:=Kd.at_int (Kd.R_reads' HO_5.out).2.2 x12_2 p345 q345
            cases e345
            replace p345:=eq_true p345
            replace q345:=eq_true q345
            refine start_ (n:=20) (S:=fun w'=>w'.cell? ⟨gb310,0,none⟩ = some (.slice Ao9 t301.length co9) ∧ w'.cell? (ad345.add (x12_2).toNat) = some (.int .i64 (rd t307 x12_2))) (ds:=[]) #[false,false,false,false,false,false,false,false,false,false,false,false,false,false,false,false,false,false,false,false] (by kernel_rfl) rfl rfl ⟨(blk_cell BK310.out 0).trans rfl,hx345_0⟩ (fun hHeld=>?_);refine with_tabW laws_FnHandleGroup.tab14 laws_FnHandleGroup.bits14 (fun HT_ HW_=>?_)
            generalize w97.drew = w99 at HO_4 HO_5 HO_6 HO_7 HO_10 Z311 HL337_0 HO340 BK310 HR337_0 HB hx345_0 hHeld ⊢
            refine pure_ (i:=0) (N:=some 89) (v:=?_) (a':=?_) #[true,false,false,false,false,false,false,false,false,false,false,false,false,false,false,false,false,false,false,false] rfl rfl (any_of HT_.out (by kernel_rfl)) (fun _ _ _ h=>h) (Or.inl ⟨by rfl,?_⟩) ?_ ?_
            rotate_left
            ·intro w'
             go_simp
             with_reducible rfl
            rotate_left
            ·simp only [Act.put,s1_,s2_,s3_,i64_w,i32_w]
             rfl
            refine pure_ (i:=1) (N:=some 90) (v:=?_) (a':=?_) #[true,true,false,false,false,false,false,false,false,false,false,false,false,false,false,false,false,false,false,false] rfl rfl (any_of HT_.out (by kernel_rfl)) (fun _ _ _ h=>h) (Or.inl ⟨by rfl,?_⟩) ?_ ?_
            rotate_left
            ·intro w'
             go_simp
             with_reducible rfl
            rotate_left
            ·simp only [Act.put,s1_,s2_,s3_,i64_w,i32_w]
             rfl
            refine one_ (i:=2) (N:=some 91) #[true,true,true,false,false,false,false,false,false,false,false,false,false,false,false,false,false,false,false,false] rfl rfl (one_of HT_.out (by kernel_rfl)) (by decide) (fun K hK=>?_)
            refine goes_ Try.func33 (by kernel_rfl) rfl #[.slice Ao100 t328.length co100,.int .i64 x12_2] (by rfl) rfl rfl lm_ ?_
            with_reducible refine (laws_isIn.calls k2 _ _ t328 x12_2 false _ ?side1 ?side2 A59.out).mono ?_
            (case side1=>exact cc_ (Kd.R_reads' HO_10.out).2.2)
            (case side2=>exact (Kd.R_reads' HO_10.out).2.1)
            rintro e w' ⟨rfl,⟨nd,rfl⟩⟩
            refine ⟨_,rfl,?_⟩
            refine hK.out _ _ ⟨(blk_cell BK310.out 0).trans rfl,hHeld.2⟩ (fun hHeld=>?_)
            clear hK K
            refine norm_ (a':=?_) ?_ ?_
            rotate_left
            ·show Act.put _ (some 91) _ = _
             simp only [Act.put,s1_,s2_,s3_,i64_w,i32_w]
             rfl
            refine pure_ (i:=3) (N:=some 92) (v:=?_) (a':=?_) #[true,true,true,true,false,false,false,false,false,false,false,false,false,false,false,false,false,false,false,false] rfl rfl (any_of HT_.out (by kernel_rfl)) (fun _ _ _ h=>h) (Or.inl ⟨by rfl,?_⟩) ?_ ?_
            rotate_left
            ·intro w'
             go_simp
             with_reducible rfl
            rotate_left
            ·simp only [Act.put,s1_,s2_,s3_,i64_w,i32_w]
             rfl
            refine pure_ (i:=4) (N:=some 93) (v:=undef) (a':=?_) #[true,true,true,true,true,false,false,false,false,false,false,false,false,false,false,false,false,false,false,false] rfl rfl (any_of HT_.out (by kernel_rfl)) (fun _ _ _ h=>h) (Or.inr ⟨by rfl,rfl⟩) ?_ ?_
            rotate_left
            ·simp only [Act.put,s1_,s2_,s3_,i64_w,i32_w]
             rfl
            refine pure_ (i:=5) (N:=some 94) (v:=undef) (a':=?_) #[true,true,true,true,true,true,false,false,false,false,false,false,false,false,false,false,false,false,false,false] rfl rfl (any_of HT_.out (by kernel_rfl)) (fun _ _ _ h=>h) (Or.inr ⟨by rfl,rfl⟩) ?_ ?_
            rotate_left
            ·simp only [Act.put,s1_,s2_,s3_,i64_w,i32_w]
             rfl
            refine pure_ (i:=6) (N:=some 95) (v:=undef) (a':=?_) #[true,true,true,true,true,true,true,false,false,false,false,false,false,false,false,false,false,false,false,false] rfl rfl (any_of HT_.out (by kernel_rfl)) (fun _ _ _ h=>h) (Or.inr ⟨by rfl,rfl⟩) ?_ ?_
            rotate_left
            ·simp only [Act.put,s1_,s2_,s3_,i64_w,i32_w]
             rfl
            refine pure_ (i:=7) (N:=some 96) (v:=undef) (a':=?_) #[true,true,true,true,true,true,true,true,false,false,false,false,false,false,false,false,false,false,false,false] rfl rfl (any_of HT_.out (by kernel_rfl)) (fun _ _ _ h=>h) (Or.inr ⟨by rfl,rfl⟩) ?_ ?_
            rotate_left
            ·simp only [Act.put,s1_,s2_,s3_,i64_w,i32_w]
             rfl
            refine pure_ (i:=8) (N:=some 97) (v:=undef) (a':=?_) #[true,true,true,true,true,true,true,true,true,false,false,false,false,false,false,false,false,false,false,false] rfl rfl (any_of HT_.out (by kernel_rfl)) (fun _ _ _ h=>h) (Or.inr ⟨by rfl,rfl⟩) ?_ ?_
            rotate_left
            ·simp only [Act.put,s1_,s2_,s3_,i64_w,i32_w]
             rfl
            refine pure_ (i:=9) (N:=some 98) (v:=undef) (a':=?_) #[true,true,true,true,true,true,true,true,true,true,false,false,false,false,false,false,false,false,false,false] rfl rfl (any_of HT_.out (by kernel_rfl)) (fun _ _ _ h=>h) (Or.inr ⟨by rfl,rfl⟩) ?_ ?_
            rotate_left
            ·simp only [Act.put,s1_,s2_,s3_,i64_w,i32_w]
             rfl
            refine pure_ (i:=10) (N:=some 99) (v:=?_) (a':=?_) #[true,true,true,true,true,true,true,true,true,true,true,false,false,false,false,false,false,false,false,false] rfl rfl (any_of HT_.out (by kernel_rfl)) (fun _ _ _ h=>h) (Or.inl ⟨by rfl,?_⟩) ?_ ?_
            rotate_left
            ·intro w'
             go_simp
             with_reducible rfl
            rotate_left
            ·simp only [Act.put,s1_,s2_,s3_,i64_w,i32_w]
             rfl
            refine pure_ (i:=11) (N:=some 100) (v:=?_) (a':=?_) #[true,true,true,true,true,true,true,true,true,true,true,true,false,false,false,false,false,false,false,false] rfl rfl (any_of HT_.out (by kernel_rfl)) (fun _ _ _ h=>h) (Or.inl ⟨by rfl,?_⟩) ?_ ?_
            rotate_left
            ·intro w'
             go_simp
             with_reducible rfl
            rotate_left
            ·simp only [Act.put,s1_,s2_,s3_,i64_w,i32_w]
             rfl
            refine pure_ (i:=13) (N:=some 102) (v:=?_) (a':=?_) #[true,true,true,true,true,true,true,true,true,true,true,true,false,true,false,false,false,false,false,false] rfl rfl (any_of HT_.out (by kernel_rfl)) (fun _ _ _ h=>h) (Or.inl ⟨by rfl,?_⟩) ?_ ?_
            rotate_left
            ·intro w'
             go_simp
             with_reducible rfl
            rotate_left
            ·simp only [Act.put,s1_,s2_,s3_,i64_w,i32_w]
             rfl
            refine pure_ (i:=14) (N:=some 103) (v:=?_) (a':=?_) #[true,true,true,true,true,true,true,true,true,true,true,true,false,true,true,false,false,false,false,false] rfl rfl (any_of HT_.out (by kernel_rfl)) (fun _ _ _ h=>h) (Or.inl ⟨by rfl,?_⟩) ?_ ?_
            rotate_left
            ·intro w'
             go_simp
             with_reducible rfl
            rotate_left
            ·simp only [Act.put,s1_,s2_,s3_,i64_w,i32_w]
             rfl
            refine pure_ (i:=15) (N:=some 104) (v:=?_) (a':=?_) #[true,true,true,true,true,true,true,true,true,true,true,true,false,true,true,true,false,false,false,false] rfl rfl (any_of HT_.out (by kernel_rfl)) (fun _ _ _ h=>h) (Or.inl ⟨by rfl,?_⟩) ?_ ?_
            rotate_left
            ·intro w'
             go_simp
             with_reducible rfl
            rotate_left
            ·simp only [Act.put,s1_,s2_,s3_,i64_w,i32_w]
             rfl
            refine pure_ (i:=16) (N:=some 105) (v:=?_) (a':=?_) #[true,true,true,true,true,true,true,true,true,true,true,true,false,true,true,true,true,false,false,false] rfl rfl (any_of HT_.out (by kernel_rfl)) (fun _ _ _ h=>h) (Or.inl ⟨by rfl,?_⟩) ?_ ?_
            rotate_left
            ·intro w'
             go_simp
             with_reducible rfl
            rotate_left
            ·simp only [Act.put,s1_,s2_,s3_,i64_w,i32_w]
             rfl
            refine take_ (i:=12) (N:=some 101) (v:=?_) (a':=?_) #[true,true,true,true,true,true,true,true,true,true,true,true,true,true,true,true,true,false,false,false] rfl rfl (take_ofW HT_.out HW_.out (by kernel_rfl)) (fun _ _ _ h=>h) (Or.inl ⟨by rfl,?_⟩) hHeld ?_ ?_
            rotate_left
            ·rintro w' ⟨s0,s1⟩
             go_simp
             with_reducible rfl
            rotate_left
            ·simp only [Act.put,s1_,s2_,s3_,i64_w,i32_w]
             rfl
            refine take_ (i:=17) (N:=some 106) (v:=?_) (a':=?_) #[true,true,true,true,true,true,true,true,true,true,true,true,true,true,true,true,true,true,false,false] rfl rfl (take_ofW HT_.out HW_.out (by kernel_rfl)) (fun _ _ _ h=>h) (Or.inl ⟨by rfl,?_⟩) hHeld ?_ ?_
            rotate_left
            ·rintro w' ⟨s0,s1⟩
             go_simp
             with_reducible rfl
            rotate_left
            ·simp only [Act.put,s1_,s2_,s3_,i64_w,i32_w]
             rfl
            refine one_ (i:=18) (N:=some 107) #[true,true,true,true,true,true,true,true,true,true,true,true,true,true,true,true,true,true,true,false] rfl rfl (one_of HT_.out (by kernel_rfl)) (by decide) (fun K hK=>?_)
            refine goes_ Try.func20 (by kernel_rfl) rfl #[.agg #[.slice Ao9 t301.length co9],.slice Ao53 t314.length co53,.int .i64 (rd t307 x12_2)] (by rfl) rfl rfl lm_ ?_
            with_reducible refine (impl_HasClass.calls _ _ t301 _ _ t314 (rd t307 x12_2) false _ ?side1 ?side2 ?side3 ?side4 A86.out).mono ?_
            (case side1=>exact cc_ (Kd.R_reads' Z311.out).2.2)
            (case side2=>exact (Kd.R_reads' Z311.out).2.1)
            (case side3=>exact cc_ (Kd.R_reads' HO_7.out).2.2)
            (case side4=>exact (Kd.R_reads' HO_7.out).2.1)
            rintro e w101 ⟨rfl,hb⟩
            have HS1_:=(hb.cell (World.block_lt_of_cell? _ _ (hHeld.2))).trans (hHeld.2)
            refine ⟨_,rfl,?_⟩
            have n0_:=rb_ HO_4 hb
            have n1_:=rb_ HO_5 hb
            have n2_:=a0_ (Kd.S_below (by (with_reducible repeat (first | apply Kd.S_alloc | apply Kd.S_drewN | apply Kd.S_drew));exact HO_6.out) hb)
            have n3_:=rb_ HO_7 hb
            have n4_:=rb_ HO_10 hb
            have n5_:=rb_ Z311 hb
            have n6_:=rb_ HL337_0 hb
            have n7_:=rb_ HO340 hb
            have n8_:=kb_ BK310 hb
            have n9_:=a0_ (Kd.C_below (c_keep_ HR337_0.out) hb)
            have n10_:=a0_ (below_step hb_ hb)
            clear HO_4
            clear HO_5
            clear HO_6
            clear HO_7
            clear HO_10
            clear Z311
            clear HL337_0
            clear HO340
            clear BK310
            clear HR337_0
            clear HB
            have HO_4:=n0_
            have HO_5:=n1_
            have HO_6:=n2_
            have HO_7:=n3_
            have HO_10:=n4_
            have Z311:=n5_
            have HL337_0:=n6_
            have HO340:=n7_
            have BK310:=n8_
            have HR337_0:=n9_
            have HB:=n10_
            clear n0_ n1_ n2_ n3_ n4_ n5_ n6_ n7_ n8_ n9_ n10_
            (try clear hb)
            (try clear hb2)
            (try clear hk)
            (try clear hi)
            refine hK.out _ _ ⟨(blk_cell BK310.out 0).trans rfl,HS1_⟩ (fun hHeld=>?_)
            clear hK K
            refine norm_ (a':=?_) ?_ ?_
            rotate_left
            ·show Act.put _ (some 107) _ = _
             simp only [Act.put,s1_,s2_,s3_,i64_w,i32_w]
             rfl
            refine pure_ (i:=19) (N:=some 108) (v:=?_) (a':=?_) #[true,true,true,true,true,true,true,true,true,true,true,true,true,true,true,true,true,true,true,true] rfl rfl (any_of HT_.out (by kernel_rfl)) (fun _ _ _ h=>h) (Or.inl ⟨by rfl,?_⟩) ?_ ?_
            rotate_left
            ·intro w'
             go_simp
             with_reducible rfl
            rotate_left
            ·simp only [Act.put,s1_,s2_,s3_,i64_w,i32_w]
             rfl
            refine done_ (done_of HT_.out (by kernel_rfl)) ?_
            try go_wp2
            go_roundg k2
            case measure=>have:=HJ5.out;have:=HK2.out;omega
            case rel=>exact ⟨(wrap64 (x11_2 + (t338.length : Int))),(wrap64 (x12_2 + 1)),(by first | rfl | (simp;done) | (simp [*];done)),(by first | rfl | (simp;done) | (simp [*];done)),H',⟨by have:=HJ5.out;have:=HK2.out;omega⟩,⟨by (with_reducible repeat (first | apply Kd.R_alloc | apply Kd.R_drewN | apply Kd.R_drew));exact HO_4.out⟩,⟨by (with_reducible repeat (first | apply Kd.R_alloc | apply Kd.R_drewN | apply Kd.R_drew));exact HO_5.out⟩,⟨by (with_reducible repeat (first | apply Kd.S_alloc | apply Kd.S_drewN | apply Kd.S_drew));exact HO_6.out⟩,⟨by (with_reducible repeat (first | apply Kd.R_alloc | apply Kd.R_drewN | apply Kd.R_drew));exact HO_7.out⟩,⟨by (with_reducible repeat (first | apply Kd.R_alloc | apply Kd.R_drewN | apply Kd.R_drew));exact HO_10.out⟩,⟨by (with_reducible repeat (first | apply Kd.R_alloc | apply Kd.R_drewN | apply Kd.R_drew));exact Z311.out⟩,⟨by (with_reducible repeat (first | refine blk_drewN ?_ _ | refine blk_drew ?_ | refine blk_alloc ?_ _));exact BK310.out⟩,⟨hb_⟩⟩
          ·rw [if_neg c85] at H
           exact absurd H (by simp)
        ·rw [if_neg c57] at H
         exact absurd H (by simp)
       ·rw [if_neg c56] at H
        have c56b0 : decide (x12_2 < (t311.length : Int)) = false:=decide_eq_false c56
        clear c56
        replace H:=Option.bind_eq_some_iff.mp H
        obtain ⟨t334,A1020,H⟩:=H
        try dsimp only at H
        have A102:=a0_ A1020
        clear A1020
        by_cases c103 : x11_2 = (t334.length : Int)
        ·rw [if_pos c103] at H
         have c103b0 : (x11_2 == (t334.length : Int)) = true:=beq_iff_eq.mpr c103
         have c103b1 : (x11_2 != (t334.length : Int)) = false:=bne_eq_false_iff_eq.mpr c103
         clear c103
         obtain rfl:=Option.some.inj H
         obtain ⟨Ao104,co104,eo104⟩:=Kd.S_slice HO_6.out
         subst eo104
         have hcz105_0 : wr.cell? ⟨gb310,0,none⟩ = some (.slice Ao9 t301.length co9):=(blk_cell BK310.out 0).trans rfl
         have hfz105_0:=blk_frozen BK310.out 0
         go_wp2_with (first | ((with_reducible refine gate_callee (f:=17) rfl ?_);refine goesL_ (some 112) rfl rfl Try.func17 (by kernel_rfl) rfl #[.agg #[.slice Ao9 t301.length co9],.slice Ao11 t304.length co11] rfl lm_ ?_;(with_reducible refine (impl_LeavesOf.calls k2 _ _ t301 _ _ t304 t334 _ ?side1 ?side2 ?side3 ?side4 A102.out).mono ?_);(case side1=>exact cc_ (Kd.R_reads' Z311.out).2.2);(case side2=>exact (Kd.R_reads' Z311.out).2.1);(case side3=>exact cc_ (Kd.R_reads' HO_4.out).2.2);(case side4=>exact (Kd.R_reads' HO_4.out).2.1);rintro e w106 ⟨v335,rfl,ho0,hb⟩;refine ⟨_,rfl,?_⟩;replace HO_4:=rb_ HO_4 hb;replace HO_5:=rb_ HO_5 hb;replace HO_6:=a0_ (Kd.S_below (by (with_reducible repeat (first | apply Kd.S_alloc | apply Kd.S_drewN | apply Kd.S_drew));exact HO_6.out) hb);replace HO_7:=rb_ HO_7 hb;replace HO_10:=rb_ HO_10 hb;replace Z311:=rb_ Z311 hb;have HO336:=a0_ (Kd.R_lower ho0 (below_size hb_));replace BK310:=kb_ BK310 hb;replace HB:=a0_ (below_step hb_ hb);(try clear hb);(try clear ho0);obtain ⟨Ao107,co107,eo107⟩:=Kd.R_slice HO336.out;subst eo107))
         go_ret
         exact ⟨by first | rfl | (simp [errW_none,errW_some] <;> rfl) | (simp [*,errW_none,errW_some] <;> rfl),hb_⟩
        ·rw [if_neg c103] at H
         have c103b0 : (x11_2 == (t334.length : Int)) = false:=beq_eq_false_iff_ne.mpr c103
         have c103b1 : (x11_2 != (t334.length : Int)) = true:=bne_iff_ne.mpr c103
         obtain rfl:=Option.some.inj H
         obtain ⟨Ao108,co108,eo108⟩:=Kd.S_slice HO_6.out
         subst eo108
         have hcz109_0 : wr.cell? ⟨gb310,0,none⟩ = some (.slice Ao9 t301.length co9):=(blk_cell BK310.out 0).trans rfl
         have hfz109_0:=blk_frozen BK310.out 0
         go_wp2_with (first | ((with_reducible refine gate_callee (f:=17) rfl ?_);refine goesL_ (some 112) rfl rfl Try.func17 (by kernel_rfl) rfl #[.agg #[.slice Ao9 t301.length co9],.slice Ao11 t304.length co11] rfl lm_ ?_;(with_reducible refine (impl_LeavesOf.calls k2 _ _ t301 _ _ t304 t334 _ ?side1 ?side2 ?side3 ?side4 A102.out).mono ?_);(case side1=>exact cc_ (Kd.R_reads' Z311.out).2.2);(case side2=>exact (Kd.R_reads' Z311.out).2.1);(case side3=>exact cc_ (Kd.R_reads' HO_4.out).2.2);(case side4=>exact (Kd.R_reads' HO_4.out).2.1);rintro e w110 ⟨v335,rfl,ho0,hb⟩;refine ⟨_,rfl,?_⟩;replace HO_4:=rb_ HO_4 hb;replace HO_5:=rb_ HO_5 hb;replace HO_6:=a0_ (Kd.S_below (by (with_reducible repeat (first | apply Kd.S_alloc | apply Kd.S_drewN | apply Kd.S_drew));exact HO_6.out) hb);replace HO_7:=rb_ HO_7 hb;replace HO_10:=rb_ HO_10 hb;replace Z311:=rb_ Z311 hb;have HO336:=a0_ (Kd.R_lower ho0 (below_size hb_));replace BK310:=kb_ BK310 hb;replace HB:=a0_ (below_step hb_ hb);(try clear hb);(try clear ho0);obtain ⟨Ao111,co111,eo111⟩:=Kd.R_slice HO336.out;subst eo111))
         go_ret
         exact ⟨by first | rfl | (simp [errW_none,errW_some] <;> rfl) | (simp [*,errW_none,errW_some] <;> rfl),hb_⟩
def laws_FnHandleGroup.Pure : Prop:=∀ (l0 : List Int),l0.length ≤ maxLen → l0.length * 1 ≤ 140737488351232 → (∀ x ∈ l0,(Lit.int .u8 x).wf = true) → ∃ k,laws_FnHandleGroup.f k l0 = some true
theorem laws_FnHandleGroup.walk (P : laws_FnHandleGroup.Pure) (a0 : Option Addr) (len0 cap0 : Nat) (z0 : List Int) (w : World) (w0 : (a0 = none ∧ len0 = 0 ∧ cap0 = 0 ∧ z0 = []) ∨ ∃ x,a0 = some x ∧ len0 ≤ cap0 ∧ cap0 ≤ maxLen ∧ z0.length = cap0 ∧ (∀ i,i < z0.length → w.cell? (x.add i) = some (.int .u8 (z0.getD i 0))) ∧ ∀ n ∈ z0,(Lit.int .u8 n).wf = true) (y0 : len0 * 1 ≤ 140737488351232) :
  Calls Try.prog 9 #[.slice a0 len0 cap0] w fun e w'=>e = .returned (.bool true) ∧ Below w.heap.size w w':=by
 obtain ⟨l0,rfl,hr0,hm0,hw0,hc0⟩:=ReadsInt.ofRowC w0
 obtain ⟨k,h⟩:=P l0 hm0 y0 hw0
 refine (laws_FnHandleGroup.calls k _ _ l0 true w (Kd.C_of_reads (d:=(0 : Int)) (h1:=fun _=>rfl) hr0) hc0 h).mono ?_
 rintro e w' ⟨rfl,hd⟩
 exact ⟨rfl,hd⟩
end Go.Proofs.Ytfphcdbnnienhaa.P
namespace Go.Proofs.Ytfphcdbnnienhaa.P
open Go.RowKit Go.Proofs.YtfphcdbnnienhaaW.PrintWords Go.Proofs.YtfphcdbnnienhaaW.PrintLast Go.Proofs.YtfphcdbnnienhaaW.PrintMore
attribute [local go_sem] max2_int min2_int max_two min_two max_three min_three max_four min_four
set_option linter.unusedVariables false
set_option linter.unusedSimpArgs false
theorem isA_self {t : List Cls} (hv : vT t = true) (a : Int) (h0 : 0 ≤ a) (h1 : a < (t.length : Int)) : isA t a a = true:=by
 unfold isA
 rw [abv_step hv a h0 h1,List.contains_iff_mem]
 exact List.mem_cons_self
theorem isA_up {t : List Cls} (hv : vT t = true) (a b : Int) (h0 : 0 ≤ a) (h1 : a < (t.length : Int)) (hne : b ≠ a) : isA t a b = isA t (rd_T85 t a).f1 b:=by
 unfold isA
 rw [abv_step hv a h0 h1,List.contains_cons,beq_eq_false_iff_ne.2 hne,Bool.false_or]
theorem isA_neg (t : List Cls) (a b : Int) (h0 : a < 0) : isA t a b = false:=by
 unfold isA
 rw [abv_neg t a h0]
 rfl
theorem isA_le {t : List Cls} (hv : vT t = true) : ∀ (n : Nat) (a b : Int),a < (n : Int) → a < (t.length : Int) → isA t a b = true → 0 ≤ b ∧ b ≤ a:=by
 intro n
 induction n with
 | zero =>
  intro a b hn _ h
  rw [isA_neg t a b (by omega)] at h
  cases h
 | succ n ih =>
  intro a b hn h1 h
  by_cases h0 : 0 ≤ a
  ·by_cases e : b = a
   ·omega
   ·rw [isA_up hv a b h0 h1 e] at h
    have hp:=vT_par' hv a h0 h1
    have:=ih _ b (by omega) (by omega) h
    omega
  ·rw [isA_neg t a b (by omega)] at h
   cases h
theorem isA_trans {t : List Cls} (hv : vT t = true) : ∀ (n : Nat) (a b c : Int),a < (n : Int) → a < (t.length : Int) → isA t a b = true → isA t b c = true → isA t a c = true:=by
 intro n
 induction n with
 | zero =>
  intro a b c hn _ h _
  rw [isA_neg t a b (by omega)] at h
  cases h
 | succ n ih =>
  intro a b c hn h1 h hbc
  by_cases h0 : 0 ≤ a
  ·by_cases e : b = a
   ·rw [← e];exact hbc
   ·have hle:=isA_le hv (n + 1) a b hn h1 h
    rw [isA_up hv a b h0 h1 e] at h
    have hp:=vT_par' hv a h0 h1
    have hbc2:=isA_le hv (b.toNat + 1) b c (by omega) (by omega) hbc
    by_cases e2 : c = a
    ·omega
    ·rw [isA_up hv a c h0 h1 e2]
     exact ih _ b c (by omega) (by omega) h hbc
  ·rw [isA_neg t a b (by omega)] at h
   cases h
theorem isA_root {t : List Cls} (hv : vT t = true) : ∀ (n : Nat) (a : Int),a < (n : Int) → 0 ≤ a → a < (t.length : Int) → isA t a 0 = true:=by
 intro n
 induction n with
 | zero=>intro a hn h0 _;omega
 | succ n ih =>
  intro a hn h0 h1
  by_cases e : a = 0
  ·subst e
   exact isA_self hv 0 h0 h1
  ·rw [isA_up hv a 0 h0 h1 (fun hh=>e hh.symm)]
   have hp:=vT_par hv a.toNat (by omega) (by omega)
   have hp2:=vT_par' hv a h0 h1
   have e3 : (rd_T85 t a).f1 = (t.getD a.toNat z85).f1:=rfl
   exact ih _ (by omega) (by omega) (by omega)
end Go.Proofs.Ytfphcdbnnienhaa.P
namespace Go.Proofs.Ytfphcdbnnienhaa.Pure
open Go.RowKit Go.Proofs.Ytfphcdbnnienhaa.P
open Go.Proofs.YtfphcdbnnienhaaW.PrintWords (rd rdOf wrap_succ wrap_pred wrap_in toL_beq idxP)
set_option linter.unusedVariables false
theorem deadN_in (t : List Cls) (l : List Int) (n i : Nat) (hi : i < n) : (deadN t l n).contains (i : Int) = (l.take i).any (fun b=>isA t (l.getD i 0) b):=by
 unfold deadN
 cases h : (l.take i).any (fun b=>isA t (l.getD i 0) b) with
 | true =>
  rw [List.contains_iff_mem]
  exact List.mem_map.2 ⟨i,List.mem_filter.2 ⟨by simpa using hi,h⟩,rfl⟩
 | false =>
  cases h2 : (((List.range n).filter (fun i=>(l.take i).any (fun b=>isA t (l.getD i 0) b))).map (fun i : Nat=>(i : Int))).contains (i : Int) with
  | false=>rfl
  | true =>
   rw [List.contains_iff_mem] at h2
   obtain ⟨j,hj,e⟩:=List.mem_map.1 h2
   obtain rfl : j = i:=by omega
   rw [(List.mem_filter.1 hj).2] at h
   cases h
theorem FnHandleGroup : laws_FnHandleGroup.Pure:=by
 intro l0 _ _ hw
 refine Ev.out (F:=fun k=>laws_FnHandleGroup.f k l0) ?_
 unfold laws_FnHandleGroup.f
 by_cases hbig : (l0.length : Int) > 1048576
 ·exact Ev.pos hbig (Ev.const rfl)
 refine Ev.neg hbig ?_
 obtain ⟨t,g,l,hd,ht,hs,hg,hl⟩:=spec_DrawHandleGroup_ev l0 hw
 have hI:=impl_HandleGroup_ev t g l hs (by omega) (by omega) (by omega)
 have hS:=spec_HandleGroup_ev t g l hs (by omega) (by omega) (by omega)
 have hV:=impl_ValidGroup_ev t g (by omega) (by omega) hs
 have no : ∀ (a : List (List Prt)) (b : List Prt),Ev (fun k=>laws_equalGroups.f k a a) true → Ev (fun k=>laws_equalGroup.f k b b) true → Ev (fun k=>laws_FnHandleGroup.j0 k g l a b a b true t) true:=by
  intro a b h1 h2
  refine Ev.succ ?_
  simp only [laws_FnHandleGroup.j0]
  exact Ev.pos trivial (Ev.bind h1 (Ev.pos rfl (Ev.bind h2 (Ev.const rfl))))
 by_cases hc : (vG t g && okCat t l) = true
 ·have hr : hanP t g l = (takP t l g,lefP t l g):=by unfold hanP;rw [if_pos hc]
  rw [hr] at hI hS
  rw [Bool.and_eq_true] at hc
  obtain ⟨hv,hk⟩:=hc
  rw [hv] at hV
  have hT:=(vG_tree hv).1
  have hF:=Tre_Fr (vG_tre hv).1
  have htl:=takP_len t l g
  have hls:=lefP_sub t l g
  have e1:=laws_equalGroups_ev (takP t l g) (by omega) (fun x hx=>Nat.le_trans (takP_sub t l g x hx).length_le (by omega))
  have e2:=laws_equalGroup_ev (lefP t l g) (Nat.le_trans hls.length_le (by omega))
  have hvN : vN t g:=Or.inr hv
  have hall : ∀ x ∈ l,hasC t x = true:=by
   unfold okCat at hk
   simp only [Bool.and_eq_true,List.all_eq_true] at hk
   exact hk.2.2
  have hD:=impl_DeadCatches_ev t l (by omega) hs
  have hdp : deadP t l = deadN t l l.length:=by unfold deadP;rw [if_pos hk]
  rw [hdp] at hD
  have hdl : (deadN t l l.length).length ≤ l.length:=by
   unfold deadN
   rw [List.length_map]
   exact Nat.le_trans (List.length_filter_le _ _) (by simp)
  have hL1:=impl_LeavesOf_ev t (lefP t l g) (by omega) (Nat.le_trans hls.length_le (by omega)) hs
  rw [vN_leaves (vN_lef t l g hvN)] at hL1
  have hL0:=impl_LeavesOf_ev t g (by omega) (by omega) hs
  rw [leavesP_ok hv] at hL0
  have hsum:=sum_all t l g hF
  have hll:=lfs_len g
  have hH : ∀ a ∈ l,impl_HasClass.f t (lefP t l g) a = some false:=by
   intro a ha
   have:=impl_HasClass_ev t (lefP t l g) a hs
   obtain ⟨k,hk2⟩:=this
   have h3 : hasP t (lefP t l g) a = false:=by
    unfold hasP
    have h4 : (lefP t l g).any (fun p=>!p.f1 && isA t p.f2 a) = false:=by
     rw [lefP_sel t l g hF,List.any_eq_false]
     intro p hp
     cases h1 : p.f1 with
     | true=>simp
     | false =>
      have h5 : p ∈ (selR (fun q=>!(l.any (fun a=>isA t q.f2 a))) g).filter (fun q=>!q.f1):=List.mem_filter.2 ⟨hp,by rw [h1];rfl⟩
      rw [selR_leaves _ hF] at h5
      have h6:=(List.mem_filter.1 h5).2
      simp only [Bool.not_eq_true',List.any_eq_false] at h6
      have:=h6 a ha
      simp [this]
    rw [h4,Bool.and_false,Bool.and_false]
   rw [h3] at hk2
   exact hk2 k (Nat.le_refl _)
  refine Ev.bind hd (Ev.bind hI (Ev.bind hS (Ev.bind e1 (Ev.pos rfl (Ev.bind e2 (Ev.pos rfl (Ev.pos (by simp only;omega) (Ev.bind hV (Ev.succ ?_)))))))))
  simp only [laws_FnHandleGroup.j0]
  refine Ev.neg (by simp) (Ev.bind hD (Ev.bind hL1 ?_))
  have key : ∀ d j n,j + d = l.length → n = (lfs (lefP t l g)).length + sumL ((takP t l g).take j) → Ev (fun k=>laws_FnHandleGroup.l0 k g l (takP t l g) (lefP t l g) (deadN t l l.length) ((n : Nat) : Int) (j : Int) t) true:=by
   intro d
   induction d with
   | zero =>
    intro j n hj hn
    refine Ev.succ ?_
    simp only [laws_FnHandleGroup.l0]
    rw [List.take_of_length_le (by omega)] at hn
    exact Ev.neg (by omega) (Ev.bind hL0 (Ev.pos (by omega) (Ev.const rfl)))
   | succ d ih =>
    intro j n hj hn
    refine Ev.succ ?_
    have hlt : j < l.length:=by omega
    have hlt2 : j < (takP t l g).length:=by omega
    have hr1 : rd l (j : Int) = l[j]:=by simp [rd,hlt]
    have hg1 : l.getD j 0 = l[j]:=by simp [List.getD,hlt]
    have hr2 : rd_L8 (takP t l g) (j : Int) = (takP t l g)[j]:=by simp [rd_L8,hlt2]
    have hget : (takP t l g)[j] = selR (fun q=>isA t q.f2 l[j] == true) (lefP t (l.take j) g):=by
     have:=takP_get t l g j hlt
     rw [hg1] at this
     rw [← this]
     simp [List.getD,hlt2]
    have hLj:=impl_LeavesOf_ev t (takP t l g)[j] (by omega) (Nat.le_trans (takP_sub t l g _ (List.getElem_mem _)).length_le (by omega)) hs
    rw [vN_leaves (vN_tak t l g hvN _ (List.getElem_mem _))] at hLj
    have hin:=laws_isIn_ev (deadN t l l.length) (j : Int) (by omega)
    rw [deadN_in t l l.length j hlt,hg1] at hin
    have hst : sumL ((takP t l g).take (j + 1)) = sumL ((takP t l g).take j) + (lfs (takP t l g)[j]).length:=by
     rw [List.take_succ_eq_append_getElem hlt2,sumL_append]
     simp [sumL]
    have hle : sumL ((takP t l g).take (j + 1)) ≤ sumL (takP t l g):=by
     have:=List.take_append_drop (j + 1) (takP t l g)
     conv=>rhs;rw [← this]
     rw [sumL_append]
     omega
    have hi:=ih (j + 1) (n + (lfs (takP t l g)[j]).length) (by omega) (by omega)
    simp only [laws_FnHandleGroup.l0,hr1,hr2]
    rw [wrap_succ (i:=(j : Int)) (n:=l.length) (by omega) (by omega) (by omega)]
    refine Ev.pos (by omega) (Ev.pos (by omega) (Ev.bind hLj (Ev.bind hin ?_)))
    rw [wrap_in (i:=((n : Nat) : Int) + ((lfs (takP t l g)[j]).length : Int)) (by omega) (by omega)]
    cases hdd : (l.take j).any (fun b=>isA t l[j] b) with
    | true =>
     have hemp : (takP t l g)[j] = []:=by
      rw [hget,lefP_sel t _ g hF,selR_selR _ _ hF]
      refine selR_none _ _ ?_
      rw [List.any_eq_false]
      intro q hq
      unfold lfQ
      cases h1 : q.f1 with
      | true=>simp
      | false =>
       have hqr:=vG_leaf hv q hq h1
       obtain ⟨b,hb,hbb⟩:=List.any_eq_true.1 hdd
       cases hx : isA t q.f2 l[j] with
       | false=>simp [hx]
       | true =>
        have h7:=isA_trans hT (q.f2.toNat + 1) q.f2 l[j] b (by omega) hqr.2 hx hbb
        have h8 : (l.take j).any (fun a=>isA t q.f2 a) = true:=List.any_eq_true.2 ⟨b,hb,h7⟩
        simp only [h8]
        simp
     refine Ev.pos rfl (Ev.neg (by rw [hemp];simp) (Ev.pos (by omega) (Ev.bind (Ev.const (hH _ (List.getElem_mem hlt))) (Ev.neg (by simp) ?_))))
     simpa using hi
    | false =>
     refine Ev.neg (by simp) (Ev.pos (by omega) (Ev.bind (Ev.const (hH _ (List.getElem_mem hlt))) (Ev.neg (by simp) ?_)))
     simpa using hi
  exact key l.length 0 (lfs (lefP t l g)).length (by omega) (by simp [sumL])
 ·have hr : hanP t g l = ([],[]):=by unfold hanP;rw [if_neg hc]
  rw [hr] at hI hS
  have e1:=laws_equalGroups_ev [] (by simp) (fun x hx=>absurd hx (by simp))
  have e2:=laws_equalGroup_ev [] (by simp)
  refine Ev.bind hd (Ev.bind hI (Ev.bind hS (Ev.bind e1 (Ev.pos rfl (Ev.bind e2 (Ev.pos rfl ?_))))))
  by_cases hz : ((([] : List (List Prt)).length : Nat) : Int) = (l.length : Int)
  ·refine Ev.pos hz (Ev.bind hV ?_)
   cases hv : vG t g with
   | false=>exact no [] [] e1 e2
   | true =>
    have h0 : l = []:=List.length_eq_zero_iff.1 (by simp at hz;omega)
    rw [hv,h0] at hc
    have hT:=(vG_tree hv).1
    refine absurd ?_ hc
    unfold okCat
    rw [hT]
    rfl
  ·exact Ev.neg hz (no [] [] e1 e2)
end Go.Proofs.Ytfphcdbnnienhaa.Pure
