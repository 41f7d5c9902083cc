/- Texts under the proof of FnNewFault: helper words, the functions' contracts and the plain laws. No condition. -/
import Derived.Test.YtmiholmfbjalfaaQFnNewFaulta
namespace Go.Proofs.Ytmiholmfbjalfaa.P
open Go.RowKit Go.Proofs.YtmiholmfbjalfaaW.PrintWords Go.Proofs.YtmiholmfbjalfaaW.PrintLast Go.Proofs.YtmiholmfbjalfaaW.PrintMore
attribute [local go_sem] max2_int min2_int max_two min_two max_three min_three max_four min_four
set_option linter.unusedVariables false
set_option linter.unusedSimpArgs false
def spec_goodTree.l0 : Nat → List ByteArray → Int → Int → List Int → Int → List (S87) → Option ((List (S87)) × Int)
 | 0,_,_,_,_,_,_=>none
 | k + 1,x3,x5,x6,x1000,x1001,x9000=>if x6 < x5 then (if 0 ≤ x6 then (if x6 < (x3.length : Int) then ((spec_reader_pick.f k x1000 x1001 x6).bind fun bt15=>((spec_reader_one.f k x1000 bt15.2 (([0,bt15.1,wrap64 (x6 - 1)] : List Int))).bind fun bt20=>(if x9000.length < 5864062014805 then (spec_goodTree.l0 k x3 x5 (wrap64 (x6 + 1)) x1000 bt20.2 (x9000 ++ [(⟨rdOf ByteArray.empty x3 x6,bt20.1⟩ : S87)])) else (none)))) else (none)) else (none)) else (some (x9000,x1001))
def spec_goodTree.f (k : Nat) (s0_0 : List Int) (s0_1 : Int) : Option ((List (S87)) × Int):=(spec_reader_one.f k s0_0 s0_1 (([4,5,3,6,2,1,8] : List Int))).bind fun bt12=>(spec_goodTree.l0 k (([(⟨#[97,110,121]⟩ : ByteArray),(⟨#[105,111]⟩ : ByteArray),(⟨#[107,101,121]⟩ : ByteArray),(⟨#[116,105,109,101]⟩ : ByteArray),(⟨#[110,101,116]⟩ : ByteArray),(⟨#[100,105,115,107]⟩ : ByteArray),(⟨#[116,121,112,101]⟩ : ByteArray),(⟨#[111,100,100]⟩ : ByteArray)] : List ByteArray)) bt12.1 1 s0_0 bt12.2 (([(⟨(⟨#[97,110,121]⟩ : ByteArray),(-1)⟩ : S87)] : List (S87))))
theorem spec_goodTree.mono_l : ∀ k,(∀ y0 y1 y2 y3 y4 y5,LeO (spec_goodTree.l0 k y0 y1 y2 y3 y4 y5) (spec_goodTree.l0 (k + 1) y0 y1 y2 y3 y4 y5))
 | 0=>fun _ _ _ _ _ _ r h=>by simp [spec_goodTree.l0] at h
 | k + 1=>by
  have ih0:=spec_goodTree.mono_l k
  ·intro y0 y1 y2 y3 y4 y5
   unfold spec_goodTree.l0
   repeat' first
   | (with_reducible exact ih0 _ _ _ _ _ _)
   | (with_reducible exact spec_reader_one.mono _ _ _ _)
   | (with_reducible exact spec_reader_pick.mono _ _ _ _)
   | (with_reducible exact LeO.refl _)
   | (with_reducible exact LeO.none _)
   | (with_reducible refine LeO.ite ?_ ?_)
   | (with_reducible refine LeO.bind ?_ (fun _=>?_))
   | exact ih0 _ _ _ _ _ _
   | exact spec_reader_one.mono _ _ _ _
   | exact spec_reader_pick.mono _ _ _ _
   | exact LeO.none _
   | refine LeO.ite ?_ ?_
   | refine LeO.bind ?_ (fun _=>?_)
theorem spec_goodTree.mono : ∀ a0 a1 k,LeO (spec_goodTree.f k a0 a1) (spec_goodTree.f (k + 1) a0 a1):=by
 intro a0 a1 k
 have ih0:=spec_goodTree.mono_l k
 unfold spec_goodTree.f
 repeat' first
   | (with_reducible exact ih0 _ _ _ _ _ _)
   | (with_reducible exact spec_reader_one.mono _ _ _ _)
   | (with_reducible exact spec_reader_pick.mono _ _ _ _)
   | (with_reducible exact LeO.refl _)
   | (with_reducible exact LeO.none _)
   | (with_reducible refine LeO.ite ?_ ?_)
   | (with_reducible refine LeO.bind ?_ (fun _=>?_))
   | exact ih0 _ _ _ _ _ _
   | exact spec_reader_one.mono _ _ _ _
   | exact spec_reader_pick.mono _ _ _ _
   | exact LeO.none _
   | refine LeO.ite ?_ ?_
   | refine LeO.bind ?_ (fun _=>?_)
def spec_goodTree.T7 : Bool × List (List Nat × List Nat):=(true,[([],[]),([0],[0]),([],[]),([],[]),([2,3],[2,3]),([4],[4]),([],[]),([],[]),([],[]),([7,8],[7,8]),([],[]),([10],[10]),([9,11],[9,11]),([6,12,9],[6,12]),([5,13],[5,13]),([14],[14]),([1,15,13],[1,15]),([0,1,2,3,4,5,6,7,8,9,10,11,12,13,14,15,16],[]),([17,16,16,0,1,2,3,4,5,6,7,8,9,10,11,12,13,14,15,16],[16,17])])
def spec_goodTree.B7 : List Nat:=[0,1,0,0,12,28,0,0,0,384,0,1024,3968,8128,16380,32764,65535,131071,262143]
theorem spec_goodTree.tab7 : rtab .any (opsOf Try.f81 7) = spec_goodTree.T7:=by kernel_rfl
theorem spec_goodTree.bits7 : waitsOk spec_goodTree.T7.2 spec_goodTree.B7 = true:=by kernel_rfl
set_option maxHeartbeats 8000000 in
set_option maxRecDepth 100000 in
theorem spec_goodTree.calls (k : Nat) (g : Nat) (s0_0 : List Int) (s0_1 : Int) (r1 : List (S87)) (r2 : Int) (w0 w : World) (hI : IsS76 w0 w g s0_0 s0_1) (hB : Below w0.heap.size w0 w) (h : spec_goodTree.f k s0_0 s0_1 = some (r1,r2)) :
  Calls Try.prog 81 #[.pointer (some ⟨g,0,none⟩)] w fun e w'=>∃ v0_ : Value,e = .returned (.agg #[v0_]) ∧ Kd.R k87 87 w' w.heap.size (fun _=>True) v0_ r1 ∧ IsS76 w0 w' g s0_0 r2 ∧ Below w0.heap.size w0 w' ∧ KeepBut w w' g none:=by
 have hu25:=Try.underlying25
 have hu87:=Try.underlying87
 have HI0:=a0_ hI
 have HK:=a0_ (KeepBut.refl w g none)
 have HL:=a0_ hB.size
 clear hI
 have HW0:=a0_ hB.size
 have HB:=a0_ hB
 clear hB
 have H : ((spec_reader_one.f k s0_0 s0_1 (([4,5,3,6,2,1,8] : List Int))).bind fun bt12=>(spec_goodTree.l0 k (([(⟨#[97,110,121]⟩ : ByteArray),(⟨#[105,111]⟩ : ByteArray),(⟨#[107,101,121]⟩ : ByteArray),(⟨#[116,105,109,101]⟩ : ByteArray),(⟨#[110,101,116]⟩ : ByteArray),(⟨#[100,105,115,107]⟩ : ByteArray),(⟨#[116,121,112,101]⟩ : ByteArray),(⟨#[111,100,100]⟩ : ByteArray)] : List ByteArray)) bt12.1 1 s0_0 bt12.2 (([(⟨(⟨#[97,110,121]⟩ : ByteArray),(-1)⟩ : S87)] : List (S87))))) = some (r1,r2):=h
 clear h
 obtain ⟨y2,hy2⟩ : ∃ y_ : List ByteArray,y_ = (([(⟨#[97,110,121]⟩ : ByteArray),(⟨#[105,111]⟩ : ByteArray),(⟨#[107,101,121]⟩ : ByteArray),(⟨#[116,105,109,101]⟩ : ByteArray),(⟨#[110,101,116]⟩ : ByteArray),(⟨#[100,105,115,107]⟩ : ByteArray),(⟨#[116,121,112,101]⟩ : ByteArray),(⟨#[111,100,100]⟩ : ByteArray)] : List ByteArray)):=⟨_,rfl⟩
 replace H : ((spec_reader_one.f k s0_0 s0_1 (([4,5,3,6,2,1,8] : List Int))).bind fun bt12=>(spec_goodTree.l0 k y2 bt12.1 1 s0_0 bt12.2 (([(⟨(⟨#[97,110,121]⟩ : ByteArray),(-1)⟩ : S87)] : List (S87))))) = some (r1,r2):=by first | (rw [hy2];with_reducible exact H) | (have H2_:=(Option.bind_some _ _).symm.trans H;rw [hy2];with_reducible exact H2_) | (have H2_:=(Option.bind_some _ _).symm.trans H;with_reducible exact H2_) | with_reducible exact H | (rw [hy2];exact H) | exact H
 have Ny2:=a0_ hy2
 clear hy2
 obtain ⟨y5,hy5⟩ : ∃ y_ : List (S87),y_ = (([(⟨(⟨#[97,110,121]⟩ : ByteArray),(-1)⟩ : S87)] : List (S87))):=⟨_,rfl⟩
 replace H : ((spec_reader_one.f k s0_0 s0_1 (([4,5,3,6,2,1,8] : List Int))).bind fun bt12=>(spec_goodTree.l0 k y2 bt12.1 1 s0_0 bt12.2 y5)) = some (r1,r2):=by first | (rw [hy5];with_reducible exact H) | (have H2_:=(Option.bind_some _ _).symm.trans H;rw [hy5];with_reducible exact H2_) | (have H2_:=(Option.bind_some _ _).symm.trans H;with_reducible exact H2_) | with_reducible exact H | (rw [hy5];exact H) | exact H
 have Ny5:=a0_ hy5
 clear hy5
 obtain ⟨y9,hy9⟩ : ∃ y_ : List Int,y_ = (([4,5,3,6,2,1,8] : List Int)):=⟨_,rfl⟩
 replace H : ((spec_reader_one.f k s0_0 s0_1 y9).bind fun bt12=>(spec_goodTree.l0 k y2 bt12.1 1 s0_0 bt12.2 y5)) = some (r1,r2):=by first | (rw [hy9];with_reducible exact H) | (have H2_:=(Option.bind_some _ _).symm.trans H;rw [hy9];with_reducible exact H2_) | (have H2_:=(Option.bind_some _ _).symm.trans H;with_reducible exact H2_) | with_reducible exact H | (rw [hy9];exact H) | exact H
 have Ny9:=a0_ hy9
 clear hy9
 replace H:=Option.bind_eq_some_iff.mp H
 obtain ⟨⟨t12,t13⟩,A20,H⟩:=H
 replace H : (spec_goodTree.l0 k y2 t12 1 s0_0 t13 y5) = some (r1,r2):=H
 have A2:=a0_ A20
 clear A20
 have H':=a0_ H
 clear H
 go_enter Try.func81,Try.ntmps81
 go_wp2_with (first | ((with_reducible refine gate_dst (N:=2) rfl ?_);refine box_event ?hg (N:=2) ?hd (cs:=#[.slice none 0 0]) (t:=25) ?hr ?_;(case hd=>rfl);(case hg=>rfl);(case hr=>first | (go_simp;done) | (go_simp;rfl));intro gb1 hg w3 hbox hb;have n0_:=a0_ (IsS76.below is0_ hb);have n1_:=a0_ (KeepBut.trans (w:=w) hk_ (KeepBut.of_below hb g none) (.inl rfl));have n2_:=a0_ (below_step hbi0_ hb);have n3_:=a0_ (hbox);have n4_:=a0_ ((by rw [hg];exact (keep_size (w:=w) (g:=g) (row:=none) hk_) : w.heap.size ≤ gb1));have n5_:=a0_ ((Nat.le_trans HW0.out (by rw [hg];exact (keep_size (w:=w) (g:=g) (row:=none) hk_) : w.heap.size ≤ gb1) : w0.heap.size ≤ gb1));have n6_:=a0_ ((by rw [hg];exact Nat.ne_of_lt (IsS76.lt (is0_ : IsS76 w0 _ g s0_0 s0_1)) : g ≠ gb1));have n7_:=a0_ ((by rw [hg];exact Nat.ne_of_gt (IsS76.lt (is0_ : IsS76 w0 _ g s0_0 s0_1)) : gb1 ≠ g));clear HI0 HK HB;have HI0:=n0_;have HK:=n1_;have HB:=n2_;have BK1:=n3_;have GW1:=n4_;have GE1:=n5_;have NB0_1:=n6_;have NB1_0:=n7_;clear n0_ n1_ n2_ n3_ n4_ n5_ n6_ n7_;clear hb hbox hg) | ((with_reducible refine gate_dst (N:=7) rfl ?_);refine Kd.R_lit Kd.string _ 9 ?hg (N:=7) ?hd (xs:=([(⟨#[97,110,121]⟩ : ByteArray),(⟨#[105,111]⟩ : ByteArray),(⟨#[107,101,121]⟩ : ByteArray),(⟨#[116,105,109,101]⟩ : ByteArray),(⟨#[110,101,116]⟩ : ByteArray),(⟨#[100,105,115,107]⟩ : ByteArray),(⟨#[116,121,112,101]⟩ : ByteArray),(⟨#[111,100,100]⟩ : ByteArray)] : List ByteArray)) (inner:=[.string (⟨#[97,110,121]⟩ : ByteArray),.string (⟨#[105,111]⟩ : ByteArray),.string (⟨#[107,101,121]⟩ : ByteArray),.string (⟨#[116,105,109,101]⟩ : ByteArray),.string (⟨#[110,101,116]⟩ : ByteArray),.string (⟨#[100,105,115,107]⟩ : ByteArray),.string (⟨#[116,121,112,101]⟩ : ByteArray),.string (⟨#[111,100,100]⟩ : ByteArray)]) (ok:=fun _=>True) (okp:=fun _=>True) ?hr ?hp (fun _ hk=>hk) trivial (Below.refl _ _) (Nat.le_refl _) (by simp) ?_;(case hd=>rfl);(case hg=>rfl);(case hr=>first | (go_simp;done) | (go_simp;rfl));(case hp=>exact (Reps.one (show Kd.M Kd.string _ _ _ (⟨#[97,110,121]⟩ : ByteArray) [.string (⟨#[97,110,121]⟩ : ByteArray)] from rfl) (Reps.one (show Kd.M Kd.string _ _ _ (⟨#[105,111]⟩ : ByteArray) [.string (⟨#[105,111]⟩ : ByteArray)] from rfl) (Reps.one (show Kd.M Kd.string _ _ _ (⟨#[107,101,121]⟩ : ByteArray) [.string (⟨#[107,101,121]⟩ : ByteArray)] from rfl) (Reps.one (show Kd.M Kd.string _ _ _ (⟨#[116,105,109,101]⟩ : ByteArray) [.string (⟨#[116,105,109,101]⟩ : ByteArray)] from rfl) (Reps.one (show Kd.M Kd.string _ _ _ (⟨#[110,101,116]⟩ : ByteArray) [.string (⟨#[110,101,116]⟩ : ByteArray)] from rfl) (Reps.one (show Kd.M Kd.string _ _ _ (⟨#[100,105,115,107]⟩ : ByteArray) [.string (⟨#[100,105,115,107]⟩ : ByteArray)] from rfl) (Reps.one (show Kd.M Kd.string _ _ _ (⟨#[116,121,112,101]⟩ : ByteArray) [.string (⟨#[116,121,112,101]⟩ : ByteArray)] from rfl) (Reps.one (show Kd.M Kd.string _ _ _ (⟨#[111,100,100]⟩ : ByteArray) [.string (⟨#[111,100,100]⟩ : ByteArray)] from rfl) (Reps.none _ _))))))))));intro v3 w4 ho5 hb hg_ hnew_;clear hg_ hnew_;(first | rw [← Ny2.out] at ho5 | (simp only [Int.reduceToNat] at ho5;rw [← Ny2.out] at ho5));have n0_:=a0_ (Kd.R_lower ho5 (keep_size (w:=w) (g:=g) (row:=none) hk_));have n1_:=a0_ (IsS76.below is0_ hb);have n2_:=kb_ BK1 hb;have n3_:=a0_ (KeepBut.trans (w:=w) hk_ (KeepBut.of_below hb g none) (.inl rfl));have n4_:=a0_ (below_step hbi0_ hb);clear HI0 BK1;clear HK HB;have HO4:=n0_;have HI0:=n1_;have BK1:=n2_;have HK:=n3_;have HB:=n4_;clear n0_ n1_ n2_ n3_ n4_;clear hb ho5) | ((with_reducible refine gate_dst (N:=9) rfl ?_);refine Kd.R_lit k87 _ 87 ?hg (N:=9) ?hd (xs:=([(⟨(⟨#[97,110,121]⟩ : ByteArray),(-1)⟩ : S87)] : List (S87))) (inner:=[.string (⟨#[97,110,121]⟩ : ByteArray),.int .i64 (-1)]) (ok:=fun _=>True) (okp:=fun _=>True) ?hr ?hp (fun _ hk=>hk) trivial (Below.refl _ _) (Nat.le_refl _) (by simp) ?_;(case hd=>rfl);(case hg=>rfl);(case hr=>first | (go_simp;done) | (go_simp;rfl));(case hp=>exact (Reps.c2 (show Kd.M k87 _ _ _ (⟨(⟨#[97,110,121]⟩ : ByteArray),(-1)⟩ : S87) [.string (⟨#[97,110,121]⟩ : ByteArray),.int .i64 (-1)] from (k87_mkM _ _ _ (⟨(⟨#[97,110,121]⟩ : ByteArray),(-1)⟩ : S87) )) (Reps.none _ _)));intro v6 w6 ho7 hb hg_ hnew_;clear hg_ hnew_;(first | rw [← Ny5.out] at ho7 | (simp only [Int.reduceToNat] at ho7;rw [← Ny5.out] at ho7));have n0_:=rb_ HO4 hb;have n1_:=a0_ (Kd.R_lower ho7 (keep_size (w:=w) (g:=g) (row:=none) hk_));have n2_:=a0_ (IsS76.below is0_ hb);have n3_:=kb_ BK1 hb;have n4_:=a0_ (KeepBut.trans (w:=w) hk_ (KeepBut.of_below hb g none) (.inl rfl));have n5_:=a0_ (below_step hbi0_ hb);clear HO4 HI0;clear BK1 HK HB;have HO4:=n0_;have HO7:=n1_;have HI0:=n2_;have BK1:=n3_;have HK:=n4_;have HB:=n5_;clear n0_ n1_ n2_ n3_ n4_ n5_;clear hb ho7;obtain ⟨Ao8,co8,eo8⟩:=Kd.R_slice HO7.out;subst eo8) | ((with_reducible refine gate_dst (N:=4) rfl ?_);refine box_event ?hg (N:=4) ?hd (cs:=#[.slice none 0 0]) (t:=25) ?hr ?_;(case hd=>rfl);(case hg=>rfl);(case hr=>first | (go_simp;done) | (go_simp;rfl));intro gb8 hg w9 hbox hb;have n0_:=rb_ HO4 hb;have n1_:=rb_ HO7 hb;have n2_:=a0_ (IsS76.below is0_ hb);have n3_:=kb_ BK1 hb;have n4_:=a0_ (KeepBut.trans (w:=w) hk_ (KeepBut.of_below hb g none) (.inl rfl));have n5_:=a0_ (below_step hbi0_ hb);have n6_:=a0_ (hbox);have n7_:=a0_ ((by rw [hg];exact (keep_size (w:=w) (g:=g) (row:=none) hk_) : w.heap.size ≤ gb8));have n8_:=a0_ ((Nat.le_trans HW0.out (by rw [hg];exact (keep_size (w:=w) (g:=g) (row:=none) hk_) : w.heap.size ≤ gb8) : w0.heap.size ≤ gb8));have n9_:=a0_ ((by rw [hg];exact Nat.ne_of_lt (blk_lt (bb_ BK1.out)) : gb1 ≠ gb8));have n10_:=a0_ ((by rw [hg];exact Nat.ne_of_gt (blk_lt (bb_ BK1.out)) : gb8 ≠ gb1));have n11_:=a0_ ((by rw [hg];exact Nat.ne_of_lt (IsS76.lt (is0_ : IsS76 w0 _ g s0_0 s0_1)) : g ≠ gb8));have n12_:=a0_ ((by rw [hg];exact Nat.ne_of_gt (IsS76.lt (is0_ : IsS76 w0 _ g s0_0 s0_1)) : gb8 ≠ g));clear HO4 HO7;clear HI0 BK1;clear HK HB;have HO4:=n0_;have HO7:=n1_;have HI0:=n2_;have BK1:=n3_;have HK:=n4_;have HB:=n5_;have BK8:=n6_;have GW8:=n7_;have GE8:=n8_;have NB1_8:=n9_;have NB8_1:=n10_;have NB0_8:=n11_;have NB8_0:=n12_;clear n0_ n1_ n2_ n3_ n4_ n5_ n6_ n7_ n8_ n9_ n10_ n11_ n12_;clear hb hbox hg;have hnb10:=NB8_1.out;have hnc10:=NB1_8.out;have hnb11:=NB8_0.out;have hnc11:=NB0_8.out;have hcz12_0 : w9.cell? ⟨gb8,0,none⟩ = some (.slice none 0 0):=(blk_cell BK8.out 0).trans rfl;have hfz12_0:=blk_frozen BK8.out 0) | ((with_reducible refine gate_dst (N:=12) rfl ?_);refine Kd.R_lit (Kd.int .i64) _ 3 ?hg (N:=12) ?hd (xs:=([4,5,3,6,2,1,8] : List Int)) (inner:=[.int .i64 4,.int .i64 5,.int .i64 3,.int .i64 6,.int .i64 2,.int .i64 1,.int .i64 8]) (ok:=fun _=>True) (okp:=fun _=>True) ?hr ?hp (fun _ hk=>hk) trivial (Below.refl _ _) (Nat.le_refl _) (by simp) ?_;(case hd=>rfl);(case hg=>rfl);(case hr=>first | (go_simp;done) | (go_simp;rfl));(case hp=>exact (Reps.one (show Kd.M (Kd.int .i64) _ _ _ 4 [.int .i64 4] from rfl) (Reps.one (show Kd.M (Kd.int .i64) _ _ _ 5 [.int .i64 5] from rfl) (Reps.one (show Kd.M (Kd.int .i64) _ _ _ 3 [.int .i64 3] from rfl) (Reps.one (show Kd.M (Kd.int .i64) _ _ _ 6 [.int .i64 6] from rfl) (Reps.one (show Kd.M (Kd.int .i64) _ _ _ 2 [.int .i64 2] from rfl) (Reps.one (show Kd.M (Kd.int .i64) _ _ _ 1 [.int .i64 1] from rfl) (Reps.one (show Kd.M (Kd.int .i64) _ _ _ 8 [.int .i64 8] from rfl) (Reps.none _ _)))))))));intro v10 w13 ho14 hb hg_ hnew_;clear hg_ hnew_;(first | rw [← Ny9.out] at ho14 | (simp only [Int.reduceToNat] at ho14;rw [← Ny9.out] at ho14));have n0_:=a0_ (Kd.R_below (by (with_reducible repeat (first | apply Kd.R_alloc | apply Kd.R_drewN | apply Kd.R_drew));exact (Kd.R_mono (Kd.R_far (p:=⟨gb8,0,none⟩) (Kd.R_types HO4.out BK8.out (by decide)) (fun _ hk=>hk.2) (.slice Ao8 y5.length co8)) (fun _ h_=>h_.1))) hb);have n1_:=a0_ (Kd.R_below (by (with_reducible repeat (first | apply Kd.R_alloc | apply Kd.R_drewN | apply Kd.R_drew));exact (Kd.R_mono (Kd.R_far (p:=⟨gb8,0,none⟩) (Kd.R_types HO7.out BK8.out (by decide)) (fun _ hk=>hk.2) (.slice Ao8 y5.length co8)) (fun _ h_=>h_.1))) hb);have n2_:=a0_ (Kd.R_lower ho14 (keep_size (w:=w) (g:=g) (row:=none) hk_));have n3_:=a0_ (IsS76.below (is0_ : IsS76 w0 (w9.setCell ⟨gb8,0,none⟩ (.slice Ao8 y5.length co8)) g s0_0 s0_1) hb);have n4_:=kf_ BK1 NB1_8 hb;have n5_:=a0_ (blk_below (g:=gb8) (o:=.cells #[.slice Ao8 y5.length co8] 25 (0,0)) (by (with_reducible repeat (first | refine blk_drewN ?_ _ | refine blk_drew ?_ | refine blk_alloc ?_ _));refine blk_put (cs:=#[.slice none 0 0]) ?_ 0 _ rfl;(with_reducible repeat (first | refine blk_drewN ?_ _ | refine blk_drew ?_ | refine blk_alloc ?_ _));exact BK8.out) hb);have n6_:=a0_ (KeepBut.trans (w:=w) hk_ (KeepBut.of_below hb g none) (.inl rfl));have n7_:=a0_ (below_step hbi0_ hb);clear HO4 HO7;clear HI0 BK1;clear BK8 HK HB;have HO4:=n0_;have HO7:=n1_;have HO11:=n2_;have HI0:=n3_;have BK1:=n4_;have BK8:=n5_;have HK:=n6_;have HB:=n7_;clear n0_ n1_ n2_ n3_ n4_ n5_ n6_ n7_;clear hb ho14;obtain ⟨Ao15,co15,eo15⟩:=Kd.R_slice HO11.out;subst eo15) | ((with_reducible refine gate_callee (f:=42) rfl ?_);refine goesL_ (some 13) rfl rfl Try.func42 (by kernel_rfl) rfl #[.pointer (some ⟨g,0,none⟩),.slice Ao15 y9.length co15] rfl lm_ ?_;(with_reducible refine (spec_reader_one.calls k g s0_0 s0_1 _ _ y9 t12 t13 w0 _ ?side1 ?side2 ?side3 ?side4 ?side5 A2.out).mono ?_);(case side1=>exact is0_);(case side2=>exact hbi0_);(case side3=>exact cc_ (Kd.R_reads' HO11.out).2.2);(case side4=>exact (Kd.R_reads' HO11.out).2.1);(case side5=>exact far_slice (IsS76.own_ne HI0.out HO11.out (by decide)));rintro e w16 ⟨rfl,hi,hb,hk⟩;refine ⟨_,rfl,?_⟩;replace BK1:=kk_ hk BK1 NB1_0;replace HO4:=a0_ (Kd.R_mono (Kd.R_keep (IsS76.apart (is0_ : IsS76 w0 _ g s0_0 s0_1) (rr_ HO4.out) (by decide)) hk (fun _ h=>h.2)) (fun _ h=>h.1));replace HO7:=a0_ (Kd.R_mono (Kd.R_keep (IsS76.apart (is0_ : IsS76 w0 _ g s0_0 s0_1) (rr_ HO7.out) (by decide)) hk (fun _ h=>h.2)) (fun _ h=>h.1));replace BK8:=kk_ hk BK8 NB8_0;replace HO11:=a0_ (Kd.R_mono (Kd.R_keep (IsS76.apart (is0_ : IsS76 w0 _ g s0_0 s0_1) (rr_ HO11.out) (by decide)) hk (fun _ h=>h.2)) (fun _ h=>h.1));replace HK:=a0_ (KeepBut.trans (w:=w) hk_ hk (.inl rfl));replace HI0:=a0_ (hi);replace HB:=a0_ (hb);(try clear hb);(try clear hb2);(try clear hk);(try clear hi)))
 go_loopg [6] k (fun kq v6 w'=>∃ (x6_1 : Int) (x1001_1 : Int) (x9000_1 : List (S87)) (u9000 : Value),v6 = .int .i64 x6_1 ∧ Aside0 (spec_goodTree.l0 kq y2 t12 x6_1 s0_0 x1001_1 x9000_1 = some (r1,r2)) ∧ Aside0 (kq ≤ k) ∧ Aside0 (Kd.R Kd.string 9 w' w.heap.size (fun _=>True) v3 y2) ∧ Aside0 (Kd.R k87 87 w' w.heap.size (fun _=>True) u9000 x9000_1) ∧ Aside0 (w'.heap[gb1]? = some (.cells #[(.slice none 0 0)] 25 (0,0))) ∧ Aside0 (w'.heap[gb8]? = some (.cells #[u9000] 25 (0,0))) ∧ Aside0 (IsS76 w0 w' g s0_0 x1001_1) ∧ Aside0 (KeepBut w w' g none) ∧ Aside0 (Below w0.heap.size w0 w'))
 case atStart=>exact ⟨(1),(t13),(y5),(.slice Ao8 y5.length co8),(by first | rfl | (simp;done) | (simp [*];done)),H',⟨Nat.le_refl _⟩,⟨by (with_reducible repeat (first | apply Kd.R_alloc | apply Kd.R_drewN | apply Kd.R_drew));exact HO4.out⟩,⟨by (with_reducible repeat (first | apply Kd.R_alloc | apply Kd.R_drewN | apply Kd.R_drew));exact HO7.out⟩,⟨by (with_reducible repeat (first | refine blk_drewN ?_ _ | refine blk_drew ?_ | refine blk_alloc ?_ _));exact BK1.out⟩,⟨by (with_reducible repeat (first | refine blk_drewN ?_ _ | refine blk_drew ?_ | refine blk_alloc ?_ _));exact BK8.out⟩,⟨is0_⟩,⟨hk_⟩,⟨hbi0_⟩⟩
 case round =>
  clear H'
  try clear c1
  try clear c2
  try clear p2
  try clear c4
  try clear c8
  try clear c10
  try clear c11
  try clear hcz12_0
  try clear hfz12_0
  obtain ⟨x6_1,x1001_1,x9000_1,u9000,rfl,HA,HK1,HO_3,Z9,BK1,BK8,HI0,HK,HB⟩:=hrel
  cases gk with
  | zero=>exact absurd HA.out (by simp [spec_goodTree.l0])
  | succ k1 =>
   have H:=HA.out
   clear HA
   simp only [spec_goodTree.l0] at H
   by_cases c17 : x6_1 < t12
   ·rw [if_pos c17] at H
    have c17b0 : decide (x6_1 < t12) = true:=decide_eq_true c17
    clear c17
    by_cases c18 : 0 ≤ x6_1
    ·rw [if_pos c18] at H
     have c18b0 : decide (0 ≤ x6_1) = true:=decide_eq_true c18
     clear c18
     by_cases c19 : x6_1 < (y2.length : Int)
     ·rw [if_pos c19] at H
      have c19b0 : decide (x6_1 < (y2.length : Int)) = true:=decide_eq_true c19
      clear c19
      replace H:=Option.bind_eq_some_iff.mp H
      obtain ⟨⟨t15,t16⟩,A200,H⟩:=H
      try dsimp only at H
      have A20:=a0_ A200
      clear A200
      obtain ⟨y17,hy17⟩ : ∃ y_ : List Int,y_ = (([0,t15,wrap64 (x6_1 - 1)] : List Int)):=⟨_,rfl⟩
      replace H : ((spec_reader_one.f k1 s0_0 t16 y17).bind fun bt20=>(if x9000_1.length < 5864062014805 then (spec_goodTree.l0 k1 y2 t12 (wrap64 (x6_1 + 1)) s0_0 bt20.2 (x9000_1 ++ [(⟨rdOf ByteArray.empty y2 x6_1,bt20.1⟩ : S87)])) else (none))) = some (r1,r2):=by first | (rw [hy17];with_reducible exact H) | (have H2_:=(Option.bind_some _ _).symm.trans H;rw [hy17];with_reducible exact H2_) | (have H2_:=(Option.bind_some _ _).symm.trans H;with_reducible exact H2_) | with_reducible exact H | (rw [hy17];exact H) | exact H
      have Ny17:=a0_ hy17
      clear hy17
      replace H:=Option.bind_eq_some_iff.mp H
      obtain ⟨⟨t20,t21⟩,A210,H⟩:=H
      try dsimp only at H
      have A21:=a0_ A210
      clear A210
      by_cases c22 : x9000_1.length < 5864062014805
      ·rw [if_pos c22] at H
       have LMc22:=a0_ c22
       clear c22
       obtain ⟨y22,hy22⟩ : ∃ y_ : List (S87),y_ = (x9000_1 ++ [(⟨rdOf ByteArray.empty y2 x6_1,t20⟩ : S87)]):=⟨_,rfl⟩
       replace H : (spec_goodTree.l0 k1 y2 t12 (wrap64 (x6_1 + 1)) s0_0 t21 y22) = some (r1,r2):=by first | (rw [hy22];with_reducible exact H) | (have H2_:=(Option.bind_some _ _).symm.trans H;rw [hy22];with_reducible exact H2_) | (have H2_:=(Option.bind_some _ _).symm.trans H;with_reducible exact H2_) | with_reducible exact H | (rw [hy22];exact H) | exact H
       have Ny22:=a0_ hy22
       clear hy22
       have H':=a0_ H
       clear H
       try go_wp2
       have n0_:=a0_ (Kd.R_drew HO_3.out)
       have n1_:=a0_ (Kd.R_drew Z9.out)
       have n2_:=a0_ (blk_drew BK1.out)
       have n3_:=a0_ (blk_drew BK8.out)
       have n4_:=a0_ (IsS76.drew HI0.out)
       have n5_:=a0_ (keep_drew HK.out)
       have n6_:=a0_ (below_drew1 HB.out)
       clear HO_3
       clear Z9
       clear BK1
       clear BK8
       clear HI0
       clear HK
       clear HB
       have HO_3:=n0_
       have Z9:=n1_
       have BK1:=n2_
       have BK8:=n3_
       have HI0:=n4_
       have HK:=n5_
       have HB:=n6_
       clear n0_ n1_ n2_ n3_ n4_ n5_ n6_
       obtain ⟨Ao24,co24,eo24⟩:=Kd.R_slice HO_3.out
       (first | subst eo24 | (injection eo24 with f1_ f2_ f3_;have f4_:=f1_.symm;have f5_:=f3_.symm;clear f1_ f2_ f3_;subst f4_;subst f5_))
       have p14 : 0 ≤ (x6_1 : Int):=of_decide_eq_true (by first | (with_reducible assumption) | assumption)
       have q14 : x6_1 < (y2.length : Int):=of_decide_eq_true (by first | (with_reducible assumption) | assumption)
       obtain ⟨ad14,e14,hx14_0⟩:=Kd.at_string (Kd.R_reads' HO_3.out).2.2 x6_1 p14 q14
       cases e14
       replace p14:=eq_true p14
       replace q14:=eq_true q14
       refine start_ (n:=19) (S:=fun w'=>w'.cell? ⟨gb8,0,none⟩ = some (u9000) ∧ w'.cell? (ad14.add (x6_1).toNat) = some (.string (rdOf ByteArray.empty y2 x6_1))) (ds:=[16,18]) #[false,false,false,false,false,false,false,false,false,false,false,false,false,false,false,false,false,false,false] (by kernel_rfl) rfl rfl ⟨(blk_cell BK8.out 0).trans rfl,hx14_0⟩ (fun hHeld=>?_);refine with_tabW spec_goodTree.tab7 spec_goodTree.bits7 (fun HT_ HW_=>?_)
       generalize wr.drew = w23 at HO_3 Z9 BK1 BK8 HI0 HK HB hx14_0 hHeld ⊢
       refine pure_ (i:=0) (N:=some 19) (v:=?_) (a':=?_) #[true,false,false,false,false,false,false,false,false,false,false,false,false,false,false,false,false,false,false] rfl rfl (any_of HT_.out (by kernel_rfl)) (fun _ _ _ h=>h) (Or.inl ⟨by rfl,?_⟩) ?_ ?_
       rotate_left
       ·intro w'
        go_simp
        with_reducible rfl
       rotate_left
       ·simp only [Act.put,s1_,s2_,s3_,i64_w,i32_w]
        rfl
       refine pure_ (i:=2) (N:=some 21) (v:=?_) (a':=?_) #[true,false,true,false,false,false,false,false,false,false,false,false,false,false,false,false,false,false,false] rfl rfl (any_of HT_.out (by kernel_rfl)) (fun _ _ _ h=>h) (Or.inl ⟨by rfl,?_⟩) ?_ ?_
       rotate_left
       ·intro w'
        go_simp
        with_reducible rfl
       rotate_left
       ·simp only [Act.put,s1_,s2_,s3_,i64_w,i32_w]
        rfl
       refine pure_ (i:=3) (N:=some 22) (v:=?_) (a':=?_) #[true,false,true,true,false,false,false,false,false,false,false,false,false,false,false,false,false,false,false] rfl rfl (any_of HT_.out (by kernel_rfl)) (fun _ _ _ h=>h) (Or.inl ⟨by rfl,?_⟩) ?_ ?_
       rotate_left
       ·intro w'
        go_simp
        with_reducible rfl
       rotate_left
       ·simp only [Act.put,s1_,s2_,s3_,i64_w,i32_w]
        rfl
       refine pure_ (i:=4) (N:=some 23) (v:=?_) (a':=?_) #[true,false,true,true,true,false,false,false,false,false,false,false,false,false,false,false,false,false,false] rfl rfl (any_of HT_.out (by kernel_rfl)) (fun _ _ _ h=>h) (Or.inl ⟨by rfl,?_⟩) ?_ ?_
       rotate_left
       ·intro w'
        go_simp
        with_reducible rfl
       rotate_left
       ·simp only [Act.put,s1_,s2_,s3_,i64_w,i32_w]
        rfl
       refine pure_ (i:=6) (N:=some 25) (v:=?_) (a':=?_) #[true,false,true,true,true,false,true,false,false,false,false,false,false,false,false,false,false,false,false] rfl rfl (any_of HT_.out (by kernel_rfl)) (fun _ _ _ h=>h) (Or.inl ⟨by rfl,?_⟩) ?_ ?_
       rotate_left
       ·intro w'
        go_simp
        with_reducible rfl
       rotate_left
       ·simp only [Act.put,s1_,s2_,s3_,i64_w,i32_w]
        rfl
       refine pure_ (i:=7) (N:=some 26) (v:=?_) (a':=?_) #[true,false,true,true,true,false,true,true,false,false,false,false,false,false,false,false,false,false,false] rfl rfl (any_of HT_.out (by kernel_rfl)) (fun _ _ _ h=>h) (Or.inl ⟨by rfl,?_⟩) ?_ ?_
       rotate_left
       ·intro w'
        go_simp
        with_reducible rfl
       rotate_left
       ·simp only [Act.put,s1_,s2_,s3_,i64_w,i32_w]
        rfl
       refine pure_ (i:=8) (N:=some 27) (v:=?_) (a':=?_) #[true,false,true,true,true,false,true,true,true,false,false,false,false,false,false,false,false,false,false] rfl rfl (any_of HT_.out (by kernel_rfl)) (fun _ _ _ h=>h) (Or.inl ⟨by rfl,?_⟩) ?_ ?_
       rotate_left
       ·intro w'
        go_simp
        with_reducible rfl
       rotate_left
       ·simp only [Act.put,s1_,s2_,s3_,i64_w,i32_w]
        rfl
       refine pure_ (i:=10) (N:=some 29) (v:=?_) (a':=?_) #[true,false,true,true,true,false,true,true,true,false,true,false,false,false,false,false,false,false,false] rfl rfl (any_of HT_.out (by kernel_rfl)) (fun _ _ _ h=>h) (Or.inl ⟨by rfl,?_⟩) ?_ ?_
       rotate_left
       ·intro w'
        go_simp
        with_reducible rfl
       rotate_left
       ·simp only [Act.put,s1_,s2_,s3_,i64_w,i32_w]
        rfl
       refine pure_ (i:=11) (N:=some 30) (v:=?_) (a':=?_) #[true,false,true,true,true,false,true,true,true,false,true,true,false,false,false,false,false,false,false] rfl rfl (any_of HT_.out (by kernel_rfl)) (fun _ _ _ h=>h) (Or.inl ⟨by rfl,?_⟩) ?_ ?_
       rotate_left
       ·intro w'
        go_simp
        with_reducible rfl
       rotate_left
       ·simp only [Act.put,s1_,s2_,s3_,i64_w,i32_w]
        rfl
       refine take_ (i:=1) (N:=some 20) (v:=?_) (a':=?_) #[true,true,true,true,true,false,true,true,true,false,true,true,false,false,false,false,false,false,false] rfl rfl (take_ofW HT_.out HW_.out (by kernel_rfl)) (fun _ _ _ h=>h) (Or.inl ⟨by rfl,?_⟩) hHeld ?_ ?_
       rotate_left
       ·rintro w' ⟨s0,s1⟩
        go_simp
        with_reducible rfl
       rotate_left
       ·simp only [Act.put,s1_,s2_,s3_,i64_w,i32_w]
        rfl
       refine take_ (i:=5) (N:=some 24) (v:=?_) (a':=?_) #[true,true,true,true,true,true,true,true,true,false,true,true,false,false,false,false,false,false,false] rfl rfl (take_ofW HT_.out HW_.out (by kernel_rfl)) (fun _ _ _ h=>h) (Or.inl ⟨by rfl,?_⟩) hHeld ?_ ?_
       rotate_left
       ·rintro w' ⟨s0,s1⟩
        go_simp
        with_reducible rfl
       rotate_left
       ·simp only [Act.put,s1_,s2_,s3_,i64_w,i32_w]
        rfl
       refine one_ (i:=9) (N:=some 28) #[true,true,true,true,true,true,true,true,true,true,true,true,false,false,false,false,false,false,false] rfl rfl (one_of HT_.out (by kernel_rfl)) (by decide) (fun K hK=>?_)
       refine goes_ Try.func48 (by kernel_rfl) rfl #[.pointer (some ⟨g,0,none⟩),.int .i64 x6_1] (by rfl) rfl rfl lm_ ?_
       with_reducible refine (spec_reader_pick.calls k1 g s0_0 x1001_1 x6_1 t15 t16 w0 _ ?side1 ?side2 A20.out).mono ?_
       (case side1=>exact is0_)
       (case side2=>exact hbi0_)
       rintro e w25 ⟨rfl,hi,hb,hk⟩
       have HS1_:=keep_cell hk (hHeld.2) (by first | (rw [add_block];exact Kd.own_blk (IsS76.own_ne HI0.out HO_3.out (by decide))) | (show (Addr.add _ _).block ≠ _;rw [add_block];exact Kd.own_blk (IsS76.own_ne HI0.out HO_3.out (by decide))) | exact Kd.own_blk (IsS76.own_ne HI0.out HO_3.out (by decide)))
       refine ⟨_,rfl,?_⟩
       have n0_:=a0_ (Kd.R_mono (Kd.R_keep (IsS76.apart (is0_ : IsS76 w0 _ g s0_0 x1001_1) (rr_ HO_3.out) (by decide)) hk (fun _ h=>h.2)) (fun _ h=>h.1))
       have n1_:=a0_ (Kd.R_mono (Kd.R_keep (IsS76.apart (is0_ : IsS76 w0 _ g s0_0 x1001_1) (rr_ Z9.out) (by decide)) hk (fun _ h=>h.2)) (fun _ h=>h.1))
       have n2_:=kk_ hk BK1 NB1_0
       have n3_:=kk_ hk BK8 NB8_0
       have n4_:=a0_ (KeepBut.trans (w:=w) hk_ hk (.inl rfl))
       have n5_:=a0_ (hb)
       have n6_:=a0_ (hi)
       clear HO_3
       clear Z9
       clear BK1
       clear BK8
       clear HK
       clear HB
       clear HI0
       have HO_3:=n0_
       have Z9:=n1_
       have BK1:=n2_
       have BK8:=n3_
       have HK:=n4_
       have HB:=n5_
       have HI0:=n6_
       clear n0_ n1_ n2_ n3_ n4_ n5_ n6_
       (try clear hb)
       (try clear hb2)
       (try clear hk)
       (try clear hi)
       refine hK.out _ _ ⟨(blk_cell BK8.out 0).trans rfl,HS1_⟩ (fun hHeld=>?_)
       clear hK K
       refine norm_ (a':=?_) ?_ ?_
       rotate_left
       ·show Act.put _ (some 28) _ = _
        simp only [Act.put,s1_,s2_,s3_,i64_w,i32_w]
        rfl
       refine one_ (i:=12) (N:=some 31) #[true,true,true,true,true,true,true,true,true,true,true,true,true,false,false,false,false,false,false] rfl rfl (one_of HT_.out (by kernel_rfl)) (by decide) (fun K hK=>?_)
       refine Kd.R_lit_step (Kd.int .i64) _ 3 ?hg (N:=31) ?hd (xs:=([0,t15,wrap64 (x6_1 - 1)] : List Int)) (inner:=[.int .i64 0,.int .i64 t15,.int .i64 (wrap64 (x6_1 - 1))]) (ok:=fun _=>True) (okp:=fun _=>True) ?hr ?hp (fun _ hk=>hk) trivial (Below.refl _ _) (Nat.le_refl _) (by simp) ?_;(case hd=>rfl);(case hg=>rfl);(case hr=>first | (go_simp;done) | (go_simp;rfl));(case hp=>exact (Reps.one (show Kd.M (Kd.int .i64) _ _ _ 0 [.int .i64 0] from rfl) (Reps.one (show Kd.M (Kd.int .i64) _ _ _ t15 [.int .i64 t15] from rfl) (Reps.one (show Kd.M (Kd.int .i64) _ _ _ (wrap64 (x6_1 - 1)) [.int .i64 (wrap64 (x6_1 - 1))] from rfl) (Reps.none _ _)))))
       intro v18 w26 ho27 hb hg_ hnew_
       have HS1_:=(hb.cell (World.block_lt_of_cell? _ _ (hHeld.2))).trans (hHeld.2)
       clear hg_ hnew_
       (first | rw [← Ny17.out] at ho27 | (simp only [Int.reduceToNat] at ho27;rw [← Ny17.out] at ho27))
       have n0_:=rb_ HO_3 hb
       have n1_:=rb_ Z9 hb
       have n2_:=a0_ (Kd.R_lower ho27 (keep_size (w:=w) (g:=g) (row:=none) hk_))
       have n3_:=kb_ BK1 hb
       have n4_:=kb_ BK8 hb
       have n5_:=a0_ (IsS76.below is0_ hb)
       have n6_:=a0_ (KeepBut.trans (w:=w) hk_ (KeepBut.of_below hb g none) (.inl rfl))
       have n7_:=a0_ (below_step hbi0_ hb)
       clear HO_3
       clear Z9
       clear BK1
       clear BK8
       clear HI0
       clear HK
       clear HB
       have HO_3:=n0_
       have Z9:=n1_
       have HO19:=n2_
       have BK1:=n3_
       have BK8:=n4_
       have HI0:=n5_
       have HK:=n6_
       have HB:=n7_
       clear n0_ n1_ n2_ n3_ n4_ n5_ n6_ n7_
       clear hb ho27
       obtain ⟨Ao28,co28,eo28⟩:=Kd.R_slice HO19.out
       (first | subst eo28 | (injection eo28 with f1_ f2_ f3_;have f4_:=f1_.symm;have f5_:=f3_.symm;clear f1_ f2_ f3_;subst f4_;subst f5_))
       refine hK.out _ _ ⟨(blk_cell BK8.out 0).trans rfl,HS1_⟩ (fun hHeld=>?_)
       clear hK K
       refine norm_ (a':=?_) ?_ ?_
       rotate_left
       ·show Act.put _ (some 31) _ = _
        simp only [Act.put,s1_,s2_,s3_,i64_w,i32_w]
        rfl
       refine one_ (i:=13) (N:=some 32) #[true,true,true,true,true,true,true,true,true,true,true,true,true,true,false,false,false,false,false] rfl rfl (one_of HT_.out (by kernel_rfl)) (by decide) (fun K hK=>?_)
       refine goes_ Try.func42 (by kernel_rfl) rfl #[.pointer (some ⟨g,0,none⟩),.slice Ao28 y17.length co28] (by rfl) rfl rfl lm_ ?_
       with_reducible refine (spec_reader_one.calls k1 g s0_0 t16 _ _ y17 t20 t21 w0 _ ?side1 ?side2 ?side3 ?side4 ?side5 A21.out).mono ?_
       (case side1=>exact is0_)
       (case side2=>exact hbi0_)
       (case side3=>exact cc_ (Kd.R_reads' HO19.out).2.2)
       (case side4=>exact (Kd.R_reads' HO19.out).2.1)
       (case side5=>exact far_slice (IsS76.own_ne HI0.out HO19.out (by decide)))
       rintro e w29 ⟨rfl,hi,hb,hk⟩
       have HS1_:=keep_cell hk (hHeld.2) (by first | (rw [add_block];exact Kd.own_blk (IsS76.own_ne HI0.out HO_3.out (by decide))) | (show (Addr.add _ _).block ≠ _;rw [add_block];exact Kd.own_blk (IsS76.own_ne HI0.out HO_3.out (by decide))) | exact Kd.own_blk (IsS76.own_ne HI0.out HO_3.out (by decide)))
       refine ⟨_,rfl,?_⟩
       have n0_:=a0_ (Kd.R_mono (Kd.R_keep (IsS76.apart (is0_ : IsS76 w0 _ g s0_0 t16) (rr_ HO_3.out) (by decide)) hk (fun _ h=>h.2)) (fun _ h=>h.1))
       have n1_:=a0_ (Kd.R_mono (Kd.R_keep (IsS76.apart (is0_ : IsS76 w0 _ g s0_0 t16) (rr_ Z9.out) (by decide)) hk (fun _ h=>h.2)) (fun _ h=>h.1))
       have n2_:=kk_ hk BK1 NB1_0
       have n3_:=kk_ hk BK8 NB8_0
       have n4_:=a0_ (Kd.R_mono (Kd.R_keep (IsS76.apart (is0_ : IsS76 w0 _ g s0_0 t16) (rr_ HO19.out) (by decide)) hk (fun _ h=>h.2)) (fun _ h=>h.1))
       have n5_:=a0_ (KeepBut.trans (w:=w) hk_ hk (.inl rfl))
       have n6_:=a0_ (hb)
       have n7_:=a0_ (hi)
       clear HO_3
       clear Z9
       clear BK1
       clear BK8
       clear HO19
       clear HK
       clear HB
       clear HI0
       have HO_3:=n0_
       have Z9:=n1_
       have BK1:=n2_
       have BK8:=n3_
       have HO19:=n4_
       have HK:=n5_
       have HB:=n6_
       have HI0:=n7_
       clear n0_ n1_ n2_ n3_ n4_ n5_ n6_ n7_
       (try clear hb)
       (try clear hb2)
       (try clear hk)
       (try clear hi)
       refine hK.out _ _ ⟨(blk_cell BK8.out 0).trans rfl,HS1_⟩ (fun hHeld=>?_)
       clear hK K
       refine norm_ (a':=?_) ?_ ?_
       rotate_left
       ·show Act.put _ (some 32) _ = _
        simp only [Act.put,s1_,s2_,s3_,i64_w,i32_w]
        rfl
       refine pure_ (i:=14) (N:=some 33) (v:=?_) (a':=?_) #[true,true,true,true,true,true,true,true,true,true,true,true,true,true,true,false,false,false,false] rfl rfl (any_of HT_.out (by kernel_rfl)) (fun _ _ _ h=>h) (Or.inl ⟨by rfl,?_⟩) ?_ ?_
       rotate_left
       ·intro w'
        go_simp
        with_reducible rfl
       rotate_left
       ·simp only [Act.put,s1_,s2_,s3_,i64_w,i32_w]
        rfl
       refine one_ (i:=15) (N:=some 34) #[true,true,true,true,true,true,true,true,true,true,true,true,true,true,true,true,false,false,false] rfl rfl (one_of HT_.out (by kernel_rfl)) (by decide) (fun K hK=>?_)
       refine value_ (w1:=?_) (v:=?_) (by rfl) rfl ?_ ?_
       rotate_left 2
       ·go_simp
        constructor
        ·rfl
        ·rfl
       refine hK.out _ _ ⟨(blk_cell (blk_alloc BK8.out _) 0).trans rfl,(World.cell?_alloc_lt _ _ _ (World.block_lt_of_cell? _ _ (hHeld.2))).trans (hHeld.2)⟩ (fun hHeld=>?_)
       clear hK K
       refine norm_ (a':=?_) ?_ ?_
       rotate_left
       ·show Act.put _ (some 34) _ = _
        simp only [Act.put,s1_,s2_,s3_,i64_w,i32_w]
        rfl
       refine last_ (i:=16) (N:=some 35) #[true,true,true,true,true,true,true,true,true,true,true,true,true,true,true,true,true,false,false] rfl rfl (one_of HT_.out (by kernel_rfl)) (by decide) (fun K hK=>?_)
       refine Kd.R_append_step k87 w.heap.size (by rfl) (.tmp 20) (.tmp 34) 23 87 (.agg #[(.string ⟨#[]⟩),(.int .i64 0)]) 24 rfl Try.underlying23 info87 rfl (by decide) (by omega) u9000 x9000_1 (⟨rdOf ByteArray.empty y2 x6_1,t20⟩ : S87) [.string (rdOf ByteArray.empty y2 x6_1),.int .i64 t20] (fun _=>True) (fun _=>False) rfl rfl ?aP (fun _ hk=>hk.elim) ?aF ?aO (Below.refl _ _) ?aS ?aL ?_
       (case aP=>exact k87_mkM _ _ _ (⟨rdOf ByteArray.empty y2 x6_1,t20⟩ : S87))
       (case aF=>exact (fun _ _=>trivial))
       (case aO=>exact (rr_ Z9.out))
       (case aS=>exact (keep_size (w:=w) (g:=g) (row:=none) hk_))
       (case aL=>have:=LMc22.out;omega)
       intro v23 w30 ho hb hg hat
       rw [← Ny22.out] at ho
       have n0_:=a0_ (Kd.R_over' (rr_ HO_3.out) (Kd.R_typed (rr_ Z9.out)) (by decide) hg)
       have n1_:=a0_ (blk_grown (bb_ BK1.out) hg (Kd.R_ne Z9.out BK1.out (by decide)))
       have n2_:=a0_ (blk_grown (bb_ BK8.out) hg (Kd.R_ne Z9.out BK8.out (by decide)))
       have n3_:=a0_ (IsS76.grown is0_ hg (IsS76.own_ne HI0.out Z9.out (by decide)))
       have n4_:=a0_ (Kd.R_over' (rr_ HO19.out) (Kd.R_typed (rr_ Z9.out)) (by decide) hg)
       have n5_:=a0_ (below_weaken hbi0_ HL.out hb)
       have n6_:=a0_ (KeepBut.trans (w:=w) hk_ (KeepBut.of_grown hg g) (Kd.R_base2 Z9.out))
       have n7_:=a0_ (ho)
       clear HO_3
       clear BK1
       clear BK8
       clear HI0
       clear HO19
       clear HB
       clear HK
       clear Z9
       have HO_3:=n0_
       have BK1:=n1_
       have BK8:=n2_
       have HI0:=n3_
       have HO19:=n4_
       have HB:=n5_
       have HK:=n6_
       have HO24:=n7_
       clear n0_ n1_ n2_ n3_ n4_ n5_ n6_ n7_
       clear ho hb hg hat
       obtain ⟨Ao31,co31,eo31⟩:=Kd.R_slice HO24.out
       (first | subst eo31 | (injection eo31 with f1_ f2_ f3_;have f4_:=f1_.symm;have f5_:=f3_.symm;clear f1_ f2_ f3_;subst f4_;subst f5_))
       refine hK.out _ _ ?_
       clear hK K
       refine norm_ (a':=?_) ?_ ?_
       rotate_left
       ·show Act.put _ (some 35) _ = _
        simp only [Act.put,s1_,s2_,s3_,i64_w,i32_w]
        rfl
       refine pure_ (i:=17) (N:=some 36) (v:=?_) (a':=?_) #[true,true,true,true,true,true,true,true,true,true,true,true,true,true,true,true,true,true,false] rfl rfl (any_of HT_.out (by kernel_rfl)) (fun _ _ _ h=>h) (Or.inl ⟨by rfl,?_⟩) ?_ ?_
       rotate_left
       ·intro w'
        go_simp
        with_reducible rfl
       rotate_left
       ·simp only [Act.put,s1_,s2_,s3_,i64_w,i32_w]
        rfl
       refine last_ (i:=18) (N:=none) #[true,true,true,true,true,true,true,true,true,true,true,true,true,true,true,true,true,true,true] rfl rfl (one_of HT_.out (by kernel_rfl)) (by decide) (fun K hK=>?_)
       have hs32 : w30.cell? ⟨gb8,0,none⟩ = some (u9000):=(blk_cell BK8.out 0).trans rfl
       have hfs32:=blk_frozen BK8.out 0
       have hns32_0:=NB1_8.out
       have hms32_0:=NB8_1.out
       refine skip_ (w1:=?_) (by rfl) rfl ?_ ?_
       rotate_left
       ·go_simp
        rfl
       refine hK.out _ _ ?_
       clear hK K
       refine done_ (done_of HT_.out (by kernel_rfl)) ?_
       try go_wp2
       go_roundg k1
       case measure=>have:=HK1.out;omega
       case rel=>exact ⟨(wrap64 (x6_1 + 1)),(t21),(y22),(.slice Ao31 y22.length co31),(by first | rfl | (simp;done) | (simp [*];done)),H',⟨by have:=HK1.out;omega⟩,⟨by (with_reducible repeat (first | apply Kd.R_alloc | apply Kd.R_drewN | apply Kd.R_drew));exact Kd.R_mono (Kd.R_far (p:=⟨gb8,0,none⟩) (Kd.R_types HO_3.out BK8.out (by decide)) (fun _ hk=>hk.2) (.slice Ao31 y22.length co31)) (fun _ hk=>trivial)⟩,⟨by (with_reducible repeat (first | apply Kd.R_alloc | apply Kd.R_drewN | apply Kd.R_drew));exact Kd.R_mono (Kd.R_far (p:=⟨gb8,0,none⟩) (Kd.R_types HO24.out BK8.out (by decide)) (fun _ hk=>hk.2) (.slice Ao31 y22.length co31)) (fun _ hk=>trivial)⟩,⟨by (with_reducible repeat (first | refine blk_drewN ?_ _ | refine blk_drew ?_ | refine blk_alloc ?_ _));refine blk_far ?_ NB1_8.out _;(with_reducible repeat (first | refine blk_drewN ?_ _ | refine blk_drew ?_ | refine blk_alloc ?_ _));exact BK1.out⟩,⟨by (with_reducible repeat (first | refine blk_drewN ?_ _ | refine blk_drew ?_ | refine blk_alloc ?_ _));refine blk_put (cs:=#[u9000]) ?_ 0 _ rfl;(with_reducible repeat (first | refine blk_drewN ?_ _ | refine blk_drew ?_ | refine blk_alloc ?_ _));exact BK8.out⟩,⟨is0_⟩,⟨hk_⟩,⟨hbi0_⟩⟩
      ·rw [if_neg c22] at H
       exact absurd H (by simp)
     ·rw [if_neg c19] at H
      exact absurd H (by simp)
    ·rw [if_neg c18] at H
     exact absurd H (by simp)
   ·rw [if_neg c17] at H
    have c17b0 : decide (x6_1 < t12) = false:=decide_eq_false c17
    clear c17
    simp only [Option.some.injEq,Prod.mk.injEq] at H
    obtain ⟨rfl,rfl⟩:=H
    have hnb33:=NB8_1.out
    have hnc33:=NB1_8.out
    have hnb34:=NB8_0.out
    have hnc34:=NB0_8.out
    have hcz35_0 : wr.cell? ⟨gb8,0,none⟩ = some (u9000):=(blk_cell BK8.out 0).trans rfl
    have hfz35_0:=blk_frozen BK8.out 0
    obtain ⟨Ao36,co36,eo36⟩:=Kd.R_slice Z9.out
    subst eo36
    have hnb37:=NB1_0.out
    have hnc37:=NB0_1.out
    have hcz38_0 : wr.cell? ⟨gb1,0,none⟩ = some (.slice none 0 0):=(blk_cell BK1.out 0).trans rfl
    have hfz38_0:=blk_frozen BK1.out 0
    go_wp2
    refine bodyPost_ret (results_cell_row rfl _ _ gb1 25 #[.slice Ao36 x9000_1.length co36] (0,0) _ rfl (by (with_reducible repeat (first | refine blk_drewN ?_ _ | refine blk_drew ?_ | refine blk_alloc ?_ _));refine blk_put (cs:=#[.slice none 0 0]) ?_ 0 _ rfl;(with_reducible repeat (first | refine blk_drewN ?_ _ | refine blk_drew ?_ | refine blk_alloc ?_ _));exact BK1.out) Try.underlying25 rfl (by kernel_rfl)) rfl ?_
    exact ⟨_,by first | rfl | (simp [errW_none,errW_some] <;> rfl) | (simp [*,errW_none,errW_some] <;> rfl),by (with_reducible repeat (first | apply Kd.R_alloc | apply Kd.R_drewN | apply Kd.R_drew));exact Kd.R_mono (Kd.R_far (p:=⟨gb1,0,none⟩) (Kd.R_types Z9.out BK1.out (by decide)) (fun _ hk=>hk.2) (.slice Ao36 x9000_1.length co36)) (fun _ hk=>trivial),is0_,hbi0_,hk_⟩
theorem spec_goodTree_l0 (b : List Int) (hb : byL b) (nm : List ByteArray) (hm : nm.length = 8) (hs : ∀ x ∈ nm,x.size ≤ 7) (n : Nat) (hn : n ≤ 8) : ∀ (d i : Nat) (q : Int) (t : List Cls),i + d = n → 1 ≤ i → t.length = i → 0 ≤ q → q + 2 * d ≤ 1099511627776 → gT t → ∃ t' q',Ev (fun k=>spec_goodTree.l0 k nm (n : Int) (i : Int) b q t) (t',q') ∧ q ≤ q' ∧ q' ≤ q + 2 * d ∧ t'.length = n ∧ gT t':=by
 intro d
 induction d with
 | zero =>
  intro i q t hi h1 hl hq0 hq1 hg
  refine ⟨t,q,Ev.succ ?_,by omega,by omega,by omega,hg⟩
  simp only [spec_goodTree.l0]
  exact Ev.neg (by omega) (Ev.const rfl)
 | succ d ih =>
  intro i q t hi h1 hl hq0 hq1 hg
  obtain ⟨x,hx,x0,x1,_⟩:=spec_pick_ev b q (i : Int) hb hq0 (by omega)
  have hxi:=x1 (by omega)
  have ew : wrap64 ((i : Int) - 1) = (i : Int) - 1:=wrap_in (by omega) (by omega)
  obtain ⟨y,hy,hym⟩:=spec_one_ev b (q + 1) [0,x,(i : Int) - 1] hb (by omega) (by omega) (by simp)
  have hyr : 0 ≤ y ∧ y ≤ (i : Int) - 1:=by
   simp only [List.mem_cons,List.not_mem_nil,or_false] at hym
   omega
  have hnm : (rdOf ByteArray.empty nm (i : Int)).size ≤ 7:=by
   refine hs _ ?_
   unfold rdOf
   rw [Int.toNat_natCast,List.getD_eq_getElem?_getD,List.getElem?_eq_getElem (show i < nm.length by omega)]
   exact List.getElem_mem _
  obtain ⟨t',q',he,h2,h3,h4,h5⟩:=ih (i + 1) (q + 1 + 1) (t ++ [⟨rdOf ByteArray.empty nm (i : Int),y⟩]) (by omega) (by omega) (by simp;omega) (by omega) (by omega) (gT_snoc hg (by omega) _ hnm hyr.1 (by rw [hl];exact hyr.2))
  refine ⟨t',q',Ev.succ ?_,by omega,by omega,h4,h5⟩
  simp only [spec_goodTree.l0,ew]
  refine Ev.pos (by omega) (Ev.pos (by omega) (Ev.pos (by omega) (Ev.bind hx (Ev.bind hy (Ev.pos (by omega) ?_)))))
  rw [wrap_succ (i:=(i : Int)) (n:=8) (by omega) (by omega) (by omega)]
  exact he
theorem spec_goodTree_ev (b : List Int) (p : Int) (hb : byL b) (h0 : 0 ≤ p) (hp : p ≤ 1099511627000) : ∃ t q,Ev (fun k=>spec_goodTree.f k b p) (t,q) ∧ p ≤ q ∧ q ≤ p + 20 ∧ 1 ≤ t.length ∧ t.length ≤ 8 ∧ gT t:=by
 obtain ⟨n,hn,hnm⟩:=spec_one_ev b p [4,5,3,6,2,1,8] hb h0 (by omega) (by simp)
 have hr : 1 ≤ n ∧ n ≤ 8:=by
  simp only [List.mem_cons,List.not_mem_nil,or_false] at hnm
  omega
 obtain ⟨m,rfl⟩:=Int.eq_ofNat_of_zero_le (show 0 ≤ n by omega)
 obtain ⟨t,q,he,h2,h3,h4,h5⟩:=spec_goodTree_l0 b hb [(⟨#[97,110,121]⟩ : ByteArray),(⟨#[105,111]⟩ : ByteArray),(⟨#[107,101,121]⟩ : ByteArray),(⟨#[116,105,109,101]⟩ : ByteArray),(⟨#[110,101,116]⟩ : ByteArray),(⟨#[100,105,115,107]⟩ : ByteArray),(⟨#[116,121,112,101]⟩ : ByteArray),(⟨#[111,100,100]⟩ : ByteArray)] rfl (by
  intro x hx
  simp only [List.mem_cons,List.not_mem_nil,or_false] at hx
  rcases hx with rfl | rfl | rfl | rfl | rfl | rfl | rfl | rfl <;> decide) m (by omega) (m - 1) 1 (p + 1) [⟨(⟨#[97,110,121]⟩ : ByteArray),(-1)⟩] (by omega) (by omega) rfl (by omega) (by omega) (by
  refine ⟨fun x hx=>?_,fun j hj=>?_⟩
  ·obtain rfl : x = ⟨(⟨#[97,110,121]⟩ : ByteArray),(-1)⟩:=by simpa using hx
   decide
  ·obtain rfl : j = 0:=by simp at hj;omega
   exact ⟨fun _=>rfl,fun h=>by omega⟩)
 exact ⟨t,q,Ev.bind hn he,by omega,by omega,by omega,by omega,h5⟩
end Go.Proofs.Ytmiholmfbjalfaa.P
namespace Go.Proofs.Ytmiholmfbjalfaa.P
open Go.RowKit Go.Proofs.YtmiholmfbjalfaaW.PrintWords Go.Proofs.YtmiholmfbjalfaaW.PrintLast Go.Proofs.YtmiholmfbjalfaaW.PrintMore
attribute [local go_sem] max2_int min2_int max_two min_two max_three min_three max_four min_four
set_option linter.unusedVariables false
set_option linter.unusedSimpArgs false
def spec_reader_of.f (k : Nat) (s0_0 : List Int) (s0_1 : Int) (l1 : List ByteArray) : Option (ByteArray × Int):=(spec_reader_pick.f k s0_0 s0_1 (l1.length : Int)).bind fun bt1=>(if 0 ≤ bt1.1 then (if bt1.1 < (l1.length : Int) then (some (rdOf ByteArray.empty l1 bt1.1,bt1.2)) else (none)) else (none))
theorem spec_reader_of.mono : ∀ a0 a1 a2 k,LeO (spec_reader_of.f k a0 a1 a2) (spec_reader_of.f (k + 1) a0 a1 a2):=by
 intro a0 a1 a2 k
 unfold spec_reader_of.f
 repeat' first
   | (with_reducible exact spec_reader_pick.mono _ _ _ _)
   | (with_reducible exact LeO.refl _)
   | (with_reducible exact LeO.none _)
   | (with_reducible refine LeO.ite ?_ ?_)
   | (with_reducible refine LeO.bind ?_ (fun _=>?_))
   | exact spec_reader_pick.mono _ _ _ _
   | exact LeO.none _
   | refine LeO.ite ?_ ?_
   | refine LeO.bind ?_ (fun _=>?_)
set_option maxHeartbeats 8000000 in
set_option maxRecDepth 100000 in
theorem spec_reader_of.calls (k : Nat) (g : Nat) (s0_0 : List Int) (s0_1 : Int) (A1 : Option Addr) (c1 : Nat) (l1 : List ByteArray) (r1 : ByteArray) (r2 : Int) (w0 w : World) (hI : IsS76 w0 w g s0_0 s0_1) (hB : Below w0.heap.size w0 w) (hr1 : Kd.C Kd.string w A1 l1.length l1) (hc1 : l1.length ≤ c1) (hf1 : ∀ ad,A1 = some ad → 0 < l1.length → ad.block ≠ g) (h : spec_reader_of.f k s0_0 s0_1 l1 = some (r1,r2)) :
  Calls Try.prog 82 #[.pointer (some ⟨g,0,none⟩),.slice A1 l1.length c1] w fun e w'=>e = .returned (.string r1) ∧ IsS76 w0 w' g s0_0 r2 ∧ Below w0.heap.size w0 w' ∧ KeepBut w w' g none:=by
 have HR1:=a0_ hr1
 have HC1:=a0_ hc1
 clear hr1 hc1
 have HI0:=a0_ hI
 have HK:=a0_ (KeepBut.refl w g none)
 have HL:=a0_ hB.size
 clear hI
 have HW0:=a0_ hB.size
 have HB:=a0_ hB
 clear hB
 have H : ((spec_reader_pick.f k s0_0 s0_1 (l1.length : Int)).bind fun bt1=>(if 0 ≤ bt1.1 then (if bt1.1 < (l1.length : Int) then (some (rdOf ByteArray.empty l1 bt1.1,bt1.2)) else (none)) else (none))) = some (r1,r2):=h
 clear h
 replace H:=Option.bind_eq_some_iff.mp H
 obtain ⟨⟨t1,t2⟩,A30,H⟩:=H
 try dsimp only at H
 have A3:=a0_ A30
 clear A30
 by_cases c4 : 0 ≤ t1
 ·rw [if_pos c4] at H
  have c4b0 : decide (0 ≤ t1) = true:=decide_eq_true c4
  clear c4
  by_cases c5 : t1 < (l1.length : Int)
  ·rw [if_pos c5] at H
   have c5b0 : decide (t1 < (l1.length : Int)) = true:=decide_eq_true c5
   clear c5
   simp only [Option.some.injEq,Prod.mk.injEq] at H
   obtain ⟨rfl,rfl⟩:=H
   go_enter Try.func82,Try.ntmps82
   go_wp2_with (first | ((with_reducible refine gate_callee (f:=48) rfl ?_);refine goesL_ (some 9) rfl rfl Try.func48 (by kernel_rfl) rfl #[.pointer (some ⟨g,0,none⟩),.int .i64 (l1.length : Int)] rfl lm_ ?_;(with_reducible refine (spec_reader_pick.calls k g s0_0 s0_1 (l1.length : Int) t1 t2 w0 _ ?side1 ?side2 A3.out).mono ?_);(case side1=>exact is0_);(case side2=>exact hbi0_);rintro e w6 ⟨rfl,hi,hb,hk⟩;refine ⟨_,rfl,?_⟩;replace HK:=a0_ (KeepBut.trans (w:=w) hk_ hk (.inl rfl));replace HI0:=a0_ (hi);replace HB:=a0_ (hb);(try clear hb);have p3 : 0 ≤ (t1 : Int):=of_decide_eq_true (by first | (with_reducible assumption) | assumption);have q3 : t1 < (l1.length : Int):=of_decide_eq_true (by first | (with_reducible assumption) | assumption);obtain ⟨ad3,e3,hx3_0⟩:=Kd.at_string HR1.out t1 p3 q3;cases e3;replace hx3_0:=keep_cell HK.out hx3_0 (by first | (rw [add_block];exact hf1 _ rfl (by omega)) | exact hf1 _ rfl (by omega) | exact hf1 ad3 rfl (by omega));replace p3:=eq_true p3;replace q3:=eq_true q3))
   go_ret
   exact ⟨by first | rfl | (simp [errW_none,errW_some] <;> rfl) | (simp [*,errW_none,errW_some] <;> rfl),is0_,hbi0_,hk_⟩
  ·rw [if_neg c5] at H
   exact absurd H (by simp)
 ·rw [if_neg c4] at H
  exact absurd H (by simp)
theorem spec_of_ev (b : List Int) (p : Int) (l : List ByteArray) (hb : byL b) (h0 : 0 ≤ p) (hp : p ≤ 1099511627776) (hl : 1 ≤ l.length) : ∃ x,Ev (fun k=>spec_reader_of.f k b p l) (x,p + 1) ∧ x ∈ l:=by
 obtain ⟨x,hx,x0,x1,_⟩:=spec_pick_ev b p (l.length : Int) hb h0 hp
 have hlt:=x1 (by omega)
 have hn : x.toNat < l.length:=by omega
 refine ⟨rdOf ByteArray.empty l x,Ev.bind hx (Ev.pos x0 (Ev.pos hlt (Ev.const rfl))),?_⟩
 unfold rdOf
 rw [List.getD_eq_getElem?_getD,List.getElem?_eq_getElem hn]
 exact List.getElem_mem hn
end Go.Proofs.Ytmiholmfbjalfaa.P
namespace Go.Proofs.Ytmiholmfbjalfaa.P
open Go.RowKit Go.Proofs.YtmiholmfbjalfaaW.PrintWords Go.Proofs.YtmiholmfbjalfaaW.PrintLast Go.Proofs.YtmiholmfbjalfaaW.PrintMore
attribute [local go_sem] max2_int min2_int max_two min_two max_three min_three max_four min_four
set_option linter.unusedVariables false
set_option linter.unusedSimpArgs false
def spec_someTree.f (k : Nat) (s0_0 : List Int) (s0_1 : Int) : Option ((List (S87)) × Int):=(spec_goodTree.f k s0_0 s0_1).bind fun bt2=>((spec_reader_pick.f k s0_0 bt2.2 (bt2.1.length : Int)).bind fun bt7=>((spec_reader_pick.f k s0_0 bt7.2 24).bind fun bt9=>(if bt9.1 = 0 then ((spec_reader_of.f k s0_0 bt9.2 (([(⟨#[]⟩ : ByteArray),(⟨#[97,110,121]⟩ : ByteArray),(⟨#[65]⟩ : ByteArray),(⟨#[116,111,111,108,111,110,103]⟩ : ByteArray)] : List ByteArray))).bind fun bt14=>(if 0 ≤ bt7.1 then (if bt7.1 < (bt2.1.length : Int) then (some ((bt2.1.set (bt7.1 : Int).toNat (⟨bt14.1,(rd_T87 bt2.1 bt7.1).f1⟩ : S87)),bt14.2)) else (none)) else (none))) else (if bt9.1 = 1 then ((spec_reader_one.f k s0_0 bt9.2 (([bt7.1,(-1),8,(-2)] : List Int))).bind fun bt20=>(if 0 ≤ bt7.1 then (if bt7.1 < (bt2.1.length : Int) then (some ((bt2.1.set (bt7.1 : Int).toNat (⟨(rd_T87 bt2.1 bt7.1).f0,bt20.1⟩ : S87)),bt20.2)) else (none)) else (none))) else (if bt9.1 = 2 then (some (([] : List (S87)),bt9.2)) else (some (bt2.1,bt9.2)))))))
theorem spec_someTree.mono : ∀ a0 a1 k,LeO (spec_someTree.f k a0 a1) (spec_someTree.f (k + 1) a0 a1):=by
 intro a0 a1 k
 unfold spec_someTree.f
 repeat' first
   | (with_reducible exact spec_goodTree.mono _ _ _)
   | (with_reducible exact spec_reader_of.mono _ _ _ _)
   | (with_reducible exact spec_reader_one.mono _ _ _ _)
   | (with_reducible exact spec_reader_pick.mono _ _ _ _)
   | (with_reducible exact LeO.refl _)
   | (with_reducible exact LeO.none _)
   | (with_reducible refine LeO.ite ?_ ?_)
   | (with_reducible refine LeO.bind ?_ (fun _=>?_))
   | exact spec_goodTree.mono _ _ _
   | exact spec_reader_of.mono _ _ _ _
   | exact spec_reader_one.mono _ _ _ _
   | exact spec_reader_pick.mono _ _ _ _
   | exact LeO.none _
   | refine LeO.ite ?_ ?_
   | refine LeO.bind ?_ (fun _=>?_)
def spec_someTree.T5 : Bool × List (List Nat × List Nat):=(true,[([],[]),([0],[0]),([],[]),([],[]),([],[]),([3,4],[3,4]),([1,2,0,1,2,3,4,5],[1,2]),([6,0,1,2,3,4,5],[6]),([7,5,5,0,1,2,3,4,5],[5,7])])
def spec_someTree.B5 : List Nat:=[0,1,0,0,0,24,63,127,255]
theorem spec_someTree.tab5 : rtab .any (opsOf Try.f66 5) = spec_someTree.T5:=by kernel_rfl
theorem spec_someTree.bits5 : waitsOk spec_someTree.T5.2 spec_someTree.B5 = true:=by kernel_rfl
def spec_someTree.T7 : Bool × List (List Nat × List Nat):=(true,[([],[]),([0],[0]),([],[]),([],[]),([],[]),([4],[4]),([3,5],[3,5]),([1,2,0,1,2,3,4,5,6],[1,2]),([7,0,1,2,3,4,5,6],[7]),([8,6,6,0,1,2,3,4,5,6],[6,8])])
def spec_someTree.B7 : List Nat:=[0,1,0,0,0,16,56,127,255,511]
theorem spec_someTree.tab7 : rtab .any (opsOf Try.f66 7) = spec_someTree.T7:=by kernel_rfl
theorem spec_someTree.bits7 : waitsOk spec_someTree.T7.2 spec_someTree.B7 = true:=by kernel_rfl
set_option maxHeartbeats 8000000 in
set_option maxRecDepth 100000 in
theorem spec_someTree.calls (k : Nat) (g : Nat) (s0_0 : List Int) (s0_1 : Int) (r1 : List (S87)) (r2 : Int) (w0 w : World) (hI : IsS76 w0 w g s0_0 s0_1) (hB : Below w0.heap.size w0 w) (h : spec_someTree.f k s0_0 s0_1 = some (r1,r2)) :
  Calls Try.prog 66 #[.pointer (some ⟨g,0,none⟩)] w fun e w'=>∃ v0_ : Value,e = .returned (.agg #[v0_]) ∧ Kd.R k87 87 w' w.heap.size (fun _=>True) v0_ r1 ∧ IsS76 w0 w' g s0_0 r2 ∧ Below w0.heap.size w0 w' ∧ KeepBut w w' g none:=by
 have hu25:=Try.underlying25
 have HI0:=a0_ hI
 have HK:=a0_ (KeepBut.refl w g none)
 have HL:=a0_ hB.size
 clear hI
 have HW0:=a0_ hB.size
 have HB:=a0_ hB
 clear hB
 have H : ((spec_goodTree.f k s0_0 s0_1).bind fun bt2=>((spec_reader_pick.f k s0_0 bt2.2 (bt2.1.length : Int)).bind fun bt7=>((spec_reader_pick.f k s0_0 bt7.2 24).bind fun bt9=>(if bt9.1 = 0 then ((spec_reader_of.f k s0_0 bt9.2 (([(⟨#[]⟩ : ByteArray),(⟨#[97,110,121]⟩ : ByteArray),(⟨#[65]⟩ : ByteArray),(⟨#[116,111,111,108,111,110,103]⟩ : ByteArray)] : List ByteArray))).bind fun bt14=>(if 0 ≤ bt7.1 then (if bt7.1 < (bt2.1.length : Int) then (some ((bt2.1.set (bt7.1 : Int).toNat (⟨bt14.1,(rd_T87 bt2.1 bt7.1).f1⟩ : S87)),bt14.2)) else (none)) else (none))) else (if bt9.1 = 1 then ((spec_reader_one.f k s0_0 bt9.2 (([bt7.1,(-1),8,(-2)] : List Int))).bind fun bt20=>(if 0 ≤ bt7.1 then (if bt7.1 < (bt2.1.length : Int) then (some ((bt2.1.set (bt7.1 : Int).toNat (⟨(rd_T87 bt2.1 bt7.1).f0,bt20.1⟩ : S87)),bt20.2)) else (none)) else (none))) else (if bt9.1 = 2 then (some (([] : List (S87)),bt9.2)) else (some (bt2.1,bt9.2)))))))) = some (r1,r2):=h
 clear h
 replace H:=Option.bind_eq_some_iff.mp H
 obtain ⟨⟨t2,t5⟩,A20,H⟩:=H
 try dsimp only at H
 have A2:=a0_ A20
 clear A20
 replace H:=Option.bind_eq_some_iff.mp H
 obtain ⟨⟨t7,t8⟩,A30,H⟩:=H
 try dsimp only at H
 have A3:=a0_ A30
 clear A30
 replace H:=Option.bind_eq_some_iff.mp H
 obtain ⟨⟨t9,t10⟩,A40,H⟩:=H
 try dsimp only at H
 have A4:=a0_ A40
 clear A40
 by_cases c5 : t9 = 0
 ·rw [if_pos c5] at H
  have c5b0 : (t9 == 0) = true:=beq_iff_eq.mpr c5
  have c5b1 : (t9 != 0) = false:=bne_eq_false_iff_eq.mpr c5
  clear c5
  obtain ⟨y11,hy11⟩ : ∃ y_ : List ByteArray,y_ = (([(⟨#[]⟩ : ByteArray),(⟨#[97,110,121]⟩ : ByteArray),(⟨#[65]⟩ : ByteArray),(⟨#[116,111,111,108,111,110,103]⟩ : ByteArray)] : List ByteArray)):=⟨_,rfl⟩
  replace H : ((spec_reader_of.f k s0_0 t10 y11).bind fun bt14=>(if 0 ≤ t7 then (if t7 < (t2.length : Int) then (some ((t2.set (t7 : Int).toNat (⟨bt14.1,(rd_T87 t2 t7).f1⟩ : S87)),bt14.2)) else (none)) else (none))) = some (r1,r2):=by first | (rw [hy11];with_reducible exact H) | (have H2_:=(Option.bind_some _ _).symm.trans H;rw [hy11];with_reducible exact H2_) | (have H2_:=(Option.bind_some _ _).symm.trans H;with_reducible exact H2_) | with_reducible exact H | (rw [hy11];exact H) | exact H
  have Ny11:=a0_ hy11
  clear hy11
  replace H:=Option.bind_eq_some_iff.mp H
  obtain ⟨⟨t14,t15⟩,A60,H⟩:=H
  try dsimp only at H
  have A6:=a0_ A60
  clear A60
  by_cases c7 : 0 ≤ t7
  ·rw [if_pos c7] at H
   have c7b0 : decide (0 ≤ t7) = true:=decide_eq_true c7
   clear c7
   by_cases c8 : t7 < (t2.length : Int)
   ·rw [if_pos c8] at H
    have c8b0 : decide (t7 < (t2.length : Int)) = true:=decide_eq_true c8
    clear c8
    obtain ⟨y16,hy16⟩ : ∃ y_ : List (S87),y_ = (t2.set (t7 : Int).toNat (⟨t14,(rd_T87 t2 t7).f1⟩ : S87)):=⟨_,rfl⟩
    replace H : (some (y16,t15)) = some (r1,r2):=by first | (rw [hy16];with_reducible exact H) | (have H2_:=(Option.bind_some _ _).symm.trans H;rw [hy16];with_reducible exact H2_) | (have H2_:=(Option.bind_some _ _).symm.trans H;with_reducible exact H2_) | with_reducible exact H | (rw [hy16];exact H) | exact H
    have Ny16:=a0_ hy16
    clear hy16
    simp only [Option.some.injEq,Prod.mk.injEq] at H
    obtain ⟨rfl,rfl⟩:=H
    go_enter Try.func66,Try.ntmps66
    try go_wp2_with (first | ((with_reducible refine gate_dst (N:=2) rfl ?_);refine box_event ?hg (N:=2) ?hd (cs:=#[.slice none 0 0]) (t:=25) ?hr ?_;(case hd=>rfl);(case hg=>rfl);(case hr=>first | (go_simp;done) | (go_simp;rfl));intro gb1 hg w10 hbox hb;have n0_:=a0_ (IsS76.below is0_ hb);have n1_:=a0_ (KeepBut.trans (w:=w) hk_ (KeepBut.of_below hb g none) (.inl rfl));have n2_:=a0_ (below_step hbi0_ hb);have n3_:=a0_ (hbox);have n4_:=a0_ ((by rw [hg];exact (keep_size (w:=w) (g:=g) (row:=none) hk_) : w.heap.size ≤ gb1));have n5_:=a0_ ((Nat.le_trans HW0.out (by rw [hg];exact (keep_size (w:=w) (g:=g) (row:=none) hk_) : w.heap.size ≤ gb1) : w0.heap.size ≤ gb1));have n6_:=a0_ ((by rw [hg];exact Nat.ne_of_lt (IsS76.lt (is0_ : IsS76 w0 _ g s0_0 s0_1)) : g ≠ gb1));have n7_:=a0_ ((by rw [hg];exact Nat.ne_of_gt (IsS76.lt (is0_ : IsS76 w0 _ g s0_0 s0_1)) : gb1 ≠ g));clear HI0 HK HB;have HI0:=n0_;have HK:=n1_;have HB:=n2_;have BK1:=n3_;have GW1:=n4_;have GE1:=n5_;have NB0_1:=n6_;have NB1_0:=n7_;clear n0_ n1_ n2_ n3_ n4_ n5_ n6_ n7_;clear hb hbox hg) | ((with_reducible refine gate_callee (f:=81) rfl ?_);refine goesL_ (some 6) rfl rfl Try.func81 (by kernel_rfl) rfl #[.pointer (some ⟨g,0,none⟩)] rfl lm_ ?_;(with_reducible refine (spec_goodTree.calls k g s0_0 s0_1 t2 t5 w0 _ ?side1 ?side2 A2.out).mono ?_);(case side1=>exact is0_);(case side2=>exact hbi0_);rintro e w11 ⟨v3,rfl,ho0,hi,hb,hk⟩;refine ⟨_,rfl,?_⟩;replace BK1:=kk_ hk BK1 NB1_0;have HO4:=a0_ (Kd.R_lower ho0 (keep_size (w:=w) (g:=g) (row:=none) hk_));replace HK:=a0_ (KeepBut.trans (w:=w) hk_ hk (.inl rfl));replace HI0:=a0_ (hi);replace HB:=a0_ (hb);(try clear hb);(try clear ho0)) | ((with_reducible refine gate_dst (N:=3) rfl ?_);refine box_event ?hg (N:=3) ?hd (cs:=#[.slice none 0 0]) (t:=25) ?hr ?_;(case hd=>rfl);(case hg=>rfl);(case hr=>first | (go_simp;done) | (go_simp;rfl));intro gb6 hg w12 hbox hb;have n0_:=rb_ HO4 hb;have n1_:=a0_ (IsS76.below is0_ hb);have n2_:=kb_ BK1 hb;have n3_:=a0_ (KeepBut.trans (w:=w) hk_ (KeepBut.of_below hb g none) (.inl rfl));have n4_:=a0_ (below_step hbi0_ hb);have n5_:=a0_ (hbox);have n6_:=a0_ ((by rw [hg];exact (keep_size (w:=w) (g:=g) (row:=none) hk_) : w.heap.size ≤ gb6));have n7_:=a0_ ((Nat.le_trans HW0.out (by rw [hg];exact (keep_size (w:=w) (g:=g) (row:=none) hk_) : w.heap.size ≤ gb6) : w0.heap.size ≤ gb6));have n8_:=a0_ ((by rw [hg];exact Nat.ne_of_lt (blk_lt (bb_ BK1.out)) : gb1 ≠ gb6));have n9_:=a0_ ((by rw [hg];exact Nat.ne_of_gt (blk_lt (bb_ BK1.out)) : gb6 ≠ gb1));have n10_:=a0_ ((by rw [hg];exact Nat.ne_of_lt (IsS76.lt (is0_ : IsS76 w0 _ g s0_0 t5)) : g ≠ gb6));have n11_:=a0_ ((by rw [hg];exact Nat.ne_of_gt (IsS76.lt (is0_ : IsS76 w0 _ g s0_0 t5)) : gb6 ≠ g));clear HO4 HI0;clear BK1 HK HB;have HO4:=n0_;have HI0:=n1_;have BK1:=n2_;have HK:=n3_;have HB:=n4_;have BK6:=n5_;have GW6:=n6_;have GE6:=n7_;have NB1_6:=n8_;have NB6_1:=n9_;have NB0_6:=n10_;have NB6_0:=n11_;clear n0_ n1_ n2_ n3_ n4_ n5_ n6_ n7_ n8_ n9_ n10_ n11_;clear hb hbox hg;obtain ⟨Ao13,co13,eo13⟩:=Kd.R_slice HO4.out;subst eo13;have hnb14:=NB6_1.out;have hnc14:=NB1_6.out;have hnb15:=NB6_0.out;have hnc15:=NB0_6.out;have hcz16_0 : w12.cell? ⟨gb6,0,none⟩ = some (.slice none 0 0):=(blk_cell BK6.out 0).trans rfl;have hfz16_0:=blk_frozen BK6.out 0) | ((with_reducible refine gate_callee (f:=48) rfl ?_);refine goesL_ (some 11) rfl rfl Try.func48 (by kernel_rfl) rfl #[.pointer (some ⟨g,0,none⟩),.int .i64 (t2.length : Int)] rfl lm_ ?_;(with_reducible refine (spec_reader_pick.calls k g s0_0 t5 (t2.length : Int) t7 t8 w0 _ ?side1 ?side2 A3.out).mono ?_);(case side1=>exact is0_);(case side2=>exact hbi0_);rintro e w17 ⟨rfl,hi,hb,hk⟩;refine ⟨_,rfl,?_⟩;replace BK1:=kk_ hk BK1 NB1_0;replace HO4:=a0_ (Kd.R_mono (Kd.R_keep (IsS76.apart (is0_ : IsS76 w0 _ g s0_0 t5) (by (with_reducible repeat (first | apply Kd.R_alloc | apply Kd.R_drewN | apply Kd.R_drew));exact (Kd.R_mono (Kd.R_far (p:=⟨gb6,0,none⟩) (Kd.R_types HO4.out BK6.out (by decide)) (fun _ hk=>hk.2) (.slice Ao13 t2.length co13)) (fun _ h_=>h_.1))) (by decide)) hk (fun _ h=>h.2)) (fun _ h=>h.1));replace BK6:=a0_ (KeepBut.blk hk (g':=gb6) (o:=.cells #[.slice Ao13 t2.length co13] 25 (0,0)) (by (with_reducible repeat (first | refine blk_drewN ?_ _ | refine blk_drew ?_ | refine blk_alloc ?_ _));refine blk_put (cs:=#[.slice none 0 0]) ?_ 0 _ rfl;(with_reducible repeat (first | refine blk_drewN ?_ _ | refine blk_drew ?_ | refine blk_alloc ?_ _));exact BK6.out) NB6_0.out (by simp));replace HK:=a0_ (KeepBut.trans (w:=w) hk_ hk (.inl rfl));replace HI0:=a0_ (hi);replace HB:=a0_ (hb);(try clear hb);(try clear hb2);(try clear hk);(try clear hi)) | ((with_reducible refine gate_callee (f:=48) rfl ?_);refine goesL_ (some 13) rfl rfl Try.func48 (by kernel_rfl) rfl #[.pointer (some ⟨g,0,none⟩),.int .i64 24] rfl lm_ ?_;(with_reducible refine (spec_reader_pick.calls k g s0_0 t8 24 t9 t10 w0 _ ?side1 ?side2 A4.out).mono ?_);(case side1=>exact is0_);(case side2=>exact hbi0_);rintro e w18 ⟨rfl,hi,hb,hk⟩;refine ⟨_,rfl,?_⟩;replace BK1:=kk_ hk BK1 NB1_0;replace HO4:=a0_ (Kd.R_mono (Kd.R_keep (IsS76.apart (is0_ : IsS76 w0 _ g s0_0 t8) (rr_ HO4.out) (by decide)) hk (fun _ h=>h.2)) (fun _ h=>h.1));replace BK6:=kk_ hk BK6 NB6_0;replace HK:=a0_ (KeepBut.trans (w:=w) hk_ hk (.inl rfl));replace HI0:=a0_ (hi);replace HB:=a0_ (hb);(try clear hb);(try clear hb2);(try clear hk);(try clear hi)))
    have n0_:=a0_ (Kd.R_drew HO4.out)
    have n1_:=a0_ (blk_drew BK1.out)
    have n2_:=a0_ (blk_drew BK6.out)
    have n3_:=a0_ (IsS76.drew HI0.out)
    have n4_:=a0_ (keep_drew HK.out)
    have n5_:=a0_ (below_drew1 HB.out)
    clear HO4
    clear BK1
    clear BK6
    clear HI0
    clear HK
    clear HB
    have HO4:=n0_
    have BK1:=n1_
    have BK6:=n2_
    have HI0:=n3_
    have HK:=n4_
    have HB:=n5_
    clear n0_ n1_ n2_ n3_ n4_ n5_
    refine start_ (n:=9) (S:=fun w'=>w'.cell? ⟨gb6,0,none⟩ = some (.slice Ao13 t2.length co13)) (ds:=[8]) #[false,false,false,false,false,false,false,false,false] (by kernel_rfl) rfl rfl ((blk_cell BK6.out 0).trans rfl) (fun hHeld=>?_);refine with_tabW spec_someTree.tab5 spec_someTree.bits5 (fun HT_ HW_=>?_)
    generalize w18.drew = w19 at HO4 BK1 BK6 HI0 HK HB hHeld ⊢
    refine pure_ (i:=0) (N:=some 16) (v:=?_) (a':=?_) #[true,false,false,false,false,false,false,false,false] rfl rfl (any_of HT_.out (by kernel_rfl)) (fun _ _ _ h=>h) (Or.inl ⟨by rfl,?_⟩) ?_ ?_
    rotate_left
    ·intro w'
     go_simp
     with_reducible rfl
    rotate_left
    ·simp only [Act.put,s1_,s2_,s3_,i64_w,i32_w]
     rfl
    refine pure_ (i:=2) (N:=some 18) (v:=?_) (a':=?_) #[true,false,true,false,false,false,false,false,false] rfl rfl (any_of HT_.out (by kernel_rfl)) (fun _ _ _ h=>h) (Or.inl ⟨by rfl,?_⟩) ?_ ?_
    rotate_left
    ·intro w'
     go_simp
     with_reducible rfl
    rotate_left
    ·simp only [Act.put,s1_,s2_,s3_,i64_w,i32_w]
     rfl
    refine pure_ (i:=3) (N:=some 19) (v:=?_) (a':=?_) #[true,false,true,true,false,false,false,false,false] rfl rfl (any_of HT_.out (by kernel_rfl)) (fun _ _ _ h=>h) (Or.inl ⟨by rfl,?_⟩) ?_ ?_
    rotate_left
    ·intro w'
     go_simp
     with_reducible rfl
    rotate_left
    ·simp only [Act.put,s1_,s2_,s3_,i64_w,i32_w]
     rfl
    refine take_ (i:=1) (N:=some 17) (v:=?_) (a':=?_) #[true,true,true,true,false,false,false,false,false] rfl rfl (take_ofW HT_.out HW_.out (by kernel_rfl)) (fun _ _ _ h=>h) (Or.inl ⟨by rfl,?_⟩) hHeld ?_ ?_
    rotate_left
    ·intro w' s0
     go_simp
     with_reducible rfl
    rotate_left
    ·simp only [Act.put,s1_,s2_,s3_,i64_w,i32_w]
     rfl
    refine one_ (i:=4) (N:=some 20) #[true,true,true,true,true,false,false,false,false] rfl rfl (one_of HT_.out (by kernel_rfl)) (by decide) (fun K hK=>?_)
    refine Kd.R_lit_step Kd.string _ 9 ?hg (N:=20) ?hd (xs:=([(⟨#[]⟩ : ByteArray),(⟨#[97,110,121]⟩ : ByteArray),(⟨#[65]⟩ : ByteArray),(⟨#[116,111,111,108,111,110,103]⟩ : ByteArray)] : List ByteArray)) (inner:=[.string (⟨#[]⟩ : ByteArray),.string (⟨#[97,110,121]⟩ : ByteArray),.string (⟨#[65]⟩ : ByteArray),.string (⟨#[116,111,111,108,111,110,103]⟩ : ByteArray)]) (ok:=fun _=>True) (okp:=fun _=>True) ?hr ?hp (fun _ hk=>hk) trivial (Below.refl _ _) (Nat.le_refl _) (by simp) ?_;(case hd=>rfl);(case hg=>rfl);(case hr=>first | (go_simp;done) | (go_simp;rfl));(case hp=>exact (Reps.one (show Kd.M Kd.string _ _ _ (⟨#[]⟩ : ByteArray) [.string (⟨#[]⟩ : ByteArray)] from rfl) (Reps.one (show Kd.M Kd.string _ _ _ (⟨#[97,110,121]⟩ : ByteArray) [.string (⟨#[97,110,121]⟩ : ByteArray)] from rfl) (Reps.one (show Kd.M Kd.string _ _ _ (⟨#[65]⟩ : ByteArray) [.string (⟨#[65]⟩ : ByteArray)] from rfl) (Reps.one (show Kd.M Kd.string _ _ _ (⟨#[116,111,111,108,111,110,103]⟩ : ByteArray) [.string (⟨#[116,111,111,108,111,110,103]⟩ : ByteArray)] from rfl) (Reps.none _ _))))))
    intro v12 w20 ho21 hb hg_ hnew_
    clear hg_ hnew_
    (first | rw [← Ny11.out] at ho21 | (simp only [Int.reduceToNat] at ho21;rw [← Ny11.out] at ho21))
    have n0_:=rb_ HO4 hb
    have n1_:=a0_ (Kd.R_lower ho21 (keep_size (w:=w) (g:=g) (row:=none) hk_))
    have n2_:=a0_ (IsS76.below is0_ hb)
    have n3_:=kb_ BK1 hb
    have n4_:=kb_ BK6 hb
    have n5_:=a0_ (KeepBut.trans (w:=w) hk_ (KeepBut.of_below hb g none) (.inl rfl))
    have n6_:=a0_ (below_step hbi0_ hb)
    clear HO4
    clear HI0
    clear BK1
    clear BK6
    clear HK
    clear HB
    have HO4:=n0_
    have HO13:=n1_
    have HI0:=n2_
    have BK1:=n3_
    have BK6:=n4_
    have HK:=n5_
    have HB:=n6_
    clear n0_ n1_ n2_ n3_ n4_ n5_ n6_
    clear hb ho21
    obtain ⟨Ao22,co22,eo22⟩:=Kd.R_slice HO13.out
    (first | subst eo22 | (injection eo22 with f1_ f2_ f3_;have f4_:=f1_.symm;have f5_:=f3_.symm;clear f1_ f2_ f3_;subst f4_;subst f5_))
    refine hK.out _ _ ((blk_cell BK6.out 0).trans rfl) (fun hHeld=>?_)
    clear hK K
    refine norm_ (a':=?_) ?_ ?_
    rotate_left
    ·show Act.put _ (some 20) _ = _
     simp only [Act.put,s1_,s2_,s3_,i64_w,i32_w]
     rfl
    refine one_ (i:=5) (N:=some 21) #[true,true,true,true,true,true,false,false,false] rfl rfl (one_of HT_.out (by kernel_rfl)) (by decide) (fun K hK=>?_)
    refine goes_ Try.func82 (by kernel_rfl) rfl #[.pointer (some ⟨g,0,none⟩),.slice Ao22 y11.length co22] (by rfl) rfl rfl lm_ ?_
    with_reducible refine (spec_reader_of.calls k g s0_0 t10 _ _ y11 t14 t15 w0 _ ?side1 ?side2 ?side3 ?side4 ?side5 A6.out).mono ?_
    (case side1=>exact is0_)
    (case side2=>exact hbi0_)
    (case side3=>exact cc_ (Kd.R_reads' HO13.out).2.2)
    (case side4=>exact (Kd.R_reads' HO13.out).2.1)
    (case side5=>exact far_slice (IsS76.own_ne HI0.out HO13.out (by decide)))
    rintro e w23 ⟨rfl,hi,hb,hk⟩
    refine ⟨_,rfl,?_⟩
    have n0_:=kk_ hk BK1 NB1_0
    have n1_:=a0_ (Kd.R_mono (Kd.R_keep (IsS76.apart (is0_ : IsS76 w0 _ g s0_0 t10) (rr_ HO4.out) (by decide)) hk (fun _ h=>h.2)) (fun _ h=>h.1))
    have n2_:=kk_ hk BK6 NB6_0
    have n3_:=a0_ (Kd.R_mono (Kd.R_keep (IsS76.apart (is0_ : IsS76 w0 _ g s0_0 t10) (rr_ HO13.out) (by decide)) hk (fun _ h=>h.2)) (fun _ h=>h.1))
    have n4_:=a0_ (KeepBut.trans (w:=w) hk_ hk (.inl rfl))
    have n5_:=a0_ (hb)
    have n6_:=a0_ (hi)
    clear BK1
    clear HO4
    clear BK6
    clear HO13
    clear HK
    clear HB
    clear HI0
    have BK1:=n0_
    have HO4:=n1_
    have BK6:=n2_
    have HO13:=n3_
    have HK:=n4_
    have HB:=n5_
    have HI0:=n6_
    clear n0_ n1_ n2_ n3_ n4_ n5_ n6_
    (try clear hb)
    (try clear hb2)
    (try clear hk)
    (try clear hi)
    have p9 : 0 ≤ (t7 : Int):=of_decide_eq_true (by first | (with_reducible assumption) | assumption)
    have q9 : (t7 : Int) < ((t2.length : Int) : Int):=of_decide_eq_true (by first | (with_reducible assumption) | assumption)
    obtain ⟨go9,co9,eo9,gb9,gl9,cl9,HG9⟩:=Kd.R_form HO4.out (by omega)
    (first | cases eo9 | (injection eo9 with ea_ en_ ec_;(first | subst ea_ | (injection ea_ with ea_;subst ea_));subst ec_;clear en_))
    have GB9:=a0_ gb9
    have GG9:=a0_ HG9
    clear gb9 gl9 HG9
    obtain ⟨ce9,hcl9,hM9,hcc9,hfr9⟩:=Kd.R_elem HO4.out z87 (t7 : Int) p9 q9
    obtain rfl:=k87_openM hM9
    have hx9_0 : World.cell? _ ⟨go9,(t7 : Int).toNat * 2,none⟩ = some (.string ((rd_T87 t2 t7).f0)):=hcc9 0 _ rfl
    have hx9_1 : World.cell? _ ⟨go9,(t7 : Int).toNat * 2 + 1,none⟩ = some (.int .i64 ((rd_T87 t2 t7).f1)):=hcc9 1 _ rfl
    have hf9_0 : World.frozen? _ ⟨go9,(t7 : Int).toNat * 2,none⟩ = false:=hfr9 0
    have hf9_1 : World.frozen? _ ⟨go9,(t7 : Int).toNat * 2 + 1,none⟩ = false:=hfr9 1
    clear hcl9 hcc9 hfr9 hM9
    replace p9:=eq_true p9
    replace q9:=eq_true q9
    have HN0_go9:=a0_ (show g ≠ go9 from by have h_:=IsS76.own_ne HI0.out HO4.out (by decide);intro e_;exact h_ (by rw [e_];rfl))
    obtain ⟨ce24,hcl24,hM24,hcc24,hfr24⟩:=Kd.R_elem HO4.out z87 (t7 : Int) (of_decide_eq_true (by first | (with_reducible assumption) | assumption)) (by have h_ : (t7 : Int) < ((t2.length : Int) : Int):=of_decide_eq_true (by first | (with_reducible assumption) | assumption);first | exact h_ | (have e_:=(Kd.R_reads' HO4.out).1;omega) | simpa using h_)
    obtain rfl:=k87_openM hM24
    have HP24:=(Kd.R_seg HO4.out (t7 : Int) (of_decide_eq_true (by first | (with_reducible assumption) | assumption)) (by have h_ : (t7 : Int) < ((t2.length : Int) : Int):=of_decide_eq_true (by first | (with_reducible assumption) | assumption);first | exact h_ | (have e_:=(Kd.R_reads' HO4.out).1;omega) | simpa using h_) (seg:=[.string t14]) (j:=0) hcl24 hcc24 (show 1 ≤ 2 from by decide) (x':=(⟨t14,(rd_T87 t2 t7).f1⟩ : S87)) (k87_mkM _ _ _ (⟨t14,(rd_T87 t2 t7).f1⟩ : S87) ) (fun _ hk=>hk)).1
    rw [← Ny16.out] at HP24
    have HQ24:=a0_ HP24
    clear hcl24 hcc24 hfr24 hM24 HP24
    refine hK.out _ _ ((blk_cell BK6.out 0).trans rfl) (fun hHeld=>?_)
    clear hK K
    refine norm_ (a':=?_) ?_ ?_
    rotate_left
    ·show Act.put _ (some 21) _ = _
     simp only [Act.put,s1_,s2_,s3_,i64_w,i32_w]
     rfl
    refine pure_ (i:=6) (N:=some 22) (v:=?_) (a':=?_) #[true,true,true,true,true,true,true,false,false] rfl rfl (any_of HT_.out (by kernel_rfl)) (fun _ _ _ h=>h) (Or.inl ⟨by rfl,?_⟩) ?_ ?_
    rotate_left
    ·intro w'
     go_simp
     with_reducible rfl
    rotate_left
    ·simp only [Act.put,s1_,s2_,s3_,i64_w,i32_w]
     rfl
    refine pure_ (i:=7) (N:=some 23) (v:=?_) (a':=?_) #[true,true,true,true,true,true,true,true,false] rfl rfl (any_of HT_.out (by kernel_rfl)) (fun _ _ _ h=>h) (Or.inl ⟨by rfl,?_⟩) ?_ ?_
    rotate_left
    ·intro w'
     go_simp
     with_reducible rfl
    rotate_left
    ·simp only [Act.put,s1_,s2_,s3_,i64_w,i32_w]
     rfl
    refine last_ (i:=8) (N:=none) #[true,true,true,true,true,true,true,true,true] rfl rfl (one_of HT_.out (by kernel_rfl)) (by decide) (fun K hK=>?_)
    refine skip_ (w1:=?_) (by rfl) rfl ?_ ?_
    rotate_left
    ·go_simp
     rfl
    refine hK.out _ _ ?_
    clear hK K
    refine done_ (done_of HT_.out (by kernel_rfl)) ?_
    have n0_ : Aside0 (Kd.R k87 87 (w23.setCell ⟨go9,(t7 : Int).toNat * 2,none⟩ (.string t14)) w.heap.size (fun _=>True) (.slice (some ⟨go9,0,none⟩) t2.length co13) y16):=⟨by (with_reducible repeat (first | apply Kd.R_alloc | apply Kd.R_drewN | apply Kd.R_drew));exact HQ24.out⟩
    have n1_ : Aside0 (Kd.R Kd.string 9 (w23.setCell ⟨go9,(t7 : Int).toNat * 2,none⟩ (.string t14)) w.heap.size (fun _=>True) (.slice Ao22 y11.length co22) y11):=⟨by (with_reducible repeat (first | apply Kd.R_alloc | apply Kd.R_drewN | apply Kd.R_drew));exact Kd.R_mono (Kd.R_far (p:=⟨go9,(t7 : Int).toNat * 2,none⟩) (Kd.R_types HO13.out GG9.out (by decide)) (fun _ hk=>hk.2) (.string t14)) (fun _ hk=>trivial)⟩
    have n2_ : Aside0 ((w23.setCell ⟨go9,(t7 : Int).toNat * 2,none⟩ (.string t14)).heap[gb1]? = some (.cells #[.slice none 0 0] 25 (0,0))):=⟨by (with_reducible repeat (first | refine blk_drewN ?_ _ | refine blk_drew ?_ | refine blk_alloc ?_ _));refine blk_far ?_ (by have h_:=Kd.R_ne HO4.out BK1.out (by decide);intro e_;exact h_ (by rw [e_];rfl)) _;(with_reducible repeat (first | refine blk_drewN ?_ _ | refine blk_drew ?_ | refine blk_alloc ?_ _));exact BK1.out⟩
    have n3_ : Aside0 ((w23.setCell ⟨go9,(t7 : Int).toNat * 2,none⟩ (.string t14)).heap[gb6]? = some (.cells #[.slice (some ⟨go9,0,none⟩) t2.length co13] 25 (0,0))):=⟨by (with_reducible repeat (first | refine blk_drewN ?_ _ | refine blk_drew ?_ | refine blk_alloc ?_ _));refine blk_far ?_ (by have h_:=Kd.R_ne HO4.out BK6.out (by decide);intro e_;exact h_ (by rw [e_];rfl)) _;(with_reducible repeat (first | refine blk_drewN ?_ _ | refine blk_drew ?_ | refine blk_alloc ?_ _));exact BK6.out⟩
    have n4_ : Aside0 (IsS76 w0 (w23.setCell ⟨go9,(t7 : Int).toNat * 2,none⟩ (.string t14)) g s0_0 t15):=⟨is0_⟩
    have n5_ : Aside0 (KeepBut w (w23.setCell ⟨go9,(t7 : Int).toNat * 2,none⟩ (.string t14)) g none):=⟨hk_⟩
    have n6_ : Aside0 (Below w0.heap.size w0 (w23.setCell ⟨go9,(t7 : Int).toNat * 2,none⟩ (.string t14))):=⟨by repeat (first | (with_reducible first | exact HB.out | apply below_alloc | apply pw_below_drewN | apply below_drew1 | refine below_set ?_ (Nat.le_trans HL.out GB9.out) | refine below_set ?_ (IsS76.ge HI0.out) | refine below_set ?_ GE1.out | refine below_set ?_ GE6.out) | exact HB.out)⟩
    (try clear HO4)
    (try clear HO13)
    (try clear BK1)
    (try clear BK6)
    (try clear HI0)
    (try clear HK)
    (try clear HB)
    generalize (w23.setCell ⟨go9,(t7 : Int).toNat * 2,none⟩ (.string t14)) = w25 at n0_ n1_ n2_ n3_ n4_ n5_ n6_ ⊢
    have HO4:=n0_
    have HO13:=n1_
    have BK1:=n2_
    have BK6:=n3_
    have HI0:=n4_
    have HK:=n5_
    have HB:=n6_
    clear n0_ n1_ n2_ n3_ n4_ n5_ n6_
    have hcz26_0 : w25.cell? ⟨gb6,0,none⟩ = some (.slice (some ⟨go9,0,none⟩) t2.length co13):=(blk_cell BK6.out 0).trans rfl
    have hfz26_0:=blk_frozen BK6.out 0
    have hnb27:=NB1_0.out
    have hnc27:=NB0_1.out
    have hcz28_0 : w25.cell? ⟨gb1,0,none⟩ = some (.slice none 0 0):=(blk_cell BK1.out 0).trans rfl
    have hfz28_0:=blk_frozen BK1.out 0
    try go_wp2
    refine bodyPost_ret (results_cell_row rfl _ _ gb1 25 #[.slice (some ⟨go9,0,none⟩) t2.length co13] (0,0) _ rfl (by (with_reducible repeat (first | refine blk_drewN ?_ _ | refine blk_drew ?_ | refine blk_alloc ?_ _));refine blk_put (cs:=#[.slice none 0 0]) ?_ 0 _ rfl;(with_reducible repeat (first | refine blk_drewN ?_ _ | refine blk_drew ?_ | refine blk_alloc ?_ _));exact BK1.out) Try.underlying25 rfl (by kernel_rfl)) rfl ?_
    exact ⟨_,by first | rfl | (simp [errW_none,errW_some] <;> rfl) | (simp [*,errW_none,errW_some] <;> rfl),by (with_reducible repeat (first | apply Kd.R_alloc | apply Kd.R_drewN | apply Kd.R_drew));exact Kd.R_mono (Kd.R_far (p:=⟨gb1,0,none⟩) (Kd.R_types HO4.out BK1.out (by decide)) (fun _ hk=>hk.2) (.slice (some ⟨go9,0,none⟩) t2.length co13)) (fun _ hk=>trivial),is0_,hbi0_,hk_⟩
   ·rw [if_neg c8] at H
    exact absurd H (by simp)
  ·rw [if_neg c7] at H
   exact absurd H (by simp)
 ·rw [if_neg c5] at H
  have c5b0 : (t9 == 0) = false:=beq_eq_false_iff_ne.mpr c5
  have c5b1 : (t9 != 0) = true:=bne_iff_ne.mpr c5
  by_cases c29 : t9 = 1
  ·rw [if_pos c29] at H
   have c29b0 : (t9 == 1) = true:=beq_iff_eq.mpr c29
   have c29b1 : (t9 != 1) = false:=bne_eq_false_iff_eq.mpr c29
   clear c29
   obtain ⟨y17,hy17⟩ : ∃ y_ : List Int,y_ = (([t7,(-1),8,(-2)] : List Int)):=⟨_,rfl⟩
   replace H : ((spec_reader_one.f k s0_0 t10 y17).bind fun bt20=>(if 0 ≤ t7 then (if t7 < (t2.length : Int) then (some ((t2.set (t7 : Int).toNat (⟨(rd_T87 t2 t7).f0,bt20.1⟩ : S87)),bt20.2)) else (none)) else (none))) = some (r1,r2):=by first | (rw [hy17];with_reducible exact H) | (have H2_:=(Option.bind_some _ _).symm.trans H;rw [hy17];with_reducible exact H2_) | (have H2_:=(Option.bind_some _ _).symm.trans H;with_reducible exact H2_) | with_reducible exact H | (rw [hy17];exact H) | exact H
   have Ny17:=a0_ hy17
   clear hy17
   replace H:=Option.bind_eq_some_iff.mp H
   obtain ⟨⟨t20,t21⟩,A300,H⟩:=H
   try dsimp only at H
   have A30:=a0_ A300
   clear A300
   by_cases c31 : 0 ≤ t7
   ·rw [if_pos c31] at H
    have c31b0 : decide (0 ≤ t7) = true:=decide_eq_true c31
    clear c31
    by_cases c32 : t7 < (t2.length : Int)
    ·rw [if_pos c32] at H
     have c32b0 : decide (t7 < (t2.length : Int)) = true:=decide_eq_true c32
     clear c32
     obtain ⟨y22,hy22⟩ : ∃ y_ : List (S87),y_ = (t2.set (t7 : Int).toNat (⟨(rd_T87 t2 t7).f0,t20⟩ : S87)):=⟨_,rfl⟩
     replace H : (some (y22,t21)) = some (r1,r2):=by first | (rw [hy22];with_reducible exact H) | (have H2_:=(Option.bind_some _ _).symm.trans H;rw [hy22];with_reducible exact H2_) | (have H2_:=(Option.bind_some _ _).symm.trans H;with_reducible exact H2_) | with_reducible exact H | (rw [hy22];exact H) | exact H
     have Ny22:=a0_ hy22
     clear hy22
     simp only [Option.some.injEq,Prod.mk.injEq] at H
     obtain ⟨rfl,rfl⟩:=H
     go_enter Try.func66,Try.ntmps66
     try go_wp2_with (first | ((with_reducible refine gate_dst (N:=2) rfl ?_);refine box_event ?hg (N:=2) ?hd (cs:=#[.slice none 0 0]) (t:=25) ?hr ?_;(case hd=>rfl);(case hg=>rfl);(case hr=>first | (go_simp;done) | (go_simp;rfl));intro gb1 hg w34 hbox hb;have n0_:=a0_ (IsS76.below is0_ hb);have n1_:=a0_ (KeepBut.trans (w:=w) hk_ (KeepBut.of_below hb g none) (.inl rfl));have n2_:=a0_ (below_step hbi0_ hb);have n3_:=a0_ (hbox);have n4_:=a0_ ((by rw [hg];exact (keep_size (w:=w) (g:=g) (row:=none) hk_) : w.heap.size ≤ gb1));have n5_:=a0_ ((Nat.le_trans HW0.out (by rw [hg];exact (keep_size (w:=w) (g:=g) (row:=none) hk_) : w.heap.size ≤ gb1) : w0.heap.size ≤ gb1));have n6_:=a0_ ((by rw [hg];exact Nat.ne_of_lt (IsS76.lt (is0_ : IsS76 w0 _ g s0_0 s0_1)) : g ≠ gb1));have n7_:=a0_ ((by rw [hg];exact Nat.ne_of_gt (IsS76.lt (is0_ : IsS76 w0 _ g s0_0 s0_1)) : gb1 ≠ g));clear HI0 HK HB;have HI0:=n0_;have HK:=n1_;have HB:=n2_;have BK1:=n3_;have GW1:=n4_;have GE1:=n5_;have NB0_1:=n6_;have NB1_0:=n7_;clear n0_ n1_ n2_ n3_ n4_ n5_ n6_ n7_;clear hb hbox hg) | ((with_reducible refine gate_callee (f:=81) rfl ?_);refine goesL_ (some 6) rfl rfl Try.func81 (by kernel_rfl) rfl #[.pointer (some ⟨g,0,none⟩)] rfl lm_ ?_;(with_reducible refine (spec_goodTree.calls k g s0_0 s0_1 t2 t5 w0 _ ?side1 ?side2 A2.out).mono ?_);(case side1=>exact is0_);(case side2=>exact hbi0_);rintro e w35 ⟨v3,rfl,ho0,hi,hb,hk⟩;refine ⟨_,rfl,?_⟩;replace BK1:=kk_ hk BK1 NB1_0;have HO4:=a0_ (Kd.R_lower ho0 (keep_size (w:=w) (g:=g) (row:=none) hk_));replace HK:=a0_ (KeepBut.trans (w:=w) hk_ hk (.inl rfl));replace HI0:=a0_ (hi);replace HB:=a0_ (hb);(try clear hb);(try clear ho0)) | ((with_reducible refine gate_dst (N:=3) rfl ?_);refine box_event ?hg (N:=3) ?hd (cs:=#[.slice none 0 0]) (t:=25) ?hr ?_;(case hd=>rfl);(case hg=>rfl);(case hr=>first | (go_simp;done) | (go_simp;rfl));intro gb6 hg w36 hbox hb;have n0_:=rb_ HO4 hb;have n1_:=a0_ (IsS76.below is0_ hb);have n2_:=kb_ BK1 hb;have n3_:=a0_ (KeepBut.trans (w:=w) hk_ (KeepBut.of_below hb g none) (.inl rfl));have n4_:=a0_ (below_step hbi0_ hb);have n5_:=a0_ (hbox);have n6_:=a0_ ((by rw [hg];exact (keep_size (w:=w) (g:=g) (row:=none) hk_) : w.heap.size ≤ gb6));have n7_:=a0_ ((Nat.le_trans HW0.out (by rw [hg];exact (keep_size (w:=w) (g:=g) (row:=none) hk_) : w.heap.size ≤ gb6) : w0.heap.size ≤ gb6));have n8_:=a0_ ((by rw [hg];exact Nat.ne_of_lt (blk_lt (bb_ BK1.out)) : gb1 ≠ gb6));have n9_:=a0_ ((by rw [hg];exact Nat.ne_of_gt (blk_lt (bb_ BK1.out)) : gb6 ≠ gb1));have n10_:=a0_ ((by rw [hg];exact Nat.ne_of_lt (IsS76.lt (is0_ : IsS76 w0 _ g s0_0 t5)) : g ≠ gb6));have n11_:=a0_ ((by rw [hg];exact Nat.ne_of_gt (IsS76.lt (is0_ : IsS76 w0 _ g s0_0 t5)) : gb6 ≠ g));clear HO4 HI0;clear BK1 HK HB;have HO4:=n0_;have HI0:=n1_;have BK1:=n2_;have HK:=n3_;have HB:=n4_;have BK6:=n5_;have GW6:=n6_;have GE6:=n7_;have NB1_6:=n8_;have NB6_1:=n9_;have NB0_6:=n10_;have NB6_0:=n11_;clear n0_ n1_ n2_ n3_ n4_ n5_ n6_ n7_ n8_ n9_ n10_ n11_;clear hb hbox hg;obtain ⟨Ao37,co37,eo37⟩:=Kd.R_slice HO4.out;subst eo37;have hnb38:=NB6_1.out;have hnc38:=NB1_6.out;have hnb39:=NB6_0.out;have hnc39:=NB0_6.out;have hcz40_0 : w36.cell? ⟨gb6,0,none⟩ = some (.slice none 0 0):=(blk_cell BK6.out 0).trans rfl;have hfz40_0:=blk_frozen BK6.out 0) | ((with_reducible refine gate_callee (f:=48) rfl ?_);refine goesL_ (some 11) rfl rfl Try.func48 (by kernel_rfl) rfl #[.pointer (some ⟨g,0,none⟩),.int .i64 (t2.length : Int)] rfl lm_ ?_;(with_reducible refine (spec_reader_pick.calls k g s0_0 t5 (t2.length : Int) t7 t8 w0 _ ?side1 ?side2 A3.out).mono ?_);(case side1=>exact is0_);(case side2=>exact hbi0_);rintro e w41 ⟨rfl,hi,hb,hk⟩;refine ⟨_,rfl,?_⟩;replace BK1:=kk_ hk BK1 NB1_0;replace HO4:=a0_ (Kd.R_mono (Kd.R_keep (IsS76.apart (is0_ : IsS76 w0 _ g s0_0 t5) (by (with_reducible repeat (first | apply Kd.R_alloc | apply Kd.R_drewN | apply Kd.R_drew));exact (Kd.R_mono (Kd.R_far (p:=⟨gb6,0,none⟩) (Kd.R_types HO4.out BK6.out (by decide)) (fun _ hk=>hk.2) (.slice Ao37 t2.length co37)) (fun _ h_=>h_.1))) (by decide)) hk (fun _ h=>h.2)) (fun _ h=>h.1));replace BK6:=a0_ (KeepBut.blk hk (g':=gb6) (o:=.cells #[.slice Ao37 t2.length co37] 25 (0,0)) (by (with_reducible repeat (first | refine blk_drewN ?_ _ | refine blk_drew ?_ | refine blk_alloc ?_ _));refine blk_put (cs:=#[.slice none 0 0]) ?_ 0 _ rfl;(with_reducible repeat (first | refine blk_drewN ?_ _ | refine blk_drew ?_ | refine blk_alloc ?_ _));exact BK6.out) NB6_0.out (by simp));replace HK:=a0_ (KeepBut.trans (w:=w) hk_ hk (.inl rfl));replace HI0:=a0_ (hi);replace HB:=a0_ (hb);(try clear hb);(try clear hb2);(try clear hk);(try clear hi)) | ((with_reducible refine gate_callee (f:=48) rfl ?_);refine goesL_ (some 13) rfl rfl Try.func48 (by kernel_rfl) rfl #[.pointer (some ⟨g,0,none⟩),.int .i64 24] rfl lm_ ?_;(with_reducible refine (spec_reader_pick.calls k g s0_0 t8 24 t9 t10 w0 _ ?side1 ?side2 A4.out).mono ?_);(case side1=>exact is0_);(case side2=>exact hbi0_);rintro e w42 ⟨rfl,hi,hb,hk⟩;refine ⟨_,rfl,?_⟩;replace BK1:=kk_ hk BK1 NB1_0;replace HO4:=a0_ (Kd.R_mono (Kd.R_keep (IsS76.apart (is0_ : IsS76 w0 _ g s0_0 t8) (rr_ HO4.out) (by decide)) hk (fun _ h=>h.2)) (fun _ h=>h.1));replace BK6:=kk_ hk BK6 NB6_0;replace HK:=a0_ (KeepBut.trans (w:=w) hk_ hk (.inl rfl));replace HI0:=a0_ (hi);replace HB:=a0_ (hb);(try clear hb);(try clear hb2);(try clear hk);(try clear hi)))
     have n0_:=a0_ (Kd.R_drew HO4.out)
     have n1_:=a0_ (blk_drew BK1.out)
     have n2_:=a0_ (blk_drew BK6.out)
     have n3_:=a0_ (IsS76.drew HI0.out)
     have n4_:=a0_ (keep_drew HK.out)
     have n5_:=a0_ (below_drew1 HB.out)
     clear HO4
     clear BK1
     clear BK6
     clear HI0
     clear HK
     clear HB
     have HO4:=n0_
     have BK1:=n1_
     have BK6:=n2_
     have HI0:=n3_
     have HK:=n4_
     have HB:=n5_
     clear n0_ n1_ n2_ n3_ n4_ n5_
     refine start_ (n:=10) (S:=fun w'=>w'.cell? ⟨gb6,0,none⟩ = some (.slice Ao37 t2.length co37)) (ds:=[9]) #[false,false,false,false,false,false,false,false,false,false] (by kernel_rfl) rfl rfl ((blk_cell BK6.out 0).trans rfl) (fun hHeld=>?_);refine with_tabW spec_someTree.tab7 spec_someTree.bits7 (fun HT_ HW_=>?_)
     generalize w42.drew = w43 at HO4 BK1 BK6 HI0 HK HB hHeld ⊢
     refine pure_ (i:=0) (N:=some 26) (v:=?_) (a':=?_) #[true,false,false,false,false,false,false,false,false,false] rfl rfl (any_of HT_.out (by kernel_rfl)) (fun _ _ _ h=>h) (Or.inl ⟨by rfl,?_⟩) ?_ ?_
     rotate_left
     ·intro w'
      go_simp
      with_reducible rfl
     rotate_left
     ·simp only [Act.put,s1_,s2_,s3_,i64_w,i32_w]
      rfl
     refine pure_ (i:=2) (N:=some 28) (v:=?_) (a':=?_) #[true,false,true,false,false,false,false,false,false,false] rfl rfl (any_of HT_.out (by kernel_rfl)) (fun _ _ _ h=>h) (Or.inl ⟨by rfl,?_⟩) ?_ ?_
     rotate_left
     ·intro w'
      go_simp
      with_reducible rfl
     rotate_left
     ·simp only [Act.put,s1_,s2_,s3_,i64_w,i32_w]
      rfl
     refine pure_ (i:=3) (N:=some 29) (v:=?_) (a':=?_) #[true,false,true,true,false,false,false,false,false,false] rfl rfl (any_of HT_.out (by kernel_rfl)) (fun _ _ _ h=>h) (Or.inl ⟨by rfl,?_⟩) ?_ ?_
     rotate_left
     ·intro w'
      go_simp
      with_reducible rfl
     rotate_left
     ·simp only [Act.put,s1_,s2_,s3_,i64_w,i32_w]
      rfl
     refine pure_ (i:=4) (N:=some 30) (v:=?_) (a':=?_) #[true,false,true,true,true,false,false,false,false,false] rfl rfl (any_of HT_.out (by kernel_rfl)) (fun _ _ _ h=>h) (Or.inl ⟨by rfl,?_⟩) ?_ ?_
     rotate_left
     ·intro w'
      go_simp
      with_reducible rfl
     rotate_left
     ·simp only [Act.put,s1_,s2_,s3_,i64_w,i32_w]
      rfl
     refine take_ (i:=1) (N:=some 27) (v:=?_) (a':=?_) #[true,true,true,true,true,false,false,false,false,false] rfl rfl (take_ofW HT_.out HW_.out (by kernel_rfl)) (fun _ _ _ h=>h) (Or.inl ⟨by rfl,?_⟩) hHeld ?_ ?_
     rotate_left
     ·intro w' s0
      go_simp
      with_reducible rfl
     rotate_left
     ·simp only [Act.put,s1_,s2_,s3_,i64_w,i32_w]
      rfl
     refine one_ (i:=5) (N:=some 31) #[true,true,true,true,true,true,false,false,false,false] rfl rfl (one_of HT_.out (by kernel_rfl)) (by decide) (fun K hK=>?_)
     refine Kd.R_lit_step (Kd.int .i64) _ 3 ?hg (N:=31) ?hd (xs:=([t7,(-1),8,(-2)] : List Int)) (inner:=[.int .i64 t7,.int .i64 (-1),.int .i64 8,.int .i64 (-2)]) (ok:=fun _=>True) (okp:=fun _=>True) ?hr ?hp (fun _ hk=>hk) trivial (Below.refl _ _) (Nat.le_refl _) (by simp) ?_;(case hd=>rfl);(case hg=>rfl);(case hr=>first | (go_simp;done) | (go_simp;rfl));(case hp=>exact (Reps.one (show Kd.M (Kd.int .i64) _ _ _ t7 [.int .i64 t7] from rfl) (Reps.one (show Kd.M (Kd.int .i64) _ _ _ (-1) [.int .i64 (-1)] from rfl) (Reps.one (show Kd.M (Kd.int .i64) _ _ _ 8 [.int .i64 8] from rfl) (Reps.one (show Kd.M (Kd.int .i64) _ _ _ (-2) [.int .i64 (-2)] from rfl) (Reps.none _ _))))))
     intro v18 w44 ho45 hb hg_ hnew_
     clear hg_ hnew_
     (first | rw [← Ny17.out] at ho45 | (simp only [Int.reduceToNat] at ho45;rw [← Ny17.out] at ho45))
     have n0_:=rb_ HO4 hb
     have n1_:=a0_ (Kd.R_lower ho45 (keep_size (w:=w) (g:=g) (row:=none) hk_))
     have n2_:=a0_ (IsS76.below is0_ hb)
     have n3_:=kb_ BK1 hb
     have n4_:=kb_ BK6 hb
     have n5_:=a0_ (KeepBut.trans (w:=w) hk_ (KeepBut.of_below hb g none) (.inl rfl))
     have n6_:=a0_ (below_step hbi0_ hb)
     clear HO4
     clear HI0
     clear BK1
     clear BK6
     clear HK
     clear HB
     have HO4:=n0_
     have HO19:=n1_
     have HI0:=n2_
     have BK1:=n3_
     have BK6:=n4_
     have HK:=n5_
     have HB:=n6_
     clear n0_ n1_ n2_ n3_ n4_ n5_ n6_
     clear hb ho45
     obtain ⟨Ao46,co46,eo46⟩:=Kd.R_slice HO19.out
     (first | subst eo46 | (injection eo46 with f1_ f2_ f3_;have f4_:=f1_.symm;have f5_:=f3_.symm;clear f1_ f2_ f3_;subst f4_;subst f5_))
     refine hK.out _ _ ((blk_cell BK6.out 0).trans rfl) (fun hHeld=>?_)
     clear hK K
     refine norm_ (a':=?_) ?_ ?_
     rotate_left
     ·show Act.put _ (some 31) _ = _
      simp only [Act.put,s1_,s2_,s3_,i64_w,i32_w]
      rfl
     refine one_ (i:=6) (N:=some 32) #[true,true,true,true,true,true,true,false,false,false] rfl rfl (one_of HT_.out (by kernel_rfl)) (by decide) (fun K hK=>?_)
     refine goes_ Try.func42 (by kernel_rfl) rfl #[.pointer (some ⟨g,0,none⟩),.slice Ao46 y17.length co46] (by rfl) rfl rfl lm_ ?_
     with_reducible refine (spec_reader_one.calls k g s0_0 t10 _ _ y17 t20 t21 w0 _ ?side1 ?side2 ?side3 ?side4 ?side5 A30.out).mono ?_
     (case side1=>exact is0_)
     (case side2=>exact hbi0_)
     (case side3=>exact cc_ (Kd.R_reads' HO19.out).2.2)
     (case side4=>exact (Kd.R_reads' HO19.out).2.1)
     (case side5=>exact far_slice (IsS76.own_ne HI0.out HO19.out (by decide)))
     rintro e w47 ⟨rfl,hi,hb,hk⟩
     refine ⟨_,rfl,?_⟩
     have n0_:=kk_ hk BK1 NB1_0
     have n1_:=a0_ (Kd.R_mono (Kd.R_keep (IsS76.apart (is0_ : IsS76 w0 _ g s0_0 t10) (rr_ HO4.out) (by decide)) hk (fun _ h=>h.2)) (fun _ h=>h.1))
     have n2_:=kk_ hk BK6 NB6_0
     have n3_:=a0_ (Kd.R_mono (Kd.R_keep (IsS76.apart (is0_ : IsS76 w0 _ g s0_0 t10) (rr_ HO19.out) (by decide)) hk (fun _ h=>h.2)) (fun _ h=>h.1))
     have n4_:=a0_ (KeepBut.trans (w:=w) hk_ hk (.inl rfl))
     have n5_:=a0_ (hb)
     have n6_:=a0_ (hi)
     clear BK1
     clear HO4
     clear BK6
     clear HO19
     clear HK
     clear HB
     clear HI0
     have BK1:=n0_
     have HO4:=n1_
     have BK6:=n2_
     have HO19:=n3_
     have HK:=n4_
     have HB:=n5_
     have HI0:=n6_
     clear n0_ n1_ n2_ n3_ n4_ n5_ n6_
     (try clear hb)
     (try clear hb2)
     (try clear hk)
     (try clear hi)
     have p33 : 0 ≤ (t7 : Int):=of_decide_eq_true (by first | (with_reducible assumption) | assumption)
     have q33 : (t7 : Int) < ((t2.length : Int) : Int):=of_decide_eq_true (by first | (with_reducible assumption) | assumption)
     obtain ⟨go33,co33,eo33,gb33,gl33,cl33,HG33⟩:=Kd.R_form HO4.out (by omega)
     (first | cases eo33 | (injection eo33 with ea_ en_ ec_;(first | subst ea_ | (injection ea_ with ea_;subst ea_));subst ec_;clear en_))
     have GB33:=a0_ gb33
     have GG33:=a0_ HG33
     clear gb33 gl33 HG33
     obtain ⟨ce33,hcl33,hM33,hcc33,hfr33⟩:=Kd.R_elem HO4.out z87 (t7 : Int) p33 q33
     obtain rfl:=k87_openM hM33
     have hx33_0 : World.cell? _ ⟨go33,(t7 : Int).toNat * 2,none⟩ = some (.string ((rd_T87 t2 t7).f0)):=hcc33 0 _ rfl
     have hx33_1 : World.cell? _ ⟨go33,(t7 : Int).toNat * 2 + 1,none⟩ = some (.int .i64 ((rd_T87 t2 t7).f1)):=hcc33 1 _ rfl
     have hf33_0 : World.frozen? _ ⟨go33,(t7 : Int).toNat * 2,none⟩ = false:=hfr33 0
     have hf33_1 : World.frozen? _ ⟨go33,(t7 : Int).toNat * 2 + 1,none⟩ = false:=hfr33 1
     clear hcl33 hcc33 hfr33 hM33
     replace p33:=eq_true p33
     replace q33:=eq_true q33
     have HN0_go33:=a0_ (show g ≠ go33 from by have h_:=IsS76.own_ne HI0.out HO4.out (by decide);intro e_;exact h_ (by rw [e_];rfl))
     obtain ⟨ce48,hcl48,hM48,hcc48,hfr48⟩:=Kd.R_elem HO4.out z87 (t7 : Int) (of_decide_eq_true (by first | (with_reducible assumption) | assumption)) (by have h_ : (t7 : Int) < ((t2.length : Int) : Int):=of_decide_eq_true (by first | (with_reducible assumption) | assumption);first | exact h_ | (have e_:=(Kd.R_reads' HO4.out).1;omega) | simpa using h_)
     obtain rfl:=k87_openM hM48
     have HP48:=(Kd.R_seg HO4.out (t7 : Int) (of_decide_eq_true (by first | (with_reducible assumption) | assumption)) (by have h_ : (t7 : Int) < ((t2.length : Int) : Int):=of_decide_eq_true (by first | (with_reducible assumption) | assumption);first | exact h_ | (have e_:=(Kd.R_reads' HO4.out).1;omega) | simpa using h_) (seg:=[.int .i64 t20]) (j:=1) hcl48 hcc48 (show 2 ≤ 2 from by decide) (x':=(⟨(rd_T87 t2 t7).f0,t20⟩ : S87)) (k87_mkM _ _ _ (⟨(rd_T87 t2 t7).f0,t20⟩ : S87) ) (fun _ hk=>hk)).1
     rw [← Ny22.out] at HP48
     have HQ48:=a0_ HP48
     clear hcl48 hcc48 hfr48 hM48 HP48
     refine hK.out _ _ ((blk_cell BK6.out 0).trans rfl) (fun hHeld=>?_)
     clear hK K
     refine norm_ (a':=?_) ?_ ?_
     rotate_left
     ·show Act.put _ (some 32) _ = _
      simp only [Act.put,s1_,s2_,s3_,i64_w,i32_w]
      rfl
     refine pure_ (i:=7) (N:=some 33) (v:=?_) (a':=?_) #[true,true,true,true,true,true,true,true,false,false] rfl rfl (any_of HT_.out (by kernel_rfl)) (fun _ _ _ h=>h) (Or.inl ⟨by rfl,?_⟩) ?_ ?_
     rotate_left
     ·intro w'
      go_simp
      with_reducible rfl
     rotate_left
     ·simp only [Act.put,s1_,s2_,s3_,i64_w,i32_w]
      rfl
     refine pure_ (i:=8) (N:=some 34) (v:=?_) (a':=?_) #[true,true,true,true,true,true,true,true,true,false] rfl rfl (any_of HT_.out (by kernel_rfl)) (fun _ _ _ h=>h) (Or.inl ⟨by rfl,?_⟩) ?_ ?_
     rotate_left
     ·intro w'
      go_simp
      with_reducible rfl
     rotate_left
     ·simp only [Act.put,s1_,s2_,s3_,i64_w,i32_w]
      rfl
     refine last_ (i:=9) (N:=none) #[true,true,true,true,true,true,true,true,true,true] rfl rfl (one_of HT_.out (by kernel_rfl)) (by decide) (fun K hK=>?_)
     refine skip_ (w1:=?_) (by rfl) rfl ?_ ?_
     rotate_left
     ·go_simp
      rfl
     refine hK.out _ _ ?_
     clear hK K
     refine done_ (done_of HT_.out (by kernel_rfl)) ?_
     have n0_ : Aside0 (Kd.R k87 87 (w47.setCell ⟨go33,(t7 : Int).toNat * 2 + 1,none⟩ (.int .i64 t20)) w.heap.size (fun _=>True) (.slice (some ⟨go33,0,none⟩) t2.length co37) y22):=⟨by (with_reducible repeat (first | apply Kd.R_alloc | apply Kd.R_drewN | apply Kd.R_drew));exact HQ48.out⟩
     have n1_ : Aside0 (Kd.R (Kd.int .i64) 3 (w47.setCell ⟨go33,(t7 : Int).toNat * 2 + 1,none⟩ (.int .i64 t20)) w.heap.size (fun _=>True) (.slice Ao46 y17.length co46) y17):=⟨by (with_reducible repeat (first | apply Kd.R_alloc | apply Kd.R_drewN | apply Kd.R_drew));exact Kd.R_mono (Kd.R_far (p:=⟨go33,(t7 : Int).toNat * 2 + 1,none⟩) (Kd.R_types HO19.out GG33.out (by decide)) (fun _ hk=>hk.2) (.int .i64 t20)) (fun _ hk=>trivial)⟩
     have n2_ : Aside0 ((w47.setCell ⟨go33,(t7 : Int).toNat * 2 + 1,none⟩ (.int .i64 t20)).heap[gb1]? = some (.cells #[.slice none 0 0] 25 (0,0))):=⟨by (with_reducible repeat (first | refine blk_drewN ?_ _ | refine blk_drew ?_ | refine blk_alloc ?_ _));refine blk_far ?_ (by have h_:=Kd.R_ne HO4.out BK1.out (by decide);intro e_;exact h_ (by rw [e_];rfl)) _;(with_reducible repeat (first | refine blk_drewN ?_ _ | refine blk_drew ?_ | refine blk_alloc ?_ _));exact BK1.out⟩
     have n3_ : Aside0 ((w47.setCell ⟨go33,(t7 : Int).toNat * 2 + 1,none⟩ (.int .i64 t20)).heap[gb6]? = some (.cells #[.slice (some ⟨go33,0,none⟩) t2.length co37] 25 (0,0))):=⟨by (with_reducible repeat (first | refine blk_drewN ?_ _ | refine blk_drew ?_ | refine blk_alloc ?_ _));refine blk_far ?_ (by have h_:=Kd.R_ne HO4.out BK6.out (by decide);intro e_;exact h_ (by rw [e_];rfl)) _;(with_reducible repeat (first | refine blk_drewN ?_ _ | refine blk_drew ?_ | refine blk_alloc ?_ _));exact BK6.out⟩
     have n4_ : Aside0 (IsS76 w0 (w47.setCell ⟨go33,(t7 : Int).toNat * 2 + 1,none⟩ (.int .i64 t20)) g s0_0 t21):=⟨is0_⟩
     have n5_ : Aside0 (KeepBut w (w47.setCell ⟨go33,(t7 : Int).toNat * 2 + 1,none⟩ (.int .i64 t20)) g none):=⟨hk_⟩
     have n6_ : Aside0 (Below w0.heap.size w0 (w47.setCell ⟨go33,(t7 : Int).toNat * 2 + 1,none⟩ (.int .i64 t20))):=⟨by repeat (first | (with_reducible first | exact HB.out | apply below_alloc | apply pw_below_drewN | apply below_drew1 | refine below_set ?_ (Nat.le_trans HL.out GB33.out) | refine below_set ?_ (IsS76.ge HI0.out) | refine below_set ?_ GE1.out | refine below_set ?_ GE6.out) | exact HB.out)⟩
     (try clear HO4)
     (try clear HO19)
     (try clear BK1)
     (try clear BK6)
     (try clear HI0)
     (try clear HK)
     (try clear HB)
     generalize (w47.setCell ⟨go33,(t7 : Int).toNat * 2 + 1,none⟩ (.int .i64 t20)) = w49 at n0_ n1_ n2_ n3_ n4_ n5_ n6_ ⊢
     have HO4:=n0_
     have HO19:=n1_
     have BK1:=n2_
     have BK6:=n3_
     have HI0:=n4_
     have HK:=n5_
     have HB:=n6_
     clear n0_ n1_ n2_ n3_ n4_ n5_ n6_
     have hcz50_0 : w49.cell? ⟨gb6,0,none⟩ = some (.slice (some ⟨go33,0,none⟩) t2.length co37):=(blk_cell BK6.out 0).trans rfl
     have hfz50_0:=blk_frozen BK6.out 0
     have hnb51:=NB1_0.out
     have hnc51:=NB0_1.out
     have hcz52_0 : w49.cell? ⟨gb1,0,none⟩ = some (.slice none 0 0):=(blk_cell BK1.out 0).trans rfl
     have hfz52_0:=blk_frozen BK1.out 0
     try go_wp2
     refine bodyPost_ret (results_cell_row rfl _ _ gb1 25 #[.slice (some ⟨go33,0,none⟩) t2.length co37] (0,0) _ rfl (by (with_reducible repeat (first | refine blk_drewN ?_ _ | refine blk_drew ?_ | refine blk_alloc ?_ _));refine blk_put (cs:=#[.slice none 0 0]) ?_ 0 _ rfl;(with_reducible repeat (first | refine blk_drewN ?_ _ | refine blk_drew ?_ | refine blk_alloc ?_ _));exact BK1.out) Try.underlying25 rfl (by kernel_rfl)) rfl ?_
     exact ⟨_,by first | rfl | (simp [errW_none,errW_some] <;> rfl) | (simp [*,errW_none,errW_some] <;> rfl),by (with_reducible repeat (first | apply Kd.R_alloc | apply Kd.R_drewN | apply Kd.R_drew));exact Kd.R_mono (Kd.R_far (p:=⟨gb1,0,none⟩) (Kd.R_types HO4.out BK1.out (by decide)) (fun _ hk=>hk.2) (.slice (some ⟨go33,0,none⟩) t2.length co37)) (fun _ hk=>trivial),is0_,hbi0_,hk_⟩
    ·rw [if_neg c32] at H
     exact absurd H (by simp)
   ·rw [if_neg c31] at H
    exact absurd H (by simp)
  ·rw [if_neg c29] at H
   have c29b0 : (t9 == 1) = false:=beq_eq_false_iff_ne.mpr c29
   have c29b1 : (t9 != 1) = true:=bne_iff_ne.mpr c29
   by_cases c53 : t9 = 2
   ·rw [if_pos c53] at H
    have c53b0 : (t9 == 2) = true:=beq_iff_eq.mpr c53
    have c53b1 : (t9 != 2) = false:=bne_eq_false_iff_eq.mpr c53
    clear c53
    simp only [Option.some.injEq,Prod.mk.injEq] at H
    obtain ⟨rfl,rfl⟩:=H
    go_enter Try.func66,Try.ntmps66
    go_wp2_with (first | ((with_reducible refine gate_dst (N:=2) rfl ?_);refine box_event ?hg (N:=2) ?hd (cs:=#[.slice none 0 0]) (t:=25) ?hr ?_;(case hd=>rfl);(case hg=>rfl);(case hr=>first | (go_simp;done) | (go_simp;rfl));intro gb1 hg w54 hbox hb;have n0_:=a0_ (IsS76.below is0_ hb);have n1_:=a0_ (KeepBut.trans (w:=w) hk_ (KeepBut.of_below hb g none) (.inl rfl));have n2_:=a0_ (below_step hbi0_ hb);have n3_:=a0_ (hbox);have n4_:=a0_ ((by rw [hg];exact (keep_size (w:=w) (g:=g) (row:=none) hk_) : w.heap.size ≤ gb1));have n5_:=a0_ ((Nat.le_trans HW0.out (by rw [hg];exact (keep_size (w:=w) (g:=g) (row:=none) hk_) : w.heap.size ≤ gb1) : w0.heap.size ≤ gb1));have n6_:=a0_ ((by rw [hg];exact Nat.ne_of_lt (IsS76.lt (is0_ : IsS76 w0 _ g s0_0 s0_1)) : g ≠ gb1));have n7_:=a0_ ((by rw [hg];exact Nat.ne_of_gt (IsS76.lt (is0_ : IsS76 w0 _ g s0_0 s0_1)) : gb1 ≠ g));clear HI0 HK HB;have HI0:=n0_;have HK:=n1_;have HB:=n2_;have BK1:=n3_;have GW1:=n4_;have GE1:=n5_;have NB0_1:=n6_;have NB1_0:=n7_;clear n0_ n1_ n2_ n3_ n4_ n5_ n6_ n7_;clear hb hbox hg) | ((with_reducible refine gate_callee (f:=81) rfl ?_);refine goesL_ (some 6) rfl rfl Try.func81 (by kernel_rfl) rfl #[.pointer (some ⟨g,0,none⟩)] rfl lm_ ?_;(with_reducible refine (spec_goodTree.calls k g s0_0 s0_1 t2 t5 w0 _ ?side1 ?side2 A2.out).mono ?_);(case side1=>exact is0_);(case side2=>exact hbi0_);rintro e w55 ⟨v3,rfl,ho0,hi,hb,hk⟩;refine ⟨_,rfl,?_⟩;replace BK1:=kk_ hk BK1 NB1_0;have HO4:=a0_ (Kd.R_lower ho0 (keep_size (w:=w) (g:=g) (row:=none) hk_));replace HK:=a0_ (KeepBut.trans (w:=w) hk_ hk (.inl rfl));replace HI0:=a0_ (hi);replace HB:=a0_ (hb);(try clear hb);(try clear ho0)) | ((with_reducible refine gate_dst (N:=3) rfl ?_);refine box_event ?hg (N:=3) ?hd (cs:=#[.slice none 0 0]) (t:=25) ?hr ?_;(case hd=>rfl);(case hg=>rfl);(case hr=>first | (go_simp;done) | (go_simp;rfl));intro gb6 hg w56 hbox hb;have n0_:=rb_ HO4 hb;have n1_:=a0_ (IsS76.below is0_ hb);have n2_:=kb_ BK1 hb;have n3_:=a0_ (KeepBut.trans (w:=w) hk_ (KeepBut.of_below hb g none) (.inl rfl));have n4_:=a0_ (below_step hbi0_ hb);have n5_:=a0_ (hbox);have n6_:=a0_ ((by rw [hg];exact (keep_size (w:=w) (g:=g) (row:=none) hk_) : w.heap.size ≤ gb6));have n7_:=a0_ ((Nat.le_trans HW0.out (by rw [hg];exact (keep_size (w:=w) (g:=g) (row:=none) hk_) : w.heap.size ≤ gb6) : w0.heap.size ≤ gb6));have n8_:=a0_ ((by rw [hg];exact Nat.ne_of_lt (blk_lt (bb_ BK1.out)) : gb1 ≠ gb6));have n9_:=a0_ ((by rw [hg];exact Nat.ne_of_gt (blk_lt (bb_ BK1.out)) : gb6 ≠ gb1));have n10_:=a0_ ((by rw [hg];exact Nat.ne_of_lt (IsS76.lt (is0_ : IsS76 w0 _ g s0_0 t5)) : g ≠ gb6));have n11_:=a0_ ((by rw [hg];exact Nat.ne_of_gt (IsS76.lt (is0_ : IsS76 w0 _ g s0_0 t5)) : gb6 ≠ g));clear HO4 HI0;clear BK1 HK HB;have HO4:=n0_;have HI0:=n1_;have BK1:=n2_;have HK:=n3_;have HB:=n4_;have BK6:=n5_;have GW6:=n6_;have GE6:=n7_;have NB1_6:=n8_;have NB6_1:=n9_;have NB0_6:=n10_;have NB6_0:=n11_;clear n0_ n1_ n2_ n3_ n4_ n5_ n6_ n7_ n8_ n9_ n10_ n11_;clear hb hbox hg;obtain ⟨Ao57,co57,eo57⟩:=Kd.R_slice HO4.out;subst eo57;have hnb58:=NB6_1.out;have hnc58:=NB1_6.out;have hnb59:=NB6_0.out;have hnc59:=NB0_6.out;have hcz60_0 : w56.cell? ⟨gb6,0,none⟩ = some (.slice none 0 0):=(blk_cell BK6.out 0).trans rfl;have hfz60_0:=blk_frozen BK6.out 0) | ((with_reducible refine gate_callee (f:=48) rfl ?_);refine goesL_ (some 11) rfl rfl Try.func48 (by kernel_rfl) rfl #[.pointer (some ⟨g,0,none⟩),.int .i64 (t2.length : Int)] rfl lm_ ?_;(with_reducible refine (spec_reader_pick.calls k g s0_0 t5 (t2.length : Int) t7 t8 w0 _ ?side1 ?side2 A3.out).mono ?_);(case side1=>exact is0_);(case side2=>exact hbi0_);rintro e w61 ⟨rfl,hi,hb,hk⟩;refine ⟨_,rfl,?_⟩;replace BK1:=kk_ hk BK1 NB1_0;replace HO4:=a0_ (Kd.R_mono (Kd.R_keep (IsS76.apart (is0_ : IsS76 w0 _ g s0_0 t5) (by (with_reducible repeat (first | apply Kd.R_alloc | apply Kd.R_drewN | apply Kd.R_drew));exact (Kd.R_mono (Kd.R_far (p:=⟨gb6,0,none⟩) (Kd.R_types HO4.out BK6.out (by decide)) (fun _ hk=>hk.2) (.slice Ao57 t2.length co57)) (fun _ h_=>h_.1))) (by decide)) hk (fun _ h=>h.2)) (fun _ h=>h.1));replace BK6:=a0_ (KeepBut.blk hk (g':=gb6) (o:=.cells #[.slice Ao57 t2.length co57] 25 (0,0)) (by (with_reducible repeat (first | refine blk_drewN ?_ _ | refine blk_drew ?_ | refine blk_alloc ?_ _));refine blk_put (cs:=#[.slice none 0 0]) ?_ 0 _ rfl;(with_reducible repeat (first | refine blk_drewN ?_ _ | refine blk_drew ?_ | refine blk_alloc ?_ _));exact BK6.out) NB6_0.out (by simp));replace HK:=a0_ (KeepBut.trans (w:=w) hk_ hk (.inl rfl));replace HI0:=a0_ (hi);replace HB:=a0_ (hb);(try clear hb);(try clear hb2);(try clear hk);(try clear hi)) | ((with_reducible refine gate_callee (f:=48) rfl ?_);refine goesL_ (some 13) rfl rfl Try.func48 (by kernel_rfl) rfl #[.pointer (some ⟨g,0,none⟩),.int .i64 24] rfl lm_ ?_;(with_reducible refine (spec_reader_pick.calls k g s0_0 t8 24 t9 t10 w0 _ ?side1 ?side2 A4.out).mono ?_);(case side1=>exact is0_);(case side2=>exact hbi0_);rintro e w62 ⟨rfl,hi,hb,hk⟩;refine ⟨_,rfl,?_⟩;replace BK1:=kk_ hk BK1 NB1_0;replace HO4:=a0_ (Kd.R_mono (Kd.R_keep (IsS76.apart (is0_ : IsS76 w0 _ g s0_0 t8) (rr_ HO4.out) (by decide)) hk (fun _ h=>h.2)) (fun _ h=>h.1));replace BK6:=kk_ hk BK6 NB6_0;replace HK:=a0_ (KeepBut.trans (w:=w) hk_ hk (.inl rfl));replace HI0:=a0_ (hi);replace HB:=a0_ (hb);(try clear hb);have hnb63:=NB1_0.out;have hnc63:=NB0_1.out;have hcz64_0 : w62.cell? ⟨gb1,0,none⟩ = some (.slice none 0 0):=(blk_cell BK1.out 0).trans rfl;have hfz64_0:=blk_frozen BK1.out 0))
    refine bodyPost_ret (results_cell_row rfl _ _ gb1 25 #[.slice none 0 0] (0,0) _ rfl (by (with_reducible repeat (first | refine blk_drewN ?_ _ | refine blk_drew ?_ | refine blk_alloc ?_ _));refine blk_put (cs:=#[.slice none 0 0]) ?_ 0 _ rfl;(with_reducible repeat (first | refine blk_drewN ?_ _ | refine blk_drew ?_ | refine blk_alloc ?_ _));exact BK1.out) Try.underlying25 rfl (by kernel_rfl)) rfl ?_
    exact ⟨_,by first | rfl | (simp [errW_none,errW_some] <;> rfl) | (simp [*,errW_none,errW_some] <;> rfl),by first | exact Kd.R_nil _ _ _ _ _ | exact Kd.N_nil _ _ _ _ _ | exact Kd.V_nil _ _ _ _ _ | exact Kd.Q_nil _ _ _ _ _ | exact Kd.S_nil _ _ _ _ _,is0_,hbi0_,hk_⟩
   ·rw [if_neg c53] at H
    have c53b0 : (t9 == 2) = false:=beq_eq_false_iff_ne.mpr c53
    have c53b1 : (t9 != 2) = true:=bne_iff_ne.mpr c53
    simp only [Option.some.injEq,Prod.mk.injEq] at H
    obtain ⟨rfl,rfl⟩:=H
    go_enter Try.func66,Try.ntmps66
    go_wp2_with (first | ((with_reducible refine gate_dst (N:=2) rfl ?_);refine box_event ?hg (N:=2) ?hd (cs:=#[.slice none 0 0]) (t:=25) ?hr ?_;(case hd=>rfl);(case hg=>rfl);(case hr=>first | (go_simp;done) | (go_simp;rfl));intro gb1 hg w65 hbox hb;have n0_:=a0_ (IsS76.below is0_ hb);have n1_:=a0_ (KeepBut.trans (w:=w) hk_ (KeepBut.of_below hb g none) (.inl rfl));have n2_:=a0_ (below_step hbi0_ hb);have n3_:=a0_ (hbox);have n4_:=a0_ ((by rw [hg];exact (keep_size (w:=w) (g:=g) (row:=none) hk_) : w.heap.size ≤ gb1));have n5_:=a0_ ((Nat.le_trans HW0.out (by rw [hg];exact (keep_size (w:=w) (g:=g) (row:=none) hk_) : w.heap.size ≤ gb1) : w0.heap.size ≤ gb1));have n6_:=a0_ ((by rw [hg];exact Nat.ne_of_lt (IsS76.lt (is0_ : IsS76 w0 _ g s0_0 s0_1)) : g ≠ gb1));have n7_:=a0_ ((by rw [hg];exact Nat.ne_of_gt (IsS76.lt (is0_ : IsS76 w0 _ g s0_0 s0_1)) : gb1 ≠ g));clear HI0 HK HB;have HI0:=n0_;have HK:=n1_;have HB:=n2_;have BK1:=n3_;have GW1:=n4_;have GE1:=n5_;have NB0_1:=n6_;have NB1_0:=n7_;clear n0_ n1_ n2_ n3_ n4_ n5_ n6_ n7_;clear hb hbox hg) | ((with_reducible refine gate_callee (f:=81) rfl ?_);refine goesL_ (some 6) rfl rfl Try.func81 (by kernel_rfl) rfl #[.pointer (some ⟨g,0,none⟩)] rfl lm_ ?_;(with_reducible refine (spec_goodTree.calls k g s0_0 s0_1 t2 t5 w0 _ ?side1 ?side2 A2.out).mono ?_);(case side1=>exact is0_);(case side2=>exact hbi0_);rintro e w66 ⟨v3,rfl,ho0,hi,hb,hk⟩;refine ⟨_,rfl,?_⟩;replace BK1:=kk_ hk BK1 NB1_0;have HO4:=a0_ (Kd.R_lower ho0 (keep_size (w:=w) (g:=g) (row:=none) hk_));replace HK:=a0_ (KeepBut.trans (w:=w) hk_ hk (.inl rfl));replace HI0:=a0_ (hi);replace HB:=a0_ (hb);(try clear hb);(try clear ho0)) | ((with_reducible refine gate_dst (N:=3) rfl ?_);refine box_event ?hg (N:=3) ?hd (cs:=#[.slice none 0 0]) (t:=25) ?hr ?_;(case hd=>rfl);(case hg=>rfl);(case hr=>first | (go_simp;done) | (go_simp;rfl));intro gb6 hg w67 hbox hb;have n0_:=rb_ HO4 hb;have n1_:=a0_ (IsS76.below is0_ hb);have n2_:=kb_ BK1 hb;have n3_:=a0_ (KeepBut.trans (w:=w) hk_ (KeepBut.of_below hb g none) (.inl rfl));have n4_:=a0_ (below_step hbi0_ hb);have n5_:=a0_ (hbox);have n6_:=a0_ ((by rw [hg];exact (keep_size (w:=w) (g:=g) (row:=none) hk_) : w.heap.size ≤ gb6));have n7_:=a0_ ((Nat.le_trans HW0.out (by rw [hg];exact (keep_size (w:=w) (g:=g) (row:=none) hk_) : w.heap.size ≤ gb6) : w0.heap.size ≤ gb6));have n8_:=a0_ ((by rw [hg];exact Nat.ne_of_lt (blk_lt (bb_ BK1.out)) : gb1 ≠ gb6));have n9_:=a0_ ((by rw [hg];exact Nat.ne_of_gt (blk_lt (bb_ BK1.out)) : gb6 ≠ gb1));have n10_:=a0_ ((by rw [hg];exact Nat.ne_of_lt (IsS76.lt (is0_ : IsS76 w0 _ g s0_0 t5)) : g ≠ gb6));have n11_:=a0_ ((by rw [hg];exact Nat.ne_of_gt (IsS76.lt (is0_ : IsS76 w0 _ g s0_0 t5)) : gb6 ≠ g));clear HO4 HI0;clear BK1 HK HB;have HO4:=n0_;have HI0:=n1_;have BK1:=n2_;have HK:=n3_;have HB:=n4_;have BK6:=n5_;have GW6:=n6_;have GE6:=n7_;have NB1_6:=n8_;have NB6_1:=n9_;have NB0_6:=n10_;have NB6_0:=n11_;clear n0_ n1_ n2_ n3_ n4_ n5_ n6_ n7_ n8_ n9_ n10_ n11_;clear hb hbox hg;obtain ⟨Ao68,co68,eo68⟩:=Kd.R_slice HO4.out;subst eo68;have hnb69:=NB6_1.out;have hnc69:=NB1_6.out;have hnb70:=NB6_0.out;have hnc70:=NB0_6.out;have hcz71_0 : w67.cell? ⟨gb6,0,none⟩ = some (.slice none 0 0):=(blk_cell BK6.out 0).trans rfl;have hfz71_0:=blk_frozen BK6.out 0) | ((with_reducible refine gate_callee (f:=48) rfl ?_);refine goesL_ (some 11) rfl rfl Try.func48 (by kernel_rfl) rfl #[.pointer (some ⟨g,0,none⟩),.int .i64 (t2.length : Int)] rfl lm_ ?_;(with_reducible refine (spec_reader_pick.calls k g s0_0 t5 (t2.length : Int) t7 t8 w0 _ ?side1 ?side2 A3.out).mono ?_);(case side1=>exact is0_);(case side2=>exact hbi0_);rintro e w72 ⟨rfl,hi,hb,hk⟩;refine ⟨_,rfl,?_⟩;replace BK1:=kk_ hk BK1 NB1_0;replace HO4:=a0_ (Kd.R_mono (Kd.R_keep (IsS76.apart (is0_ : IsS76 w0 _ g s0_0 t5) (by (with_reducible repeat (first | apply Kd.R_alloc | apply Kd.R_drewN | apply Kd.R_drew));exact (Kd.R_mono (Kd.R_far (p:=⟨gb6,0,none⟩) (Kd.R_types HO4.out BK6.out (by decide)) (fun _ hk=>hk.2) (.slice Ao68 t2.length co68)) (fun _ h_=>h_.1))) (by decide)) hk (fun _ h=>h.2)) (fun _ h=>h.1));replace BK6:=a0_ (KeepBut.blk hk (g':=gb6) (o:=.cells #[.slice Ao68 t2.length co68] 25 (0,0)) (by (with_reducible repeat (first | refine blk_drewN ?_ _ | refine blk_drew ?_ | refine blk_alloc ?_ _));refine blk_put (cs:=#[.slice none 0 0]) ?_ 0 _ rfl;(with_reducible repeat (first | refine blk_drewN ?_ _ | refine blk_drew ?_ | refine blk_alloc ?_ _));exact BK6.out) NB6_0.out (by simp));replace HK:=a0_ (KeepBut.trans (w:=w) hk_ hk (.inl rfl));replace HI0:=a0_ (hi);replace HB:=a0_ (hb);(try clear hb);(try clear hb2);(try clear hk);(try clear hi)) | ((with_reducible refine gate_callee (f:=48) rfl ?_);refine goesL_ (some 13) rfl rfl Try.func48 (by kernel_rfl) rfl #[.pointer (some ⟨g,0,none⟩),.int .i64 24] rfl lm_ ?_;(with_reducible refine (spec_reader_pick.calls k g s0_0 t8 24 t9 t10 w0 _ ?side1 ?side2 A4.out).mono ?_);(case side1=>exact is0_);(case side2=>exact hbi0_);rintro e w73 ⟨rfl,hi,hb,hk⟩;refine ⟨_,rfl,?_⟩;replace BK1:=kk_ hk BK1 NB1_0;replace HO4:=a0_ (Kd.R_mono (Kd.R_keep (IsS76.apart (is0_ : IsS76 w0 _ g s0_0 t8) (rr_ HO4.out) (by decide)) hk (fun _ h=>h.2)) (fun _ h=>h.1));replace BK6:=kk_ hk BK6 NB6_0;replace HK:=a0_ (KeepBut.trans (w:=w) hk_ hk (.inl rfl));replace HI0:=a0_ (hi);replace HB:=a0_ (hb);(try clear hb);have hcz74_0 : w73.cell? ⟨gb6,0,none⟩ = some (.slice Ao68 t2.length co68):=(blk_cell BK6.out 0).trans rfl;have hfz74_0:=blk_frozen BK6.out 0;have hnb75:=NB1_0.out;have hnc75:=NB0_1.out;have hcz76_0 : w73.cell? ⟨gb1,0,none⟩ = some (.slice none 0 0):=(blk_cell BK1.out 0).trans rfl;have hfz76_0:=blk_frozen BK1.out 0))
    refine bodyPost_ret (results_cell_row rfl _ _ gb1 25 #[.slice Ao68 t2.length co68] (0,0) _ rfl (by (with_reducible repeat (first | refine blk_drewN ?_ _ | refine blk_drew ?_ | refine blk_alloc ?_ _));refine blk_put (cs:=#[.slice none 0 0]) ?_ 0 _ rfl;(with_reducible repeat (first | refine blk_drewN ?_ _ | refine blk_drew ?_ | refine blk_alloc ?_ _));exact BK1.out) Try.underlying25 rfl (by kernel_rfl)) rfl ?_
    exact ⟨_,by first | rfl | (simp [errW_none,errW_some] <;> rfl) | (simp [*,errW_none,errW_some] <;> rfl),by (with_reducible repeat (first | apply Kd.R_alloc | apply Kd.R_drewN | apply Kd.R_drew));exact Kd.R_mono (Kd.R_far (p:=⟨gb1,0,none⟩) (Kd.R_types HO4.out BK1.out (by decide)) (fun _ hk=>hk.2) (.slice Ao68 t2.length co68)) (fun _ hk=>trivial),is0_,hbi0_,hk_⟩
theorem spec_someTree_ev (b : List Int) (p : Int) (hb : byL b) (h0 : 0 ≤ p) (hp : p ≤ 1099511626000) : ∃ t q,Ev (fun k=>spec_someTree.f k b p) (t,q) ∧ p ≤ q ∧ q ≤ p + 23 ∧ t.length ≤ 8 ∧ ∀ x ∈ t,x.f0.size ≤ 7:=by
 obtain ⟨t,q,ht,h1,h2,h3,h4,hg⟩:=spec_goodTree_ev b p hb h0 (by omega)
 obtain ⟨x,hx,x0,x1,_⟩:=spec_pick_ev b q (t.length : Int) hb (by omega) (by omega)
 have hxi:=x1 (by omega)
 obtain ⟨y,hy,y0,y1,_⟩:=spec_pick_ev b (q + 1) 24 hb (by omega) (by omega)
 by_cases c0 : y = 0
 ·obtain ⟨s,hs,hsm⟩:=spec_of_ev b (q + 1 + 1) [(⟨#[]⟩ : ByteArray),(⟨#[97,110,121]⟩ : ByteArray),(⟨#[65]⟩ : ByteArray),(⟨#[116,111,111,108,111,110,103]⟩ : ByteArray)] hb (by omega) (by omega) (by simp)
  have hsz : s.size ≤ 7:=by
   simp only [List.mem_cons,List.not_mem_nil,or_false] at hsm
   rcases hsm with rfl | rfl | rfl | rfl <;> decide
  refine ⟨_,_,Ev.bind ht (Ev.bind hx (Ev.bind hy (Ev.pos c0 (Ev.bind hs (Ev.pos x0 (Ev.pos hxi (Ev.const rfl))))))),by omega,by omega,by rw [List.length_set];exact h4,fun z hz=>?_⟩
  rcases set_mem hz with rfl | hz
  ·exact hsz
  ·exact hg.1 z hz
 by_cases c1 : y = 1
 ·obtain ⟨s,hs,hsm⟩:=spec_one_ev b (q + 1 + 1) [x,(-1),8,(-2)] hb (by omega) (by omega) (by simp)
  refine ⟨_,_,Ev.bind ht (Ev.bind hx (Ev.bind hy (Ev.neg c0 (Ev.pos c1 (Ev.bind hs (Ev.pos x0 (Ev.pos hxi (Ev.const rfl)))))))),by omega,by omega,by rw [List.length_set];exact h4,fun z hz=>?_⟩
  rcases set_mem hz with rfl | hz
  ·refine hg.1 (rd_T87 t x) ?_
   unfold rd_T87
   rw [List.getD_eq_getElem?_getD,List.getElem?_eq_getElem (show x.toNat < t.length by omega)]
   exact List.getElem_mem _
  ·exact hg.1 z hz
 by_cases c2 : y = 2
 ·exact ⟨_,_,Ev.bind ht (Ev.bind hx (Ev.bind hy (Ev.neg c0 (Ev.neg c1 (Ev.pos c2 (Ev.const rfl)))))),by omega,by omega,by simp,fun z hz=>absurd hz (by simp)⟩
 ·exact ⟨_,_,Ev.bind ht (Ev.bind hx (Ev.bind hy (Ev.neg c0 (Ev.neg c1 (Ev.neg c2 (Ev.const rfl)))))),by omega,by omega,h4,hg.1⟩
end Go.Proofs.Ytmiholmfbjalfaa.P
namespace Go.Proofs.Ytmiholmfbjalfaa.P
open Go.RowKit Go.Proofs.YtmiholmfbjalfaaW.PrintWords Go.Proofs.YtmiholmfbjalfaaW.PrintLast Go.Proofs.YtmiholmfbjalfaaW.PrintMore
attribute [local go_sem] max2_int min2_int max_two min_two max_three min_three max_four min_four
set_option linter.unusedVariables false
set_option linter.unusedSimpArgs false
def raiP (t : List Cls) (h : List Fau) (f g : Int) : List Fau × Bool:=if ((vH t h && hasF h f) && hasF h g) = true then (whlP h f g,true) else ([],false)
theorem whlP_len (h : List Fau) (f g : Int) : (whlP h f g).length = h.length:=by
 unfold whlP
 split
 ·rfl
 ·rw [setC_len,cutL_len]
theorem raiP_len (t : List Cls) (h : List Fau) (f g : Int) : (raiP t h f g).1.length ≤ h.length:=by
 unfold raiP
 split
 ·exact Nat.le_of_eq (whlP_len h f g)
 ·simp
end Go.Proofs.Ytmiholmfbjalfaa.P
namespace Go.Proofs.Ytmiholmfbjalfaa.P
open Go.RowKit Go.Proofs.YtmiholmfbjalfaaW.PrintWords Go.Proofs.YtmiholmfbjalfaaW.PrintLast Go.Proofs.YtmiholmfbjalfaaW.PrintMore
attribute [local go_sem] max2_int min2_int max_two min_two max_three min_three max_four min_four
set_option linter.unusedVariables false
set_option linter.unusedSimpArgs false
theorem fau_setC_ne {h : List Fau} {x y c : Int} (hx : 0 ≤ x) (hy : 0 ≤ y) (hn : y ≠ x) : fauAt (setC h x c) y = fauAt h y:=fauAt_set_ne hx hy hn
theorem fau_setC_eq {h : List Fau} {x c : Int} (h0 : 0 ≤ x) (h1 : x < (h.length : Int)) : fauAt (setC h x c) x = ⟨(fauAt h x).f0,(fauAt h x).f1,(fauAt h x).f2,c,(fauAt h x).f4⟩:=fauAt_set_eq h0 h1
theorem fau_ext {x y : Fau} (h0 : x.f0 = y.f0) (h1 : x.f1 = y.f1) (h2 : x.f2 = y.f2) (h3 : x.f3 = y.f3) (h4 : x.f4 = y.f4) : x = y:=by
 cases x;cases y;simp_all
def cutN (h : List Fau) (L : List Int) (f x : Int) : Int:=if x ∈ L ∧ ctxN h x = f then -1 else ctxN h x
theorem cutL_at (f : Int) (hf : 0 ≤ f) : ∀ (r : List Int) (h : List Fau),(∀ y ∈ r,0 ≤ y ∧ y < (h.length : Int)) → ∀ x : Int,0 ≤ x → x < (h.length : Int) → fauAt (cutL f r h) x = ⟨(fauAt h x).f0,(fauAt h x).f1,(fauAt h x).f2,cutN h r f x,(fauAt h x).f4⟩:=by
 intro r
 induction r with
 | nil=>intro h _ x _ _;simp [cutL,cutN,ctxN_fau]
 | cons y r ih =>
  intro h hr x h0 h1
  have hy:=hr y (by simp)
  rw [cutL]
  by_cases he : ctxN h y = f
  ·rw [if_pos he]
   rw [ih _ (fun z hz=>by rw [setC_len];exact hr z (by simp [hz])) x h0 (by rw [setC_len];exact h1)]
   by_cases e : x = y
   ·subst e
    rw [fau_setC_eq h0 h1]
    have e2 : ctxN (setC h x (-1)) x = -1:=by rw [ctxN_fau,fau_setC_eq h0 h1]
    have e3 : cutN (setC h x (-1)) r f x = -1:=by
     unfold cutN
     split
     ·rfl
     ·exact e2
    have e4 : cutN h (x :: r) f x = -1:=by unfold cutN;rw [if_pos ⟨by simp,he⟩]
    rw [e3,e4]
   ·rw [fau_setC_ne hy.1 h0 e]
    have e2 : ctxN (setC h y (-1)) x = ctxN h x:=ctxN_setC hy.1 h0 e
    have e3 : cutN (setC h y (-1)) r f x = cutN h (y :: r) f x:=by
     unfold cutN
     rw [e2]
     simp [e]
    rw [e3]
  ·rw [if_neg he,ih h (fun z hz=>hr z (by simp [hz])) x h0 h1]
   have e3 : cutN h r f x = cutN h (y :: r) f x:=by
    unfold cutN
    by_cases e : x = y
    ·subst e
     rw [if_neg (fun hh=>he hh.2),if_neg (fun hh=>he hh.2)]
    ·simp [e]
   rw [e3]
def raiN (h : List Fau) (L : List Int) (f g x : Int) : Int:=if x = f then g else cutN h L f x
theorem whl_at {h : List Fau} {f g : Int} (h0 : 0 ≤ f) (h1 : f < (h.length : Int)) (hne : f ≠ g) (hm : ∀ y ∈ ctxL h g,0 ≤ y ∧ y < (h.length : Int)) (x : Int) (x0 : 0 ≤ x) (x1 : x < (h.length : Int)) : fauAt (whlP h f g) x = ⟨(fauAt h x).f0,(fauAt h x).f1,(fauAt h x).f2,raiN h (ctxL h g) f g x,(fauAt h x).f4⟩:=by
 unfold whlP raiN
 rw [if_neg hne]
 by_cases e : x = f
 ·subst e
  rw [fau_setC_eq x0 (by rw [cutL_len];exact x1),cutL_at x x0 _ h hm x x0 x1,if_pos rfl]
 ·rw [fau_setC_ne h0 x0 e,cutL_at f h0 _ h hm x x0 x1,if_neg e]
theorem itL_closed (next : Int → Int) : ∀ (n : Nat) (x : Int),stp next n x → ∀ y ∈ itL next n x,next y < 0 ∨ next y ∈ itL next n x:=by
 intro n
 induction n with
 | zero=>intro x _ y hy;simp [itL] at hy
 | succ n ih =>
  intro x hs y hy
  rw [itL] at hy ⊢
  by_cases h0 : 0 ≤ x
  ·rw [if_pos h0] at hy ⊢
   rcases hs with hs | hs
   ·omega
   ·rcases List.mem_cons.1 hy with rfl | hy
    ·by_cases h1 : 0 ≤ next y
     ·right
      refine List.mem_cons_of_mem _ ?_
      cases n with
      | zero=>have : next y < 0:=hs;omega
      | succ n=>rw [itL,if_pos h1];exact List.mem_cons_self
     ·left;omega
    ·rcases ih _ hs y hy with h2 | h2
     ·exact Or.inl h2
     ·exact Or.inr (List.mem_cons_of_mem _ h2)
  ·rw [if_neg h0] at hy
   simp at hy
theorem itL_head (next : Int → Int) (n : Nat) (x : Int) (h0 : 0 ≤ x) (hs : stp next n x) : x ∈ itL next n x:=by
 cases n with
 | zero=>have : x < 0:=hs;omega
 | succ n=>rw [itL,if_pos h0];exact List.mem_cons_self
section
variable {t : List Cls} {h : List Fau} {f g : Int}
theorem whl_mem (hv : vH t h = true) (g1 : g < (h.length : Int)) : ∀ y ∈ ctxL h g,0 ≤ y ∧ y < (h.length : Int) :=
 ctxL_mem (fun x a b=>(fsH_ctx (vH_parts hv).1 x a b).2) g g1
theorem whl_closed (hv : vH t h = true) (g1 : g < (h.length : Int)) : ∀ y ∈ ctxL h g,ctxN h y < 0 ∨ ctxN h y ∈ ctxL h g:=by
 rw [ctxL_it hv g g1]
 exact itL_closed _ _ _ (vH_stp hv g g1)
theorem whl_head (hv : vH t h = true) (g0 : 0 ≤ g) (g1 : g < (h.length : Int)) : g ∈ ctxL h g:=by
 rw [ctxL_it hv g g1]
 exact itL_head _ _ _ g0 (vH_stp hv g g1)
theorem whl_ctx (hv : vH t h = true) (h0 : 0 ≤ f) (h1 : f < (h.length : Int)) (hne : f ≠ g) (g1 : g < (h.length : Int)) (x : Int) (x0 : 0 ≤ x) (x1 : x < (h.length : Int)) : ctxN (whlP h f g) x = raiN h (ctxL h g) f g x:=by
 rw [ctxN_fau,whl_at h0 h1 hne (whl_mem hv g1) x x0 x1]
theorem whl_next (hv : vH t h = true) (h0 : 0 ≤ f) (h1 : f < (h.length : Int)) (hne : f ≠ g) (g1 : g < (h.length : Int)) (y : Int) (hy : y ∈ ctxL h g) (hyf : y ≠ f) : ctxN (whlP h f g) y = if ctxN h y = f then -1 else ctxN h y:=by
 have hm:=whl_mem hv g1 y hy
 rw [whl_ctx hv h0 h1 hne g1 y hm.1 hm.2,raiN,if_neg hyf,cutN]
 by_cases e : ctxN h y = f
 ·rw [if_pos ⟨hy,e⟩,if_pos e]
 ·rw [if_neg (fun hh=>e hh.2),if_neg e]
theorem whl_it (hv : vH t h = true) (h0 : 0 ≤ f) (h1 : f < (h.length : Int)) (hne : f ≠ g) (g1 : g < (h.length : Int)) : ∀ (n : Nat) (y : Int),(y < 0 ∨ y ∈ ctxL h g) → y ≠ f → stp (ctxN h) n y → stp (ctxN (whlP h f g)) n y ∧ itL (ctxN (whlP h f g)) n y = (itL (ctxN h) n y).takeWhile (fun z=>!(z == f)):=by
 intro n
 induction n with
 | zero=>intro y _ _ hs;exact ⟨hs,rfl⟩
 | succ n ih =>
  intro y hy hyf hs
  by_cases y0 : 0 ≤ y
  ·rcases hy with hy | hy
   ·omega
   rcases hs with hs | hs
   ·omega
   rw [itL,itL,if_pos y0,if_pos y0,List.takeWhile_cons,if_pos (by simpa using hyf)]
   have hn:=whl_next hv h0 h1 hne g1 y hy hyf
   by_cases e : ctxN h y = f
   ·rw [if_pos e] at hn
    refine ⟨Or.inr (by rw [hn];exact stp_neg _ _ _ (by omega)),?_⟩
    have e1 : itL (ctxN (whlP h f g)) n (ctxN (whlP h f g) y) = []:=by
     rw [hn]
     cases n with
     | zero=>rfl
     | succ n=>rw [itL,if_neg (by omega)]
    have e2 : (itL (ctxN h) n (ctxN h y)).takeWhile (fun z=>!(z == f)) = []:=by
     rw [e]
     cases n with
     | zero=>rfl
     | succ n=>rw [itL,if_pos h0,List.takeWhile_cons,if_neg (by simp)]
    rw [e1,e2]
   ·rw [if_neg e] at hn
    obtain ⟨h2,h3⟩:=ih (ctxN h y) (whl_closed hv g1 y hy) e hs
    refine ⟨Or.inr (by rw [hn];exact h2),?_⟩
    rw [hn,h3]
  ·refine ⟨Or.inl (by omega),?_⟩
   rw [itL,itL,if_neg y0,if_neg y0]
   rfl
theorem whl_stp (hv : vH t h = true) (h0 : 0 ≤ f) (h1 : f < (h.length : Int)) (hne : f ≠ g) (g0 : 0 ≤ g) (g1 : g < (h.length : Int)) : stp (ctxN (whlP h f g)) (h.length + 1 + 1) f:=by
 right
 rw [whl_ctx hv h0 h1 hne g1 f h0 h1,raiN,if_pos rfl]
 exact (whl_it hv h0 h1 hne g1 _ g (Or.inr (whl_head hv g0 g1)) (fun e=>hne e.symm) (vH_stp hv g g1)).1
theorem whl_all (hv : vH t h = true) (h0 : 0 ≤ f) (h1 : f < (h.length : Int)) (hne : f ≠ g) (g0 : 0 ≤ g) (g1 : g < (h.length : Int)) : ∀ (n : Nat) (x : Int),x < (h.length : Int) → stp (ctxN h) n x → stp (ctxN (whlP h f g)) (n + (h.length + 1 + 1)) x:=by
 intro n
 induction n with
 | zero=>intro x _ hs;exact stp_neg _ _ _ hs
 | succ n ih =>
  intro x hx hs
  by_cases x0 : 0 ≤ x
  ·by_cases e : x = f
   ·subst e
    exact stp_le _ _ (by omega) (whl_stp hv h0 h1 hne g0 g1)
   ·rcases hs with hs | hs
    ·omega
    ·rw [show n + 1 + (h.length + 1 + 1) = (n + (h.length + 1 + 1)) + 1 by omega]
     right
     rw [whl_ctx hv h0 h1 hne g1 x x0 hx,raiN,if_neg e,cutN]
     split
     ·exact stp_neg _ _ _ (by omega)
     ·exact ih _ (fsH_ctx (vH_parts hv).1 x x0 hx).2 hs
  ·exact stp_neg _ _ _ (by omega)
theorem vH_whl (hv : vH t h = true) (h0 : 0 ≤ f) (h1 : f < (h.length : Int)) (g0 : 0 ≤ g) (g1 : g < (h.length : Int)) : vH t (whlP h f g) = true:=by
 by_cases hne : f = g
 ·unfold whlP
  rw [if_pos hne]
  exact hv
 obtain ⟨hfs,hes,ht,hn⟩:=vH_parts hv
 refine vH_mk ?_ (fun j hj=>?_) ht (by rw [whlP_len];exact hn)
 ·refine all_of (fun j hj=>?_)
  rw [whlP_len] at hj
  have h2:=all_at hfs j hj
  have e:=whl_at h0 h1 hne (whl_mem hv g1) (j : Int) (by omega) (by omega)
  simp only [fauAt,Int.toNat_natCast] at e
  unfold okF at h2 ⊢
  have hlk : ∀ a u,lnkB (whlP h f g) a u = lnkB h a u:=fun a u=>by unfold lnkB hasF;rw [whlP_len]
  rw [hlk,hlk,e]
  simp only [Bool.and_eq_true,decide_eq_true_eq] at h2 ⊢
  refine ⟨h2.1,h2.2.1,h2.2.2.1,?_⟩
  unfold raiN cutN
  split
  ·rename_i hjf
   unfold lnkB hasF
   simp only [Bool.or_eq_true,Bool.and_eq_true,beq_iff_eq,bne_iff_ne,decide_eq_true_eq]
   omega
  ·split
   ·unfold lnkB;simp
   ·exact h2.2.2.2
 ·rw [whlP_len] at hj
  exact ⟨_,whl_all hv h0 h1 hne g0 g1 _ _ (by omega) (vH_stp hv _ (by omega))⟩
theorem whl_again (hv : vH t h = true) (h0 : 0 ≤ f) (h1 : f < (h.length : Int)) (g0 : 0 ≤ g) (g1 : g < (h.length : Int)) : whlP (whlP h f g) f g = whlP h f g:=by
 by_cases hne : f = g
 ·unfold whlP
  rw [if_pos hne]
 have hv2:=vH_whl hv h0 h1 g0 g1
 have hl:=whlP_len h f g
 have hcl : ctxL (whlP h f g) g = (itL (ctxN h) (h.length + 1) g).takeWhile (fun z=>!(z == f)):=by
  rw [ctxL_it hv2 g (by rw [hl];exact g1),hl]
  exact (whl_it hv h0 h1 hne g1 _ g (Or.inr (whl_head hv g0 g1)) (fun e=>hne e.symm) (vH_stp hv g g1)).2
 have hin : ∀ y ∈ ctxL (whlP h f g) g,y ∈ ctxL h g ∧ y ≠ f:=by
  intro y hy
  rw [hcl] at hy
  constructor
  ·rw [ctxL_it hv g g1]
   exact (List.takeWhile_sublist _).subset hy
  ·have:=List.all_takeWhile (p:=fun z=>!(z == f)) (l:=itL (ctxN h) (h.length + 1) g)
   rw [List.all_eq_true] at this
   simpa using this y hy
 have hno : ∀ y ∈ ctxL (whlP h f g) g,ctxN (whlP h f g) y ≠ f:=by
  intro y hy
  obtain ⟨a,b⟩:=hin y hy
  rw [whl_next hv h0 h1 hne g1 y a b]
  split
  ·omega
  ·assumption
 have hw : ∀ H : List Fau,whlP H f g = setC (cutL f (ctxL H g) H) f g:=fun H=>by unfold whlP;rw [if_neg hne]
 have e : whlP (whlP h f g) f g = setC (whlP h f g) f g:=by rw [hw (whlP h f g),cutL_none f _ _ hno]
 rw [e]
 have hc : (fauAt (whlP h f g) f).f3 = g:=by
  have:=whl_ctx hv h0 h1 hne g1 f h0 h1
  rw [raiN,if_pos rfl] at this
  exact this
 unfold setC
 rw [show (⟨(fauAt (whlP h f g) f).f0,(fauAt (whlP h f g) f).f1,(fauAt (whlP h f g) f).f2,g,(fauAt (whlP h f g) f).f4⟩ : Fau) = fauAt (whlP h f g) f from fau_ext rfl rfl rfl hc.symm rfl]
 refine List.ext_getElem (by simp) (fun i a b=>?_)
 rw [List.getElem_set]
 split
 ·rename_i hi
  subst hi
  simp [fauAt,show f.toNat < (whlP h f g).length by omega]
 ·rfl
theorem whl_chain (hv : vH t h = true) (h0 : 0 ≤ f) (h1 : f < (h.length : Int)) (hne : f ≠ g) (g0 : 0 ≤ g) (g1 : g < (h.length : Int)) : ctxL (whlP h f g) f = f :: (ctxL h g).takeWhile (fun z=>!(z == f)):=by
 have hv2:=vH_whl hv h0 h1 g0 g1
 have hl:=whlP_len h f g
 have hs:=whl_stp hv h0 h1 hne g0 g1
 rw [ctxL_it hv2 f (by rw [hl];exact h1),ctxL_it hv g g1,hl]
 have hs2:=vH_stp hv2 f (by rw [hl];exact h1)
 rw [hl] at hs2
 rw [← itL_more _ _ (h.length + 1 + 1) _ hs2 (by omega),itL,if_pos h0,whl_ctx hv h0 h1 hne g1 f h0 h1,raiN,if_pos rfl]
 rw [(whl_it hv h0 h1 hne g1 _ g (Or.inr (whl_head hv g0 g1)) (fun e=>hne e.symm) (vH_stp hv g g1)).2]
end
end Go.Proofs.Ytmiholmfbjalfaa.P
namespace Go.Proofs.Ytmiholmfbjalfaa.P
open Go.RowKit Go.Proofs.YtmiholmfbjalfaaW.PrintWords Go.Proofs.YtmiholmfbjalfaaW.PrintLast Go.Proofs.YtmiholmfbjalfaaW.PrintMore
attribute [local go_sem] max2_int min2_int max_two min_two max_three min_three max_four min_four
set_option linter.unusedVariables false
set_option linter.unusedSimpArgs false
def spec_copyHeap.f (l0_0 : List (S43)) : Option ((List (S43))):=(some (([] : List (S43)) : List (S43))).bind fun y3=>(if y3.length + l0_0.length < 3518437208883 then (some (y3 ++ l0_0)) else (none))
set_option maxHeartbeats 8000000 in
set_option maxRecDepth 100000 in
theorem spec_copyHeap.calls (A0_0 : Option Addr) (c0_0 : Nat) (l0_0 : List (S43)) (r : List (S43)) (w : World) (hr0_0 : Kd.C k43 w A0_0 l0_0.length l0_0) (hc0_0 : l0_0.length ≤ c0_0) (h : spec_copyHeap.f l0_0 = some r) :
  Calls Try.prog 49 #[.agg #[.slice A0_0 l0_0.length c0_0]] w fun e w'=>∃ v0_ : Value,e = .returned (.agg #[v0_]) ∧ Kd.R k43 43 w' w.heap.size (fun _=>True) v0_ r ∧ Below w.heap.size w w':=by
 have hu28:=Try.underlying28
 have HR0_0:=a0_ hr0_0
 have HC0_0:=a0_ hc0_0
 clear hr0_0 hc0_0
 have HB:=a0_ (Below.refl w.heap.size w)
 have H : ((some (([] : List (S43)) : List (S43))).bind fun y3=>(if y3.length + l0_0.length < 3518437208883 then (some (y3 ++ l0_0)) else (none))) = some r:=h
 clear h
 obtain ⟨y3,hy3⟩ : ∃ y_ : List (S43),y_ = (([] : List (S43))):=⟨_,rfl⟩
 replace H : (if y3.length + l0_0.length < 3518437208883 then (some (y3 ++ l0_0)) else (none)) = some r:=by first | (rw [hy3];with_reducible exact H) | (have H2_:=(Option.bind_some _ _).symm.trans H;rw [hy3];with_reducible exact H2_) | (have H2_:=(Option.bind_some _ _).symm.trans H;with_reducible exact H2_) | with_reducible exact H | (rw [hy3];exact H) | exact H
 have Ny3:=a0_ hy3
 clear hy3
 by_cases c2 : y3.length + l0_0.length < 3518437208883
 ·rw [if_pos c2] at H
  have LMc2:=a0_ c2
  clear c2
  obtain ⟨y6,hy6⟩ : ∃ y_ : List (S43),y_ = (y3 ++ l0_0):=⟨_,rfl⟩
  replace H : (some y6) = some r:=by first | (rw [hy6];with_reducible exact H) | (have H2_:=(Option.bind_some _ _).symm.trans H;rw [hy6];with_reducible exact H2_) | (have H2_:=(Option.bind_some _ _).symm.trans H;with_reducible exact H2_) | with_reducible exact H | (rw [hy6];exact H) | exact H
  have Ny6:=a0_ hy6
  clear hy6
  obtain rfl:=Option.some.inj H
  go_enter Try.func49,Try.ntmps49
  go_wp2_with (first | ((with_reducible refine gate_dst (N:=1) rfl ?_);refine box_event ?hg (N:=1) ?hd (cs:=#[.slice A0_0 l0_0.length c0_0]) (t:=28) ?hr ?_;(case hd=>rfl);(case hg=>rfl);(case hr=>first | (go_simp;done) | (go_simp;rfl));intro gb1 hg w3 hbox hb;have BK1:=a0_ (hbox);have GW1:=a0_ ((by rw [hg];exact (below_size hbw_) : w.heap.size ≤ gb1));have GE1:=a0_ ((by rw [hg];exact (below_size hbw_) : w.heap.size ≤ gb1));replace HB:=a0_ (below_step hbw_ hb);clear hb hbox hg) | ((with_reducible refine gate_dst (N:=2) rfl ?_);refine box_event ?hg (N:=2) ?hd (cs:=#[.slice none 0 0]) (t:=28) ?hr ?_;(case hd=>rfl);(case hg=>rfl);(case hr=>first | (go_simp;done) | (go_simp;rfl));intro gb2 hg w4 hbox hb;have n0_:=kb_ BK1 hb;have n1_:=a0_ (below_step hbw_ hb);have n2_:=a0_ (hbox);have n3_:=a0_ ((by rw [hg];exact (below_size hbw_) : w.heap.size ≤ gb2));have n4_:=a0_ ((by rw [hg];exact (below_size hbw_) : w.heap.size ≤ gb2));have n5_:=a0_ ((by rw [hg];exact Nat.ne_of_lt (blk_lt (bb_ BK1.out)) : gb1 ≠ gb2));have n6_:=a0_ ((by rw [hg];exact Nat.ne_of_gt (blk_lt (bb_ BK1.out)) : gb2 ≠ gb1));clear BK1 HB;have BK1:=n0_;have HB:=n1_;have BK2:=n2_;have GW2:=n3_;have GE2:=n4_;have NB1_2:=n5_;have NB2_1:=n6_;clear n0_ n1_ n2_ n3_ n4_ n5_ n6_;clear hb hbox hg) | ((with_reducible refine gate_dst (N:=3) rfl ?_);refine Kd.R_lit k43 _ 43 ?hg (N:=3) ?hd (xs:=([] : List (S43))) (inner:=[]) (ok:=fun _=>True) (okp:=fun _=>True) ?hr ?hp (fun _ hk=>hk) trivial (Below.refl _ _) (Nat.le_refl _) (by simp) ?_;(case hd=>rfl);(case hg=>rfl);(case hr=>first | (go_simp;done) | (go_simp;rfl));(case hp=>exact (Reps.none _ _));intro v4 w5 ho6 hb hg_ hnew_;clear hg_ hnew_;(first | rw [← Ny3.out] at ho6 | (simp only [Int.reduceToNat] at ho6;rw [← Ny3.out] at ho6));have HO5:=a0_ (Kd.R_lower ho6 (below_size hbw_));replace BK1:=kb_ BK1 hb;replace BK2:=kb_ BK2 hb;replace HB:=a0_ (below_step hbw_ hb);clear hb ho6;have hnb7:=NB1_2.out;have hnc7:=NB2_1.out;have hcz8_0 : w5.cell? ⟨gb1,0,none⟩ = some (.slice A0_0 l0_0.length c0_0):=(blk_cell BK1.out 0).trans rfl;have hfz8_0:=blk_frozen BK1.out 0) | ((with_reducible refine gate_builtin (b:=.append) (xs:=#[.tmp 3,.tmp 5]) rfl ?_);at_builtin;refine Kd.R_append_rows k43 (w0:=w) w.heap.size rfl (.tmp 3) (.tmp 5) 26 43 (.agg #[(.int .i64 0),(.int .i64 0),(.int .i64 0),(.int .i64 0),(.bool false)]) 40 rfl Try.underlying26 info43 rfl (by decide) (by omega) v4 y3 l0_0 _ _ _ (fun _=>True) (fun _=>False) rfl rfl ?aO ?aR (fun _ _ h=>h) (fun _ h=>h.elim) ?aF ?aB ?aS ?aL ?_;(case aR=>exact cc_ (Kd.C_below HR0_0.out HB.out));(case aB=>exact hbw_);(case aF=>exact (fun _ _=>trivial));(case aO=>exact (rr_ HO5.out));(case aS=>exact (below_size hbw_));(case aL=>have:=LMc2.out;omega);intro v7 w9 ho hb hg hat;rw [← Ny6.out] at ho;replace BK1:=a0_ (blk_grown (bb_ BK1.out) hg (Kd.R_ne HO5.out BK1.out (by decide)));replace BK2:=a0_ (blk_grown (bb_ BK2.out) hg (Kd.R_ne HO5.out BK2.out (by decide)));have HO8:=a0_ (ho);replace HB:=a0_ (hb);clear HO5;clear ho hb hg hat;obtain ⟨Ao10,co10,eo10⟩:=Kd.R_slice HO8.out;subst eo10;have hcz11_0 : w9.cell? ⟨gb2,0,none⟩ = some (.slice none 0 0):=(blk_cell BK2.out 0).trans rfl;have hfz11_0:=blk_frozen BK2.out 0))
  refine bodyPost_ret (results_cell_row rfl _ _ gb2 28 #[.slice Ao10 y6.length co10] (0,0) _ rfl (by (with_reducible repeat (first | refine blk_drewN ?_ _ | refine blk_drew ?_ | refine blk_alloc ?_ _));refine blk_put (cs:=#[.slice none 0 0]) ?_ 0 _ rfl;(with_reducible repeat (first | refine blk_drewN ?_ _ | refine blk_drew ?_ | refine blk_alloc ?_ _));exact BK2.out) Try.underlying28 rfl (by kernel_rfl)) rfl ?_
  exact ⟨_,by first | rfl | (simp [errW_none,errW_some] <;> rfl) | (simp [*,errW_none,errW_some] <;> rfl),by (with_reducible repeat (first | apply Kd.R_alloc | apply Kd.R_drewN | apply Kd.R_drew));exact Kd.R_mono (Kd.R_far (p:=⟨gb2,0,none⟩) (Kd.R_types HO8.out BK2.out (by decide)) (fun _ hk=>hk.2) (.slice Ao10 y6.length co10)) (fun _ hk=>trivial),hbw_⟩
 ·rw [if_neg c2] at H
  exact absurd H (by simp)
theorem spec_copyHeap_ev (h : List Fau) (hl : h.length ≤ 2097152) : spec_copyHeap.f h = some h:=by
 unfold spec_copyHeap.f
 rw [Option.bind_some,if_pos (by simp;omega)]
 rfl
end Go.Proofs.Ytmiholmfbjalfaa.P
namespace Go.Proofs.Ytmiholmfbjalfaa.P
open Go.RowKit Go.Proofs.YtmiholmfbjalfaaW.PrintWords Go.Proofs.YtmiholmfbjalfaaW.PrintLast Go.Proofs.YtmiholmfbjalfaaW.PrintMore
attribute [local go_sem] max2_int min2_int max_two min_two max_three min_three max_four min_four
set_option linter.unusedVariables false
set_option linter.unusedSimpArgs false
def spec_added.f (l0_0 : List (S43)) (a1 : Int) (a2 : Int) : Option ((List (S43))):=(spec_copyHeap.f l0_0).bind fun t3=>(if t3.length < 3518437208883 then (some (t3 ++ [(⟨a1,a2,(-1),(-1),false⟩ : S43)])) else (none))
set_option maxHeartbeats 8000000 in
set_option maxRecDepth 100000 in
theorem spec_added.calls (A0_0 : Option Addr) (c0_0 : Nat) (l0_0 : List (S43)) (a1 : Int) (a2 : Int) (r : List (S43)) (w : World) (hr0_0 : Kd.C k43 w A0_0 l0_0.length l0_0) (hc0_0 : l0_0.length ≤ c0_0) (h : spec_added.f l0_0 a1 a2 = some r) :
  Calls Try.prog 45 #[.agg #[.slice A0_0 l0_0.length c0_0],.int .i64 a1,.int .i64 a2] w fun e w'=>∃ v0_ : Value,e = .returned (.agg #[v0_]) ∧ Kd.R k43 43 w' w.heap.size (fun _=>True) v0_ r ∧ Below w.heap.size w w':=by
 have hu28:=Try.underlying28
 have hu43:=Try.underlying43
 have HR0_0:=a0_ hr0_0
 have HC0_0:=a0_ hc0_0
 clear hr0_0 hc0_0
 have HB:=a0_ (Below.refl w.heap.size w)
 have H : ((spec_copyHeap.f l0_0).bind fun t3=>(if t3.length < 3518437208883 then (some (t3 ++ [(⟨a1,a2,(-1),(-1),false⟩ : S43)])) else (none))) = some r:=h
 clear h
 replace H:=Option.bind_eq_some_iff.mp H
 obtain ⟨t3,A40,H⟩:=H
 try dsimp only at H
 have A4:=a0_ A40
 clear A40
 by_cases c5 : t3.length < 3518437208883
 ·rw [if_pos c5] at H
  have LMc5:=a0_ c5
  clear c5
  obtain ⟨y7,hy7⟩ : ∃ y_ : List (S43),y_ = (t3 ++ [(⟨a1,a2,(-1),(-1),false⟩ : S43)]):=⟨_,rfl⟩
  replace H : (some y7) = some r:=by first | (rw [hy7];with_reducible exact H) | (have H2_:=(Option.bind_some _ _).symm.trans H;rw [hy7];with_reducible exact H2_) | (have H2_:=(Option.bind_some _ _).symm.trans H;with_reducible exact H2_) | with_reducible exact H | (rw [hy7];exact H) | exact H
  have Ny7:=a0_ hy7
  clear hy7
  obtain rfl:=Option.some.inj H
  go_enter Try.func45,Try.ntmps45
  go_wp2_with (first | ((with_reducible refine gate_dst (N:=3) rfl ?_);refine box_event ?hg (N:=3) ?hd (cs:=#[.slice A0_0 l0_0.length c0_0]) (t:=28) ?hr ?_;(case hd=>rfl);(case hg=>rfl);(case hr=>first | (go_simp;done) | (go_simp;rfl));intro gb1 hg w6 hbox hb;have BK1:=a0_ (hbox);have GW1:=a0_ ((by rw [hg];exact (below_size hbw_) : w.heap.size ≤ gb1));have GE1:=a0_ ((by rw [hg];exact (below_size hbw_) : w.heap.size ≤ gb1));replace HB:=a0_ (below_step hbw_ hb);clear hb hbox hg) | ((with_reducible refine gate_dst (N:=6) rfl ?_);refine box_event ?hg (N:=6) ?hd (cs:=#[.slice none 0 0]) (t:=28) ?hr ?_;(case hd=>rfl);(case hg=>rfl);(case hr=>first | (go_simp;done) | (go_simp;rfl));intro gb2 hg w7 hbox hb;have n0_:=kb_ BK1 hb;have n1_:=a0_ (below_step hbw_ hb);have n2_:=a0_ (hbox);have n3_:=a0_ ((by rw [hg];exact (below_size hbw_) : w.heap.size ≤ gb2));have n4_:=a0_ ((by rw [hg];exact (below_size hbw_) : w.heap.size ≤ gb2));have n5_:=a0_ ((by rw [hg];exact Nat.ne_of_lt (blk_lt (bb_ BK1.out)) : gb1 ≠ gb2));have n6_:=a0_ ((by rw [hg];exact Nat.ne_of_gt (blk_lt (bb_ BK1.out)) : gb2 ≠ gb1));clear BK1 HB;have BK1:=n0_;have HB:=n1_;have BK2:=n2_;have GW2:=n3_;have GE2:=n4_;have NB1_2:=n5_;have NB2_1:=n6_;clear n0_ n1_ n2_ n3_ n4_ n5_ n6_;clear hb hbox hg;have hnb8:=NB1_2.out;have hnc8:=NB2_1.out;have hcz9_0 : w7.cell? ⟨gb1,0,none⟩ = some (.slice A0_0 l0_0.length c0_0):=(blk_cell BK1.out 0).trans rfl;have hfz9_0:=blk_frozen BK1.out 0) | ((with_reducible refine gate_callee (f:=49) rfl ?_);refine goesL_ (some 9) rfl rfl Try.func49 (by kernel_rfl) rfl #[.agg #[.slice A0_0 l0_0.length c0_0]] rfl lm_ ?_;(with_reducible refine (spec_copyHeap.calls _ _ l0_0 t3 _ ?side1 ?side2 A4.out).mono ?_);(case side1=>exact cc_ (Kd.C_below HR0_0.out HB.out));(case side2=>exact HC0_0.out);rintro e w10 ⟨v4,rfl,ho0,hb⟩;refine ⟨_,rfl,?_⟩;have HO5:=a0_ (Kd.R_lower ho0 (below_size hbw_));replace BK1:=kb_ BK1 hb;replace BK2:=kb_ BK2 hb;replace HB:=a0_ (below_step hbw_ hb);(try clear hb);(try clear ho0)) | ((with_reducible refine gate_dst (N:=7) rfl ?_);refine box_event ?hg (N:=7) ?hd (cs:=#[.slice none 0 0]) (t:=28) ?hr ?_;(case hd=>rfl);(case hg=>rfl);(case hr=>first | (go_simp;done) | (go_simp;rfl));intro gb6 hg w11 hbox hb;have n0_:=rb_ HO5 hb;have n1_:=kb_ BK1 hb;have n2_:=kb_ BK2 hb;have n3_:=a0_ (below_step hbw_ hb);have n4_:=a0_ (hbox);have n5_:=a0_ ((by rw [hg];exact (below_size hbw_) : w.heap.size ≤ gb6));have n6_:=a0_ ((by rw [hg];exact (below_size hbw_) : w.heap.size ≤ gb6));have n7_:=a0_ ((by rw [hg];exact Nat.ne_of_lt (blk_lt (bb_ BK1.out)) : gb1 ≠ gb6));have n8_:=a0_ ((by rw [hg];exact Nat.ne_of_gt (blk_lt (bb_ BK1.out)) : gb6 ≠ gb1));have n9_:=a0_ ((by rw [hg];exact Nat.ne_of_lt (blk_lt (bb_ BK2.out)) : gb2 ≠ gb6));have n10_:=a0_ ((by rw [hg];exact Nat.ne_of_gt (blk_lt (bb_ BK2.out)) : gb6 ≠ gb2));clear HO5 BK1;clear BK2 HB;have HO5:=n0_;have BK1:=n1_;have BK2:=n2_;have HB:=n3_;have BK6:=n4_;have GW6:=n5_;have GE6:=n6_;have NB1_6:=n7_;have NB6_1:=n8_;have NB2_6:=n9_;have NB6_2:=n10_;clear n0_ n1_ n2_ n3_ n4_ n5_ n6_ n7_ n8_ n9_ n10_;clear hb hbox hg;obtain ⟨Ao12,co12,eo12⟩:=Kd.R_slice HO5.out;subst eo12;have hnb13:=NB6_1.out;have hnc13:=NB1_6.out;have hnb14:=NB6_2.out;have hnc14:=NB2_6.out;have hcz15_0 : w11.cell? ⟨gb6,0,none⟩ = some (.slice none 0 0):=(blk_cell BK6.out 0).trans rfl;have hfz15_0:=blk_frozen BK6.out 0) | ((with_reducible refine gate_builtin (b:=.append) (xs:=#[.tmp 11,.tmp 15]) rfl ?_);at_builtin;refine Kd.R_append k43 (w0:=w) w.heap.size rfl (.tmp 11) (.tmp 15) 26 43 (.agg #[(.int .i64 0),(.int .i64 0),(.int .i64 0),(.int .i64 0),(.bool false)]) 40 rfl Try.underlying26 info43 rfl (by decide) (by omega) (.slice Ao12 t3.length co12) t3 (⟨a1,a2,(-1),(-1),false⟩ : S43) [.int .i64 a1,.int .i64 a2,.int .i64 (-1),.int .i64 (-1),.bool false] (fun _=>True) (fun _=>False) rfl (by first | (go_simp;done) | (go_simp;rfl)) ?aP (fun _ hk=>hk.elim) ?aF ?aO ?aB ?aS ?aL ?_;(case aP=>exact k43_mkM _ _ _ (⟨a1,a2,(-1),(-1),false⟩ : S43));(case aB=>exact hbw_);(case aF=>exact (fun _ _=>trivial));(case aO=>exact (by (with_reducible repeat (first | apply Kd.R_alloc | apply Kd.R_drewN | apply Kd.R_drew));exact Kd.R_mono (Kd.R_far (p:=⟨gb6,0,none⟩) (Kd.R_types HO5.out BK6.out (by decide)) (fun _ hk=>hk.2) (.slice Ao12 t3.length co12)) (fun _ hk=>trivial)));(case aS=>exact (below_size hbw_));(case aL=>have:=LMc5.out;omega);intro v8 w16 ho hb hg hat;rw [← Ny7.out] at ho;replace BK1:=a0_ (blk_grown (g:=gb1) (o:=.cells #[.slice A0_0 l0_0.length c0_0] 28 (0,0)) (bff_ BK1.out) hg (Kd.R_ne HO5.out BK1.out (by decide)));replace BK2:=a0_ (blk_grown (g:=gb2) (o:=.cells #[.slice none 0 0] 28 (0,0)) (bff_ BK2.out) hg (Kd.R_ne HO5.out BK2.out (by decide)));replace BK6:=a0_ (blk_grown (g:=gb6) (o:=.cells #[.slice Ao12 t3.length co12] 28 (0,0)) (by (with_reducible repeat (first | refine blk_drewN ?_ _ | refine blk_drew ?_ | refine blk_alloc ?_ _));refine blk_put (cs:=#[.slice none 0 0]) ?_ 0 _ rfl;(with_reducible repeat (first | refine blk_drewN ?_ _ | refine blk_drew ?_ | refine blk_alloc ?_ _));exact BK6.out) hg (Kd.R_ne HO5.out BK6.out (by decide)));have HO9:=a0_ (ho);replace HB:=a0_ (hb);clear HO5;clear ho hb hg hat;obtain ⟨Ao17,co17,eo17⟩:=Kd.R_slice HO9.out;subst eo17;have hcz18_0 : w16.cell? ⟨gb6,0,none⟩ = some (.slice Ao12 t3.length co12):=(blk_cell BK6.out 0).trans rfl;have hfz18_0:=blk_frozen BK6.out 0;have hcz19_0 : w16.cell? ⟨gb2,0,none⟩ = some (.slice none 0 0):=(blk_cell BK2.out 0).trans rfl;have hfz19_0:=blk_frozen BK2.out 0))
  refine bodyPost_ret (results_cell_row rfl _ _ gb2 28 #[.slice Ao17 y7.length co17] (0,0) _ rfl (by (with_reducible repeat (first | refine blk_drewN ?_ _ | refine blk_drew ?_ | refine blk_alloc ?_ _));refine blk_put (cs:=#[.slice none 0 0]) ?_ 0 _ rfl;(with_reducible repeat (first | refine blk_drewN ?_ _ | refine blk_drew ?_ | refine blk_alloc ?_ _));refine blk_far ?_ NB2_6.out _;(with_reducible repeat (first | refine blk_drewN ?_ _ | refine blk_drew ?_ | refine blk_alloc ?_ _));exact BK2.out) Try.underlying28 rfl (by kernel_rfl)) rfl ?_
  exact ⟨_,by first | rfl | (simp [errW_none,errW_some] <;> rfl) | (simp [*,errW_none,errW_some] <;> rfl),by (with_reducible repeat (first | apply Kd.R_alloc | apply Kd.R_drewN | apply Kd.R_drew));exact Kd.R_mono (Kd.R_far (p:=⟨gb2,0,none⟩) (Kd.R_far (p:=⟨gb6,0,none⟩) (Kd.R_types (Kd.R_types HO9.out BK6.out (by decide)) BK2.out (by decide)) (fun _ hk=>hk.1.2) (.slice Ao17 y7.length co17)) (fun _ hk=>hk.2) (.slice Ao17 y7.length co17)) (fun _ hk=>trivial),hbw_⟩
 ·rw [if_neg c5] at H
  exact absurd H (by simp)
theorem spec_added_ev (h : List Fau) (a c : Int) (hl : h.length ≤ 2097152) : spec_added.f h a c = some (h ++ [⟨a,c,-1,-1,false⟩]):=by
 unfold spec_added.f
 rw [spec_copyHeap_ev h hl]
 simp only [Option.bind_some]
 rw [if_pos (by omega)]
end Go.Proofs.Ytmiholmfbjalfaa.P
namespace Go.Proofs.Ytmiholmfbjalfaa.P
open Go.RowKit Go.Proofs.YtmiholmfbjalfaaW.PrintWords Go.Proofs.YtmiholmfbjalfaaW.PrintLast Go.Proofs.YtmiholmfbjalfaaW.PrintMore
attribute [local go_sem] max2_int min2_int max_two min_two max_three min_three max_four min_four
set_option linter.unusedVariables false
set_option linter.unusedSimpArgs false
mutual
def spec_raised.j0 : Nat → Int → Int → Bool → List (S43) → Option ((List (S43)))
 | 0,_,_,_,_=>none
 | k + 1,x1,x2,x17,x7000=>if x17 = true then (some x7000) else (spec_raised.l0 k x1 x2 x2 x7000)
def spec_raised.l0 : Nat → Int → Int → Int → List (S43) → Option ((List (S43)))
 | 0,_,_,_,_=>none
 | k + 1,x1,x2,x8,x7000=>if 0 ≤ x8 then (if x8 < (x7000.length : Int) then (if ((rd_T43 x7000 x8).f3) ≥ 0 then (if ((rd_T43 x7000 x8).f3) = x1 then ((some (x7000.set (x8 : Int).toNat (⟨(rd_T43 x7000 x8).f0,(rd_T43 x7000 x8).f1,(rd_T43 x7000 x8).f2,(-1),(rd_T43 x7000 x8).f4⟩ : S43) : List (S43))).bind fun y9=>(if 0 ≤ x1 then (if x1 < (x7000.length : Int) then (some (y9.set (x1 : Int).toNat (⟨(rd_T43 y9 x1).f0,(rd_T43 y9 x1).f1,(rd_T43 y9 x1).f2,x2,(rd_T43 y9 x1).f4⟩ : S43))) else (none)) else (none))) else (spec_raised.l0 k x1 x2 ((rd_T43 x7000 x8).f3) x7000)) else (if 0 ≤ x1 then (if x1 < (x7000.length : Int) then (some (x7000.set (x1 : Int).toNat (⟨(rd_T43 x7000 x1).f0,(rd_T43 x7000 x1).f1,(rd_T43 x7000 x1).f2,x2,(rd_T43 x7000 x1).f4⟩ : S43))) else (none)) else (none))) else (none)) else (none)
end
def spec_raised.f (k : Nat) (l0_0 : List (S43)) (a1 : Int) (a2 : Int) : Option ((List (S43))):=(spec_copyHeap.f l0_0).bind fun t3=>(if a1 = a2 then (spec_raised.j0 k a1 a2 true t3) else (spec_raised.j0 k a1 a2 (decide (a2 < 0)) t3))
theorem spec_raised.mono_l : ∀ k,(∀ y0 y1 y2 y3,LeO (spec_raised.j0 k y0 y1 y2 y3) (spec_raised.j0 (k + 1) y0 y1 y2 y3)) ∧ (∀ y0 y1 y2 y3,LeO (spec_raised.l0 k y0 y1 y2 y3) (spec_raised.l0 (k + 1) y0 y1 y2 y3))
 | 0=>⟨fun _ _ _ _ r h=>by simp [spec_raised.j0] at h,fun _ _ _ _ r h=>by simp [spec_raised.l0] at h⟩
 | k + 1=>by
  obtain ⟨ih0,ih1⟩:=spec_raised.mono_l k
  refine ⟨?_,?_⟩
  ·intro y0 y1 y2 y3
   unfold spec_raised.j0
   repeat' first
   | (with_reducible exact ih0 _ _ _ _)
   | (with_reducible exact ih1 _ _ _ _)
   | (with_reducible exact LeO.refl _)
   | (with_reducible exact LeO.none _)
   | (with_reducible refine LeO.ite ?_ ?_)
   | (with_reducible refine LeO.bind ?_ (fun _=>?_))
   | exact ih0 _ _ _ _
   | exact ih1 _ _ _ _
   | exact LeO.none _
   | refine LeO.ite ?_ ?_
   | refine LeO.bind ?_ (fun _=>?_)
  ·intro y0 y1 y2 y3
   unfold spec_raised.l0
   repeat' first
   | (with_reducible exact ih0 _ _ _ _)
   | (with_reducible exact ih1 _ _ _ _)
   | (with_reducible exact LeO.refl _)
   | (with_reducible exact LeO.none _)
   | (with_reducible refine LeO.ite ?_ ?_)
   | (with_reducible refine LeO.bind ?_ (fun _=>?_))
   | exact ih0 _ _ _ _
   | exact ih1 _ _ _ _
   | exact LeO.none _
   | refine LeO.ite ?_ ?_
   | refine LeO.bind ?_ (fun _=>?_)
theorem spec_raised.mono : ∀ a0 a1 a2 k,LeO (spec_raised.f k a0 a1 a2) (spec_raised.f (k + 1) a0 a1 a2):=by
 intro a0 a1 a2 k
 obtain ⟨ih0,ih1⟩:=spec_raised.mono_l k
 unfold spec_raised.f
 repeat' first
   | (with_reducible exact ih0 _ _ _ _)
   | (with_reducible exact ih1 _ _ _ _)
   | (with_reducible exact LeO.refl _)
   | (with_reducible exact LeO.none _)
   | (with_reducible refine LeO.ite ?_ ?_)
   | (with_reducible refine LeO.bind ?_ (fun _=>?_))
   | exact ih0 _ _ _ _
   | exact ih1 _ _ _ _
   | exact LeO.none _
   | refine LeO.ite ?_ ?_
   | refine LeO.bind ?_ (fun _=>?_)
set_option maxHeartbeats 8000000 in
set_option maxRecDepth 100000 in
theorem spec_raised.calls (k : Nat) (A0_0 : Option Addr) (c0_0 : Nat) (l0_0 : List (S43)) (a1 : Int) (a2 : Int) (r : List (S43)) (w : World) (hr0_0 : Kd.C k43 w A0_0 l0_0.length l0_0) (hc0_0 : l0_0.length ≤ c0_0) (h : spec_raised.f k l0_0 a1 a2 = some r) :
  Calls Try.prog 55 #[.agg #[.slice A0_0 l0_0.length c0_0],.int .i64 a1,.int .i64 a2] w fun e w'=>∃ v0_ : Value,e = .returned (.agg #[v0_]) ∧ Kd.R k43 43 w' w.heap.size (fun _=>True) v0_ r ∧ Below w.heap.size w w':=by
 have hu28:=Try.underlying28
 have HR0_0:=a0_ hr0_0
 have HC0_0:=a0_ hc0_0
 clear hr0_0 hc0_0
 have HB:=a0_ (Below.refl w.heap.size w)
 have H : ((spec_copyHeap.f l0_0).bind fun t3=>(if a1 = a2 then (spec_raised.j0 k a1 a2 true t3) else (spec_raised.j0 k a1 a2 (decide (a2 < 0)) t3))) = some r:=h
 clear h
 replace H:=Option.bind_eq_some_iff.mp H
 obtain ⟨t3,A40,H⟩:=H
 try dsimp only at H
 have A4:=a0_ A40
 clear A40
 have HC5:=a0_ H
 clear H
 go_enter Try.func55,Try.ntmps55
 go_upto_region 2 with (first | ((with_reducible refine gate_dst (N:=3) rfl ?_);refine box_event ?hg (N:=3) ?hd (cs:=#[.slice A0_0 l0_0.length c0_0]) (t:=28) ?hr ?_;(case hd=>rfl);(case hg=>rfl);(case hr=>first | (go_simp;done) | (go_simp;rfl));intro gb1 hg w6 hbox hb;have BK1:=a0_ (hbox);have GW1:=a0_ ((by rw [hg];exact (below_size hbw_) : w.heap.size ≤ gb1));have GE1:=a0_ ((by rw [hg];exact (below_size hbw_) : w.heap.size ≤ gb1));replace HB:=a0_ (below_step hbw_ hb);clear hb hbox hg) | ((with_reducible refine gate_dst (N:=6) rfl ?_);refine box_event ?hg (N:=6) ?hd (cs:=#[.slice none 0 0]) (t:=28) ?hr ?_;(case hd=>rfl);(case hg=>rfl);(case hr=>first | (go_simp;done) | (go_simp;rfl));intro gb2 hg w7 hbox hb;have n0_:=kb_ BK1 hb;have n1_:=a0_ (below_step hbw_ hb);have n2_:=a0_ (hbox);have n3_:=a0_ ((by rw [hg];exact (below_size hbw_) : w.heap.size ≤ gb2));have n4_:=a0_ ((by rw [hg];exact (below_size hbw_) : w.heap.size ≤ gb2));have n5_:=a0_ ((by rw [hg];exact Nat.ne_of_lt (blk_lt (bb_ BK1.out)) : gb1 ≠ gb2));have n6_:=a0_ ((by rw [hg];exact Nat.ne_of_gt (blk_lt (bb_ BK1.out)) : gb2 ≠ gb1));clear BK1 HB;have BK1:=n0_;have HB:=n1_;have BK2:=n2_;have GW2:=n3_;have GE2:=n4_;have NB1_2:=n5_;have NB2_1:=n6_;clear n0_ n1_ n2_ n3_ n4_ n5_ n6_;clear hb hbox hg;have hnb8:=NB1_2.out;have hnc8:=NB2_1.out;have hcz9_0 : w7.cell? ⟨gb1,0,none⟩ = some (.slice A0_0 l0_0.length c0_0):=(blk_cell BK1.out 0).trans rfl;have hfz9_0:=blk_frozen BK1.out 0) | ((with_reducible refine gate_callee (f:=49) rfl ?_);refine goesL_ (some 10) rfl rfl Try.func49 (by kernel_rfl) rfl #[.agg #[.slice A0_0 l0_0.length c0_0]] rfl lm_ ?_;(with_reducible refine (spec_copyHeap.calls _ _ l0_0 t3 _ ?side1 ?side2 A4.out).mono ?_);(case side1=>exact cc_ (Kd.C_below HR0_0.out HB.out));(case side2=>exact HC0_0.out);rintro e w10 ⟨v4,rfl,ho0,hb⟩;refine ⟨_,rfl,?_⟩;have HO5:=a0_ (Kd.R_lower ho0 (below_size hbw_));replace BK1:=kb_ BK1 hb;replace BK2:=kb_ BK2 hb;replace HB:=a0_ (below_step hbw_ hb);(try clear hb);(try clear ho0)) | ((with_reducible refine gate_dst (N:=7) rfl ?_);refine box_event ?hg (N:=7) ?hd (cs:=#[.slice none 0 0]) (t:=28) ?hr ?_;(case hd=>rfl);(case hg=>rfl);(case hr=>first | (go_simp;done) | (go_simp;rfl));intro gb6 hg w11 hbox hb;have n0_:=rb_ HO5 hb;have n1_:=kb_ BK1 hb;have n2_:=kb_ BK2 hb;have n3_:=a0_ (below_step hbw_ hb);have n4_:=a0_ (hbox);have n5_:=a0_ ((by rw [hg];exact (below_size hbw_) : w.heap.size ≤ gb6));have n6_:=a0_ ((by rw [hg];exact (below_size hbw_) : w.heap.size ≤ gb6));have n7_:=a0_ ((by rw [hg];exact Nat.ne_of_lt (blk_lt (bb_ BK1.out)) : gb1 ≠ gb6));have n8_:=a0_ ((by rw [hg];exact Nat.ne_of_gt (blk_lt (bb_ BK1.out)) : gb6 ≠ gb1));have n9_:=a0_ ((by rw [hg];exact Nat.ne_of_lt (blk_lt (bb_ BK2.out)) : gb2 ≠ gb6));have n10_:=a0_ ((by rw [hg];exact Nat.ne_of_gt (blk_lt (bb_ BK2.out)) : gb6 ≠ gb2));clear HO5 BK1;clear BK2 HB;have HO5:=n0_;have BK1:=n1_;have BK2:=n2_;have HB:=n3_;have BK6:=n4_;have GW6:=n5_;have GE6:=n6_;have NB1_6:=n7_;have NB6_1:=n8_;have NB2_6:=n9_;have NB6_2:=n10_;clear n0_ n1_ n2_ n3_ n4_ n5_ n6_ n7_ n8_ n9_ n10_;clear hb hbox hg;obtain ⟨Ao12,co12,eo12⟩:=Kd.R_slice HO5.out;subst eo12;have hnb13:=NB6_1.out;have hnc13:=NB1_6.out;have hnb14:=NB6_2.out;have hnc14:=NB2_6.out;have hcz15_0 : w11.cell? ⟨gb6,0,none⟩ = some (.slice none 0 0):=(blk_cell BK6.out 0).trans rfl;have hfz15_0:=blk_frozen BK6.out 0))
 (try simp only [Act.put,s1_,s2_,s3_])
 go_cut [17] (fun v17 wc=>∃ (kq : Nat) (x17_4 : Bool),v17 = .bool x17_4 ∧ Aside0 (spec_raised.j0 kq a1 a2 x17_4 t3 = some r) ∧ Aside0 (kq ≤ k) ∧ Aside0 (Kd.R k43 43 wc w.heap.size (fun _=>True) (.slice Ao12 t3.length co12) t3) ∧ Aside0 (wc.heap[gb1]? = some (.cells #[(.slice A0_0 l0_0.length c0_0)] 28 (0,0))) ∧ Aside0 (wc.heap[gb2]? = some (.cells #[(.slice none 0 0)] 28 (0,0))) ∧ Aside0 (wc.heap[gb6]? = some (.cells #[(.slice Ao12 t3.length co12)] 28 (0,0))) ∧ Aside0 (Below w.heap.size w wc))
 case first =>
  have H:=HC5.out
  clear HC5
  by_cases c16 : a1 = a2
  ·rw [if_pos c16] at H
   have c16b0 : (a1 == a2) = true:=beq_iff_eq.mpr c16
   have c16b1 : (a1 != a2) = false:=bne_eq_false_iff_eq.mpr c16
   clear c16
   (first | rw [c16b0] | (simp only [i64_w,i32_w];rw [c16b0]) | skip)
   have H':=a0_ H
   clear H
   go_wp2
   go_meet
   case rel=>exact ⟨_,(true),(by first | rfl | (simp;done) | (simp [*];done)),H',⟨by first | omega | exact Nat.le_refl _⟩,⟨by (with_reducible repeat (first | apply Kd.R_alloc | apply Kd.R_drewN | apply Kd.R_drew));exact Kd.R_mono (Kd.R_far (p:=⟨gb6,0,none⟩) (Kd.R_types HO5.out BK6.out (by decide)) (fun _ hk=>hk.2) (.slice Ao12 t3.length co12)) (fun _ hk=>trivial)⟩,⟨by (with_reducible repeat (first | refine blk_drewN ?_ _ | refine blk_drew ?_ | refine blk_alloc ?_ _));refine blk_far ?_ NB1_6.out _;(with_reducible repeat (first | refine blk_drewN ?_ _ | refine blk_drew ?_ | refine blk_alloc ?_ _));exact BK1.out⟩,⟨by (with_reducible repeat (first | refine blk_drewN ?_ _ | refine blk_drew ?_ | refine blk_alloc ?_ _));refine blk_far ?_ NB2_6.out _;(with_reducible repeat (first | refine blk_drewN ?_ _ | refine blk_drew ?_ | refine blk_alloc ?_ _));exact BK2.out⟩,⟨by (with_reducible repeat (first | refine blk_drewN ?_ _ | refine blk_drew ?_ | refine blk_alloc ?_ _));refine blk_put (cs:=#[.slice none 0 0]) ?_ 0 _ rfl;(with_reducible repeat (first | refine blk_drewN ?_ _ | refine blk_drew ?_ | refine blk_alloc ?_ _));exact BK6.out⟩,⟨hbw_⟩⟩
  ·rw [if_neg c16] at H
   have c16b0 : (a1 == a2) = false:=beq_eq_false_iff_ne.mpr c16
   have c16b1 : (a1 != a2) = true:=bne_iff_ne.mpr c16
   (first | rw [c16b0] | (simp only [i64_w,i32_w];rw [c16b0]) | skip)
   have H':=a0_ H
   clear H
   go_wp2
   go_meet
   case rel=>exact ⟨_,(decide (a2 < 0)),(by first | rfl | (simp;done) | (simp [*];done)),H',⟨by first | omega | exact Nat.le_refl _⟩,⟨by (with_reducible repeat (first | apply Kd.R_alloc | apply Kd.R_drewN | apply Kd.R_drew));exact Kd.R_mono (Kd.R_far (p:=⟨gb6,0,none⟩) (Kd.R_types HO5.out BK6.out (by decide)) (fun _ hk=>hk.2) (.slice Ao12 t3.length co12)) (fun _ hk=>trivial)⟩,⟨by (with_reducible repeat (first | refine blk_drewN ?_ _ | refine blk_drew ?_ | refine blk_alloc ?_ _));refine blk_far ?_ NB1_6.out _;(with_reducible repeat (first | refine blk_drewN ?_ _ | refine blk_drew ?_ | refine blk_alloc ?_ _));exact BK1.out⟩,⟨by (with_reducible repeat (first | refine blk_drewN ?_ _ | refine blk_drew ?_ | refine blk_alloc ?_ _));refine blk_far ?_ NB2_6.out _;(with_reducible repeat (first | refine blk_drewN ?_ _ | refine blk_drew ?_ | refine blk_alloc ?_ _));exact BK2.out⟩,⟨by (with_reducible repeat (first | refine blk_drewN ?_ _ | refine blk_drew ?_ | refine blk_alloc ?_ _));refine blk_put (cs:=#[.slice none 0 0]) ?_ 0 _ rfl;(with_reducible repeat (first | refine blk_drewN ?_ _ | refine blk_drew ?_ | refine blk_alloc ?_ _));exact BK6.out⟩,⟨hbw_⟩⟩
 case rest =>
  clear HC5
  try clear c1
  try clear p2
  try clear c4
  try clear c5
  try clear c8
  try clear c13
  try clear c14
  try clear c16
  try clear c16b0
  try clear c16b1
  try clear hcz15_0
  try clear hcz9_0
  try clear hfz15_0
  try clear hfz9_0
  obtain ⟨kq,x17_4,rfl,HA,HJ4,Z7,BK1,BK2,BK6,HB⟩:=hcut
  cases kq with
  | zero=>exact absurd HA.out (by simp [spec_raised.j0])
  | succ kj4 =>
   have H:=HA.out
   clear HA
   simp only [spec_raised.j0] at H
   by_cases c17 : x17_4 = true
   ·subst c17
    have H1 : (some t3) = some r:=by rw [if_pos rfl] at H;exact H
    clear H
    have H:=H1
    clear H1
    obtain rfl:=Option.some.inj H
    have hnb18:=NB6_1.out
    have hnc18:=NB1_6.out
    have hnb19:=NB6_2.out
    have hnc19:=NB2_6.out
    have hcz20_0 : wc.cell? ⟨gb6,0,none⟩ = some (.slice Ao12 t3.length co12):=(blk_cell BK6.out 0).trans rfl
    have hfz20_0:=blk_frozen BK6.out 0
    have hnb21:=NB2_1.out
    have hnc21:=NB1_2.out
    have hcz22_0 : wc.cell? ⟨gb2,0,none⟩ = some (.slice none 0 0):=(blk_cell BK2.out 0).trans rfl
    have hfz22_0:=blk_frozen BK2.out 0
    go_wp2
    refine bodyPost_ret (results_cell_row rfl _ _ gb2 28 #[.slice Ao12 t3.length co12] (0,0) _ rfl (by (with_reducible repeat (first | refine blk_drewN ?_ _ | refine blk_drew ?_ | refine blk_alloc ?_ _));refine blk_put (cs:=#[.slice none 0 0]) ?_ 0 _ rfl;(with_reducible repeat (first | refine blk_drewN ?_ _ | refine blk_drew ?_ | refine blk_alloc ?_ _));exact BK2.out) Try.underlying28 rfl (by kernel_rfl)) rfl ?_
    exact ⟨_,by first | rfl | (simp [errW_none,errW_some] <;> rfl) | (simp [*,errW_none,errW_some] <;> rfl),by (with_reducible repeat (first | apply Kd.R_alloc | apply Kd.R_drewN | apply Kd.R_drew));exact Kd.R_mono (Kd.R_far (p:=⟨gb2,0,none⟩) (Kd.R_types Z7.out BK2.out (by decide)) (fun _ hk=>hk.2) (.slice Ao12 t3.length co12)) (fun _ hk=>trivial),hbw_⟩
   ·replace c17:=Bool.eq_false_iff.mpr c17
    subst c17
    have H1 : (spec_raised.l0 kj4 a1 a2 a2 t3) = some r:=by rw [if_neg (show ¬ (false = true) by decide)] at H;exact H
    clear H
    have H:=H1
    clear H1
    have H':=a0_ H
    clear H
    go_wp2
    go_loopg [8] kj4 (fun kq v8 w'=>∃ (x8_2 : Int) (x7000_2 : List (S43)) (u7000 : Value),v8 = .int .i64 x8_2 ∧ Aside0 (spec_raised.l0 kq a1 a2 x8_2 x7000_2 = some r) ∧ Aside0 (kq ≤ kj4) ∧ Aside0 (Kd.R k43 43 w' w.heap.size (fun _=>True) u7000 x7000_2) ∧ Aside0 (w'.heap[gb1]? = some (.cells #[(.slice A0_0 l0_0.length c0_0)] 28 (0,0))) ∧ Aside0 (w'.heap[gb2]? = some (.cells #[(.slice none 0 0)] 28 (0,0))) ∧ Aside0 (w'.heap[gb6]? = some (.cells #[u7000] 28 (0,0))) ∧ Aside0 (Below w.heap.size w w'))
    case atStart=>exact ⟨(a2),(t3),(.slice Ao12 t3.length co12),(by first | rfl | (simp;done) | (simp [*];done)),H',⟨Nat.le_refl _⟩,⟨by (with_reducible repeat (first | apply Kd.R_alloc | apply Kd.R_drewN | apply Kd.R_drew));exact Z7.out⟩,⟨by (with_reducible repeat (first | refine blk_drewN ?_ _ | refine blk_drew ?_ | refine blk_alloc ?_ _));exact BK1.out⟩,⟨by (with_reducible repeat (first | refine blk_drewN ?_ _ | refine blk_drew ?_ | refine blk_alloc ?_ _));exact BK2.out⟩,⟨by (with_reducible repeat (first | refine blk_drewN ?_ _ | refine blk_drew ?_ | refine blk_alloc ?_ _));exact BK6.out⟩,⟨hbw_⟩⟩
    case round =>
     clear H'
     try clear c1
     try clear c2
     try clear p2
     try clear c4
     try clear c5
     try clear c8
     try clear c13
     try clear c14
     try clear c16
     try clear c16b0
     try clear c16b1
     try clear c17
     try clear c18
     try clear c19
     try clear c21
     try clear hcz15_0
     try clear hcz20_0
     try clear hcz22_0
     try clear hcz9_0
     try clear hfz15_0
     try clear hfz20_0
     try clear hfz22_0
     try clear hfz9_0
     try clear p2
     obtain ⟨x8_2,x7000_2,u7000,rfl,HA,HK2,Z7,BK1,BK2,BK6,HB⟩:=hrel
     cases gk with
     | zero=>exact absurd HA.out (by simp [spec_raised.l0])
     | succ k2 =>
      have H:=HA.out
      clear HA
      simp only [spec_raised.l0] at H
      by_cases c23 : 0 ≤ x8_2
      ·rw [if_pos c23] at H
       have c23b0 : decide (0 ≤ x8_2) = true:=decide_eq_true c23
       clear c23
       by_cases c24 : x8_2 < (x7000_2.length : Int)
       ·rw [if_pos c24] at H
        have c24b0 : decide (x8_2 < (x7000_2.length : Int)) = true:=decide_eq_true c24
        clear c24
        by_cases c25 : ((rd_T43 x7000_2 x8_2).f3) ≥ 0
        ·rw [if_pos c25] at H
         have c25b0 : decide (0 ≤ ((rd_T43 x7000_2 x8_2).f3)) = true:=decide_eq_true c25
         clear c25
         by_cases c26 : ((rd_T43 x7000_2 x8_2).f3) = a1
         ·rw [if_pos c26] at H
          have c26b0 : (((rd_T43 x7000_2 x8_2).f3) == a1) = true:=beq_iff_eq.mpr c26
          have c26b1 : (((rd_T43 x7000_2 x8_2).f3) != a1) = false:=bne_eq_false_iff_eq.mpr c26
          clear c26
          obtain ⟨y9,hy9⟩ : ∃ y_ : List (S43),y_ = (x7000_2.set (x8_2 : Int).toNat (⟨(rd_T43 x7000_2 x8_2).f0,(rd_T43 x7000_2 x8_2).f1,(rd_T43 x7000_2 x8_2).f2,(-1),(rd_T43 x7000_2 x8_2).f4⟩ : S43)):=⟨_,rfl⟩
          replace H : (if 0 ≤ a1 then (if a1 < (x7000_2.length : Int) then (some (y9.set (a1 : Int).toNat (⟨(rd_T43 y9 a1).f0,(rd_T43 y9 a1).f1,(rd_T43 y9 a1).f2,a2,(rd_T43 y9 a1).f4⟩ : S43))) else (none)) else (none)) = some r:=by first | (rw [hy9];with_reducible exact H) | (have H2_:=(Option.bind_some _ _).symm.trans H;rw [hy9];with_reducible exact H2_) | (have H2_:=(Option.bind_some _ _).symm.trans H;with_reducible exact H2_) | with_reducible exact H | (rw [hy9];exact H) | exact H
          have Ny9:=a0_ hy9
          clear hy9
          by_cases c28 : 0 ≤ a1
          ·rw [if_pos c28] at H
           have c28b0 : decide (0 ≤ a1) = true:=decide_eq_true c28
           clear c28
           by_cases c29 : a1 < (x7000_2.length : Int)
           ·rw [if_pos c29] at H
            have c29b0 : decide (a1 < (x7000_2.length : Int)) = true:=decide_eq_true c29
            clear c29
            obtain ⟨y10,hy10⟩ : ∃ y_ : List (S43),y_ = (y9.set (a1 : Int).toNat (⟨(rd_T43 y9 a1).f0,(rd_T43 y9 a1).f1,(rd_T43 y9 a1).f2,a2,(rd_T43 y9 a1).f4⟩ : S43)):=⟨_,rfl⟩
            replace H : (some y10) = some r:=by first | (rw [hy10];with_reducible exact H) | (have H2_:=(Option.bind_some _ _).symm.trans H;rw [hy10];with_reducible exact H2_) | (have H2_:=(Option.bind_some _ _).symm.trans H;with_reducible exact H2_) | with_reducible exact H | (rw [hy10];exact H) | exact H
            have Ny10:=a0_ hy10
            clear hy10
            obtain rfl:=Option.some.inj H
            have hnb31:=NB6_1.out
            have hnc31:=NB1_6.out
            have hnb32:=NB6_2.out
            have hnc32:=NB2_6.out
            have hcz33_0 : wr.cell? ⟨gb6,0,none⟩ = some (u7000):=(blk_cell BK6.out 0).trans rfl
            have hfz33_0:=blk_frozen BK6.out 0
            obtain ⟨Ao34,co34,eo34⟩:=Kd.R_slice Z7.out
            subst eo34
            have p7 : 0 ≤ (x8_2 : Int):=of_decide_eq_true (by first | (with_reducible assumption) | assumption)
            have q7 : x8_2 < (x7000_2.length : Int):=of_decide_eq_true (by first | (with_reducible assumption) | assumption)
            obtain ⟨ad7,e7,hx7_0,hx7_1,hx7_2,hx7_3,hx7_4⟩:=at_T43 (Kd.R_reads' Z7.out).2.2 x8_2 p7 q7
            cases e7
            replace p7:=eq_true p7
            replace q7:=eq_true q7
            have p8 : 0 ≤ (x8_2 : Int):=of_decide_eq_true (by first | (with_reducible assumption) | assumption)
            have q8 : x8_2 < (x7000_2.length : Int):=of_decide_eq_true (by first | (with_reducible assumption) | assumption)
            obtain ⟨ad8,e8,hx8_0,hx8_1,hx8_2,hx8_3,hx8_4⟩:=at_T43 (Kd.R_reads' Z7.out).2.2 x8_2 p8 q8
            obtain rfl : ad7 = ad8:=(by injection e8)
            replace p8:=eq_true p8
            replace q8:=eq_true q8
            have p27 : 0 ≤ (x8_2 : Int):=of_decide_eq_true (by first | (with_reducible assumption) | assumption)
            have q27 : (x8_2 : Int) < ((x7000_2.length : Int) : Int):=of_decide_eq_true (by first | (with_reducible assumption) | assumption)
            obtain ⟨go27,co27,eo27,gb27,gl27,cl27,HG27⟩:=Kd.R_form Z7.out (by omega)
            (first | cases eo27 | (injection eo27 with ea_ en_ ec_;(first | subst ea_ | (injection ea_ with ea_;subst ea_));subst ec_;clear en_))
            have GB27:=a0_ gb27
            have GG27:=a0_ HG27
            clear gb27 gl27 HG27
            (first | simp only [add_plain] at hx7_0 | skip)
            (first | simp only [add_plain] at hx7_1 | skip)
            (first | simp only [add_plain] at hx7_2 | skip)
            (first | simp only [add_plain] at hx7_3 | skip)
            (first | simp only [add_plain] at hx7_4 | skip)
            (first | simp only [add_plain] at hx8_0 | skip)
            (first | simp only [add_plain] at hx8_1 | skip)
            (first | simp only [add_plain] at hx8_2 | skip)
            (first | simp only [add_plain] at hx8_3 | skip)
            (first | simp only [add_plain] at hx8_4 | skip)
            obtain ⟨ce27,hcl27,hM27,hcc27,hfr27⟩:=Kd.R_elem Z7.out z43 (x8_2 : Int) p27 q27
            obtain rfl:=k43_openM hM27
            have hx27_0 : wr.cell? ⟨go27,(x8_2 : Int).toNat * 5,none⟩ = some (.int .i64 ((rd_T43 x7000_2 x8_2).f0)):=hcc27 0 _ rfl
            have hx27_1 : wr.cell? ⟨go27,(x8_2 : Int).toNat * 5 + 1,none⟩ = some (.int .i64 ((rd_T43 x7000_2 x8_2).f1)):=hcc27 1 _ rfl
            have hx27_2 : wr.cell? ⟨go27,(x8_2 : Int).toNat * 5 + 2,none⟩ = some (.int .i64 ((rd_T43 x7000_2 x8_2).f2)):=hcc27 2 _ rfl
            have hx27_3 : wr.cell? ⟨go27,(x8_2 : Int).toNat * 5 + 3,none⟩ = some (.int .i64 ((rd_T43 x7000_2 x8_2).f3)):=hcc27 3 _ rfl
            have hx27_4 : wr.cell? ⟨go27,(x8_2 : Int).toNat * 5 + 4,none⟩ = some (.bool ((rd_T43 x7000_2 x8_2).f4)):=hcc27 4 _ rfl
            have hf27_0 : wr.frozen? ⟨go27,(x8_2 : Int).toNat * 5,none⟩ = false:=hfr27 0
            have hf27_1 : wr.frozen? ⟨go27,(x8_2 : Int).toNat * 5 + 1,none⟩ = false:=hfr27 1
            have hf27_2 : wr.frozen? ⟨go27,(x8_2 : Int).toNat * 5 + 2,none⟩ = false:=hfr27 2
            have hf27_3 : wr.frozen? ⟨go27,(x8_2 : Int).toNat * 5 + 3,none⟩ = false:=hfr27 3
            have hf27_4 : wr.frozen? ⟨go27,(x8_2 : Int).toNat * 5 + 4,none⟩ = false:=hfr27 4
            clear hcl27 hcc27 hfr27 hM27
            replace p27:=eq_true p27
            replace q27:=eq_true q27
            have HX35:=a0_ (show Kd.R k43 43 wr w.heap.size (fun _=>True) (.slice (some ⟨go27,0,none⟩) x7000_2.length co34) x7000_2 from (rr_ Z7.out))
            obtain ⟨ce35,hcl35,hM35,hcc35,hfr35⟩:=Kd.R_elem HX35.out z43 (x8_2 : Int) (of_decide_eq_true (by first | (with_reducible assumption) | assumption)) (by have h_ : (x8_2 : Int) < ((x7000_2.length : Int) : Int):=of_decide_eq_true (by first | (with_reducible assumption) | assumption);first | exact h_ | (have e_:=(Kd.R_reads' Z7.out).1;omega) | simpa using h_)
            obtain rfl:=k43_openM hM35
            have HP35:=Kd.R_seg HX35.out (x8_2 : Int) (of_decide_eq_true (by first | (with_reducible assumption) | assumption)) (by have h_ : (x8_2 : Int) < ((x7000_2.length : Int) : Int):=of_decide_eq_true (by first | (with_reducible assumption) | assumption);first | exact h_ | (have e_:=(Kd.R_reads' Z7.out).1;omega) | simpa using h_) (seg:=[.int .i64 (-1)]) (j:=3) hcl35 hcc35 (show 4 ≤ 5 from by decide) (x':=(⟨(rd_T43 x7000_2 x8_2).f0,(rd_T43 x7000_2 x8_2).f1,(rd_T43 x7000_2 x8_2).f2,(-1),(rd_T43 x7000_2 x8_2).f4⟩ : S43)) (k43_mkM _ _ _ (⟨(rd_T43 x7000_2 x8_2).f0,(rd_T43 x7000_2 x8_2).f1,(rd_T43 x7000_2 x8_2).f2,(-1),(rd_T43 x7000_2 x8_2).f4⟩ : S43) ) (fun _ hk=>hk)
            have hx35_3:=hcc35 3 _ rfl
            (try simp only [show (k43).sz = 5 from rfl,Nat.mul_one,Nat.add_zero] at hx35_3)
            have hf35_3:=hfr35 3
            (try simp only [show (k43).sz = 5 from rfl,Nat.mul_one,Nat.add_zero] at hf35_3)
            clear hcl35 hcc35 hfr35 hM35
            go_wp2_with (first | ((with_reducible refine gate_store (t:=3) (p:=45) rfl ?_);refine store_event (t:=3) (p:=45) (v:=?vo_w36) (w1:=(wr.setCell ⟨go27,(x8_2 : Int).toNat * 5 + 3,none⟩ (.int .i64 (-1)))) ?hg ?ho ?hn ?hr ?_;(case ho=>rfl);(case hg=>rfl);(case hn=>rfl);(case hr=>first | (go_simp;done) | (go_simp;rfl));intro w36 hw;have hg : wr.grownBy w36 (some go27):=(by rw [hw];exact HP35.2);have hp_ : Kd.R k43 43 w36 w.heap.size (fun _=>True) (.slice (some ⟨go27,0,none⟩) x7000_2.length co34) y9:=(by rw [hw,Ny9.out];exact HP35.1);clear HP35;have n0_:=a0_ (hp_);have n1_:=a0_ (blk_grown (bb_ BK1.out) hg (Kd.R_ne Z7.out BK1.out (by decide)));have n2_:=a0_ (blk_grown (bb_ BK2.out) hg (Kd.R_ne Z7.out BK2.out (by decide)));have n3_:=a0_ (blk_grown (bb_ BK6.out) hg (Kd.R_ne Z7.out BK6.out (by decide)));have n4_:=a0_ ((by rw [hw];exact below_set (HB.out) GB27.out : Below w.heap.size w w36));clear Z7 BK1;clear BK2 BK6 HB;have Z7:=n0_;have BK1:=n1_;have BK2:=n2_;have BK6:=n3_;have HB:=n4_;clear n0_ n1_ n2_ n3_ n4_;clear hg hw hp_;have hcz37_0 : w36.cell? ⟨gb6,0,none⟩ = some (.slice (some ⟨go27,0,none⟩) x7000_2.length co34):=(blk_cell BK6.out 0).trans rfl;have hfz37_0:=blk_frozen BK6.out 0;have p30 : 0 ≤ (a1 : Int):=of_decide_eq_true (by first | (with_reducible assumption) | assumption);have q30 : (a1 : Int) < ((x7000_2.length : Int) : Int):=of_decide_eq_true (by first | (with_reducible assumption) | assumption);obtain ⟨ce30,hcl30,hM30,hcc30,hfr30⟩:=Kd.R_elem Z7.out z43 (a1 : Int) p30 q30;obtain rfl:=k43_openM hM30;have hx30_0 : w36.cell? ⟨go27,(a1 : Int).toNat * 5,none⟩ = some (.int .i64 ((rd_T43 y9 a1).f0)):=hcc30 0 _ rfl;have hx30_1 : w36.cell? ⟨go27,(a1 : Int).toNat * 5 + 1,none⟩ = some (.int .i64 ((rd_T43 y9 a1).f1)):=hcc30 1 _ rfl;have hx30_2 : w36.cell? ⟨go27,(a1 : Int).toNat * 5 + 2,none⟩ = some (.int .i64 ((rd_T43 y9 a1).f2)):=hcc30 2 _ rfl;have hx30_3 : w36.cell? ⟨go27,(a1 : Int).toNat * 5 + 3,none⟩ = some (.int .i64 ((rd_T43 y9 a1).f3)):=hcc30 3 _ rfl;have hx30_4 : w36.cell? ⟨go27,(a1 : Int).toNat * 5 + 4,none⟩ = some (.bool ((rd_T43 y9 a1).f4)):=hcc30 4 _ rfl;have hf30_0 : w36.frozen? ⟨go27,(a1 : Int).toNat * 5,none⟩ = false:=hfr30 0;have hf30_1 : w36.frozen? ⟨go27,(a1 : Int).toNat * 5 + 1,none⟩ = false:=hfr30 1;have hf30_2 : w36.frozen? ⟨go27,(a1 : Int).toNat * 5 + 2,none⟩ = false:=hfr30 2;have hf30_3 : w36.frozen? ⟨go27,(a1 : Int).toNat * 5 + 3,none⟩ = false:=hfr30 3;have hf30_4 : w36.frozen? ⟨go27,(a1 : Int).toNat * 5 + 4,none⟩ = false:=hfr30 4;clear hcl30 hcc30 hfr30 hM30;replace p30:=eq_true p30;replace q30:=eq_true q30;have HX38:=a0_ (show Kd.R k43 43 w36 w.heap.size (fun _=>True) (.slice (some ⟨go27,0,none⟩) x7000_2.length co34) y9 from (rr_ Z7.out));obtain ⟨ce38,hcl38,hM38,hcc38,hfr38⟩:=Kd.R_elem HX38.out z43 (a1 : Int) (of_decide_eq_true (by first | (with_reducible assumption) | assumption)) (by have h_ : (a1 : Int) < ((x7000_2.length : Int) : Int):=of_decide_eq_true (by first | (with_reducible assumption) | assumption);first | exact h_ | (have e_:=(Kd.R_reads' Z7.out).1;omega) | simpa using h_);obtain rfl:=k43_openM hM38;have HP38:=Kd.R_seg HX38.out (a1 : Int) (of_decide_eq_true (by first | (with_reducible assumption) | assumption)) (by have h_ : (a1 : Int) < ((x7000_2.length : Int) : Int):=of_decide_eq_true (by first | (with_reducible assumption) | assumption);first | exact h_ | (have e_:=(Kd.R_reads' Z7.out).1;omega) | simpa using h_) (seg:=[.int .i64 a2]) (j:=3) hcl38 hcc38 (show 4 ≤ 5 from by decide) (x':=(⟨(rd_T43 y9 a1).f0,(rd_T43 y9 a1).f1,(rd_T43 y9 a1).f2,a2,(rd_T43 y9 a1).f4⟩ : S43)) (k43_mkM _ _ _ (⟨(rd_T43 y9 a1).f0,(rd_T43 y9 a1).f1,(rd_T43 y9 a1).f2,a2,(rd_T43 y9 a1).f4⟩ : S43) ) (fun _ hk=>hk);have hx38_3:=hcc38 3 _ rfl;(try simp only [show (k43).sz = 5 from rfl,Nat.mul_one,Nat.add_zero] at hx38_3);have hf38_3:=hfr38 3;(try simp only [show (k43).sz = 5 from rfl,Nat.mul_one,Nat.add_zero] at hf38_3);clear hcl38 hcc38 hfr38 hM38) | ((with_reducible refine gate_store (t:=3) (p:=51) rfl ?_);refine store_event (t:=3) (p:=51) (v:=?vo_w39) (w1:=(w36.setCell ⟨go27,(a1 : Int).toNat * 5 + 3,none⟩ (.int .i64 a2))) ?hg ?ho ?hn ?hr ?_;(case ho=>rfl);(case hg=>rfl);(case hn=>rfl);(case hr=>first | (go_simp;done) | (go_simp;rfl));intro w39 hw;have hg : w36.grownBy w39 (some go27):=(by rw [hw];exact HP38.2);have hp_ : Kd.R k43 43 w39 w.heap.size (fun _=>True) (.slice (some ⟨go27,0,none⟩) x7000_2.length co34) y10:=(by rw [hw,Ny10.out];exact HP38.1);clear HP38;have n0_:=a0_ (hp_);have n1_:=a0_ (blk_grown (bb_ BK1.out) hg (Kd.R_ne Z7.out BK1.out (by decide)));have n2_:=a0_ (blk_grown (bb_ BK2.out) hg (Kd.R_ne Z7.out BK2.out (by decide)));have n3_:=a0_ (blk_grown (bb_ BK6.out) hg (Kd.R_ne Z7.out BK6.out (by decide)));have n4_:=a0_ ((by rw [hw];exact below_set (HB.out) GB27.out : Below w.heap.size w w39));clear Z7 BK1;clear BK2 BK6 HB;have Z7:=n0_;have BK1:=n1_;have BK2:=n2_;have BK6:=n3_;have HB:=n4_;clear n0_ n1_ n2_ n3_ n4_;clear hg hw hp_;have hcz40_0 : w39.cell? ⟨gb6,0,none⟩ = some (.slice (some ⟨go27,0,none⟩) x7000_2.length co34):=(blk_cell BK6.out 0).trans rfl;have hfz40_0:=blk_frozen BK6.out 0;have hnb41:=NB2_1.out;have hnc41:=NB1_2.out;have hcz42_0 : w39.cell? ⟨gb2,0,none⟩ = some (.slice none 0 0):=(blk_cell BK2.out 0).trans rfl;have hfz42_0:=blk_frozen BK2.out 0))
            refine bodyPost_ret (results_cell_row rfl _ _ gb2 28 #[.slice (some ⟨go27,0,none⟩) x7000_2.length co34] (0,0) _ rfl (by (with_reducible repeat (first | refine blk_drewN ?_ _ | refine blk_drew ?_ | refine blk_alloc ?_ _));refine blk_put (cs:=#[.slice none 0 0]) ?_ 0 _ rfl;(with_reducible repeat (first | refine blk_drewN ?_ _ | refine blk_drew ?_ | refine blk_alloc ?_ _));exact BK2.out) Try.underlying28 rfl (by kernel_rfl)) rfl ?_
            exact ⟨_,by first | rfl | (simp [errW_none,errW_some] <;> rfl) | (simp [*,errW_none,errW_some] <;> rfl),by (with_reducible repeat (first | apply Kd.R_alloc | apply Kd.R_drewN | apply Kd.R_drew));exact Kd.R_mono (Kd.R_far (p:=⟨gb2,0,none⟩) (Kd.R_types Z7.out BK2.out (by decide)) (fun _ hk=>hk.2) (.slice (some ⟨go27,0,none⟩) x7000_2.length co34)) (fun _ hk=>trivial),hbw_⟩
           ·rw [if_neg c29] at H
            exact absurd H (by simp)
          ·rw [if_neg c28] at H
           exact absurd H (by simp)
         ·rw [if_neg c26] at H
          have c26b0 : (((rd_T43 x7000_2 x8_2).f3) == a1) = false:=beq_eq_false_iff_ne.mpr c26
          have c26b1 : (((rd_T43 x7000_2 x8_2).f3) != a1) = true:=bne_iff_ne.mpr c26
          have H':=a0_ H
          clear H
          have hnb43:=NB6_1.out
          have hnc43:=NB1_6.out
          have hnb44:=NB6_2.out
          have hnc44:=NB2_6.out
          have hcz45_0 : wr.cell? ⟨gb6,0,none⟩ = some (u7000):=(blk_cell BK6.out 0).trans rfl
          have hfz45_0:=blk_frozen BK6.out 0
          obtain ⟨Ao46,co46,eo46⟩:=Kd.R_slice Z7.out
          subst eo46
          have p7 : 0 ≤ (x8_2 : Int):=of_decide_eq_true (by first | (with_reducible assumption) | assumption)
          have q7 : x8_2 < (x7000_2.length : Int):=of_decide_eq_true (by first | (with_reducible assumption) | assumption)
          obtain ⟨ad7,e7,hx7_0,hx7_1,hx7_2,hx7_3,hx7_4⟩:=at_T43 (Kd.R_reads' Z7.out).2.2 x8_2 p7 q7
          cases e7
          replace p7:=eq_true p7
          replace q7:=eq_true q7
          have p8 : 0 ≤ (x8_2 : Int):=of_decide_eq_true (by first | (with_reducible assumption) | assumption)
          have q8 : x8_2 < (x7000_2.length : Int):=of_decide_eq_true (by first | (with_reducible assumption) | assumption)
          obtain ⟨ad8,e8,hx8_0,hx8_1,hx8_2,hx8_3,hx8_4⟩:=at_T43 (Kd.R_reads' Z7.out).2.2 x8_2 p8 q8
          obtain rfl : ad7 = ad8:=(by injection e8)
          replace p8:=eq_true p8
          replace q8:=eq_true q8
          have p11 : 0 ≤ (x8_2 : Int):=of_decide_eq_true (by first | (with_reducible assumption) | assumption)
          have q11 : x8_2 < (x7000_2.length : Int):=of_decide_eq_true (by first | (with_reducible assumption) | assumption)
          obtain ⟨ad11,e11,hx11_0,hx11_1,hx11_2,hx11_3,hx11_4⟩:=at_T43 (Kd.R_reads' Z7.out).2.2 x8_2 p11 q11
          obtain rfl : ad7 = ad11:=(by injection e11)
          replace p11:=eq_true p11
          replace q11:=eq_true q11
          go_wp2
          go_roundg k2
          case measure=>have:=HJ4.out;have:=HK2.out;omega
          case rel=>exact ⟨((rd_T43 x7000_2 x8_2).f3),(x7000_2),(.slice (some ad7) x7000_2.length co46),(by first | rfl | (simp;done) | (simp [*];done)),H',⟨by have:=HJ4.out;have:=HK2.out;omega⟩,⟨by (with_reducible repeat (first | apply Kd.R_alloc | apply Kd.R_drewN | apply Kd.R_drew));exact Z7.out⟩,⟨by (with_reducible repeat (first | refine blk_drewN ?_ _ | refine blk_drew ?_ | refine blk_alloc ?_ _));exact BK1.out⟩,⟨by (with_reducible repeat (first | refine blk_drewN ?_ _ | refine blk_drew ?_ | refine blk_alloc ?_ _));exact BK2.out⟩,⟨by (with_reducible repeat (first | refine blk_drewN ?_ _ | refine blk_drew ?_ | refine blk_alloc ?_ _));exact BK6.out⟩,⟨hbw_⟩⟩
        ·rw [if_neg c25] at H
         have c25b0 : decide (0 ≤ ((rd_T43 x7000_2 x8_2).f3)) = false:=decide_eq_false c25
         clear c25
         by_cases c47 : 0 ≤ a1
         ·rw [if_pos c47] at H
          have c47b0 : decide (0 ≤ a1) = true:=decide_eq_true c47
          clear c47
          by_cases c48 : a1 < (x7000_2.length : Int)
          ·rw [if_pos c48] at H
           have c48b0 : decide (a1 < (x7000_2.length : Int)) = true:=decide_eq_true c48
           clear c48
           obtain ⟨y12,hy12⟩ : ∃ y_ : List (S43),y_ = (x7000_2.set (a1 : Int).toNat (⟨(rd_T43 x7000_2 a1).f0,(rd_T43 x7000_2 a1).f1,(rd_T43 x7000_2 a1).f2,a2,(rd_T43 x7000_2 a1).f4⟩ : S43)):=⟨_,rfl⟩
           replace H : (some y12) = some r:=by first | (rw [hy12];with_reducible exact H) | (have H2_:=(Option.bind_some _ _).symm.trans H;rw [hy12];with_reducible exact H2_) | (have H2_:=(Option.bind_some _ _).symm.trans H;with_reducible exact H2_) | with_reducible exact H | (rw [hy12];exact H) | exact H
           have Ny12:=a0_ hy12
           clear hy12
           obtain rfl:=Option.some.inj H
           have hnb50:=NB6_1.out
           have hnc50:=NB1_6.out
           have hnb51:=NB6_2.out
           have hnc51:=NB2_6.out
           have hcz52_0 : wr.cell? ⟨gb6,0,none⟩ = some (u7000):=(blk_cell BK6.out 0).trans rfl
           have hfz52_0:=blk_frozen BK6.out 0
           obtain ⟨Ao53,co53,eo53⟩:=Kd.R_slice Z7.out
           subst eo53
           have p7 : 0 ≤ (x8_2 : Int):=of_decide_eq_true (by first | (with_reducible assumption) | assumption)
           have q7 : x8_2 < (x7000_2.length : Int):=of_decide_eq_true (by first | (with_reducible assumption) | assumption)
           obtain ⟨ad7,e7,hx7_0,hx7_1,hx7_2,hx7_3,hx7_4⟩:=at_T43 (Kd.R_reads' Z7.out).2.2 x8_2 p7 q7
           cases e7
           replace p7:=eq_true p7
           replace q7:=eq_true q7
           have p49 : 0 ≤ (a1 : Int):=of_decide_eq_true (by first | (with_reducible assumption) | assumption)
           have q49 : (a1 : Int) < ((x7000_2.length : Int) : Int):=of_decide_eq_true (by first | (with_reducible assumption) | assumption)
           obtain ⟨go49,co49,eo49,gb49,gl49,cl49,HG49⟩:=Kd.R_form Z7.out (by omega)
           (first | cases eo49 | (injection eo49 with ea_ en_ ec_;(first | subst ea_ | (injection ea_ with ea_;subst ea_));subst ec_;clear en_))
           have GB49:=a0_ gb49
           have GG49:=a0_ HG49
           clear gb49 gl49 HG49
           (first | simp only [add_plain] at hx7_0 | skip)
           (first | simp only [add_plain] at hx7_1 | skip)
           (first | simp only [add_plain] at hx7_2 | skip)
           (first | simp only [add_plain] at hx7_3 | skip)
           (first | simp only [add_plain] at hx7_4 | skip)
           (first | simp only [add_plain] at hx8_0 | skip)
           (first | simp only [add_plain] at hx8_1 | skip)
           (first | simp only [add_plain] at hx8_2 | skip)
           (first | simp only [add_plain] at hx8_3 | skip)
           (first | simp only [add_plain] at hx8_4 | skip)
           (first | simp only [add_plain] at hx11_0 | skip)
           (first | simp only [add_plain] at hx11_1 | skip)
           (first | simp only [add_plain] at hx11_2 | skip)
           (first | simp only [add_plain] at hx11_3 | skip)
           (first | simp only [add_plain] at hx11_4 | skip)
           obtain ⟨ce49,hcl49,hM49,hcc49,hfr49⟩:=Kd.R_elem Z7.out z43 (a1 : Int) p49 q49
           obtain rfl:=k43_openM hM49
           have hx49_0 : wr.cell? ⟨go49,(a1 : Int).toNat * 5,none⟩ = some (.int .i64 ((rd_T43 x7000_2 a1).f0)):=hcc49 0 _ rfl
           have hx49_1 : wr.cell? ⟨go49,(a1 : Int).toNat * 5 + 1,none⟩ = some (.int .i64 ((rd_T43 x7000_2 a1).f1)):=hcc49 1 _ rfl
           have hx49_2 : wr.cell? ⟨go49,(a1 : Int).toNat * 5 + 2,none⟩ = some (.int .i64 ((rd_T43 x7000_2 a1).f2)):=hcc49 2 _ rfl
           have hx49_3 : wr.cell? ⟨go49,(a1 : Int).toNat * 5 + 3,none⟩ = some (.int .i64 ((rd_T43 x7000_2 a1).f3)):=hcc49 3 _ rfl
           have hx49_4 : wr.cell? ⟨go49,(a1 : Int).toNat * 5 + 4,none⟩ = some (.bool ((rd_T43 x7000_2 a1).f4)):=hcc49 4 _ rfl
           have hf49_0 : wr.frozen? ⟨go49,(a1 : Int).toNat * 5,none⟩ = false:=hfr49 0
           have hf49_1 : wr.frozen? ⟨go49,(a1 : Int).toNat * 5 + 1,none⟩ = false:=hfr49 1
           have hf49_2 : wr.frozen? ⟨go49,(a1 : Int).toNat * 5 + 2,none⟩ = false:=hfr49 2
           have hf49_3 : wr.frozen? ⟨go49,(a1 : Int).toNat * 5 + 3,none⟩ = false:=hfr49 3
           have hf49_4 : wr.frozen? ⟨go49,(a1 : Int).toNat * 5 + 4,none⟩ = false:=hfr49 4
           clear hcl49 hcc49 hfr49 hM49
           replace p49:=eq_true p49
           replace q49:=eq_true q49
           have HX54:=a0_ (show Kd.R k43 43 wr w.heap.size (fun _=>True) (.slice (some ⟨go49,0,none⟩) x7000_2.length co53) x7000_2 from (rr_ Z7.out))
           obtain ⟨ce54,hcl54,hM54,hcc54,hfr54⟩:=Kd.R_elem HX54.out z43 (a1 : Int) (of_decide_eq_true (by first | (with_reducible assumption) | assumption)) (by have h_ : (a1 : Int) < ((x7000_2.length : Int) : Int):=of_decide_eq_true (by first | (with_reducible assumption) | assumption);first | exact h_ | (have e_:=(Kd.R_reads' Z7.out).1;omega) | simpa using h_)
           obtain rfl:=k43_openM hM54
           have HP54:=Kd.R_seg HX54.out (a1 : Int) (of_decide_eq_true (by first | (with_reducible assumption) | assumption)) (by have h_ : (a1 : Int) < ((x7000_2.length : Int) : Int):=of_decide_eq_true (by first | (with_reducible assumption) | assumption);first | exact h_ | (have e_:=(Kd.R_reads' Z7.out).1;omega) | simpa using h_) (seg:=[.int .i64 a2]) (j:=3) hcl54 hcc54 (show 4 ≤ 5 from by decide) (x':=(⟨(rd_T43 x7000_2 a1).f0,(rd_T43 x7000_2 a1).f1,(rd_T43 x7000_2 a1).f2,a2,(rd_T43 x7000_2 a1).f4⟩ : S43)) (k43_mkM _ _ _ (⟨(rd_T43 x7000_2 a1).f0,(rd_T43 x7000_2 a1).f1,(rd_T43 x7000_2 a1).f2,a2,(rd_T43 x7000_2 a1).f4⟩ : S43) ) (fun _ hk=>hk)
           have hx54_3:=hcc54 3 _ rfl
           (try simp only [show (k43).sz = 5 from rfl,Nat.mul_one,Nat.add_zero] at hx54_3)
           have hf54_3:=hfr54 3
           (try simp only [show (k43).sz = 5 from rfl,Nat.mul_one,Nat.add_zero] at hf54_3)
           clear hcl54 hcc54 hfr54 hM54
           go_wp2_with (first | ((with_reducible refine gate_store (t:=3) (p:=51) rfl ?_);refine store_event (t:=3) (p:=51) (v:=?vo_w55) (w1:=(wr.setCell ⟨go49,(a1 : Int).toNat * 5 + 3,none⟩ (.int .i64 a2))) ?hg ?ho ?hn ?hr ?_;(case ho=>rfl);(case hg=>rfl);(case hn=>rfl);(case hr=>first | (go_simp;done) | (go_simp;rfl));intro w55 hw;have hg : wr.grownBy w55 (some go49):=(by rw [hw];exact HP54.2);have hp_ : Kd.R k43 43 w55 w.heap.size (fun _=>True) (.slice (some ⟨go49,0,none⟩) x7000_2.length co53) y12:=(by rw [hw,Ny12.out];exact HP54.1);clear HP54;have n0_:=a0_ (hp_);have n1_:=a0_ (blk_grown (bb_ BK1.out) hg (Kd.R_ne Z7.out BK1.out (by decide)));have n2_:=a0_ (blk_grown (bb_ BK2.out) hg (Kd.R_ne Z7.out BK2.out (by decide)));have n3_:=a0_ (blk_grown (bb_ BK6.out) hg (Kd.R_ne Z7.out BK6.out (by decide)));have n4_:=a0_ ((by rw [hw];exact below_set (HB.out) GB49.out : Below w.heap.size w w55));clear Z7 BK1;clear BK2 BK6 HB;have Z7:=n0_;have BK1:=n1_;have BK2:=n2_;have BK6:=n3_;have HB:=n4_;clear n0_ n1_ n2_ n3_ n4_;clear hg hw hp_;have hcz56_0 : w55.cell? ⟨gb6,0,none⟩ = some (.slice (some ⟨go49,0,none⟩) x7000_2.length co53):=(blk_cell BK6.out 0).trans rfl;have hfz56_0:=blk_frozen BK6.out 0;have hnb57:=NB2_1.out;have hnc57:=NB1_2.out;have hcz58_0 : w55.cell? ⟨gb2,0,none⟩ = some (.slice none 0 0):=(blk_cell BK2.out 0).trans rfl;have hfz58_0:=blk_frozen BK2.out 0))
           refine bodyPost_ret (results_cell_row rfl _ _ gb2 28 #[.slice (some ⟨go49,0,none⟩) x7000_2.length co53] (0,0) _ rfl (by (with_reducible repeat (first | refine blk_drewN ?_ _ | refine blk_drew ?_ | refine blk_alloc ?_ _));refine blk_put (cs:=#[.slice none 0 0]) ?_ 0 _ rfl;(with_reducible repeat (first | refine blk_drewN ?_ _ | refine blk_drew ?_ | refine blk_alloc ?_ _));exact BK2.out) Try.underlying28 rfl (by kernel_rfl)) rfl ?_
           exact ⟨_,by first | rfl | (simp [errW_none,errW_some] <;> rfl) | (simp [*,errW_none,errW_some] <;> rfl),by (with_reducible repeat (first | apply Kd.R_alloc | apply Kd.R_drewN | apply Kd.R_drew));exact Kd.R_mono (Kd.R_far (p:=⟨gb2,0,none⟩) (Kd.R_types Z7.out BK2.out (by decide)) (fun _ hk=>hk.2) (.slice (some ⟨go49,0,none⟩) x7000_2.length co53)) (fun _ hk=>trivial),hbw_⟩
          ·rw [if_neg c48] at H
           exact absurd H (by simp)
         ·rw [if_neg c47] at H
          exact absurd H (by simp)
       ·rw [if_neg c24] at H
        exact absurd H (by simp)
      ·rw [if_neg c23] at H
       exact absurd H (by simp)
theorem spec_raised_l0 (h : List Fau) (f g : Int) (h0 : 0 ≤ f) (h1 : f < (h.length : Int)) (hc : ∀ x : Int,0 ≤ x → x < (h.length : Int) → ctxN h x < (h.length : Int)) : ∀ (d : Nat) (out : List Int) (x : Int),0 ≤ x → x < (h.length : Int) → out.contains x = false → restN h.length out ≤ d → ctxN h (lastI (chainL (ctxN h) d out x)) < 0 → Ev (fun k=>spec_raised.l0 k f g x h) (setC (cutF f (chainL (ctxN h) d out x) h) f g):=by
 intro d
 induction d with
 | zero =>
  intro out x g0 g1 hn hr _
  rw [restN_zero (n:=h.length) (out:=out) g0 g1 (by omega)] at hn
  cases hn
 | succ d ih =>
  intro out x g0 g1 hn hr hl
  have hch : chainL (ctxN h) (d + 1) out x = x :: chainL (ctxN h) d (out ++ [x]) (ctxN h x):=by rw [chainL,if_pos ⟨g0,hn⟩]
  rw [hch] at hl ⊢
  have hrd : ∀ (l : List Fau) (u : Int),rd_T43 l u = fauAt l u:=fun l u=>by simp [rd_T43,fauAt]
  have hcx : (fauAt h x).f3 = ctxN h x:=rfl
  refine Ev.succ ?_
  simp only [spec_raised.l0,hrd,hcx]
  refine Ev.pos g0 (Ev.pos g1 ?_)
  rw [cutF]
  by_cases hge : ctxN h x ≥ 0
  ·refine Ev.pos hge ?_
   by_cases he : ctxN h x = f
   ·refine Ev.pos he (Ev.bind (Ev.const rfl) (Ev.pos h0 (Ev.pos h1 (Ev.const ?_))))
    rw [if_pos he]
    rfl
   ·refine Ev.neg he ?_
    rw [if_neg he]
    have hno : (out ++ [x]).contains (ctxN h x) = false:=by
     cases hq : (out ++ [x]).contains (ctxN h x) with
     | false=>rfl
     | true =>
      have hnil : chainL (ctxN h) d (out ++ [x]) (ctxN h x) = []:=by
       cases d with
       | zero=>rfl
       | succ d=>rw [chainL,if_neg (by rw [hq];simp)]
      rw [hnil] at hl
      have e : lastI [x] = x:=by simp [lastI]
      rw [e] at hl
      omega
    have hlt:=restN_lt g0 g1 hn
    refine ih (out ++ [x]) (ctxN h x) hge (hc x g0 g1) hno (by omega) ?_
    cases hr2 : chainL (ctxN h) d (out ++ [x]) (ctxN h x) with
    | nil =>
     rw [hr2] at hl
     have e : lastI [x] = x:=by simp [lastI]
     rw [e] at hl
     omega
    | cons z r =>
     rw [hr2,lastI_cons] at hl
     exact hl
  ·have hnil : chainL (ctxN h) d (out ++ [x]) (ctxN h x) = []:=by
    cases d with
    | zero=>rfl
    | succ d=>rw [chainL,if_neg (fun hh=>hge hh.1)]
   refine Ev.neg hge (Ev.pos h0 (Ev.pos h1 (Ev.const ?_)))
   rw [if_neg (by omega),hnil,cutF]
   rfl
theorem spec_raised_ev (t : List Cls) (h : List Fau) (f g : Int) (hv : vH t h = true) (h0 : 0 ≤ f) (h1 : f < (h.length : Int)) (g0 : 0 ≤ g) (g1 : g < (h.length : Int)) : Ev (fun k=>spec_raised.f k h f g) (whlP h f g):=by
 obtain ⟨hfs,hes,_,hl⟩:=vH_parts hv
 refine Ev.bind (Ev.const (spec_copyHeap_ev h (by omega))) ?_
 unfold whlP
 by_cases he : f = g
 ·rw [if_pos he]
  refine Ev.pos he (Ev.succ ?_)
  simp only [spec_raised.j0]
  exact Ev.pos trivial (Ev.const rfl)
 ·rw [if_neg he]
  refine Ev.neg he (Ev.succ ?_)
  simp only [spec_raised.j0]
  refine Ev.neg (by simp;omega) ?_
  have hctx : ∀ x : Int,0 ≤ x → x < (h.length : Int) → ctxN h x < (h.length : Int):=fun x a b=>(fsH_ctx hfs x a b).2
  have hend : ctxN h (lastI (ctxL h g)) < 0:=by
   have:=all_at hes g.toNat (by omega)
   unfold endB at this
   rw [show ((g.toNat : Nat) : Int) = g by omega] at this
   exact of_decide_eq_true this
  have hcl : ctxL h g = chainL (ctxN h) h.length [] g:=by
   unfold ctxL
   rw [walkL_chain]
   rfl
  have hself : ctxN h f ≠ f:=by
   have:=all_at hfs f.toNat (by omega)
   unfold okF lnkB at this
   simp only [Bool.and_eq_true,Bool.or_eq_true,beq_iff_eq,bne_iff_ne] at this
   have h2:=this.2.2.2
   unfold ctxN
   rcases h2 with h2 | h2
   ·rw [h2];omega
   ·have:=h2.2;omega
  rw [hcl] at hend ⊢
  rw [cut_one h f h0 hself h.length [] g (fun _=>hend)]
  exact spec_raised_l0 h f g h0 h1 hctx h.length [] g g0 g1 (by simp) (restN_le _ _) hend
end Go.Proofs.Ytmiholmfbjalfaa.P
