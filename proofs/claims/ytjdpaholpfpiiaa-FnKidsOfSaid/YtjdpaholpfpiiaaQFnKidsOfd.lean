/- Texts under the proof of FnKidsOf: helper words, the functions' contracts and the plain laws. No condition. -/
import Derived.Test.YtjdpaholpfpiiaaQFnKidsOfa
import Derived.Test.YtjdpaholpfpiiaaQFnKidsOfb
import Derived.Test.YtjdpaholpfpiiaaQFnKidsOfc
namespace Go.Proofs.Ytjdpaholpfpiiaa.P
open Go.RowKit Go.Proofs.YtjdpaholpfpiiaaW.PrintWords Go.Proofs.YtjdpaholpfpiiaaW.PrintLast Go.Proofs.YtjdpaholpfpiiaaW.PrintMore
attribute [local go_sem] max2_int min2_int max_two min_two max_three min_three max_four min_four
set_option linter.unusedVariables false
set_option linter.unusedSimpArgs false
def spec_deeper.l0 : Nat → Int → List (S35) → Int → Option ((List (S35)))
 | 0,_,_,_=>none
 | k + 1,x1,x5,x6=>if x6 < (x5.length : Int) then (if 0 ≤ x6 then (spec_deeper.l0 k x1 (x5.set (x6 : Int).toNat (⟨wrap64 (((rd_T35 x5 x6).f0) + x1),(rd_T35 x5 x6).f1,(rd_T35 x5 x6).f2,(rd_T35 x5 x6).f3⟩ : S35)) (wrap64 (x6 + 1))) else (none)) else (some x5)
def spec_deeper.f (k : Nat) (l0 : List (S35)) (a1 : Int) : Option ((List (S35))):=(some (([] : List (S35)) : List (S35))).bind fun y1=>(if y1.length + l0.length < 4398046511104 then (spec_deeper.l0 k a1 (y1 ++ l0) 0) else (none))
theorem spec_deeper.mono_l : ∀ k,(∀ y0 y1 y2,LeO (spec_deeper.l0 k y0 y1 y2) (spec_deeper.l0 (k + 1) y0 y1 y2))
 | 0=>fun _ _ _ r h=>by simp [spec_deeper.l0] at h
 | k + 1=>by
  have ih0:=spec_deeper.mono_l k
  ·intro y0 y1 y2
   unfold spec_deeper.l0
   repeat' first
   | (with_reducible exact ih0 _ _ _)
   | (with_reducible exact LeO.refl _)
   | (with_reducible exact LeO.none _)
   | (with_reducible refine LeO.ite ?_ ?_)
   | (with_reducible refine LeO.bind ?_ (fun _=>?_))
   | exact ih0 _ _ _
   | exact LeO.none _
   | refine LeO.ite ?_ ?_
   | refine LeO.bind ?_ (fun _=>?_)
theorem spec_deeper.mono : ∀ a0 a1 k,LeO (spec_deeper.f k a0 a1) (spec_deeper.f (k + 1) a0 a1):=by
 intro a0 a1 k
 have ih0:=spec_deeper.mono_l k
 unfold spec_deeper.f
 repeat' first
   | (with_reducible exact ih0 _ _ _)
   | (with_reducible exact LeO.refl _)
   | (with_reducible exact LeO.none _)
   | (with_reducible refine LeO.ite ?_ ?_)
   | (with_reducible refine LeO.bind ?_ (fun _=>?_))
   | exact ih0 _ _ _
   | exact LeO.none _
   | refine LeO.ite ?_ ?_
   | refine LeO.bind ?_ (fun _=>?_)
set_option maxHeartbeats 8000000 in
set_option maxRecDepth 100000 in
theorem spec_deeper.calls (k : Nat) (A0 : Option Addr) (c0 : Nat) (l0 : List (S35)) (a1 : Int) (r : List (S35)) (w : World) (hr0 : Kd.C k35 w A0 l0.length l0) (hc0 : l0.length ≤ c0) (h : spec_deeper.f k l0 a1 = some r) :
  Calls Try.prog 29 #[.slice A0 l0.length c0,.int .i64 a1] w fun e w'=>∃ v0_ : Value,e = .returned (v0_) ∧ Kd.R k35 35 w' w.heap.size (fun _=>True) v0_ r ∧ Below w.heap.size w w':=by
 have HR0:=a0_ hr0
 have HC0:=a0_ hc0
 clear hr0 hc0
 have HB:=a0_ (Below.refl w.heap.size w)
 have H : ((some (([] : List (S35)) : List (S35))).bind fun y1=>(if y1.length + l0.length < 4398046511104 then (spec_deeper.l0 k a1 (y1 ++ l0) 0) else (none))) = some r:=h
 clear h
 obtain ⟨y1,hy1⟩ : ∃ y_ : List (S35),y_ = (([] : List (S35))):=⟨_,rfl⟩
 replace H : (if y1.length + l0.length < 4398046511104 then (spec_deeper.l0 k a1 (y1 ++ l0) 0) else (none)) = some r:=by first | (rw [hy1];with_reducible exact H) | (have H2_:=(Option.bind_some _ _).symm.trans H;rw [hy1];with_reducible exact H2_) | (have H2_:=(Option.bind_some _ _).symm.trans H;with_reducible exact H2_) | with_reducible exact H | (rw [hy1];exact H) | exact H
 have Ny1:=a0_ hy1
 clear hy1
 by_cases c3 : y1.length + l0.length < 4398046511104
 ·rw [if_pos c3] at H
  have LMc3:=a0_ c3
  clear c3
  obtain ⟨y4,hy4⟩ : ∃ y_ : List (S35),y_ = (y1 ++ l0):=⟨_,rfl⟩
  replace H : (spec_deeper.l0 k a1 y4 0) = some r:=by first | (rw [hy4];with_reducible exact H) | (have H2_:=(Option.bind_some _ _).symm.trans H;rw [hy4];with_reducible exact H2_) | (have H2_:=(Option.bind_some _ _).symm.trans H;with_reducible exact H2_) | with_reducible exact H | (rw [hy4];exact H) | exact H
  have Ny4:=a0_ hy4
  clear hy4
  have H':=a0_ H
  clear H
  go_enter Try.func29,Try.ntmps29
  go_wp2_with (first | ((with_reducible refine gate_dst (N:=7) rfl ?_);refine Kd.R_lit k35 _ 35 ?hg (N:=7) ?hd (xs:=([] : List (S35))) (inner:=[]) (ok:=fun _=>True) (okp:=fun _=>True) ?hr ?hp (fun _ hk=>hk) trivial (Below.refl _ _) (Nat.le_refl _) (by simp) ?_;(case hd=>rfl);(case hg=>rfl);(case hr=>first | (go_simp;done) | (go_simp;rfl));(case hp=>exact (Reps.none _ _));intro v2 w4 ho5 hb hg_ hnew_;clear hg_ hnew_;(first | rw [← Ny1.out] at ho5 | (simp only [Int.reduceToNat] at ho5;rw [← Ny1.out] at ho5));have HO3:=a0_ (Kd.R_lower ho5 (below_size hb_));replace HB:=a0_ (below_step hb_ hb);clear hb ho5) | ((with_reducible refine gate_builtin (b:=.append) (xs:=#[.tmp 7,.tmp 8]) rfl ?_);at_builtin;refine Kd.R_append_rows k35 (w0:=w) w.heap.size rfl (.tmp 7) (.tmp 8) 26 35 (.agg #[(.int .i64 0),(.bool false),(.int .i64 0),(.int .i64 0)]) 32 rfl Try.underlying26 info35 rfl (by decide) (by omega) v2 y1 l0 _ _ _ (fun _=>True) (fun _=>False) rfl rfl ?aO ?aR (fun _ _ h=>h) (fun _ h=>h.elim) ?aF ?aB ?aS ?aL ?_;(case aR=>exact cc_ (Kd.C_below HR0.out HB.out));(case aB=>exact hb_);(case aF=>exact (fun _ _=>trivial));(case aO=>exact (rr_ HO3.out));(case aS=>exact (below_size hb_));(case aL=>have:=LMc3.out;omega);intro v5 w6 ho hb hg hat;rw [← Ny4.out] at ho;have HO6:=a0_ (ho);replace HB:=a0_ (hb);clear HO3;clear ho hb hg hat))
  go_loopg [6] k (fun kq v6 w'=>∃ (x5_1 : List (S35)) (x6_1 : Int),v6 = .int .i64 x6_1 ∧ Aside0 (spec_deeper.l0 kq a1 x5_1 x6_1 = some r) ∧ Aside0 (kq ≤ k) ∧ Aside0 (Kd.R k35 35 w' w.heap.size (fun _=>True) v5 x5_1) ∧ Aside0 (Below w.heap.size w w'))
  case atStart=>exact ⟨(y4),(0),(by first | rfl | (simp;done) | (simp [*];done)),H',⟨Nat.le_refl _⟩,⟨by (with_reducible repeat (first | apply Kd.R_alloc | apply Kd.R_drewN | apply Kd.R_drew));exact HO6.out⟩,⟨hb_⟩⟩
  case round =>
   clear H'
   try clear c2
   try clear p2
   try clear c3
   obtain ⟨x5_1,x6_1,rfl,HA,HK1,HO_5,HB⟩:=hrel
   cases gk with
   | zero=>exact absurd HA.out (by simp [spec_deeper.l0])
   | succ k1 =>
    have H:=HA.out
    clear HA
    simp only [spec_deeper.l0] at H
    by_cases c7 : x6_1 < (x5_1.length : Int)
    ·rw [if_pos c7] at H
     have c7b0 : decide (x6_1 < (x5_1.length : Int)) = true:=decide_eq_true c7
     clear c7
     by_cases c8 : 0 ≤ x6_1
     ·rw [if_pos c8] at H
      have c8b0 : decide (0 ≤ x6_1) = true:=decide_eq_true c8
      clear c8
      obtain ⟨y8,hy8⟩ : ∃ y_ : List (S35),y_ = (x5_1.set (x6_1 : Int).toNat (⟨wrap64 (((rd_T35 x5_1 x6_1).f0) + a1),(rd_T35 x5_1 x6_1).f1,(rd_T35 x5_1 x6_1).f2,(rd_T35 x5_1 x6_1).f3⟩ : S35)):=⟨_,rfl⟩
      replace H : (spec_deeper.l0 k1 a1 y8 (wrap64 (x6_1 + 1))) = some r:=by first | (rw [hy8];with_reducible exact H) | (have H2_:=(Option.bind_some _ _).symm.trans H;rw [hy8];with_reducible exact H2_) | (have H2_:=(Option.bind_some _ _).symm.trans H;with_reducible exact H2_) | with_reducible exact H | (rw [hy8];exact H) | exact H
      have Ny8:=a0_ hy8
      clear hy8
      have H':=a0_ H
      clear H
      obtain ⟨Ao10,co10,eo10⟩:=Kd.R_slice HO_5.out
      subst eo10
      have p7 : 0 ≤ (x6_1 : Int):=of_decide_eq_true (by first | (with_reducible assumption) | assumption)
      have q7 : x6_1 < (x5_1.length : Int):=of_decide_eq_true (by first | (with_reducible assumption) | assumption)
      obtain ⟨ad7,e7,hx7_0,hx7_1,hx7_2,hx7_3⟩:=at_T35 (Kd.R_reads' HO_5.out).2.2 x6_1 p7 q7
      cases e7
      replace p7:=eq_true p7
      replace q7:=eq_true q7
      have p9 : 0 ≤ (x6_1 : Int):=of_decide_eq_true (by first | (with_reducible assumption) | assumption)
      have q9 : (x6_1 : Int) < ((x5_1.length : Int) : Int):=of_decide_eq_true (by first | (with_reducible assumption) | assumption)
      obtain ⟨go9,co9,eo9,gb9,gl9,cl9,HG9⟩:=Kd.R_form HO_5.out (by omega)
      (first | cases eo9 | (injection eo9 with ea_ en_ ec_;(first | subst ea_ | (injection ea_ with ea_;subst ea_));subst ec_;clear en_))
      have GB9:=a0_ gb9
      have GG9:=a0_ HG9
      clear gb9 gl9 HG9
      (first | simp only [add_plain] at hx7_0 | skip)
      (first | simp only [add_plain] at hx7_1 | skip)
      (first | simp only [add_plain] at hx7_2 | skip)
      (first | simp only [add_plain] at hx7_3 | skip)
      obtain ⟨ce9,hcl9,hM9,hcc9,hfr9⟩:=Kd.R_elem HO_5.out z35 (x6_1 : Int) p9 q9
      obtain rfl:=k35_openM hM9
      have hx9_0 : wr.cell? ⟨go9,(x6_1 : Int).toNat * 4,none⟩ = some (.int .i64 ((rd_T35 x5_1 x6_1).f0)):=hcc9 0 _ rfl
      have hx9_1 : wr.cell? ⟨go9,(x6_1 : Int).toNat * 4 + 1,none⟩ = some (.bool ((rd_T35 x5_1 x6_1).f1)):=hcc9 1 _ rfl
      have hx9_2 : wr.cell? ⟨go9,(x6_1 : Int).toNat * 4 + 2,none⟩ = some (.int .i64 ((rd_T35 x5_1 x6_1).f2)):=hcc9 2 _ rfl
      have hx9_3 : wr.cell? ⟨go9,(x6_1 : Int).toNat * 4 + 3,none⟩ = some (.int .i64 ((rd_T35 x5_1 x6_1).f3)):=hcc9 3 _ rfl
      have hf9_0 : wr.frozen? ⟨go9,(x6_1 : Int).toNat * 4,none⟩ = false:=hfr9 0
      have hf9_1 : wr.frozen? ⟨go9,(x6_1 : Int).toNat * 4 + 1,none⟩ = false:=hfr9 1
      have hf9_2 : wr.frozen? ⟨go9,(x6_1 : Int).toNat * 4 + 2,none⟩ = false:=hfr9 2
      have hf9_3 : wr.frozen? ⟨go9,(x6_1 : Int).toNat * 4 + 3,none⟩ = false:=hfr9 3
      clear hcl9 hcc9 hfr9 hM9
      replace p9:=eq_true p9
      replace q9:=eq_true q9
      have HX11:=a0_ (show Kd.R k35 35 wr w.heap.size (fun _=>True) (.slice (some ⟨go9,0,none⟩) x5_1.length co10) x5_1 from (rr_ HO_5.out))
      obtain ⟨ce11,hcl11,hM11,hcc11,hfr11⟩:=Kd.R_elem HX11.out z35 (x6_1 : Int) (of_decide_eq_true (by first | (with_reducible assumption) | assumption)) (by have h_ : (x6_1 : Int) < ((x5_1.length : Int) : Int):=of_decide_eq_true (by first | (with_reducible assumption) | assumption);first | exact h_ | (have e_:=(Kd.R_reads' HO_5.out).1;omega) | simpa using h_)
      obtain rfl:=k35_openM hM11
      have HP11:=Kd.R_seg HX11.out (x6_1 : Int) (of_decide_eq_true (by first | (with_reducible assumption) | assumption)) (by have h_ : (x6_1 : Int) < ((x5_1.length : Int) : Int):=of_decide_eq_true (by first | (with_reducible assumption) | assumption);first | exact h_ | (have e_:=(Kd.R_reads' HO_5.out).1;omega) | simpa using h_) (seg:=[.int .i64 (wrap64 (((rd_T35 x5_1 x6_1).f0) + a1))]) (j:=0) hcl11 hcc11 (show 1 ≤ 4 from by decide) (x':=(⟨wrap64 (((rd_T35 x5_1 x6_1).f0) + a1),(rd_T35 x5_1 x6_1).f1,(rd_T35 x5_1 x6_1).f2,(rd_T35 x5_1 x6_1).f3⟩ : S35)) (k35_mkM _ _ _ (⟨wrap64 (((rd_T35 x5_1 x6_1).f0) + a1),(rd_T35 x5_1 x6_1).f1,(rd_T35 x5_1 x6_1).f2,(rd_T35 x5_1 x6_1).f3⟩ : S35) ) (fun _ hk=>hk)
      have hx11_0:=hcc11 0 _ rfl
      (try simp only [show (k35).sz = 4 from rfl,Nat.mul_one,Nat.add_zero] at hx11_0)
      have hf11_0:=hfr11 0
      (try simp only [show (k35).sz = 4 from rfl,Nat.mul_one,Nat.add_zero] at hf11_0)
      clear hcl11 hcc11 hfr11 hM11
      go_wp2_with (first | ((with_reducible refine gate_store (t:=3) (p:=26) rfl ?_);refine store_event (t:=3) (p:=26) (v:=?vo_w12) (w1:=(wr.setCell ⟨go9,(x6_1 : Int).toNat * 4,none⟩ (.int .i64 (wrap64 (((rd_T35 x5_1 x6_1).f0) + a1))))) ?hg ?ho ?hn ?hr ?_;(case ho=>rfl);(case hg=>rfl);(case hn=>rfl);(case hr=>first | (go_simp;done) | (go_simp;rfl));intro w12 hw;have hg : wr.grownBy w12 (some go9):=(by rw [hw];exact HP11.2);have hp_ : Kd.R k35 35 w12 w.heap.size (fun _=>True) (.slice (some ⟨go9,0,none⟩) x5_1.length co10) y8:=(by rw [hw,Ny8.out];exact HP11.1);clear HP11;replace HO_5:=a0_ (hp_);replace HB:=a0_ ((by rw [hw];exact below_set (HB.out) GB9.out : Below w.heap.size w w12));clear hg hw hp_))
      go_roundg k1
      case measure=>have:=HK1.out;omega
      case rel=>exact ⟨(y8),(wrap64 (x6_1 + 1)),(by first | rfl | (simp;done) | (simp [*];done)),H',⟨by have:=HK1.out;omega⟩,⟨by (with_reducible repeat (first | apply Kd.R_alloc | apply Kd.R_drewN | apply Kd.R_drew));exact HO_5.out⟩,⟨hb_⟩⟩
     ·rw [if_neg c8] at H
      exact absurd H (by simp)
    ·rw [if_neg c7] at H
     have c7b0 : decide (x6_1 < (x5_1.length : Int)) = false:=decide_eq_false c7
     clear c7
     obtain rfl:=Option.some.inj H
     obtain ⟨Ao13,co13,eo13⟩:=Kd.R_slice HO_5.out
     subst eo13
     go_wp2
     go_ret
     exact ⟨_,by first | rfl | (simp [errW_none,errW_some] <;> rfl) | (simp [*,errW_none,errW_some] <;> rfl),by (with_reducible repeat (first | apply Kd.R_alloc | apply Kd.R_drewN | apply Kd.R_drew));exact HO_5.out,hb_⟩
 ·rw [if_neg c3] at H
  exact absurd H (by simp)
theorem spec_deeper_ev (g : List Prt) (d : Int) (hl : g.length ≤ 1048576) (hd : -1000 ≤ d ∧ d ≤ 1000) (hg : ∀ p ∈ g,-1000000 ≤ p.f0 ∧ p.f0 ≤ 1000000) : Ev (fun k=>spec_deeper.f k g d) (dpr d g):=by
 have key : ∀ n j,j + n = g.length → Ev (fun k=>spec_deeper.l0 k d (dpr d (g.take j) ++ g.drop j) (j : Int)) (dpr d g):=by
  intro n
  induction n with
  | zero =>
   intro j hj
   refine Ev.succ ?_
   simp only [spec_deeper.l0]
   rw [List.take_of_length_le (by omega),List.drop_eq_nil_of_le (by omega),List.append_nil]
   exact Ev.neg (by rw [dpr_len];omega) (Ev.const rfl)
  | succ n ih =>
   intro j hj
   refine Ev.succ ?_
   have hlt : j < g.length:=by omega
   have hb:=hg g[j] (List.getElem_mem _)
   have h1 : (dpr d (g.take j)).length = j:=by rw [dpr_len,List.length_take];omega
   have hlen : (dpr d (g.take j) ++ g.drop j).length = g.length:=by rw [List.length_append,h1,List.length_drop];omega
   have hr : rd_T35 (dpr d (g.take j) ++ g.drop j) (j : Int) = g[j]:=by
    unfold rd_T35
    rw [Int.toNat_natCast,List.getD_eq_getElem?_getD,List.getElem?_append_right (by omega),h1,Nat.sub_self,List.getElem?_drop,Nat.add_zero,List.getElem?_eq_getElem hlt]
    rfl
   have hi:=ih (j + 1) (by omega)
   have e : dpr d (g.take (j + 1)) ++ g.drop (j + 1) = (dpr d (g.take j) ++ g.drop j).set ((j : Int)).toNat ⟨g[j].f0 + d,g[j].f1,g[j].f2,g[j].f3⟩:=by
    rw [Int.toNat_natCast,List.set_append_right _ _ (by omega),h1,Nat.sub_self,List.drop_eq_getElem_cons hlt,s2_,List.take_succ_eq_append_getElem hlt]
    unfold dpr
    rw [List.map_append,List.append_assoc]
    rfl
   rw [e] at hi
   simp only [spec_deeper.l0,hr]
   rw [wrap_succ (i:=(j : Int)) (n:=g.length) (by omega) (by omega) (by omega),wrap_in (i:=g[j].f0 + d) (by omega) (by omega)]
   exact Ev.pos (by omega) (Ev.pos (by omega) hi)
 have:=key g.length 0 (by omega)
 exact Ev.bind (Ev.const rfl) (Ev.pos (by simp;omega) this)
end Go.Proofs.Ytjdpaholpfpiiaa.P
namespace Go.Proofs.Ytjdpaholpfpiiaa.P
open Go.RowKit Go.Proofs.YtjdpaholpfpiiaaW.PrintWords Go.Proofs.YtjdpaholpfpiiaaW.PrintLast Go.Proofs.YtjdpaholpfpiiaaW.PrintMore
attribute [local go_sem] max2_int min2_int max_two min_two max_three min_three max_four min_four
set_option linter.unusedVariables false
set_option linter.unusedSimpArgs false
def spec_kids.l0 : Nat → List (S35) → List (List (S35)) → Int → Option ((List (List (S35))))
 | 0,_,_,_=>none
 | k + 1,x0,x3,x4=>if x4 < (x0.length : Int) then ((spec_endOf.f k x0 x4).bind fun t4=>(if 0 ≤ x4 then (if x4 ≤ t4 then (if t4 ≤ (x0.length : Int) then ((spec_deeper.f k ((x0.take (t4 : Int).toNat).drop (x4 : Int).toNat) (wrap64 (-((rd_T35 x0 x4).f0)))).bind fun t10=>(if x3.length < 5864062014805 then ((spec_endOf.f k x0 x4).bind fun t16=>(spec_kids.l0 k x0 (x3 ++ [t10]) t16)) else (none))) else (none)) else (none)) else (none))) else (some x3)
def spec_kids.f (k : Nat) (l0 : List (S35)) : Option ((List (List (S35)))):=spec_kids.l0 k l0 (([] : List (List (S35)))) 1
theorem spec_kids.mono_l : ∀ k,(∀ y0 y1 y2,LeO (spec_kids.l0 k y0 y1 y2) (spec_kids.l0 (k + 1) y0 y1 y2))
 | 0=>fun _ _ _ r h=>by simp [spec_kids.l0] at h
 | k + 1=>by
  have ih0:=spec_kids.mono_l k
  ·intro y0 y1 y2
   unfold spec_kids.l0
   repeat' first
   | (with_reducible exact ih0 _ _ _)
   | (with_reducible exact spec_deeper.mono _ _ _)
   | (with_reducible exact spec_endOf.mono _ _ _)
   | (with_reducible exact LeO.refl _)
   | (with_reducible exact LeO.none _)
   | (with_reducible refine LeO.ite ?_ ?_)
   | (with_reducible refine LeO.bind ?_ (fun _=>?_))
   | exact ih0 _ _ _
   | exact spec_deeper.mono _ _ _
   | exact spec_endOf.mono _ _ _
   | exact LeO.none _
   | refine LeO.ite ?_ ?_
   | refine LeO.bind ?_ (fun _=>?_)
theorem spec_kids.mono : ∀ a0 k,LeO (spec_kids.f k a0) (spec_kids.f (k + 1) a0):=by
 intro a0 k
 have ih0:=spec_kids.mono_l k
 unfold spec_kids.f
 repeat' first
   | (with_reducible exact ih0 _ _ _)
   | (with_reducible exact spec_deeper.mono _ _ _)
   | (with_reducible exact spec_endOf.mono _ _ _)
   | (with_reducible exact LeO.refl _)
   | (with_reducible exact LeO.none _)
   | (with_reducible refine LeO.ite ?_ ?_)
   | (with_reducible refine LeO.bind ?_ (fun _=>?_))
   | exact ih0 _ _ _
   | exact spec_deeper.mono _ _ _
   | exact spec_endOf.mono _ _ _
   | exact LeO.none _
   | refine LeO.ite ?_ ?_
   | refine LeO.bind ?_ (fun _=>?_)
def spec_kids.T5 : Bool × List (List Nat × List Nat):=(true,[([],[]),([],[]),([],[]),([],[]),([],[]),([3,4],[3,4]),([1,2,5],[1,2,5]),([],[]),([],[]),([7,8],[7,8]),([9],[9]),([10],[10]),([11],[11]),([6,12,5],[6,12]),([13],[13]),([0,14,13],[0,14]),([15,15,0,1,2,3,4,5,6,7,8,9,10,11,12,13,14,15],[0,15])])
def spec_kids.B5 : List Nat:=[0,0,0,0,0,24,62,0,0,384,896,1920,3968,8190,16382,32767,65535]
theorem spec_kids.tab5 : rtab .any (opsOf Try.f24 5) = spec_kids.T5:=by kernel_rfl
theorem spec_kids.bits5 : waitsOk spec_kids.T5.2 spec_kids.B5 = true:=by kernel_rfl
set_option maxHeartbeats 8000000 in
set_option maxRecDepth 100000 in
theorem spec_kids.calls (k : Nat) (A0 : Option Addr) (c0 : Nat) (l0 : List (S35)) (r : List (List (S35))) (w : World) (hr0 : Kd.C k35 w A0 l0.length l0) (hc0 : l0.length ≤ c0) (h : spec_kids.f k l0 = some r) :
  Calls Try.prog 24 #[.slice A0 l0.length c0] w fun e w'=>∃ v0_ : Value,e = .returned (v0_) ∧ Kd.S (Kd.slice 35 k35) 26 w' w.heap.size (fun _=>True) v0_ r ∧ Below w.heap.size w w':=by
 have HR0:=a0_ hr0
 have HC0:=a0_ hc0
 clear hr0 hc0
 have HB:=a0_ (Below.refl w.heap.size w)
 have H : (spec_kids.l0 k l0 (([] : List (List (S35)))) 1) = some r:=h
 clear h
 obtain ⟨y1,hy1⟩ : ∃ y_ : List (List (S35)),y_ = (([] : List (List (S35)))):=⟨_,rfl⟩
 replace H : (spec_kids.l0 k l0 y1 1) = some r:=by first | (rw [hy1];with_reducible exact H) | (have H2_:=(Option.bind_some _ _).symm.trans H;rw [hy1];with_reducible exact H2_) | (have H2_:=(Option.bind_some _ _).symm.trans H;with_reducible exact H2_) | with_reducible exact H | (rw [hy1];exact H) | exact H
 have Ny1:=a0_ hy1
 clear hy1
 have H':=a0_ H
 clear H
 go_enter Try.func24,Try.ntmps24
 go_wp2_with (first | ((with_reducible refine gate_dst (N:=5) rfl ?_);refine Kd.S_lit (Kd.slice 35 k35) _ 26 ?hg (N:=5) ?hd (xs:=([] : List (List (S35)))) (inner:=[]) (ok:=fun _=>True) (okp:=fun _=>True) ?hr ?hp (fun _ hk=>hk) trivial (Below.refl _ _) (Nat.le_refl _) (by simp) ?_;(case hd=>rfl);(case hg=>rfl);(case hr=>first | (go_simp;done) | (go_simp;rfl));(case hp=>exact (Reps.none _ _));intro v2 w2 ho3 hb hg_ hnew_;clear hg_ hnew_;(first | rw [← Ny1.out] at ho3 | (simp only [Int.reduceToNat] at ho3;rw [← Ny1.out] at ho3));have HO3:=a0_ (Kd.S_lower ho3 (below_size hb_));replace HB:=a0_ (below_step hb_ hb);clear hb ho3))
 go_loopg [3,4] k (fun kq v3 v4 w'=>∃ (x3_1 : List (List (S35))) (x4_1 : Int),v4 = .int .i64 x4_1 ∧ Aside0 (spec_kids.l0 kq l0 x3_1 x4_1 = some r) ∧ Aside0 (kq ≤ k) ∧ Aside0 (Kd.S (Kd.slice 35 k35) 26 w' w.heap.size (fun _=>True) v3 x3_1) ∧ Aside0 (Below w.heap.size w w'))
 case atStart=>exact ⟨(y1),(1),(by first | rfl | (simp;done) | (simp [*];done)),H',⟨Nat.le_refl _⟩,⟨by (with_reducible repeat (first | apply Kd.S_alloc | apply Kd.S_drewN | apply Kd.S_drew));exact HO3.out⟩,⟨hb_⟩⟩
 case round =>
  clear H'
  try clear c2
  try clear p2
  obtain ⟨x3_1,x4_1,rfl,HA,HK1,HO_3,HB⟩:=hrel
  cases gk with
  | zero=>exact absurd HA.out (by simp [spec_kids.l0])
  | succ k1 =>
   have H:=HA.out
   clear HA
   simp only [spec_kids.l0] at H
   by_cases c4 : x4_1 < (l0.length : Int)
   ·rw [if_pos c4] at H
    have c4b0 : decide (x4_1 < (l0.length : Int)) = true:=decide_eq_true c4
    clear c4
    replace H:=Option.bind_eq_some_iff.mp H
    obtain ⟨t4,A50,H⟩:=H
    try dsimp only at H
    have A5:=a0_ A50
    clear A50
    by_cases c6 : 0 ≤ x4_1
    ·rw [if_pos c6] at H
     have c6b0:=eq_true c6
     have c6b1 : decide (0 ≤ x4_1) = true:=decide_eq_true c6
     clear c6
     by_cases c7 : x4_1 ≤ t4
     ·rw [if_pos c7] at H
      have c7b0:=eq_true c7
      have c7b1 : decide (x4_1 ≤ t4) = true:=decide_eq_true c7
      clear c7
      by_cases c8 : t4 ≤ (l0.length : Int)
      ·rw [if_pos c8] at H
       have c8b0:=eq_true c8
       have c8b1 : decide (t4 ≤ (l0.length : Int)) = true:=decide_eq_true c8
       clear c8
       obtain ⟨y5,hy5⟩ : ∃ y_ : List (S35),y_ = ((l0.take (t4 : Int).toNat).drop (x4_1 : Int).toNat):=⟨_,rfl⟩
       replace H : ((spec_deeper.f k1 y5 (wrap64 (-((rd_T35 l0 x4_1).f0)))).bind fun t10=>(if x3_1.length < 5864062014805 then ((spec_endOf.f k1 l0 x4_1).bind fun t16=>(spec_kids.l0 k1 l0 (x3_1 ++ [t10]) t16)) else (none))) = some r:=by first | (rw [hy5];with_reducible exact H) | (have H2_:=(Option.bind_some _ _).symm.trans H;rw [hy5];with_reducible exact H2_) | (have H2_:=(Option.bind_some _ _).symm.trans H;with_reducible exact H2_) | with_reducible exact H | (rw [hy5];exact H) | exact H
       have Ny5:=a0_ hy5
       clear hy5
       replace H:=Option.bind_eq_some_iff.mp H
       obtain ⟨t10,A90,H⟩:=H
       try dsimp only at H
       have A9:=a0_ A90
       clear A90
       by_cases c10 : x3_1.length < 5864062014805
       ·rw [if_pos c10] at H
        have LMc10:=a0_ c10
        clear c10
        obtain ⟨y13,hy13⟩ : ∃ y_ : List (List (S35)),y_ = (x3_1 ++ [t10]):=⟨_,rfl⟩
        replace H : ((spec_endOf.f k1 l0 x4_1).bind fun t16=>(spec_kids.l0 k1 l0 y13 t16)) = some r:=by first | (rw [hy13];with_reducible exact H) | (have H2_:=(Option.bind_some _ _).symm.trans H;rw [hy13];with_reducible exact H2_) | (have H2_:=(Option.bind_some _ _).symm.trans H;with_reducible exact H2_) | with_reducible exact H | (rw [hy13];exact H) | exact H
        have Ny13:=a0_ hy13
        clear hy13
        replace H:=Option.bind_eq_some_iff.mp H
        obtain ⟨t16,A110,H⟩:=H
        replace H : (spec_kids.l0 k1 l0 y13 t16) = some r:=H
        have A11:=a0_ A110
        clear A110
        have H':=a0_ H
        clear H
        try go_wp2
        have n0_:=a0_ (Kd.S_drew HO_3.out)
        have n1_:=a0_ (below_drew1 HB.out)
        clear HO_3
        clear HB
        have HO_3:=n0_
        have HB:=n1_
        clear n0_ n1_
        have p9 : 0 ≤ (x4_1 : Int):=of_decide_eq_true (by first | (with_reducible assumption) | assumption)
        have q9 : x4_1 < (l0.length : Int):=of_decide_eq_true (by first | (with_reducible assumption) | assumption)
        obtain ⟨ad9,e9,hx9_0,hx9_1,hx9_2,hx9_3⟩:=at_T35 HR0.out x4_1 p9 q9
        have hw9_3:=hx9_3
        have hw9_2:=hx9_2
        have hw9_1:=hx9_1
        have hw9_0:=hx9_0
        cases e9
        replace hx9_0:=(HB.out.cell (World.block_lt_of_cell? w _ hx9_0)).trans hx9_0
        replace hx9_1:=(HB.out.cell (World.block_lt_of_cell? w _ hx9_1)).trans hx9_1
        replace hx9_2:=(HB.out.cell (World.block_lt_of_cell? w _ hx9_2)).trans hx9_2
        replace hx9_3:=(HB.out.cell (World.block_lt_of_cell? w _ hx9_3)).trans hx9_3
        replace p9:=eq_true p9
        replace q9:=eq_true q9
        refine start_ (n:=17) (S:=fun w'=>w'.cell? (ad9.add ((x4_1).toNat * 4)) = some (.int .i64 ((rd_T35 l0 x4_1).f0)) ∧ w'.cell? ⟨(ad9.add ((x4_1).toNat * 4)).block,(ad9.add ((x4_1).toNat * 4)).off + 1,none⟩ = some (.bool ((rd_T35 l0 x4_1).f1)) ∧ w'.cell? ⟨(ad9.add ((x4_1).toNat * 4)).block,(ad9.add ((x4_1).toNat * 4)).off + 2,none⟩ = some (.int .i64 ((rd_T35 l0 x4_1).f2)) ∧ w'.cell? ⟨(ad9.add ((x4_1).toNat * 4)).block,(ad9.add ((x4_1).toNat * 4)).off + 3,none⟩ = some (.int .i64 ((rd_T35 l0 x4_1).f3))) (ds:=[]) #[false,false,false,false,false,false,false,false,false,false,false,false,false,false,false,false,false] (by kernel_rfl) rfl rfl ⟨((HB.out.cell (World.block_lt_of_cell? w _ hw9_0)).trans hw9_0),((HB.out.cell (World.block_lt_of_cell? w _ hw9_1)).trans hw9_1),((HB.out.cell (World.block_lt_of_cell? w _ hw9_2)).trans hw9_2),((HB.out.cell (World.block_lt_of_cell? w _ hw9_3)).trans hw9_3)⟩ (fun hHeld=>?_);refine with_tabW spec_kids.tab5 spec_kids.bits5 (fun HT_ HW_=>?_)
        generalize wr.drew = w12 at HO_3 HB hx9_0 hx9_1 hx9_2 hx9_3 hHeld ⊢
        refine pure_ (i:=0) (N:=some 13) (v:=?_) (a':=?_) #[true,false,false,false,false,false,false,false,false,false,false,false,false,false,false,false,false] rfl rfl (any_of HT_.out (by kernel_rfl)) (fun _ _ _ h=>h) (Or.inl ⟨by rfl,?_⟩) ?_ ?_
        rotate_left
        ·intro w'
         go_simp
         with_reducible rfl
        rotate_left
        ·simp only [Act.put,s1_,s2_,s3_,i64_w,i32_w]
         rfl
        refine pure_ (i:=1) (N:=some 14) (v:=?_) (a':=?_) #[true,true,false,false,false,false,false,false,false,false,false,false,false,false,false,false,false] rfl rfl (any_of HT_.out (by kernel_rfl)) (fun _ _ _ h=>h) (Or.inl ⟨by rfl,?_⟩) ?_ ?_
        rotate_left
        ·intro w'
         go_simp
         with_reducible rfl
        rotate_left
        ·simp only [Act.put,s1_,s2_,s3_,i64_w,i32_w]
         rfl
        refine pure_ (i:=2) (N:=some 15) (v:=?_) (a':=?_) #[true,true,true,false,false,false,false,false,false,false,false,false,false,false,false,false,false] rfl rfl (any_of HT_.out (by kernel_rfl)) (fun _ _ _ h=>h) (Or.inl ⟨by rfl,?_⟩) ?_ ?_
        rotate_left
        ·intro w'
         go_simp
         with_reducible rfl
        rotate_left
        ·simp only [Act.put,s1_,s2_,s3_,i64_w,i32_w]
         rfl
        refine pure_ (i:=3) (N:=some 16) (v:=?_) (a':=?_) #[true,true,true,true,false,false,false,false,false,false,false,false,false,false,false,false,false] rfl rfl (any_of HT_.out (by kernel_rfl)) (fun _ _ _ h=>h) (Or.inl ⟨by rfl,?_⟩) ?_ ?_
        rotate_left
        ·intro w'
         go_simp
         with_reducible rfl
        rotate_left
        ·simp only [Act.put,s1_,s2_,s3_,i64_w,i32_w]
         rfl
        refine pure_ (i:=4) (N:=some 17) (v:=?_) (a':=?_) #[true,true,true,true,true,false,false,false,false,false,false,false,false,false,false,false,false] rfl rfl (any_of HT_.out (by kernel_rfl)) (fun _ _ _ h=>h) (Or.inl ⟨by rfl,?_⟩) ?_ ?_
        rotate_left
        ·intro w'
         go_simp
         with_reducible rfl
        rotate_left
        ·simp only [Act.put,s1_,s2_,s3_,i64_w,i32_w]
         rfl
        refine pure_ (i:=7) (N:=some 20) (v:=?_) (a':=?_) #[true,true,true,true,true,false,false,true,false,false,false,false,false,false,false,false,false] rfl rfl (any_of HT_.out (by kernel_rfl)) (fun _ _ _ h=>h) (Or.inl ⟨by rfl,?_⟩) ?_ ?_
        rotate_left
        ·intro w'
         go_simp
         with_reducible rfl
        rotate_left
        ·simp only [Act.put,s1_,s2_,s3_,i64_w,i32_w]
         rfl
        refine pure_ (i:=8) (N:=some 21) (v:=?_) (a':=?_) #[true,true,true,true,true,false,false,true,true,false,false,false,false,false,false,false,false] rfl rfl (any_of HT_.out (by kernel_rfl)) (fun _ _ _ h=>h) (Or.inl ⟨by rfl,?_⟩) ?_ ?_
        rotate_left
        ·intro w'
         go_simp
         with_reducible rfl
        rotate_left
        ·simp only [Act.put,s1_,s2_,s3_,i64_w,i32_w]
         rfl
        refine pure_ (i:=9) (N:=some 22) (v:=?_) (a':=?_) #[true,true,true,true,true,false,false,true,true,true,false,false,false,false,false,false,false] rfl rfl (any_of HT_.out (by kernel_rfl)) (fun _ _ _ h=>h) (Or.inl ⟨by rfl,?_⟩) ?_ ?_
        rotate_left
        ·intro w'
         go_simp
         with_reducible rfl
        rotate_left
        ·simp only [Act.put,s1_,s2_,s3_,i64_w,i32_w]
         rfl
        refine pure_ (i:=10) (N:=some 23) (v:=?_) (a':=?_) #[true,true,true,true,true,false,false,true,true,true,true,false,false,false,false,false,false] rfl rfl (any_of HT_.out (by kernel_rfl)) (fun _ _ _ h=>h) (Or.inl ⟨by rfl,?_⟩) ?_ ?_
        rotate_left
        ·intro w'
         go_simp
         with_reducible rfl
        rotate_left
        ·simp only [Act.put,s1_,s2_,s3_,i64_w,i32_w]
         rfl
        refine take_ (i:=11) (N:=some 24) (v:=?_) (a':=?_) #[true,true,true,true,true,false,false,true,true,true,true,true,false,false,false,false,false] rfl rfl (take_ofW HT_.out HW_.out (by kernel_rfl)) (fun _ _ _ h=>h) (Or.inl ⟨by rfl,?_⟩) hHeld ?_ ?_
        rotate_left
        ·rintro w' ⟨s0,s1,s2,s3⟩
         go_simp
         with_reducible rfl
        rotate_left
        ·simp only [Act.put,s1_,s2_,s3_,i64_w,i32_w]
         rfl
        refine pure_ (i:=12) (N:=some 25) (v:=?_) (a':=?_) #[true,true,true,true,true,false,false,true,true,true,true,true,true,false,false,false,false] rfl rfl (any_of HT_.out (by kernel_rfl)) (fun _ _ _ h=>h) (Or.inl ⟨by rfl,?_⟩) ?_ ?_
        rotate_left
        ·intro w'
         go_simp
         with_reducible rfl
        rotate_left
        ·simp only [Act.put,s1_,s2_,s3_,i64_w,i32_w]
         rfl
        refine one_ (i:=5) (N:=some 18) #[true,true,true,true,true,true,false,true,true,true,true,true,true,false,false,false,false] rfl rfl (one_of HT_.out (by kernel_rfl)) (by decide) (fun K hK=>?_)
        refine goes_ Try.func43 (by kernel_rfl) rfl #[.slice (some ad9) l0.length c0,.int .i64 x4_1] (by rfl) rfl rfl lm_ ?_
        with_reducible refine (spec_endOf.calls k1 _ _ l0 x4_1 t4 _ ?side1 ?side2 A5.out).mono ?_
        (case side1=>exact cc_ (Kd.C_below HR0.out HB.out))
        (case side2=>exact HC0.out)
        rintro e w' ⟨rfl,⟨nd,rfl⟩⟩
        refine ⟨_,rfl,?_⟩
        have q13 : (t4 : Int) ≤ ((l0.length : Int) : Int):=of_decide_eq_true (by first | (with_reducible assumption) | assumption)
        obtain ⟨i013,hi013,_,hsz13,_⟩:=info_parts info35
        have hroom13 : l0.length ≤ c0:=HC0.out
        have hC13 : Kd.C k35 _ (some ad9) l0.length l0:=HR0.out
        have ql13 : (x4_1 : Int) ≤ (t4 : Int):=of_decide_eq_true (by first | (with_reducible assumption) | assumption)
        have q013 : (0 : Int) ≤ (x4_1 : Int):=of_decide_eq_true (by first | (with_reducible assumption) | assumption)
        have hcut13:=cut_mid (P:=Try.prog) 26 35 .i64 .i64 Try.underlying26 hi013 4 hsz13 (some ad9) l0.length c0 x4_1 t4 q013 ql13 q13 hroom13
        have hr13:=Kd.C_mid (lo:=(x4_1 : Int).toNat) (hi:=(t4 : Int).toNat) (c:=c0) hC13 (by omega) (by omega) hroom13
        obtain ⟨A13,hA13⟩ : ∃ AZ_,AZ_ = (if c0 = (x4_1 : Int).toNat then (some ad9) else ((some ad9) : Option Addr).map (·.add ((x4_1 : Int).toNat * 4))):=⟨_,rfl⟩
        obtain ⟨c13,hc13⟩ : ∃ cZ_,cZ_ = c0 - (x4_1 : Int).toNat:=⟨_,rfl⟩
        have hy13 : y5.length = (t4 : Int).toNat - (x4_1 : Int).toNat:=(by rw [Ny5.out,List.length_drop,List.length_take] <;> omega)
        rw [show ((l0).take (t4 : Int).toNat).drop (x4_1 : Int).toNat = y5 from Ny5.out.symm] at hr13
        replace hr13 : Kd.C k35 _ A13 y5.length y5:=(by rw [hA13];exact hr13)
        rw [← hy13,← hA13,← hc13] at hcut13
        have HR8:=a0_ hr13
        have HC8:=a0_ (show y5.length ≤ c13 from by rw [hy13,hc13];exact Nat.sub_le_sub_right (Nat.le_trans (by omega) hroom13) _)
        clear hr13 hC13 hroom13 hi013 hsz13 hc13
        have KY13:=a0_ hy13
        have KA13:=a0_ hA13
        clear hy13 hA13
        replace q13:=eq_true q13
        refine hK.out _ _ ⟨((HB.out.cell (World.block_lt_of_cell? w _ hw9_0)).trans hw9_0),((HB.out.cell (World.block_lt_of_cell? w _ hw9_1)).trans hw9_1),((HB.out.cell (World.block_lt_of_cell? w _ hw9_2)).trans hw9_2),((HB.out.cell (World.block_lt_of_cell? w _ hw9_3)).trans hw9_3)⟩ (fun hHeld=>?_)
        clear hK K
        refine norm_ (a':=?_) ?_ ?_
        rotate_left
        ·show Act.put _ (some 18) _ = _
         simp only [Act.put,s1_,s2_,s3_,i64_w,i32_w]
         rfl
        refine pure_ (i:=6) (N:=some 19) (v:=?_) (a':=?_) #[true,true,true,true,true,true,true,true,true,true,true,true,true,false,false,false,false] rfl rfl (any_of HT_.out (by kernel_rfl)) (fun _ _ _ h=>h) (Or.inl ⟨by rfl,?_⟩) ?_ ?_
        rotate_left
        ·intro w'
         go_simp
         with_reducible rfl
        rotate_left
        ·simp only [Act.put,s1_,s2_,s3_,i64_w,i32_w]
         rfl
        refine one_ (i:=13) (N:=some 26) #[true,true,true,true,true,true,true,true,true,true,true,true,true,true,false,false,false] rfl rfl (one_of HT_.out (by kernel_rfl)) (by decide) (fun K hK=>?_)
        refine goes_ Try.func29 (by kernel_rfl) rfl #[.slice A13 y5.length c13,.int .i64 (wrap64 (-((rd_T35 l0 x4_1).f0)))] (by rfl) rfl rfl lm_ ?_
        with_reducible refine (spec_deeper.calls k1 _ _ y5 (wrap64 (-((rd_T35 l0 x4_1).f0))) t10 _ ?side1 ?side2 A9.out).mono ?_
        (case side1=>repeat (first | exact (Kd.C_below HR8.out hb_) | (with_reducible refine Kd.C_alloc ?_ _) | (with_reducible refine Kd.C_drewN ?_ _) | (with_reducible refine Kd.C_drew ?_)))
        (case side2=>exact HC8.out)
        rintro e w14 ⟨v11,rfl,ho0,hb⟩
        refine ⟨_,rfl,?_⟩
        have n0_:=a0_ (Kd.S_elder' (by (with_reducible repeat (first | apply Kd.S_alloc | apply Kd.S_drewN | apply Kd.S_drew));exact HO_3.out) (Kd.R_base ho0) hb)
        have n1_:=a0_ (Kd.R_lower ho0 (below_size hb_))
        have n2_:=a0_ (below_step hb_ hb)
        clear HO_3
        clear HB
        have HO_3:=n0_
        have HO12:=n1_
        have HB:=n2_
        clear n0_ n1_ n2_
        (try clear hb)
        (try clear hb2)
        (try clear hk)
        (try clear hi)
        (try clear ho0)
        obtain ⟨Ao16,co16,eo16⟩:=Kd.R_slice HO12.out
        (first | subst eo16 | (injection eo16 with f1_ f2_ f3_;have f4_:=f1_.symm;have f5_:=f3_.symm;clear f1_ f2_ f3_;subst f4_;subst f5_))
        refine hK.out _ _ ⟨((HB.out.cell (World.block_lt_of_cell? w _ hw9_0)).trans hw9_0),((HB.out.cell (World.block_lt_of_cell? w _ hw9_1)).trans hw9_1),((HB.out.cell (World.block_lt_of_cell? w _ hw9_2)).trans hw9_2),((HB.out.cell (World.block_lt_of_cell? w _ hw9_3)).trans hw9_3)⟩ (fun hHeld=>?_)
        clear hK K
        refine norm_ (a':=?_) ?_ ?_
        rotate_left
        ·show Act.put _ (some 26) _ = _
         simp only [Act.put,s1_,s2_,s3_,i64_w,i32_w]
         rfl
        refine one_ (i:=14) (N:=some 27) #[true,true,true,true,true,true,true,true,true,true,true,true,true,true,true,false,false] rfl rfl (one_of HT_.out (by kernel_rfl)) (by decide) (fun K hK=>?_)
        refine value_ (w1:=?_) (v:=?_) (by rfl) rfl ?_ ?_
        rotate_left 2
        ·go_simp
         constructor
         ·rfl
         ·rfl
        refine hK.out _ _ ⟨(World.cell?_alloc_lt _ _ _ (World.block_lt_of_cell? _ _ (((HB.out.cell (World.block_lt_of_cell? w _ hw9_0)).trans hw9_0)))).trans (((HB.out.cell (World.block_lt_of_cell? w _ hw9_0)).trans hw9_0)),(World.cell?_alloc_lt _ _ _ (World.block_lt_of_cell? _ _ (((HB.out.cell (World.block_lt_of_cell? w _ hw9_1)).trans hw9_1)))).trans (((HB.out.cell (World.block_lt_of_cell? w _ hw9_1)).trans hw9_1)),(World.cell?_alloc_lt _ _ _ (World.block_lt_of_cell? _ _ (((HB.out.cell (World.block_lt_of_cell? w _ hw9_2)).trans hw9_2)))).trans (((HB.out.cell (World.block_lt_of_cell? w _ hw9_2)).trans hw9_2)),(World.cell?_alloc_lt _ _ _ (World.block_lt_of_cell? _ _ (((HB.out.cell (World.block_lt_of_cell? w _ hw9_3)).trans hw9_3)))).trans (((HB.out.cell (World.block_lt_of_cell? w _ hw9_3)).trans hw9_3))⟩ (fun hHeld=>?_)
        clear hK K
        refine norm_ (a':=?_) ?_ ?_
        rotate_left
        ·show Act.put _ (some 27) _ = _
         simp only [Act.put,s1_,s2_,s3_,i64_w,i32_w]
         rfl
        refine one_ (i:=15) (N:=some 28) #[true,true,true,true,true,true,true,true,true,true,true,true,true,true,true,true,false] rfl rfl (one_of HT_.out (by kernel_rfl)) (by decide) (fun K hK=>?_)
        refine Kd.S_append_step (Kd.slice 35 k35) (w0:=w) w.heap.size (by rfl) (.tmp 13) (.tmp 27) 29 26 (.slice none 0 0) 24 rfl Try.underlying29 info26 rfl (by decide) (by omega) u3 x3_1 t10 [.slice Ao16 t10.length co16] (fun _=>True) (fun k_=>some k_ = (.slice Ao16 t10.length co16 : Value).ownBlock) rfl rfl ?aP (fun k_ hk_=>((Kd.R_mono (ok':=fun k_=>((fun _=>True)) k_ ∧ some k_ ≠ (u3 : Value).ownBlock) (Kd.R_apart' (HO12.out) (Kd.S_typed HO_3.out) (by decide)) (fun k_ hk=>⟨trivial,hk.2⟩))).1 k_ hk_.symm) ?aF ?aO ?aB ?aS ?aL ?_
        (case aP=>exact Kd.M_row (Kd.R_mono (Kd.R_tight rfl (Kd.R_mono (ok':=fun k_=>((fun _=>True)) k_ ∧ some k_ ≠ (u3 : Value).ownBlock) (Kd.R_apart' (HO12.out) (Kd.S_typed HO_3.out) (by decide)) (fun k_ hk=>⟨trivial,hk.2⟩))) (fun _ h_=>h_)))
        (case aB=>exact hb_)
        (case aF=>exact (fun _ _=>trivial))
        (case aO=>exact (by (with_reducible repeat (first | apply Kd.S_alloc | apply Kd.S_drewN | apply Kd.S_drew));exact Kd.S_mono HO_3.out (fun k_ hk=>⟨trivial,fun e_=>hk.2 e_⟩)))
        (case aS=>exact (below_size hb_))
        (case aL=>have:=LMc10.out;omega)
        intro v14 w15 ho hb hg hat
        rw [← Ny13.out] at ho
        have n0_:=a0_ (hb)
        have n1_:=a0_ (ho)
        clear HB
        clear HO_3
        clear HO12
        have HB:=n0_
        have HO15:=n1_
        clear n0_ n1_
        clear ho hb hg hat
        refine hK.out _ _ ⟨((HB.out.cell (World.block_lt_of_cell? w _ hw9_0)).trans hw9_0),((HB.out.cell (World.block_lt_of_cell? w _ hw9_1)).trans hw9_1),((HB.out.cell (World.block_lt_of_cell? w _ hw9_2)).trans hw9_2),((HB.out.cell (World.block_lt_of_cell? w _ hw9_3)).trans hw9_3)⟩ (fun hHeld=>?_)
        clear hK K
        refine norm_ (a':=?_) ?_ ?_
        rotate_left
        ·show Act.put _ (some 28) _ = _
         simp only [Act.put,s1_,s2_,s3_,i64_w,i32_w]
         rfl
        refine pure_ (i:=16) (N:=some 3) (v:=?_) (a':=?_) #[true,true,true,true,true,true,true,true,true,true,true,true,true,true,true,true,true] rfl rfl (any_of HT_.out (by kernel_rfl)) (fun _ _ _ h=>h) (Or.inl ⟨by rfl,?_⟩) ?_ ?_
        rotate_left
        ·intro w'
         go_simp
         with_reducible rfl
        rotate_left
        ·simp only [Act.put,s1_,s2_,s3_,i64_w,i32_w]
         rfl
        refine done_ (done_of HT_.out (by kernel_rfl)) ?_
        try go_wp2_with (first | ((with_reducible refine gate_callee (f:=43) rfl ?_);refine goesL_ (some 12) rfl rfl Try.func43 (by kernel_rfl) rfl #[.slice (some ad9) l0.length c0,.int .i64 x4_1] rfl lm_ ?_;(with_reducible refine (spec_endOf.calls k1 _ _ l0 x4_1 t16 _ ?side1 ?side2 A11.out).mono ?_);(case side1=>exact cc_ (Kd.C_below HR0.out HB.out));(case side2=>exact HC0.out);rintro e w' ⟨rfl,⟨nd,rfl⟩⟩;refine ⟨_,rfl,?_⟩))
        go_roundg k1
        case measure=>have:=HK1.out;omega
        case rel=>exact ⟨(y13),(t16),(by first | rfl | (simp;done) | (simp [*];done)),H',⟨by have:=HK1.out;omega⟩,⟨by (with_reducible repeat (first | apply Kd.S_alloc | apply Kd.S_drewN | apply Kd.S_drew));exact HO15.out⟩,⟨hb_⟩⟩
       ·rw [if_neg c10] at H
        exact absurd H (by simp)
      ·rw [if_neg c8] at H
       exact absurd H (by simp)
     ·rw [if_neg c7] at H
      exact absurd H (by simp)
    ·rw [if_neg c6] at H
     exact absurd H (by simp)
   ·rw [if_neg c4] at H
    have c4b0 : decide (x4_1 < (l0.length : Int)) = false:=decide_eq_false c4
    clear c4
    obtain rfl:=Option.some.inj H
    go_wp2
    go_ret
    exact ⟨_,by first | rfl | (simp [errW_none,errW_some] <;> rfl) | (simp [*,errW_none,errW_some] <;> rfl),by (with_reducible repeat (first | apply Kd.S_alloc | apply Kd.S_drewN | apply Kd.S_drew));exact HO_3.out,hb_⟩
theorem spec_kids_l0 (g : List Prt) (hl : g.length ≤ 1000) (hb : ∀ p ∈ g,-1000 ≤ p.f0 ∧ p.f0 ≤ 1000) : ∀ (n i : Nat) (out : List (List Prt)),g.length ≤ i + n → i ≤ g.length → out.length ≤ i → Fr 1 (g.drop i) → Ev (fun k=>spec_kids.l0 k g out (i : Int)) (out ++ (kidR n (g.drop i)).map (dpr (-1))):=by
 intro n
 induction n with
 | zero =>
  intro i out hn hi ho _
  refine Ev.succ ?_
  simp only [spec_kids.l0]
  exact Ev.neg (by omega) (Ev.const (by simp [kidR]))
 | succ n ih =>
  intro i out hn hi ho hF
  refine Ev.succ ?_
  by_cases hlt : i < g.length
  ·obtain ⟨e1,e2⟩:=end_mid g i hlt
   have hE:=spec_endOf_ev g i hlt (by omega)
   have hle:=endG_le g i hlt
   rw [List.drop_eq_getElem_cons hlt] at hF
   obtain ⟨h0,h1,_⟩:=Fr_head hF _ _ rfl
   rw [List.drop_drop,← e2] at h1
   have hr : rd_T35 g (i : Int) = g[i]:=by simp [rd_T35,hlt]
   have ew : wrap64 (-(rd_T35 g (i : Int)).f0) = -1:=by rw [hr,h0];exact wrap_in (by omega) (by omega)
   have hD:=spec_deeper_ev (g[i] :: belw g[i] (g.drop (i + 1))) (-1) (by
    have:=(belw_sub g[i] (g.drop (i + 1))).length_le
    rw [List.length_drop] at this
    rw [List.length_cons]
    omega) (by omega) (fun p hp=>by
    have hm : p ∈ g:=by
     rcases List.mem_cons.1 hp with rfl | hp
     ·exact List.getElem_mem _
     ·exact List.mem_of_mem_drop ((belw_sub _ _).subset hp)
    have:=hb p hm
    omega)
   rw [← e1] at hD
   have hi2:=ih (endG g i) (out ++ [dpr (-1) ((g.take (endG g i)).drop i)]) (by omega) hle (by simp;omega) h1
   have ek : kidR (n + 1) (g.drop i) = (g.take (endG g i)).drop i :: kidR n (g.drop (endG g i)):=by
    rw [List.drop_eq_getElem_cons hlt,kidR,e1,e2,List.drop_drop]
   rw [ek,List.map_cons]
   rw [List.append_assoc,List.singleton_append] at hi2
   simp only [spec_kids.l0,ew]
   refine Ev.pos (by omega) (Ev.bind hE (Ev.pos (by omega) (Ev.pos (by omega) (Ev.pos (by omega) ?_))))
   simp only [Int.toNat_natCast]
   exact Ev.bind hD (Ev.pos (by omega) (Ev.bind hE hi2))
  ·rw [List.drop_eq_nil_of_le (by omega)]
   simp only [spec_kids.l0]
   exact Ev.neg (by omega) (Ev.const (by simp [kidR]))
theorem spec_kids_ev (g : List Prt) (hl : g.length ≤ 1000) (hT : Tre g) (hb : ∀ p ∈ g,-1000 ≤ p.f0 ∧ p.f0 ≤ 1000) : Ev (fun k=>spec_kids.f k g) (kidL g):=by
 have h1 : 1 ≤ g.length:=by obtain ⟨p,r,rfl,_⟩:=hT;simp
 have:=spec_kids_l0 g hl hb g.length 1 [] (by omega) h1 (by simp) (Tre_rest hT)
 exact this
end Go.Proofs.Ytjdpaholpfpiiaa.P
namespace Go.Proofs.Ytjdpaholpfpiiaa.P
open Go.RowKit Go.Proofs.YtjdpaholpfpiiaaW.PrintWords Go.Proofs.YtjdpaholpfpiiaaW.PrintLast Go.Proofs.YtjdpaholpfpiiaaW.PrintMore
attribute [local go_sem] max2_int min2_int max_two min_two max_three min_three max_four min_four
set_option linter.unusedVariables false
set_option linter.unusedSimpArgs false
def spec_KidsOf.f (k : Nat) (l0_0 : List (S70)) (l1 : List (S35)) : Option ((List (List (S35)))):=(spec_validGroup.f l0_0 l1).bind fun t2=>(if t2 = true then ((spec_kids.f k l1).bind fun t3=>(some t3)) else (some ([] : List (List (S35)))))
theorem spec_KidsOf.mono : ∀ a0 a1 k,LeO (spec_KidsOf.f k a0 a1) (spec_KidsOf.f (k + 1) a0 a1):=by
 intro a0 a1 k
 unfold spec_KidsOf.f
 repeat' first
   | (with_reducible exact spec_kids.mono _ _)
   | (with_reducible exact LeO.refl _)
   | (with_reducible exact LeO.none _)
   | (with_reducible refine LeO.ite ?_ ?_)
   | (with_reducible refine LeO.bind ?_ (fun _=>?_))
   | exact spec_kids.mono _ _
   | exact LeO.none _
   | refine LeO.ite ?_ ?_
   | refine LeO.bind ?_ (fun _=>?_)
set_option maxHeartbeats 8000000 in
set_option maxRecDepth 100000 in
theorem spec_KidsOf.calls (k : Nat) (A0_0 : Option Addr) (c0_0 : Nat) (l0_0 : List (S70)) (A1 : Option Addr) (c1 : Nat) (l1 : List (S35)) (r : List (List (S35))) (w : World) (hr0_0 : Kd.C k70 w A0_0 l0_0.length l0_0) (hc0_0 : l0_0.length ≤ c0_0) (hr1 : Kd.C k35 w A1 l1.length l1) (hc1 : l1.length ≤ c1) (h : spec_KidsOf.f k l0_0 l1 = some r) :
  Calls Try.prog 9 #[.agg #[.slice A0_0 l0_0.length c0_0],.slice A1 l1.length c1] w fun e w'=>∃ v0_ : Value,e = .returned (v0_) ∧ Kd.S (Kd.slice 35 k35) 26 w' w.heap.size (fun _=>True) v0_ r ∧ Below w.heap.size w w':=by
 have hu25:=Try.underlying25
 have HR0_0:=a0_ hr0_0
 have HC0_0:=a0_ hc0_0
 clear hr0_0 hc0_0
 have HR1:=a0_ hr1
 have HC1:=a0_ hc1
 clear hr1 hc1
 have HB:=a0_ (Below.refl w.heap.size w)
 have H : ((spec_validGroup.f l0_0 l1).bind fun t2=>(if t2 = true then ((spec_kids.f k l1).bind fun t3=>(some t3)) else (some ([] : List (List (S35)))))) = some r:=h
 clear h
 replace H:=Option.bind_eq_some_iff.mp H
 obtain ⟨t2,A30,H⟩:=H
 try dsimp only at H
 have A3:=a0_ A30
 clear A30
 by_cases c4 : t2 = true
 ·subst c4
  have H1 : ((spec_kids.f k l1).bind fun t3=>(some t3)) = some r:=by rw [if_pos rfl] at H;exact H
  clear H
  have H:=H1
  clear H1
  replace H:=Option.bind_eq_some_iff.mp H
  obtain ⟨t3,A50,H⟩:=H
  replace H : (some t3) = some r:=H
  have A5:=a0_ A50
  clear A50
  obtain rfl:=Option.some.inj H
  go_enter Try.func9,Try.ntmps9
  go_wp2_with (first | ((with_reducible refine gate_dst (N:=2) rfl ?_);refine box_event ?hg (N:=2) ?hd (cs:=#[.slice A0_0 l0_0.length c0_0]) (t:=25) ?hr ?_;(case hd=>rfl);(case hg=>rfl);(case hr=>first | (go_simp;done) | (go_simp;rfl));intro gb1 hg w6 hbox hb;have BK1:=a0_ (hbox);have GW1:=a0_ ((by rw [hg];exact (below_size hb_) : w.heap.size ≤ gb1));have GE1:=a0_ ((by rw [hg];exact (below_size hb_) : w.heap.size ≤ gb1));replace HB:=a0_ (below_step hb_ hb);clear hb hbox hg;have hcz7_0 : w6.cell? ⟨gb1,0,none⟩ = some (.slice A0_0 l0_0.length c0_0):=(blk_cell BK1.out 0).trans rfl;have hfz7_0:=blk_frozen BK1.out 0) | ((with_reducible refine gate_callee (f:=23) rfl ?_);refine goesL_ (some 7) rfl rfl Try.func23 (by kernel_rfl) rfl #[.agg #[.slice A0_0 l0_0.length c0_0],.slice A1 l1.length c1] rfl lm_ ?_;(with_reducible refine (spec_validGroup.calls _ _ l0_0 _ _ l1 true _ ?side1 ?side2 ?side3 ?side4 A3.out).mono ?_);(case side1=>exact cc_ (Kd.C_below HR0_0.out HB.out));(case side2=>exact HC0_0.out);(case side3=>exact cc_ (Kd.C_below HR1.out HB.out));(case side4=>exact HC1.out);rintro e w8 ⟨rfl,hb⟩;refine ⟨_,rfl,?_⟩;replace BK1:=kb_ BK1 hb;replace HB:=a0_ (below_step hb_ hb);(try clear hb);(try clear hb2);(try clear hk);(try clear hi)) | ((with_reducible refine gate_callee (f:=24) rfl ?_);refine goesL_ (some 10) rfl rfl Try.func24 (by kernel_rfl) rfl #[.slice A1 l1.length c1] rfl lm_ ?_;(with_reducible refine (spec_kids.calls k _ _ l1 t3 _ ?side1 ?side2 A5.out).mono ?_);(case side1=>exact cc_ (Kd.C_below HR1.out HB.out));(case side2=>exact HC1.out);rintro e w9 ⟨v4,rfl,ho0,hb⟩;refine ⟨_,rfl,?_⟩;have HO5:=a0_ (Kd.S_lower ho0 (below_size hb_));replace BK1:=kb_ BK1 hb;replace HB:=a0_ (below_step hb_ hb);(try clear hb);(try clear ho0)))
  go_ret
  exact ⟨_,by first | rfl | (simp [errW_none,errW_some] <;> rfl) | (simp [*,errW_none,errW_some] <;> rfl),by (with_reducible repeat (first | apply Kd.S_alloc | apply Kd.S_drewN | apply Kd.S_drew));exact HO5.out,hb_⟩
 ·replace c4:=Bool.eq_false_iff.mpr c4
  subst c4
  have H1 : (some ([] : List (List (S35)))) = some r:=by rw [if_neg (show ¬ (false = true) by decide)] at H;exact H
  clear H
  have H:=H1
  clear H1
  obtain rfl:=Option.some.inj H
  go_enter Try.func9,Try.ntmps9
  go_wp2_with (first | ((with_reducible refine gate_dst (N:=2) rfl ?_);refine box_event ?hg (N:=2) ?hd (cs:=#[.slice A0_0 l0_0.length c0_0]) (t:=25) ?hr ?_;(case hd=>rfl);(case hg=>rfl);(case hr=>first | (go_simp;done) | (go_simp;rfl));intro gb1 hg w10 hbox hb;have BK1:=a0_ (hbox);have GW1:=a0_ ((by rw [hg];exact (below_size hb_) : w.heap.size ≤ gb1));have GE1:=a0_ ((by rw [hg];exact (below_size hb_) : w.heap.size ≤ gb1));replace HB:=a0_ (below_step hb_ hb);clear hb hbox hg;have hcz11_0 : w10.cell? ⟨gb1,0,none⟩ = some (.slice A0_0 l0_0.length c0_0):=(blk_cell BK1.out 0).trans rfl;have hfz11_0:=blk_frozen BK1.out 0) | ((with_reducible refine gate_callee (f:=23) rfl ?_);refine goesL_ (some 7) rfl rfl Try.func23 (by kernel_rfl) rfl #[.agg #[.slice A0_0 l0_0.length c0_0],.slice A1 l1.length c1] rfl lm_ ?_;(with_reducible refine (spec_validGroup.calls _ _ l0_0 _ _ l1 false _ ?side1 ?side2 ?side3 ?side4 A3.out).mono ?_);(case side1=>exact cc_ (Kd.C_below HR0_0.out HB.out));(case side2=>exact HC0_0.out);(case side3=>exact cc_ (Kd.C_below HR1.out HB.out));(case side4=>exact HC1.out);rintro e w12 ⟨rfl,hb⟩;refine ⟨_,rfl,?_⟩;replace BK1:=kb_ BK1 hb;replace HB:=a0_ (below_step hb_ hb);(try clear hb);(try clear hb2);(try clear hk);(try clear hi)))
  go_ret
  exact ⟨_,by first | rfl | (simp [errW_none,errW_some] <;> rfl) | (simp [*,errW_none,errW_some] <;> rfl),by first | exact Kd.S_nil _ _ _ _ _ | exact Kd.N_nil _ _ _ _ _ | exact Kd.V_nil _ _ _ _ _ | exact Kd.Q_nil _ _ _ _ _ | exact Kd.R_nil _ _ _ _ _,hb_⟩
theorem spec_KidsOf_ev (t : List Cls) (g : List Prt) (hl : g.length ≤ 1048576) (hs : smT t = true) : Ev (fun k=>spec_KidsOf.f k t g) (kidP t g):=by
 refine Ev.bind (Ev.const (show spec_validGroup.f t g = some (vG t g) by rw [spec_validGroup.f,if_pos hs])) ?_
 unfold kidP
 cases hv : vG t g with
 | false=>exact Ev.neg (by simp) (Ev.const (by simp))
 | true =>
  obtain ⟨hT,he,h16,_⟩:=vG_tre hv
  exact Ev.pos rfl (Ev.bind (spec_kids_ev g (by omega) hT (fun p hp=>by have:=he p hp;omega)) (Ev.const (by simp)))
end Go.Proofs.Ytjdpaholpfpiiaa.P
namespace Go.Proofs.Ytjdpaholpfpiiaa.P
open Go.RowKit Go.Proofs.YtjdpaholpfpiiaaW.PrintWords Go.Proofs.YtjdpaholpfpiiaaW.PrintLast Go.Proofs.YtjdpaholpfpiiaaW.PrintMore
attribute [local go_sem] max2_int min2_int max_two min_two max_three min_three max_four min_four
set_option linter.unusedVariables false
set_option linter.unusedSimpArgs false
theorem at_rows {w : World} {A : Option Addr} {n : Nat} {xs : List (List (S35))} (h : Kd.C (Kd.slice 35 k35) w A n xs) (i : Nat) (hi : i < n) : ∃ ad A0 c0,A = some ad ∧ w.cell? (ad.add i) = some (.slice A0 (xs.getD i []).length c0) ∧ (xs.getD i []).length ≤ c0 ∧ k35.C w A0 (xs.getD i []).length (xs.getD i []):=by
 obtain ⟨ad,c,e,_,hK,hc0⟩:=Kd.C_get h ([] : List (S35)) (i : Int) (by omega) (by omega)
 have hc : ∀ j u,c[j]? = some u → w.cell? (ad.add (((i : Int)).toNat * 1 + j)) = some u:=hc0
 obtain ⟨A0,c0,rfl,l0,g0⟩:=hK
 have h1:=hc 0 _ rfl
 rw [Int.toNat_natCast,Nat.mul_one,Nat.add_zero] at h1
 exact ⟨ad,A0,c0,e,h1,l0,g0⟩
end Go.Proofs.Ytjdpaholpfpiiaa.P
namespace Go.Proofs.Ytjdpaholpfpiiaa.P
open Go.RowKit Go.Proofs.YtjdpaholpfpiiaaW.PrintWords Go.Proofs.YtjdpaholpfpiiaaW.PrintLast Go.Proofs.YtjdpaholpfpiiaaW.PrintMore
attribute [local go_sem] max2_int min2_int max_two min_two max_three min_three max_four min_four
set_option linter.unusedVariables false
set_option linter.unusedSimpArgs false
set_option maxHeartbeats 2000000 in
theorem slices_IndexFunc_sPart.callsF (A : Option Addr) (c : Nat) (l : List (List (S35))) (g : Nat) (lb : Array Value) (p : List (S35) → Bool) (w : World) (eg : ∀ args w,(callFunc g args).run Try.prog w = .ok (.enter g args) w)
  (hr : Kd.C (Kd.slice 35 k35) w A l.length l) (hc : l.length ≤ c) (hp : ∀ x,x ∈ l → ∀ (Ax : Option Addr) (cx : Nat) (W : World),Below w.heap.size w W → Kd.C k35 w Ax x.length x → x.length ≤ cx → Calls Try.prog g (#[.slice Ax x.length cx] ++ lb) W fun e w'=>e = .returned (.bool (p x)) ∧ Below W.heap.size W w') :
  Calls Try.prog 45 #[.slice A l.length c,.func (.func g) #[] lb] w fun e w'=>e = .returned (.int .i64 (idxP p l)) ∧ Below w.heap.size w w':=by
 have HR:=a0_ hr
 have HP:=a0_ hp
 have hmax : l.length ≤ 9223372036854775807:=hr.2.1
 clear hr hp hc
 go_enter Try.func45,Try.ntmps45
 go_wp2
 go_loopg [5,8] l.length (fun gg _ s8 wr=>∃ kk : Nat,kk ≤ l.length ∧ l.length - kk ≤ gg ∧ s8 = .int .i64 kk ∧ Aside0 (Below w.heap.size w wr) ∧ Aside0 (∀ j (hj : j < l.length),j < kk → p l[j] = false))
 case atStart=>exact ⟨0,Nat.zero_le _,by omega,rfl,⟨Below.refl _ w⟩,⟨fun j _ hj=>absurd hj (Nat.not_lt_zero _)⟩⟩
 case round =>
  obtain ⟨kk,hkk,hg,rfl,BW,HA⟩:=hrel
  by_cases hlt : kk < l.length
  ·have hltz : (kk : Int) < (l.length : Int):=by omega
   obtain ⟨ad,Ax,cx,ea,hx0,hlx,hcx⟩:=at_rows HR.out kk hlt
   cases ea
   have hrd : l.getD kk [] = l[kk]:=by simp [List.getD,hlt]
   rw [hrd] at hx0 hlx hcx
   replace hx0:=(BW.out.cell (World.block_lt_of_cell? w _ hx0)).trans hx0
   have hcall:=HP.out l[kk] (List.getElem_mem hlt) Ax cx wr BW.out hcx hlx
   clear hrd hcx hlx
   generalize hy : l[kk] = y at hx0 hcall
   have B:=a0_ hy
   clear hy
   cases hq : p y with
   | true =>
    rw [hq] at hcall
    go_wp2_with (go_at_fn g;refine hcall.mono ?_;rintro e w' ⟨rfl,hb'⟩)
    go_ret
    refine ⟨?_,below_step BW.out hb'⟩
    rw [idxP_hit p l kk hlt (by rw [B.out];exact hq) HA.out];rfl
   | false =>
    rw [hq] at hcall
    go_wp2_with (go_at_fn g;refine hcall.mono ?_;rintro e w' ⟨rfl,hb'⟩)
    go_roundg (l.length - (kk + 1))
    case measure=>omega
    case rel =>
     refine ⟨kk + 1,by omega,by omega,by go_num,⟨below_step BW.out hb'⟩,⟨fun j hj hjk=>?_⟩⟩
     by_cases e : j = kk
     ·subst e
      rw [B.out];exact hq
     ·exact HA.out j hj (by omega)
  ·have hltz : ¬ (kk : Int) < (l.length : Int):=by omega
   have : kk = l.length:=by omega
   subst this
   go_wp2
   go_ret
   refine ⟨?_,BW.out⟩
   rw [idxP_miss p l (fun j hj=>HA.out j hj hj)];rfl
end Go.Proofs.Ytjdpaholpfpiiaa.P
namespace Go.Proofs.Ytjdpaholpfpiiaa.P
open Go.RowKit Go.Proofs.YtjdpaholpfpiiaaW.PrintWords Go.Proofs.YtjdpaholpfpiiaaW.PrintLast Go.Proofs.YtjdpaholpfpiiaaW.PrintMore
attribute [local go_sem] max2_int min2_int max_two min_two max_three min_three max_four min_four
set_option linter.unusedVariables false
set_option linter.unusedSimpArgs false
set_option maxHeartbeats 2000000 in
theorem slices_ContainsFunc_sPart.callsF (A : Option Addr) (c : Nat) (l : List (List (S35))) (g : Nat) (lb : Array Value) (p : List (S35) → Bool) (w : World) (eg : ∀ args w,(callFunc g args).run Try.prog w = .ok (.enter g args) w)
  (hr : Kd.C (Kd.slice 35 k35) w A l.length l) (hc : l.length ≤ c) (hp : ∀ x,x ∈ l → ∀ (Ax : Option Addr) (cx : Nat) (W : World),Below w.heap.size w W → Kd.C k35 w Ax x.length x → x.length ≤ cx → Calls Try.prog g (#[.slice Ax x.length cx] ++ lb) W fun e w'=>e = .returned (.bool (p x)) ∧ Below W.heap.size W w') :
  Calls Try.prog 25 #[.slice A l.length c,.func (.func g) #[] lb] w fun e w'=>e = .returned (.bool (l.any p)) ∧ Below w.heap.size w w':=by
 have hcon:=slices_IndexFunc_sPart.callsF A c l g lb p w eg hr hc hp
 rw [← idxP_nonneg]
 clear eg hr hc hp
 generalize idxP p l = r at hcon ⊢
 go_enter Try.func25,Try.ntmps25
 go_wp2_with (go_at_call 45;refine hcon.mono ?_;rintro e w' ⟨rfl,hb'⟩)
 go_ret
 exact ⟨rfl,hb'⟩
end Go.Proofs.Ytjdpaholpfpiiaa.P
namespace Go.Proofs.Ytjdpaholpfpiiaa.P
open Go.RowKit Go.Proofs.YtjdpaholpfpiiaaW.PrintWords Go.Proofs.YtjdpaholpfpiiaaW.PrintLast Go.Proofs.YtjdpaholpfpiiaaW.PrintMore
attribute [local go_sem] max2_int min2_int max_two min_two max_three min_three max_four min_four
set_option linter.unusedVariables false
set_option linter.unusedSimpArgs false
set_option maxHeartbeats 2000000 in
theorem impl_WrapGroup_1.callsF (B : Nat) (A : Option Addr) (c : Nat) (t : List Cls) (Ax : Option Addr) (cx : Nat) (x : List Prt) (w : World) (hB : w.heap[B]? = some (.cells #[.slice A t.length c] 25 (0,0))) (hr : Kd.C k70 w A t.length t) (hc : t.length ≤ c) (hx : Kd.C k35 w Ax x.length x) (hcx : x.length ≤ cx) (hs : smT t = true) :
  Calls Try.prog 26 #[.slice Ax x.length cx,.pointer (some ⟨B,0,none⟩)] w fun e w'=>e = .returned (.bool (!vG t x)) ∧ Below w.heap.size w w':=by
 have hcell : w.cell? ⟨B,0,none⟩ = some (.slice A t.length c):=(blk_cell hB 0).trans rfl
 obtain ⟨kG,hkG⟩:=Ev.out (impl_ValidGroup_ev t x hr.2.1 hx.2.1 hs)
 have HG:=a0_ (impl_ValidGroup.calls kG A c t Ax cx x (vG t x) w hr hc hx hcx hkG)
 clear hB hr hx hs hkG
 generalize vG t x = r at HG ⊢
 go_enter Try.func26,Try.ntmps26
 go_wp2_with (go_at_call 17;refine HG.out.mono ?_;rintro e w' ⟨rfl,hb'⟩)
 go_ret
 exact ⟨rfl,hb'⟩
end Go.Proofs.Ytjdpaholpfpiiaa.P
namespace Go.Proofs.Ytjdpaholpfpiiaa.P
open Go.RowKit Go.Proofs.YtjdpaholpfpiiaaW.PrintWords Go.Proofs.YtjdpaholpfpiiaaW.PrintLast Go.Proofs.YtjdpaholpfpiiaaW.PrintMore
attribute [local go_sem] max2_int min2_int max_two min_two max_three min_three max_four min_four
set_option linter.unusedVariables false
set_option linter.unusedSimpArgs false
def slices_Clip_Part.f (l0 : List (S35)) : Option ((List (S35))):=if 0 ≤ (l0.length : Int) then (if (l0.length : Int) ≤ (l0.length : Int) then (some (l0.take ((l0.length : Int) : Int).toNat)) else (none)) else (none)
set_option maxHeartbeats 8000000 in
set_option maxRecDepth 100000 in
theorem slices_Clip_Part.calls (P0_ : Nat → Prop) (u9000_ : Value) (l0 : List (S35)) (r : List (S35)) (w0 w : World) (hB : Below w0.heap.size w0 w) (ho0 : Kd.R k35 35 w w0.heap.size P0_ u9000_ l0) (h : slices_Clip_Part.f l0 = some r) :
  Calls Try.prog 46 #[u9000_] w fun e w'=>∃ v0_ : Value,e = .returned (v0_) ∧ Kd.R k35 35 w' w0.heap.size (fun k_=>(P0_ k_ ∨ w.heap.size ≤ k_)) v0_ r ∧ Below w0.heap.size w0 w' ∧ Kept w w' (fun k_=>P0_ k_):=by
 have HO0:=a0_ (show Kd.R k35 35 w w0.heap.size (fun k_=>(P0_ k_ ∨ w.heap.size ≤ k_)) u9000_ l0 from Kd.R_mono ho0 (fun k_ hk=>(.inl hk)))
 have HK:=a0_ (Kept.refl w (fun k_=>P0_ k_))
 have HW0:=a0_ hB.size
 have HB:=a0_ hB
 clear hB
 have H : (if 0 ≤ (l0.length : Int) then (if (l0.length : Int) ≤ (l0.length : Int) then (some (l0.take ((l0.length : Int) : Int).toNat)) else (none)) else (none)) = some r:=h
 clear h
 by_cases c2 : 0 ≤ (l0.length : Int)
 ·rw [if_pos c2] at H
  have c2b0:=eq_true c2
  have c2b1 : decide (0 ≤ (l0.length : Int)) = true:=decide_eq_true c2
  clear c2
  by_cases c3 : (l0.length : Int) ≤ (l0.length : Int)
  ·rw [if_pos c3] at H
   have c3b0:=eq_true c3
   have c3b1 : decide ((l0.length : Int) ≤ (l0.length : Int)) = true:=decide_eq_true c3
   clear c3
   obtain ⟨y1,hy1⟩ : ∃ y_ : List (S35),y_ = (l0.take ((l0.length : Int) : Int).toNat):=⟨_,rfl⟩
   replace H : (some y1) = some r:=by first | (rw [hy1];with_reducible exact H) | (have H2_:=(Option.bind_some _ _).symm.trans H;rw [hy1];with_reducible exact H2_) | (have H2_:=(Option.bind_some _ _).symm.trans H;with_reducible exact H2_) | with_reducible exact H | (rw [hy1];exact H) | exact H
   have Ny1:=a0_ hy1
   clear hy1
   obtain rfl:=Option.some.inj H
   obtain ⟨Ao4,co4,eo4⟩:=Kd.R_slice HO0.out
   subst eo4
   have q5 : l0.length ≤ co4:=(Kd.R_reads' HO0.out).2.1
   have hr5:=Kd.R_clip2 HO0.out (((l0.length : Int) : Int).toNat) (by omega)
   rw [← Ny1.out] at hr5
   clear HO0
   have HO3:=a0_ hr5
   clear hr5
   go_enter Try.func46,Try.ntmps46
   go_wp2
   go_ret
   exact ⟨_,by first | rfl | (simp [errW_none,errW_some] <;> rfl) | (simp [*,errW_none,errW_some] <;> rfl),by (with_reducible repeat (first | apply Kd.R_alloc | apply Kd.R_drewN | apply Kd.R_drew));exact HO3.out,hb_,by repeat (first | (with_reducible first | exact HK.out | apply Kept.alloc | apply Kept.drewN | apply Kept.drew) | exact HK.out)⟩
  ·rw [if_neg c3] at H
   exact absurd H (by simp)
 ·rw [if_neg c2] at H
  exact absurd H (by simp)
theorem slices_Clip_Part_ev (l : List Prt) : slices_Clip_Part.f l = some l:=by
 unfold slices_Clip_Part.f
 rw [if_pos (by omega),if_pos (by omega)]
 simp
end Go.Proofs.Ytjdpaholpfpiiaa.P
namespace Go.Proofs.Ytjdpaholpfpiiaa.P
open Go.RowKit Go.Proofs.YtjdpaholpfpiiaaW.PrintWords Go.Proofs.YtjdpaholpfpiiaaW.PrintLast Go.Proofs.YtjdpaholpfpiiaaW.PrintMore
attribute [local go_sem] max2_int min2_int max_two min_two max_three min_three max_four min_four
set_option linter.unusedVariables false
set_option linter.unusedSimpArgs false
def impl_wrapped.l0 : Nat → List (S35) → List (List (S35)) → Int → Int → Option ((List (S35)))
 | 0,_,_,_,_=>none
 | k + 1,x5,x11,x12,x13=>if x13 < x12 then (if 0 ≤ x13 then (if x13 < (x11.length : Int) then ((impl_deeper.f k (rd_L8 x11 x13) 1).bind fun t5=>(if x5.length + t5.length < 4398046511104 then (impl_wrapped.l0 k (x5 ++ t5) x11 x12 (wrap64 (x13 + 1))) else (none))) else (none)) else (none)) else ((slices_Clip_Part.f x5).bind fun t11=>(some t11))
def impl_wrapped.f (k : Nat) (l0 : List (List (S35))) (a1 : Int) : Option ((List (S35))):=impl_wrapped.l0 k (([(⟨0,true,0,a1⟩ : S35)] : List (S35))) l0 (l0.length : Int) 0
theorem impl_wrapped.mono_l : ∀ k,(∀ y0 y1 y2 y3,LeO (impl_wrapped.l0 k y0 y1 y2 y3) (impl_wrapped.l0 (k + 1) y0 y1 y2 y3))
 | 0=>fun _ _ _ _ r h=>by simp [impl_wrapped.l0] at h
 | k + 1=>by
  have ih0:=impl_wrapped.mono_l k
  ·intro y0 y1 y2 y3
   unfold impl_wrapped.l0
   repeat' first
   | (with_reducible exact ih0 _ _ _ _)
   | (with_reducible exact impl_deeper.mono _ _ _)
   | (with_reducible exact LeO.refl _)
   | (with_reducible exact LeO.none _)
   | (with_reducible refine LeO.ite ?_ ?_)
   | (with_reducible refine LeO.bind ?_ (fun _=>?_))
   | exact ih0 _ _ _ _
   | exact impl_deeper.mono _ _ _
   | exact LeO.none _
   | refine LeO.ite ?_ ?_
   | refine LeO.bind ?_ (fun _=>?_)
theorem impl_wrapped.mono : ∀ a0 a1 k,LeO (impl_wrapped.f k a0 a1) (impl_wrapped.f (k + 1) a0 a1):=by
 intro a0 a1 k
 have ih0:=impl_wrapped.mono_l k
 unfold impl_wrapped.f
 repeat' first
   | (with_reducible exact ih0 _ _ _ _)
   | (with_reducible exact impl_deeper.mono _ _ _)
   | (with_reducible exact LeO.refl _)
   | (with_reducible exact LeO.none _)
   | (with_reducible refine LeO.ite ?_ ?_)
   | (with_reducible refine LeO.bind ?_ (fun _=>?_))
   | exact ih0 _ _ _ _
   | exact impl_deeper.mono _ _ _
   | exact LeO.none _
   | refine LeO.ite ?_ ?_
   | refine LeO.bind ?_ (fun _=>?_)
set_option maxHeartbeats 8000000 in
set_option maxRecDepth 100000 in
theorem impl_wrapped.calls (k : Nat) (A0 : Option Addr) (c0 : Nat) (l0 : List (List (S35))) (a1 : Int) (r : List (S35)) (w : World) (hr0 : Kd.C (Kd.slice 35 k35) w A0 l0.length l0) (hc0 : l0.length ≤ c0) (h : impl_wrapped.f k l0 a1 = some r) :
  Calls Try.prog 27 #[.slice A0 l0.length c0,.int .i64 a1] w fun e w'=>∃ v0_ : Value,e = .returned (v0_) ∧ Kd.R k35 35 w' w.heap.size (fun _=>True) v0_ r ∧ Below w.heap.size w w':=by
 have hu35:=Try.underlying35
 have HR0:=a0_ hr0
 have HC0:=a0_ hc0
 clear hr0 hc0
 have HB:=a0_ (Below.refl w.heap.size w)
 have H : (impl_wrapped.l0 k (([(⟨0,true,0,a1⟩ : S35)] : List (S35))) l0 (l0.length : Int) 0) = some r:=h
 clear h
 obtain ⟨y1,hy1⟩ : ∃ y_ : List (S35),y_ = (([(⟨0,true,0,a1⟩ : S35)] : List (S35))):=⟨_,rfl⟩
 replace H : (impl_wrapped.l0 k y1 l0 (l0.length : Int) 0) = some r:=by first | (rw [hy1];with_reducible exact H) | (have H2_:=(Option.bind_some _ _).symm.trans H;rw [hy1];with_reducible exact H2_) | (have H2_:=(Option.bind_some _ _).symm.trans H;with_reducible exact H2_) | with_reducible exact H | (rw [hy1];exact H) | exact H
 have Ny1:=a0_ hy1
 clear hy1
 have H':=a0_ H
 clear H
 go_enter Try.func27,Try.ntmps27
 go_wp2_with (first | ((with_reducible refine gate_dst (N:=10) rfl ?_);refine Kd.R_lit k35 _ 35 ?hg (N:=10) ?hd (xs:=([(⟨0,true,0,a1⟩ : S35)] : List (S35))) (inner:=[.int .i64 0,.bool true,.int .i64 0,.int .i64 a1]) (ok:=fun _=>True) (okp:=fun _=>True) ?hr ?hp (fun _ hk=>hk) trivial (Below.refl _ _) (Nat.le_refl _) (by simp) ?_;(case hd=>rfl);(case hg=>rfl);(case hr=>first | (go_simp;done) | (go_simp;rfl));(case hp=>exact (Reps.c4 (show Kd.M k35 _ _ _ (⟨0,true,0,a1⟩ : S35) [.int .i64 0,.bool true,.int .i64 0,.int .i64 a1] from (k35_mkM _ _ _ (⟨0,true,0,a1⟩ : S35) )) (Reps.none _ _)));intro v2 w3 ho4 hb hg_ hnew_;clear hg_ hnew_;(first | rw [← Ny1.out] at ho4 | (simp only [Int.reduceToNat] at ho4;rw [← Ny1.out] at ho4));have HO3:=a0_ (Kd.R_lower ho4 (below_size hb_));replace HB:=a0_ (below_step hb_ hb);clear hb ho4))
 go_loopg [5,13] k (fun kq v5 v13 w'=>∃ (x5_1 : List (S35)) (x13_1 : Int),v13 = .int .i64 x13_1 ∧ Aside0 (impl_wrapped.l0 kq x5_1 l0 (l0.length : Int) x13_1 = some r) ∧ Aside0 (kq ≤ k) ∧ Aside0 (Kd.R k35 35 w' w.heap.size (fun _=>True) v5 x5_1) ∧ Aside0 (Below w.heap.size w w'))
 case atStart=>exact ⟨(y1),(0),(by first | rfl | (simp;done) | (simp [*];done)),H',⟨Nat.le_refl _⟩,⟨by (with_reducible repeat (first | apply Kd.R_alloc | apply Kd.R_drewN | apply Kd.R_drew));exact HO3.out⟩,⟨hb_⟩⟩
 case round =>
  clear H'
  try clear c2
  try clear p2
  try clear c4
  obtain ⟨x5_1,x13_1,rfl,HA,HK1,HO_5,HB⟩:=hrel
  cases gk with
  | zero=>exact absurd HA.out (by simp [impl_wrapped.l0])
  | succ k1 =>
   have H:=HA.out
   clear HA
   simp only [impl_wrapped.l0] at H
   by_cases c5 : x13_1 < (l0.length : Int)
   ·rw [if_pos c5] at H
    have c5b0 : decide (x13_1 < (l0.length : Int)) = true:=decide_eq_true c5
    clear c5
    by_cases c6 : 0 ≤ x13_1
    ·rw [if_pos c6] at H
     have c6b0 : decide (0 ≤ x13_1) = true:=decide_eq_true c6
     clear c6
     by_cases c7 : x13_1 < (l0.length : Int)
     ·rw [if_pos c7] at H
      have c7b0 : decide (x13_1 < (l0.length : Int)) = true:=decide_eq_true c7
      clear c7
      replace H:=Option.bind_eq_some_iff.mp H
      obtain ⟨t5,A80,H⟩:=H
      try dsimp only at H
      have A8:=a0_ A80
      clear A80
      by_cases c9 : x5_1.length + t5.length < 4398046511104
      ·rw [if_pos c9] at H
       have LMc9:=a0_ c9
       clear c9
       obtain ⟨y8,hy8⟩ : ∃ y_ : List (S35),y_ = (x5_1 ++ t5):=⟨_,rfl⟩
       replace H : (impl_wrapped.l0 k1 y8 l0 (l0.length : Int) (wrap64 (x13_1 + 1))) = some r:=by first | (rw [hy8];with_reducible exact H) | (have H2_:=(Option.bind_some _ _).symm.trans H;rw [hy8];with_reducible exact H2_) | (have H2_:=(Option.bind_some _ _).symm.trans H;with_reducible exact H2_) | with_reducible exact H | (rw [hy8];exact H) | exact H
       have Ny8:=a0_ hy8
       clear hy8
       have H':=a0_ H
       clear H
       have p4 : 0 ≤ (x13_1 : Int):=of_decide_eq_true (by first | (with_reducible assumption) | assumption)
       have q4 : x13_1 < (l0.length : Int):=of_decide_eq_true (by first | (with_reducible assumption) | assumption)
       obtain ⟨ad4,A4_0,c4_0,e4,hx4_0,hl4_0,hi4_0⟩:=at_L8 HR0.out x13_1 p4 q4
       cases e4
       replace hx4_0:=(HB.out.cell (World.block_lt_of_cell? w _ hx4_0)).trans hx4_0
       have HR4_0:=a0_ hi4_0
       have HC4_0:=a0_ hl4_0
       clear hi4_0 hl4_0
       replace p4:=eq_true p4
       replace q4:=eq_true q4
       go_wp2_with (first | ((with_reducible refine gate_callee (f:=39) rfl ?_);refine goesL_ (some 19) rfl rfl Try.func39 (by kernel_rfl) rfl #[.slice A4_0 (rd_L8 l0 x13_1).length c4_0,.int .i64 1] rfl lm_ ?_;(with_reducible refine (impl_deeper.calls k1 _ _ (rd_L8 l0 x13_1) 1 t5 _ ?side1 ?side2 A8.out).mono ?_);(case side1=>exact cc_ (Kd.C_below HR4_0.out HB.out));(case side2=>exact HC4_0.out);rintro e w10 ⟨v6,rfl,ho0,hb⟩;refine ⟨_,rfl,?_⟩;have n0_:=a0_ (Kd.R_elder' (rr_ HO_5.out) (Kd.R_base ho0) hb);have n1_:=a0_ (Kd.R_lower (Kd.R_new' ho0 (Kd.R_lt (rr_ HO_5.out))) (below_size hb_));have n2_:=a0_ (below_step hb_ hb);clear HO_5 HB;have HO_5:=n0_;have HO7:=n1_;have HB:=n2_;clear n0_ n1_ n2_;(try clear hb);(try clear ho0);obtain ⟨Ao12,co12,eo12⟩:=Kd.R_slice HO7.out;subst eo12) | ((with_reducible refine gate_builtin (b:=.append) (xs:=#[.tmp 17,.tmp 19]) rfl ?_);at_builtin;refine Kd.R_append_rows k35 (w0:=w) w.heap.size rfl (.tmp 17) (.tmp 19) 26 35 (.agg #[(.int .i64 0),(.bool false),(.int .i64 0),(.int .i64 0)]) 32 rfl Try.underlying26 info35 rfl (by decide) (by omega) u5 x5_1 t5 _ _ _ (fun k_=>some k_ ≠ (.slice Ao12 t5.length co12 : Value).ownBlock) (fun _=>False) rfl rfl ?aO ?aR (fun _ _ h=>h) (fun _ h=>h.elim) ?aF ?aB ?aS ?aL ?_;(case aR=>exact cc_ (Kd.R_reads' HO7.out).2.2);(case aB=>exact hb_);(case aF=>exact (fun k_ hk=>Kd.fresh' (Kd.R_lt (rr_ HO7.out)) k_ hk));(case aO=>exact (rm_ HO_5.out (fun _ hk=>hk.2)));(case aS=>exact (below_size hb_));(case aL=>have:=LMc9.out;omega);intro v9 w11 ho hb hg hat;rw [← Ny8.out] at ho;replace HO7:=a0_ (Kd.R_after (ok:=(fun _=>True)) (rr_ HO7.out) hg hat);have HO10:=a0_ (ho);replace HB:=a0_ (hb);clear HO_5;clear ho hb hg hat))
       go_roundg k1
       case measure=>have:=HK1.out;omega
       case rel=>exact ⟨(y8),(wrap64 (x13_1 + 1)),(by first | rfl | (simp;done) | (simp [*];done)),H',⟨by have:=HK1.out;omega⟩,⟨by (with_reducible repeat (first | apply Kd.R_alloc | apply Kd.R_drewN | apply Kd.R_drew));exact Kd.R_mono HO10.out (fun _ hk=>trivial)⟩,⟨hb_⟩⟩
      ·rw [if_neg c9] at H
       exact absurd H (by simp)
     ·rw [if_neg c7] at H
      exact absurd H (by simp)
    ·rw [if_neg c6] at H
     exact absurd H (by simp)
   ·rw [if_neg c5] at H
    have c5b0 : decide (x13_1 < (l0.length : Int)) = false:=decide_eq_false c5
    clear c5
    replace H:=Option.bind_eq_some_iff.mp H
    obtain ⟨t11,A130,H⟩:=H
    replace H : (some t11) = some r:=H
    have A13:=a0_ A130
    clear A130
    obtain rfl:=Option.some.inj H
    obtain ⟨Ao14,co14,eo14⟩:=Kd.R_slice HO_5.out
    subst eo14
    go_wp2_with (first | ((with_reducible refine gate_callee (f:=46) rfl ?_);refine goesL_ (some 23) rfl rfl Try.func46 (by kernel_rfl) rfl #[.slice Ao14 x5_1.length co14] rfl lm_ ?_;(with_reducible refine (slices_Clip_Part.calls (fun k_=>some k_ = (.slice Ao14 x5_1.length co14 : Value).ownBlock) (.slice Ao14 x5_1.length co14) x5_1 t11 w _ ?side1 ?side2 A13.out).mono ?_);(case side1=>exact hb_);(case side2=>exact Kd.R_tight rfl HO_5.out);rintro e w15 ⟨v12,rfl,ho0,hb,hkp⟩;refine ⟨_,rfl,?_⟩;have HO13:=a0_ (Kd.R_mono (ok':=fun k_=>True) ho0 (fun k_ hk_=>trivial));replace HB:=a0_ (hb);clear HO_5;(try clear hb);(try clear hkp);(try clear ho0)))
    go_ret
    exact ⟨_,by first | rfl | (simp [errW_none,errW_some] <;> rfl) | (simp [*,errW_none,errW_some] <;> rfl),by (with_reducible repeat (first | apply Kd.R_alloc | apply Kd.R_drewN | apply Kd.R_drew));exact HO13.out,hb_⟩
theorem impl_wrapped_ev (l : List (List Prt)) (c : Int) (hl : l.length ≤ 1000) (hx : ∀ x ∈ l,x.length ≤ 1000 ∧ ∀ p ∈ x,-1000000 ≤ p.f0 ∧ p.f0 ≤ 1000000) : Ev (fun k=>impl_wrapped.f k l c) (wraL l c):=by
 have key : ∀ n j,j + n = l.length → Ev (fun k=>impl_wrapped.l0 k (wraL (l.take j) c) l (l.length : Int) (j : Int)) (wraL l c):=by
  intro n
  induction n with
  | zero =>
   intro j hj
   refine Ev.succ ?_
   simp only [impl_wrapped.l0]
   rw [List.take_of_length_le (by omega)]
   exact Ev.neg (by omega) (Ev.bind (Ev.const (slices_Clip_Part_ev _)) (Ev.const rfl))
  | succ n ih =>
   intro j hj
   refine Ev.succ ?_
   have hlt : j < l.length:=by omega
   have hb:=hx l[j] (List.getElem_mem _)
   have hi:=ih (j + 1) (by omega)
   have e : wraL (l.take (j + 1)) c = wraL (l.take j) c ++ dpr 1 l[j]:=by
    rw [List.take_succ_eq_append_getElem hlt]
    unfold wraL
    rw [List.map_append,List.flatten_append]
    simp only [List.map_cons,List.map_nil,List.flatten_cons,List.flatten_nil,List.append_nil,List.cons_append]
   rw [e] at hi
   have h2:=flat_len (dpr 1) (dpr_len 1) (l.take j)
   have h3:=flat_le 1000 (l.take j) (fun x hm=>(hx x (List.mem_of_mem_take hm)).1)
   have h4 : (wraL (l.take j) c).length ≤ 1 + 1000 * 1000:=by
    unfold wraL
    rw [List.length_cons,h2]
    rw [List.length_take] at h3
    have : 1000 * min j l.length ≤ 1000 * 1000:=Nat.mul_le_mul_left _ (by omega)
    omega
   have hm : l.getD ((j : Int)).toNat [] = l[j]:=by simp [List.getD,hlt]
   have hD:=impl_deeper_ev l[j] 1 (by omega) (by omega) hb.2
   rw [← hm] at hD
   have h5 : (dpr 1 (l.getD ((j : Int)).toNat [])).length ≤ 1000:=by rw [dpr_len,hm];exact hb.1
   rw [← hm] at hi
   simp only [impl_wrapped.l0]
   rw [wrap_succ (i:=(j : Int)) (n:=l.length) (by omega) (by omega) (by omega)]
   exact Ev.pos (by omega) (Ev.pos (by omega) (Ev.pos (by omega) (Ev.bind hD (Ev.pos (by omega) hi))))
 exact key l.length 0 (by omega)
end Go.Proofs.Ytjdpaholpfpiiaa.P
namespace Go.Proofs.Ytjdpaholpfpiiaa.P
open Go.RowKit Go.Proofs.YtjdpaholpfpiiaaW.PrintWords Go.Proofs.YtjdpaholpfpiiaaW.PrintLast Go.Proofs.YtjdpaholpfpiiaaW.PrintMore
attribute [local go_sem] max2_int min2_int max_two min_two max_three min_three max_four min_four
set_option linter.unusedVariables false
set_option linter.unusedSimpArgs false
def impl_WrapGroup.f (l0_0 : List Cls) (l1 : List (List (S35))) (a2 : Int) : Option (List Prt × Bool):=if smT l0_0 = true then some (wraP l0_0 l1 a2) else none
set_option maxHeartbeats 4000000 in
set_option maxRecDepth 100000 in
theorem impl_WrapGroup.calls (A0_0 : Option Addr) (c0_0 : Nat) (l0_0 : List (S70)) (A1 : Option Addr) (c1 : Nat) (l1 : List (List (S35))) (a2 : Int) (r1 : List (S35)) (r2 : Bool) (w : World) (hr0_0 : Kd.C k70 w A0_0 l0_0.length l0_0) (hc0_0 : l0_0.length ≤ c0_0) (hr1 : Kd.C (Kd.slice 35 k35) w A1 l1.length l1) (hc1 : l1.length ≤ c1) (h : impl_WrapGroup.f l0_0 l1 a2 = some (r1,r2)) :
  Calls Try.prog 10 #[.agg #[.slice A0_0 l0_0.length c0_0],.slice A1 l1.length c1,.int .i64 a2] w fun e w'=>∃ v0_ : Value,e = .returned (.tuple #[v0_,.bool r2]) ∧ Kd.R k35 35 w' w.heap.size (fun _=>True) v0_ r1 ∧ Below w.heap.size w w':=by
 have hu31:=Try.underlying25
 have hsm : smT l0_0 = true:=by
  apply Classical.byContradiction
  intro hn
  rw [impl_WrapGroup.f,if_neg hn] at h
  cases h
 rw [impl_WrapGroup.f,if_pos hsm] at h
 have hR:=Option.some.inj h
 clear h
 have eg : ∀ args w,(callFunc 26 args).run Try.prog w = .ok (.enter 26 args) w:=enters_of Try.func26 (by kernel_rfl) rfl
 have BK:=a0_ (heap_new1 w (.cells #[.slice A0_0 l0_0.length c0_0] 25))
 have HB:=a0_ (below1 w (.cells #[.slice A0_0 l0_0.length c0_0] 25))
 have hcell:=(blk_cell BK.out 0).trans rfl
 have HC:=a0_ (fun (W : World) (hb : Below w.heap.size w W) (hB : W.heap[w.heap.size]? = some (.cells #[.slice A0_0 l0_0.length c0_0] 25 (0,0)))=>slices_ContainsFunc_sPart.callsF A1 c1 l1 26 #[.pointer (some ⟨w.heap.size,0,none⟩)] (fun x=>!vG l0_0 x) W eg (Kd.C_below hr1 hb) hc1 (fun x _ Ax cx W' hW hx hcx=>impl_WrapGroup_1.callsF w.heap.size A0_0 c0_0 l0_0 Ax cx x W' (blk_keptB hB hW) (Kd.C_below (Kd.C_below hr0_0 hb) hW) hc0_0 (Kd.C_below hx hW) hcx hsm))
 have eall : l1.all (vG l0_0) = !(l1.any fun x=>!vG l0_0 x):=List.all_eq_not_any_not
 have HW:=a0_ (fun (kW : Nat) (hkW : impl_wrapped.f kW l1 a2 = some (wraL l1 a2)) (W : World) (hb : Below w.heap.size w W)=>impl_wrapped.calls kW A1 c1 l1 a2 (wraL l1 a2) W (Kd.C_below hr1 hb) hc1 hkW)
 have HG:=a0_ (fun (kG : Nat) (hkG : impl_ValidGroup.f kG l0_0 (wraL l1 a2) = some (vG l0_0 (wraL l1 a2))) (A : Option Addr) (c : Nat) (W : World) (hb : Below w.heap.size w W) (hr : Kd.C k35 W A (wraL l1 a2).length (wraL l1 a2)) (hc : (wraL l1 a2).length ≤ c)=>impl_ValidGroup.calls kG A0_0 c0_0 l0_0 A c (wraL l1 a2) (vG l0_0 (wraL l1 a2)) W (Kd.C_below hr0_0 hb) hc0_0 hr hc hkG)
 have hmax:=hr1.2.1
 have htl:=hr0_0.2.1
 clear hr0_0 hr1 eg
 by_cases h16 : l1.length ≤ 16
 ·have hz16 : ¬ (16 : Int) < (l1.length : Int):=by omega
  cases hq : (l1.any fun x=>!vG l0_0 x) with
  | true =>
   rw [hq] at HC eall
   rw [wraP_no (by rw [eall];simp)] at hR
   obtain ⟨rfl,rfl⟩:=Prod.mk.inj hR
   clear hR HW HG eall hq
   go_enter Try.func10,Try.ntmps10
   go_wp2_with (go_at_call 25;refine (HC.out _ HB.out BK.out).mono ?_;rintro e w2 ⟨rfl,hb2⟩)
   go_ret2
   exact ⟨_,rfl,Kd.R_nil _ _ _ _ _,below_step HB.out hb2⟩
  | false =>
   rw [hq] at HC eall
   have hall : ∀ x ∈ l1,vG l0_0 x = true:=List.all_eq_true.1 eall
   obtain ⟨kW,hkW⟩:=Ev.out (impl_wrapped_ev l1 a2 (by omega) (fun x hx=>⟨by have:=(vG_tree (hall x hx)).2.2;omega,fun p hp=>by
    have:=(vG_tre (hall x hx)).2.1 p hp
    omega⟩))
   have HW2:=a0_ (HW.out kW hkW)
   have hwl : (wraL l1 a2).length ≤ 9223372036854775807:=by
    unfold wraL
    rw [List.length_cons,flat_len (dpr 1) (dpr_len 1) l1]
    have:=flat_le 16 l1 (fun x hx=>(vG_tree (hall x hx)).2.2)
    have : 16 * l1.length ≤ 16 * 16:=Nat.mul_le_mul_left _ h16
    omega
   obtain ⟨kG,hkG⟩:=Ev.out (impl_ValidGroup_ev l0_0 (wraL l1 a2) htl hwl hsm)
   have HG2:=a0_ (HG.out kG hkG)
   have hcases:=fun hv : vG l0_0 (wraL l1 a2) = true=>wraP_yes (by rw [eall];rfl) hv
   have hcasen:=fun hv : vG l0_0 (wraL l1 a2) = false=>wraP_no (t:=l0_0) (l:=l1) (c:=a2) (by rw [hv];simp)
   clear HW HG hkW hkG hall eall hwl
   generalize wraL l1 a2 = y at HW2 HG2 hcases hcasen
   cases hv : vG l0_0 y with
   | true =>
    rw [hcases hv] at hR
    rw [hv] at HG2
    obtain ⟨rfl,rfl⟩:=Prod.mk.inj hR
    clear hR hcases hcasen hv hq
    go_enter Try.func10,Try.ntmps10
    go_wp2_with (first
     | (go_at_call 25;refine (HC.out _ HB.out BK.out).mono ?_;rintro e w2 ⟨rfl,hb2⟩;replace BK:=a0_ (blk_keptB BK.out hb2);replace HB:=a0_ (below_step HB.out hb2);clear hb2 hcell;have hcell:=(blk_cell BK.out 0).trans rfl)
     | (go_at_call 27;refine (HW2.out _ HB.out).mono ?_;rintro e w3 ⟨v3,rfl,ho3,hb3⟩;obtain ⟨A3,c3,e3⟩:=Kd.R_slice ho3;subst e3;have HO3:=a0_ (Kd.R_lower ho3 (below_size HB.out));replace BK:=a0_ (blk_keptB BK.out hb3);replace HB:=a0_ (below_step HB.out hb3);clear ho3 hb3 hcell;have hcell:=(blk_cell BK.out 0).trans rfl)
     | (go_at_call 17;refine (HG2.out A3 c3 _ HB.out (Kd.R_reads' HO3.out).2.2 (Kd.R_reads' HO3.out).2.1).mono ?_;rintro e w4 ⟨rfl,hb4⟩;replace HO3:=a0_ (Kd.R_below HO3.out hb4);replace HB:=a0_ (below_step HB.out hb4);clear hb4))
    go_ret2
    exact ⟨_,rfl,HO3.out,HB.out⟩
   | false =>
    rw [hcasen hv] at hR
    rw [hv] at HG2
    obtain ⟨rfl,rfl⟩:=Prod.mk.inj hR
    clear hR hcases hcasen hv hq
    go_enter Try.func10,Try.ntmps10
    go_wp2_with (first
     | (go_at_call 25;refine (HC.out _ HB.out BK.out).mono ?_;rintro e w2 ⟨rfl,hb2⟩;replace BK:=a0_ (blk_keptB BK.out hb2);replace HB:=a0_ (below_step HB.out hb2);clear hb2 hcell;have hcell:=(blk_cell BK.out 0).trans rfl)
     | (go_at_call 27;refine (HW2.out _ HB.out).mono ?_;rintro e w3 ⟨v3,rfl,ho3,hb3⟩;obtain ⟨A3,c3,e3⟩:=Kd.R_slice ho3;subst e3;have HO3:=a0_ (Kd.R_lower ho3 (below_size HB.out));replace BK:=a0_ (blk_keptB BK.out hb3);replace HB:=a0_ (below_step HB.out hb3);clear ho3 hb3 hcell;have hcell:=(blk_cell BK.out 0).trans rfl)
     | (go_at_call 17;refine (HG2.out A3 c3 _ HB.out (Kd.R_reads' HO3.out).2.2 (Kd.R_reads' HO3.out).2.1).mono ?_;rintro e w4 ⟨rfl,hb4⟩;replace HO3:=a0_ (Kd.R_below HO3.out hb4);replace HB:=a0_ (below_step HB.out hb4);clear hb4))
    go_ret2
    exact ⟨_,rfl,Kd.R_nil _ _ _ _ _,HB.out⟩
 ·have hz16 : (16 : Int) < (l1.length : Int):=by omega
  rw [wraP_many (by omega)] at hR
  obtain ⟨rfl,rfl⟩:=Prod.mk.inj hR
  clear hR HW HG HC eall
  go_enter Try.func10,Try.ntmps10
  go_wp2
  go_ret2
  exact ⟨_,rfl,Kd.R_nil _ _ _ _ _,HB.out⟩
theorem impl_WrapGroup_ev (t : List Cls) (l : List (List Prt)) (c : Int) (hs : smT t = true) : impl_WrapGroup.f t l c = some (wraP t l c):=by rw [impl_WrapGroup.f,if_pos hs]
end Go.Proofs.Ytjdpaholpfpiiaa.P
namespace Go.Proofs.Ytjdpaholpfpiiaa.P
open Go.RowKit Go.Proofs.YtjdpaholpfpiiaaW.PrintWords Go.Proofs.YtjdpaholpfpiiaaW.PrintLast Go.Proofs.YtjdpaholpfpiiaaW.PrintMore
attribute [local go_sem] max2_int min2_int max_two min_two max_three min_three max_four min_four
set_option linter.unusedVariables false
set_option linter.unusedSimpArgs false
def laws_FnKidsOf.j0 : Nat → List (S35) → List (List (S35)) → Bool → List (S70) → Option (Bool)
 | 0,_,_,_,_=>none
 | k + 1,x4,x5,x29,x8000=>if x29 = true then ((spec_KidsOf.f k x8000 x4).bind fun t15=>((laws_equalGroups.f k x5 t15).bind fun t18=>(some t18))) else (if 0 < (x4.length : Int) then ((impl_WrapGroup.f x8000 x5 ((rd_T35 x4 0).f3)).bind fun bt20=>(if bt20.2 = true then ((laws_equalGroup.f k bt20.1 x4).bind fun t24=>(some t24)) else (some false))) else (none))
def laws_FnKidsOf.f (k : Nat) (l0 : List Int) : Option (Bool):=if (l0.length : Int) > 1048576 then (some true) else ((spec_DrawKidsOf.f k l0).bind fun bt1=>((impl_KidsOf.f k bt1.1 bt1.2).bind fun t8=>((spec_KidsOf.f k bt1.1 bt1.2).bind fun t11=>((laws_equalGroups.f k t8 t11).bind fun t14=>(if t14 = true then (laws_FnKidsOf.j0 k bt1.2 t8 ((t8.length : Int) == 0) bt1.1) else (laws_FnKidsOf.j0 k bt1.2 t8 true bt1.1))))))
theorem laws_FnKidsOf.mono_l : ∀ k,(∀ y0 y1 y2 y3,LeO (laws_FnKidsOf.j0 k y0 y1 y2 y3) (laws_FnKidsOf.j0 (k + 1) y0 y1 y2 y3))
 | 0=>fun _ _ _ _ r h=>by simp [laws_FnKidsOf.j0] at h
 | k + 1=>by
  have ih0:=laws_FnKidsOf.mono_l k
  ·intro y0 y1 y2 y3
   unfold laws_FnKidsOf.j0
   repeat' first
   | (with_reducible exact ih0 _ _ _ _)
   | (with_reducible exact impl_KidsOf.mono _ _ _)
   | (with_reducible exact laws_equalGroup.mono _ _ _)
   | (with_reducible exact laws_equalGroups.mono _ _ _)
   | (with_reducible exact spec_DrawKidsOf.mono _ _)
   | (with_reducible exact spec_KidsOf.mono _ _ _)
   | (with_reducible exact LeO.refl _)
   | (with_reducible exact LeO.none _)
   | (with_reducible refine LeO.ite ?_ ?_)
   | (with_reducible refine LeO.bind ?_ (fun _=>?_))
   | exact ih0 _ _ _ _
   | exact impl_KidsOf.mono _ _ _
   | exact laws_equalGroup.mono _ _ _
   | exact laws_equalGroups.mono _ _ _
   | exact spec_DrawKidsOf.mono _ _
   | exact spec_KidsOf.mono _ _ _
   | exact LeO.none _
   | refine LeO.ite ?_ ?_
   | refine LeO.bind ?_ (fun _=>?_)
theorem laws_FnKidsOf.mono : ∀ a0 k,LeO (laws_FnKidsOf.f k a0) (laws_FnKidsOf.f (k + 1) a0):=by
 intro a0 k
 have ih0:=laws_FnKidsOf.mono_l k
 unfold laws_FnKidsOf.f
 repeat' first
   | (with_reducible exact ih0 _ _ _ _)
   | (with_reducible exact impl_KidsOf.mono _ _ _)
   | (with_reducible exact laws_equalGroup.mono _ _ _)
   | (with_reducible exact laws_equalGroups.mono _ _ _)
   | (with_reducible exact spec_DrawKidsOf.mono _ _)
   | (with_reducible exact spec_KidsOf.mono _ _ _)
   | (with_reducible exact LeO.refl _)
   | (with_reducible exact LeO.none _)
   | (with_reducible refine LeO.ite ?_ ?_)
   | (with_reducible refine LeO.bind ?_ (fun _=>?_))
   | exact ih0 _ _ _ _
   | exact impl_KidsOf.mono _ _ _
   | exact laws_equalGroup.mono _ _ _
   | exact laws_equalGroups.mono _ _ _
   | exact spec_DrawKidsOf.mono _ _
   | exact spec_KidsOf.mono _ _ _
   | exact LeO.none _
   | refine LeO.ite ?_ ?_
   | refine LeO.bind ?_ (fun _=>?_)
def laws_FnKidsOf.T7 : Bool × List (List Nat × List Nat):=(true,[([],[]),([],[]),([],[]),([2],[2]),([3],[3]),([4],[4]),([0,1,5],[0,1,5]),([6],[6]),([7],[7]),([7],[7]),([8,6,0,1,2,3,4,5,6,7,8],[8]),([9,10,0,1,2,3,4,5,6,7,8,9,10],[9])])
def laws_FnKidsOf.B7 : List Nat:=[0,0,0,4,12,28,63,127,255,255,511,2047]
theorem laws_FnKidsOf.tab7 : rtab .any (opsOf Try.f3 7) = laws_FnKidsOf.T7:=by kernel_rfl
theorem laws_FnKidsOf.bits7 : waitsOk laws_FnKidsOf.T7.2 laws_FnKidsOf.B7 = true:=by kernel_rfl
set_option maxHeartbeats 8000000 in
set_option maxRecDepth 100000 in
theorem laws_FnKidsOf.calls (k : Nat) (A0 : Option Addr) (c0 : Nat) (l0 : List Int) (r : Bool) (w : World) (hr0 : Kd.C (Kd.int .u8) w A0 l0.length l0) (hc0 : l0.length ≤ c0) (h : laws_FnKidsOf.f k l0 = some r) :
  Calls Try.prog 3 #[.slice A0 l0.length c0] w fun e w'=>e = .returned (.bool r) ∧ Below w.heap.size w w':=by
 have hu25:=Try.underlying25
 have HR0:=a0_ hr0
 have HC0:=a0_ hc0
 clear hr0 hc0
 have HB:=a0_ (Below.refl w.heap.size w)
 have H : (if (l0.length : Int) > 1048576 then (some true) else ((spec_DrawKidsOf.f k l0).bind fun bt1=>((impl_KidsOf.f k bt1.1 bt1.2).bind fun t8=>((spec_KidsOf.f k bt1.1 bt1.2).bind fun t11=>((laws_equalGroups.f k t8 t11).bind fun t14=>(if t14 = true then (laws_FnKidsOf.j0 k bt1.2 t8 ((t8.length : Int) == 0) bt1.1) else (laws_FnKidsOf.j0 k bt1.2 t8 true bt1.1))))))) = some r:=h
 clear h
 by_cases c2 : (l0.length : Int) > 1048576
 ·rw [if_pos c2] at H
  have c2b0 : decide (1048576 < (l0.length : Int)) = true:=decide_eq_true c2
  have c2b1 : decide (1048576 < l0.length) = true:=decide_eq_true (by omega)
  clear c2
  obtain rfl:=Option.some.inj H
  go_enter Try.func3,Try.ntmps3
  go_wp2
  go_ret
  exact ⟨by first | rfl | (simp [errW_none,errW_some] <;> rfl) | (simp [*,errW_none,errW_some] <;> rfl),hb_⟩
 ·rw [if_neg c2] at H
  have c2b0 : decide (1048576 < (l0.length : Int)) = false:=decide_eq_false c2
  have c2b1 : decide (1048576 < l0.length) = false:=decide_eq_false (by omega)
  clear c2
  replace H:=Option.bind_eq_some_iff.mp H
  obtain ⟨⟨t1,t4⟩,A30,H⟩:=H
  try dsimp only at H
  have A3:=a0_ A30
  clear A30
  replace H:=Option.bind_eq_some_iff.mp H
  obtain ⟨t8,A40,H⟩:=H
  try dsimp only at H
  have A4:=a0_ A40
  clear A40
  have HC5:=a0_ H
  clear H
  go_enter Try.func3,Try.ntmps3
  go_upto_region 5 with (first | ((with_reducible refine gate_callee (f:=6) rfl ?_);refine goesL_ (some 13) rfl rfl Try.func6 (by kernel_rfl) rfl #[.slice A0 l0.length c0] rfl lm_ ?_;(with_reducible refine (spec_DrawKidsOf.calls k _ _ l0 t1 t4 _ ?side1 ?side2 A3.out).mono ?_);(case side1=>repeat (first | exact HR0.out | (with_reducible refine Kd.C_alloc ?_ _) | (with_reducible refine Kd.C_drewN ?_ _) | (with_reducible refine Kd.C_drew ?_)));(case side2=>exact HC0.out);rintro e w6 ⟨v2,v5,rfl,ho0,ho1,hb⟩;refine ⟨_,rfl,?_⟩;have HO3:=a0_ (Kd.R_lower ho0 (below_size hb_));have HO6:=a0_ (Kd.R_lower ho1 (below_size hb_));replace HB:=a0_ (below_step hb_ hb);(try clear hb);(try clear ho0);(try clear ho1)) | ((with_reducible refine gate_dst (N:=3) rfl ?_);(try (refine gate_guard (by rfl) ?_;dsimp only));refine box_event ?hg (N:=3) ?hd (cs:=#[.slice none 0 0]) (t:=25) ?hr ?_;(case hd=>rfl);(case hg=>rfl);(case hr=>first | (go_simp;done) | (go_simp;rfl));intro gb7 hg w7 hbox hb;replace HO3:=rb_ HO3 hb;replace HO6:=rb_ HO6 hb;have BK7:=a0_ (hbox);have GW7:=a0_ ((by rw [hg];exact (below_size hb_) : w.heap.size ≤ gb7));have GE7:=a0_ ((by rw [hg];exact (below_size hb_) : w.heap.size ≤ gb7));replace HB:=a0_ (below_step hb_ hb);clear hb hbox hg;obtain ⟨Ao8,co8,eo8⟩:=Kd.R_slice HO3.out;subst eo8;have hcz9_0 : w7.cell? ⟨gb7,0,none⟩ = some (.slice none 0 0):=(blk_cell BK7.out 0).trans rfl;have hfz9_0:=blk_frozen BK7.out 0;obtain ⟨Ao10,co10,eo10⟩:=Kd.R_slice HO6.out;subst eo10) | ((with_reducible refine gate_callee (f:=7) rfl ?_);refine goesL_ (some 18) rfl rfl Try.func7 (by kernel_rfl) rfl #[.agg #[.slice Ao8 t1.length co8],.slice Ao10 t4.length co10] rfl lm_ ?_;(with_reducible refine (impl_KidsOf.calls k _ _ t1 _ _ t4 t8 _ ?side1 ?side2 ?side3 ?side4 A4.out).mono ?_);(case side1=>refine (Kd.R_reads' (e:=70) (base:=w.heap.size) (ok:=fun k_=>True) (n:=t1.length) (c:=co8) ?_).2.2;exact (by (with_reducible repeat (first | apply Kd.R_alloc | apply Kd.R_drewN | apply Kd.R_drew));exact (Kd.R_mono (Kd.R_far (p:=⟨gb7,0,none⟩) (Kd.R_types HO3.out BK7.out (by decide)) (fun _ hk=>hk.2) (.slice Ao8 t1.length co8)) (fun _ h_=>h_.1))));(case side2=>exact (Kd.R_reads' HO3.out).2.1);(case side3=>refine (Kd.R_reads' (e:=35) (base:=w.heap.size) (ok:=fun k_=>True) (n:=t4.length) (c:=co10) ?_).2.2;exact (by (with_reducible repeat (first | apply Kd.R_alloc | apply Kd.R_drewN | apply Kd.R_drew));exact (Kd.R_mono (Kd.R_far (p:=⟨gb7,0,none⟩) (Kd.R_types HO6.out BK7.out (by decide)) (fun _ hk=>hk.2) (.slice Ao8 t1.length co8)) (fun _ h_=>h_.1))));(case side4=>exact (Kd.R_reads' HO6.out).2.1);rintro e w11 ⟨v9,rfl,ho0,hb⟩;refine ⟨_,rfl,?_⟩;have n0_:=a0_ (Kd.R_below (by (with_reducible repeat (first | apply Kd.R_alloc | apply Kd.R_drewN | apply Kd.R_drew));exact (Kd.R_mono (Kd.R_far (p:=⟨gb7,0,none⟩) (Kd.R_types HO3.out BK7.out (by decide)) (fun _ hk=>hk.2) (.slice Ao8 t1.length co8)) (fun _ h_=>h_.1))) hb);have n1_:=a0_ (Kd.R_below (by (with_reducible repeat (first | apply Kd.R_alloc | apply Kd.R_drewN | apply Kd.R_drew));exact (Kd.R_mono (Kd.R_far (p:=⟨gb7,0,none⟩) (Kd.R_types HO6.out BK7.out (by decide)) (fun _ hk=>hk.2) (.slice Ao8 t1.length co8)) (fun _ h_=>h_.1))) hb);have n2_:=a0_ (Kd.S_lower (Kd.S_new' ho0 (Kd.R_lt (by (with_reducible repeat (first | apply Kd.R_alloc | apply Kd.R_drewN | apply Kd.R_drew));exact (Kd.R_mono (Kd.R_far (p:=⟨gb7,0,none⟩) (Kd.R_types HO6.out BK7.out (by decide)) (fun _ hk=>hk.2) (.slice Ao8 t1.length co8)) (fun _ h_=>h_.1))))) (below_size hb_));have n3_:=a0_ (blk_below (g:=gb7) (o:=.cells #[.slice Ao8 t1.length co8] 25 (0,0)) (by (with_reducible repeat (first | refine blk_drewN ?_ _ | refine blk_drew ?_ | refine blk_alloc ?_ _));refine blk_put (cs:=#[.slice none 0 0]) ?_ 0 _ rfl;(with_reducible repeat (first | refine blk_drewN ?_ _ | refine blk_drew ?_ | refine blk_alloc ?_ _));exact BK7.out) hb);have n4_:=a0_ (below_step hb_ hb);clear HO3 HO6;clear BK7 HB;have HO3:=n0_;have HO6:=n1_;have HO10:=n2_;have BK7:=n3_;have HB:=n4_;clear n0_ n1_ n2_ n3_ n4_;(try clear hb);(try clear ho0)))
  (try simp only [Act.put,s1_,s2_,s3_])
  go_cut [29] (fun v29 wc=>∃ (kq : Nat) (x29_4 : Bool),v29 = .bool x29_4 ∧ Aside0 (laws_FnKidsOf.j0 kq t4 t8 x29_4 t1 = some r) ∧ Aside0 (kq ≤ k) ∧ Aside0 (Kd.R k35 35 wc w.heap.size (fun _=>True) (.slice Ao10 t4.length co10) t4) ∧ Aside0 (Kd.S (Kd.slice 35 k35) 26 wc w.heap.size (fun k_=>some k_ ≠ ((.slice Ao10 t4.length co10) : Value).ownBlock) v9 t8) ∧ Aside0 (Kd.R k70 70 wc w.heap.size (fun _=>True) (.slice Ao8 t1.length co8) t1) ∧ Aside0 (wc.heap[gb7]? = some (.cells #[(.slice Ao8 t1.length co8)] 25 (0,0))) ∧ Aside0 (Below w.heap.size w wc))
  case first =>
   have H:=HC5.out
   clear HC5
   replace H:=Option.bind_eq_some_iff.mp H
   obtain ⟨t11,A120,H⟩:=H
   try dsimp only at H
   have A12:=a0_ A120
   clear A120
   replace H:=Option.bind_eq_some_iff.mp H
   obtain ⟨t14,A130,H⟩:=H
   try dsimp only at H
   have A13:=a0_ A130
   clear A130
   by_cases c14 : t14 = true
   ·subst c14
    have H1 : (laws_FnKidsOf.j0 k t4 t8 ((t8.length : Int) == 0) t1) = some r:=by rw [if_pos rfl] at H;exact H
    clear H
    have H:=H1
    clear H1
    have H':=a0_ H
    clear H
    have hcz15_0 : w11.cell? ⟨gb7,0,none⟩ = some (.slice Ao8 t1.length co8):=(blk_cell BK7.out 0).trans rfl
    have hfz15_0:=blk_frozen BK7.out 0
    go_wp2_with (first | ((with_reducible refine gate_callee (f:=9) rfl ?_);refine goesL_ (some 22) rfl rfl Try.func9 (by kernel_rfl) rfl #[.agg #[.slice Ao8 t1.length co8],.slice Ao10 t4.length co10] rfl lm_ ?_;(with_reducible refine (spec_KidsOf.calls k _ _ t1 _ _ t4 t11 _ ?side1 ?side2 ?side3 ?side4 A12.out).mono ?_);(case side1=>exact cc_ (Kd.R_reads' HO3.out).2.2);(case side2=>exact (Kd.R_reads' HO3.out).2.1);(case side3=>exact cc_ (Kd.R_reads' HO6.out).2.2);(case side4=>exact (Kd.R_reads' HO6.out).2.1);rintro e w16 ⟨v12,rfl,ho0,hb⟩;refine ⟨_,rfl,?_⟩;have n0_:=rb_ HO3 hb;have n1_:=rb_ HO6 hb;have n2_:=a0_ (Kd.S_elder' (by (with_reducible repeat (first | apply Kd.S_alloc | apply Kd.S_drewN | apply Kd.S_drew));exact HO10.out) (Kd.S_base ho0) hb);have n3_:=a0_ (Kd.S_lower (Kd.S_new' (Kd.S_new' ho0 (Kd.R_lt (rr_ HO6.out))) (Kd.S_lt (by (with_reducible repeat (first | apply Kd.S_alloc | apply Kd.S_drewN | apply Kd.S_drew));exact HO10.out))) (below_size hb_));have n4_:=kb_ BK7 hb;have n5_:=a0_ (below_step hb_ hb);clear HO3 HO6;clear HO10 BK7 HB;have HO3:=n0_;have HO6:=n1_;have HO10:=n2_;have HO13:=n3_;have BK7:=n4_;have HB:=n5_;clear n0_ n1_ n2_ n3_ n4_ n5_;(try clear hb);(try clear ho0);obtain ⟨Ao17,co17,eo17⟩:=Kd.S_slice HO10.out;subst eo17;obtain ⟨Ao18,co18,eo18⟩:=Kd.S_slice HO13.out;subst eo18) | ((with_reducible refine gate_callee (f:=8) rfl ?_);refine goesL_ (some 23) rfl rfl Try.func8 (by kernel_rfl) rfl #[.slice Ao17 t8.length co17,.slice Ao18 t11.length co18] rfl lm_ ?_;(with_reducible refine (laws_equalGroups.calls k _ _ t8 _ _ t11 true _ ?side1 ?side2 ?side3 ?side4 A13.out).mono ?_);(case side1=>repeat (first | exact (Kd.S_reads' HO10.out).2.2 | (with_reducible refine Kd.C_alloc ?_ _) | (with_reducible refine Kd.C_drewN ?_ _) | (with_reducible refine Kd.C_drew ?_)));(case side2=>exact (Kd.S_reads' HO10.out).2.1);(case side3=>repeat (first | exact (Kd.S_reads' HO13.out).2.2 | (with_reducible refine Kd.C_alloc ?_ _) | (with_reducible refine Kd.C_drewN ?_ _) | (with_reducible refine Kd.C_drew ?_)));(case side4=>exact (Kd.S_reads' HO13.out).2.1);rintro e w' ⟨rfl,⟨nd,rfl⟩⟩;refine ⟨_,rfl,?_⟩))
    go_meet
    case rel=>exact ⟨_,(((t8.length : Int) == 0)),(by first | rfl | (simp;done) | (simp [*];done)),H',⟨by first | omega | exact Nat.le_refl _⟩,⟨by (with_reducible repeat (first | apply Kd.R_alloc | apply Kd.R_drewN | apply Kd.R_drew));exact HO6.out⟩,⟨by (with_reducible repeat (first | apply Kd.S_alloc | apply Kd.S_drewN | apply Kd.S_drew));exact Kd.S_mono HO10.out (fun _ hk=>hk.1.2)⟩,⟨by (with_reducible repeat (first | apply Kd.R_alloc | apply Kd.R_drewN | apply Kd.R_drew));exact HO3.out⟩,⟨by (with_reducible repeat (first | refine blk_drewN ?_ _ | refine blk_drew ?_ | refine blk_alloc ?_ _));exact BK7.out⟩,⟨hb_⟩⟩
   ·replace c14:=Bool.eq_false_iff.mpr c14
    subst c14
    have H1 : (laws_FnKidsOf.j0 k t4 t8 true t1) = some r:=by rw [if_neg (show ¬ (false = true) by decide)] at H;exact H
    clear H
    have H:=H1
    clear H1
    have H':=a0_ H
    clear H
    have hcz19_0 : w11.cell? ⟨gb7,0,none⟩ = some (.slice Ao8 t1.length co8):=(blk_cell BK7.out 0).trans rfl
    have hfz19_0:=blk_frozen BK7.out 0
    go_wp2_with (first | ((with_reducible refine gate_callee (f:=9) rfl ?_);refine goesL_ (some 22) rfl rfl Try.func9 (by kernel_rfl) rfl #[.agg #[.slice Ao8 t1.length co8],.slice Ao10 t4.length co10] rfl lm_ ?_;(with_reducible refine (spec_KidsOf.calls k _ _ t1 _ _ t4 t11 _ ?side1 ?side2 ?side3 ?side4 A12.out).mono ?_);(case side1=>exact cc_ (Kd.R_reads' HO3.out).2.2);(case side2=>exact (Kd.R_reads' HO3.out).2.1);(case side3=>exact cc_ (Kd.R_reads' HO6.out).2.2);(case side4=>exact (Kd.R_reads' HO6.out).2.1);rintro e w20 ⟨v12,rfl,ho0,hb⟩;refine ⟨_,rfl,?_⟩;have n0_:=rb_ HO3 hb;have n1_:=rb_ HO6 hb;have n2_:=a0_ (Kd.S_elder' (by (with_reducible repeat (first | apply Kd.S_alloc | apply Kd.S_drewN | apply Kd.S_drew));exact HO10.out) (Kd.S_base ho0) hb);have n3_:=a0_ (Kd.S_lower (Kd.S_new' (Kd.S_new' ho0 (Kd.R_lt (rr_ HO6.out))) (Kd.S_lt (by (with_reducible repeat (first | apply Kd.S_alloc | apply Kd.S_drewN | apply Kd.S_drew));exact HO10.out))) (below_size hb_));have n4_:=kb_ BK7 hb;have n5_:=a0_ (below_step hb_ hb);clear HO3 HO6;clear HO10 BK7 HB;have HO3:=n0_;have HO6:=n1_;have HO10:=n2_;have HO13:=n3_;have BK7:=n4_;have HB:=n5_;clear n0_ n1_ n2_ n3_ n4_ n5_;(try clear hb);(try clear ho0);obtain ⟨Ao21,co21,eo21⟩:=Kd.S_slice HO10.out;subst eo21;obtain ⟨Ao22,co22,eo22⟩:=Kd.S_slice HO13.out;subst eo22) | ((with_reducible refine gate_callee (f:=8) rfl ?_);refine goesL_ (some 23) rfl rfl Try.func8 (by kernel_rfl) rfl #[.slice Ao21 t8.length co21,.slice Ao22 t11.length co22] rfl lm_ ?_;(with_reducible refine (laws_equalGroups.calls k _ _ t8 _ _ t11 false _ ?side1 ?side2 ?side3 ?side4 A13.out).mono ?_);(case side1=>repeat (first | exact (Kd.S_reads' HO10.out).2.2 | (with_reducible refine Kd.C_alloc ?_ _) | (with_reducible refine Kd.C_drewN ?_ _) | (with_reducible refine Kd.C_drew ?_)));(case side2=>exact (Kd.S_reads' HO10.out).2.1);(case side3=>repeat (first | exact (Kd.S_reads' HO13.out).2.2 | (with_reducible refine Kd.C_alloc ?_ _) | (with_reducible refine Kd.C_drewN ?_ _) | (with_reducible refine Kd.C_drew ?_)));(case side4=>exact (Kd.S_reads' HO13.out).2.1);rintro e w' ⟨rfl,⟨nd,rfl⟩⟩;refine ⟨_,rfl,?_⟩))
    go_meet
    case rel=>exact ⟨_,(true),(by first | rfl | (simp;done) | (simp [*];done)),H',⟨by first | omega | exact Nat.le_refl _⟩,⟨by (with_reducible repeat (first | apply Kd.R_alloc | apply Kd.R_drewN | apply Kd.R_drew));exact HO6.out⟩,⟨by (with_reducible repeat (first | apply Kd.S_alloc | apply Kd.S_drewN | apply Kd.S_drew));exact Kd.S_mono HO10.out (fun _ hk=>hk.1.2)⟩,⟨by (with_reducible repeat (first | apply Kd.R_alloc | apply Kd.R_drewN | apply Kd.R_drew));exact HO3.out⟩,⟨by (with_reducible repeat (first | refine blk_drewN ?_ _ | refine blk_drew ?_ | refine blk_alloc ?_ _));exact BK7.out⟩,⟨hb_⟩⟩
  case rest =>
   clear HC5
   try clear c1
   try clear c2
   try clear c2b0
   try clear c2b1
   try clear p2
   try clear c3
   try clear c6
   try clear c7
   try clear c8
   try clear c9
   try clear c14
   try clear hcz15_0
   try clear hcz19_0
   try clear hcz9_0
   try clear hfz15_0
   try clear hfz19_0
   try clear hfz9_0
   obtain ⟨kq,x29_4,rfl,HA,HJ4,HO_4,HO_5,Z8,BK7,HB⟩:=hcut
   cases kq with
   | zero=>exact absurd HA.out (by simp [laws_FnKidsOf.j0])
   | succ kj4 =>
    have H:=HA.out
    clear HA
    simp only [laws_FnKidsOf.j0] at H
    by_cases c23 : x29_4 = true
    ·subst c23
     have H1 : ((spec_KidsOf.f kj4 t1 t4).bind fun t15=>((laws_equalGroups.f kj4 t8 t15).bind fun t18=>(some t18))) = some r:=by rw [if_pos rfl] at H;exact H
     clear H
     have H:=H1
     clear H1
     replace H:=Option.bind_eq_some_iff.mp H
     obtain ⟨t15,A240,H⟩:=H
     try dsimp only at H
     have A24:=a0_ A240
     clear A240
     replace H:=Option.bind_eq_some_iff.mp H
     obtain ⟨t18,A250,H⟩:=H
     replace H : (some t18) = some r:=H
     have A25:=a0_ A250
     clear A250
     obtain rfl:=Option.some.inj H
     have hcz26_0 : wc.cell? ⟨gb7,0,none⟩ = some (.slice Ao8 t1.length co8):=(blk_cell BK7.out 0).trans rfl
     have hfz26_0:=blk_frozen BK7.out 0
     go_wp2_with (first | ((with_reducible refine gate_callee (f:=9) rfl ?_);refine goesL_ (some 33) rfl rfl Try.func9 (by kernel_rfl) rfl #[.agg #[.slice Ao8 t1.length co8],.slice Ao10 t4.length co10] rfl lm_ ?_;(with_reducible refine (spec_KidsOf.calls kj4 _ _ t1 _ _ t4 t15 _ ?side1 ?side2 ?side3 ?side4 A24.out).mono ?_);(case side1=>exact cc_ (Kd.R_reads' Z8.out).2.2);(case side2=>exact (Kd.R_reads' Z8.out).2.1);(case side3=>exact cc_ (Kd.R_reads' HO_4.out).2.2);(case side4=>exact (Kd.R_reads' HO_4.out).2.1);rintro e w27 ⟨v16,rfl,ho0,hb⟩;refine ⟨_,rfl,?_⟩;have n0_:=rb_ HO_4 hb;have n1_:=a0_ (Kd.S_elder' (by (with_reducible repeat (first | apply Kd.S_alloc | apply Kd.S_drewN | apply Kd.S_drew));exact HO_5.out) (Kd.S_base ho0) hb);have n2_:=rb_ Z8 hb;have n3_:=a0_ (Kd.S_lower (Kd.S_new' (Kd.S_new' ho0 (Kd.R_lt (rr_ HO_4.out))) (Kd.S_lt (by (with_reducible repeat (first | apply Kd.S_alloc | apply Kd.S_drewN | apply Kd.S_drew));exact HO_5.out))) (below_size hb_));have n4_:=kb_ BK7 hb;have n5_:=a0_ (below_step hb_ hb);clear HO_4 HO_5;clear Z8 BK7 HB;have HO_4:=n0_;have HO_5:=n1_;have Z8:=n2_;have HO17:=n3_;have BK7:=n4_;have HB:=n5_;clear n0_ n1_ n2_ n3_ n4_ n5_;(try clear hb);(try clear ho0);obtain ⟨Ao28,co28,eo28⟩:=Kd.S_slice HO_5.out;subst eo28;obtain ⟨Ao29,co29,eo29⟩:=Kd.S_slice HO17.out;subst eo29) | ((with_reducible refine gate_callee (f:=8) rfl ?_);refine goesL_ (some 34) rfl rfl Try.func8 (by kernel_rfl) rfl #[.slice Ao28 t8.length co28,.slice Ao29 t15.length co29] rfl lm_ ?_;(with_reducible refine (laws_equalGroups.calls kj4 _ _ t8 _ _ t15 t18 _ ?side1 ?side2 ?side3 ?side4 A25.out).mono ?_);(case side1=>repeat (first | exact (Kd.S_reads' HO_5.out).2.2 | (with_reducible refine Kd.C_alloc ?_ _) | (with_reducible refine Kd.C_drewN ?_ _) | (with_reducible refine Kd.C_drew ?_)));(case side2=>exact (Kd.S_reads' HO_5.out).2.1);(case side3=>repeat (first | exact (Kd.S_reads' HO17.out).2.2 | (with_reducible refine Kd.C_alloc ?_ _) | (with_reducible refine Kd.C_drewN ?_ _) | (with_reducible refine Kd.C_drew ?_)));(case side4=>exact (Kd.S_reads' HO17.out).2.1);rintro e w' ⟨rfl,⟨nd,rfl⟩⟩;refine ⟨_,rfl,?_⟩))
     go_ret
     exact ⟨by first | rfl | (simp [errW_none,errW_some] <;> rfl) | (simp [*,errW_none,errW_some] <;> rfl),hb_⟩
    ·replace c23:=Bool.eq_false_iff.mpr c23
     subst c23
     have H1 : (if 0 < (t4.length : Int) then ((impl_WrapGroup.f t1 t8 ((rd_T35 t4 0).f3)).bind fun bt20=>(if bt20.2 = true then ((laws_equalGroup.f kj4 bt20.1 t4).bind fun t24=>(some t24)) else (some false))) else (none)) = some r:=by rw [if_neg (show ¬ (false = true) by decide)] at H;exact H
     clear H
     have H:=H1
     clear H1
     by_cases c30 : 0 < (t4.length : Int)
     ·rw [if_pos c30] at H
      have c30b0 : decide (0 < (t4.length : Int)) = true:=decide_eq_true c30
      have c30b1 : decide (0 < t4.length) = true:=decide_eq_true (by omega)
      clear c30
      replace H:=Option.bind_eq_some_iff.mp H
      obtain ⟨⟨t20,t23⟩,A310,H⟩:=H
      try dsimp only at H
      have A31:=a0_ A310
      clear A310
      by_cases c32 : t23 = true
      ·subst c32
       have H1 : ((laws_equalGroup.f kj4 t20 t4).bind fun t24=>(some t24)) = some r:=by rw [if_pos rfl] at H;exact H
       clear H
       have H:=H1
       clear H1
       replace H:=Option.bind_eq_some_iff.mp H
       obtain ⟨t24,A330,H⟩:=H
       replace H : (some t24) = some r:=H
       have A33:=a0_ A330
       clear A330
       obtain rfl:=Option.some.inj H
       try go_wp2
       have n0_:=a0_ (Kd.R_drew HO_4.out)
       have n1_:=a0_ (Kd.S_drew HO_5.out)
       have n2_:=a0_ (Kd.R_drew Z8.out)
       have n3_:=a0_ (blk_drew BK7.out)
       have n4_:=a0_ (below_drew1 HB.out)
       clear HO_4
       clear HO_5
       clear Z8
       clear BK7
       clear HB
       have HO_4:=n0_
       have HO_5:=n1_
       have Z8:=n2_
       have BK7:=n3_
       have HB:=n4_
       clear n0_ n1_ n2_ n3_ n4_
       have p19 : 0 ≤ (0 : Int):=(by omega)
       have q19 : 0 < (t4.length : Int):=of_decide_eq_true (by first | (with_reducible assumption) | assumption)
       obtain ⟨ad19,e19,hx19_0,hx19_1,hx19_2,hx19_3⟩:=at_T35 (Kd.R_reads' HO_4.out).2.2 0 p19 q19
       cases e19
       have qi19 : (0 < t4.length) = True:=eq_true (by omega)
       (try rw [show ((0 : Int)).toNat = 0 from rfl] at hx19_0)
       (try rw [show 0 * 4 = 0 from rfl] at hx19_0)
       (try rw [Addr.add_zero'] at hx19_0)
       (try rw [show ((0 : Int)).toNat = 0 from rfl] at hx19_1)
       (try rw [show 0 * 4 = 0 from rfl] at hx19_1)
       (try rw [Addr.add_zero'] at hx19_1)
       (try rw [show ((0 : Int)).toNat = 0 from rfl] at hx19_2)
       (try rw [show 0 * 4 = 0 from rfl] at hx19_2)
       (try rw [Addr.add_zero'] at hx19_2)
       (try rw [show ((0 : Int)).toNat = 0 from rfl] at hx19_3)
       (try rw [show 0 * 4 = 0 from rfl] at hx19_3)
       (try rw [Addr.add_zero'] at hx19_3)
       replace p19:=eq_true p19
       replace q19:=eq_true q19
       obtain ⟨Ao35,co35,eo35⟩:=Kd.S_slice HO_5.out
       (first | subst eo35 | (injection eo35 with f1_ f2_ f3_;have f4_:=f1_.symm;have f5_:=f3_.symm;clear f1_ f2_ f3_;subst f4_;subst f5_))
       refine start_ (n:=12) (S:=fun w'=>w'.cell? ⟨gb7,0,none⟩ = some (.slice Ao8 t1.length co8) ∧ w'.cell? ad19 = some (.int .i64 ((rd_T35 t4 0).f0)) ∧ w'.cell? ⟨ad19.block,ad19.off + 1,none⟩ = some (.bool ((rd_T35 t4 0).f1)) ∧ w'.cell? ⟨ad19.block,ad19.off + 2,none⟩ = some (.int .i64 ((rd_T35 t4 0).f2)) ∧ w'.cell? ⟨ad19.block,ad19.off + 3,none⟩ = some (.int .i64 ((rd_T35 t4 0).f3))) (ds:=[]) #[false,false,false,false,false,false,false,false,false,false,false,false] (by kernel_rfl) rfl rfl ⟨(blk_cell BK7.out 0).trans rfl,hx19_0,hx19_1,hx19_2,hx19_3⟩ (fun hHeld=>?_);refine with_tabW laws_FnKidsOf.tab7 laws_FnKidsOf.bits7 (fun HT_ HW_=>?_)
       generalize wc.drew = w34 at HO_4 HO_5 Z8 BK7 HB hx19_0 hx19_1 hx19_2 hx19_3 hHeld ⊢
       refine pure_ (i:=1) (N:=some 37) (v:=?_) (a':=?_) #[false,true,false,false,false,false,false,false,false,false,false,false] rfl rfl (any_of HT_.out (by kernel_rfl)) (fun _ _ _ h=>h) (Or.inl ⟨by rfl,?_⟩) ?_ ?_
       rotate_left
       ·intro w'
        go_simp
        with_reducible rfl
       rotate_left
       ·simp only [Act.put,s1_,s2_,s3_,i64_w,i32_w]
        rfl
       refine pure_ (i:=2) (N:=some 38) (v:=?_) (a':=?_) #[false,true,true,false,false,false,false,false,false,false,false,false] rfl rfl (any_of HT_.out (by kernel_rfl)) (fun _ _ _ h=>h) (Or.inl ⟨by rfl,?_⟩) ?_ ?_
       rotate_left
       ·intro w'
        go_simp
        with_reducible rfl
       rotate_left
       ·simp only [Act.put,s1_,s2_,s3_,i64_w,i32_w]
        rfl
       refine pure_ (i:=3) (N:=some 39) (v:=?_) (a':=?_) #[false,true,true,true,false,false,false,false,false,false,false,false] rfl rfl (any_of HT_.out (by kernel_rfl)) (fun _ _ _ h=>h) (Or.inl ⟨by rfl,?_⟩) ?_ ?_
       rotate_left
       ·intro w'
        go_simp
        with_reducible rfl
       rotate_left
       ·simp only [Act.put,s1_,s2_,s3_,i64_w,i32_w]
        rfl
       refine pure_ (i:=4) (N:=some 40) (v:=?_) (a':=?_) #[false,true,true,true,true,false,false,false,false,false,false,false] rfl rfl (any_of HT_.out (by kernel_rfl)) (fun _ _ _ h=>h) (Or.inl ⟨by rfl,?_⟩) ?_ ?_
       rotate_left
       ·intro w'
        go_simp
        with_reducible rfl
       rotate_left
       ·simp only [Act.put,s1_,s2_,s3_,i64_w,i32_w]
        rfl
       refine take_ (i:=0) (N:=some 36) (v:=?_) (a':=?_) #[true,true,true,true,true,false,false,false,false,false,false,false] rfl rfl (take_ofW HT_.out HW_.out (by kernel_rfl)) (fun _ _ _ h=>h) (Or.inl ⟨by rfl,?_⟩) hHeld ?_ ?_
       rotate_left
       ·rintro w' ⟨s0,s1,s2,s3,s4⟩
        go_simp
        with_reducible rfl
       rotate_left
       ·simp only [Act.put,s1_,s2_,s3_,i64_w,i32_w]
        rfl
       refine take_ (i:=5) (N:=some 41) (v:=?_) (a':=?_) #[true,true,true,true,true,true,false,false,false,false,false,false] rfl rfl (take_ofW HT_.out HW_.out (by kernel_rfl)) (fun _ _ _ h=>h) (Or.inl ⟨by rfl,?_⟩) hHeld ?_ ?_
       rotate_left
       ·rintro w' ⟨s0,s1,s2,s3,s4⟩
        go_simp
        with_reducible rfl
       rotate_left
       ·simp only [Act.put,s1_,s2_,s3_,i64_w,i32_w]
        rfl
       refine one_ (i:=6) (N:=some 42) #[true,true,true,true,true,true,true,false,false,false,false,false] rfl rfl (one_of HT_.out (by kernel_rfl)) (by decide) (fun K hK=>?_)
       refine goes_ Try.func10 (by kernel_rfl) rfl #[.agg #[.slice Ao8 t1.length co8],.slice Ao35 t8.length co35,.int .i64 ((rd_T35 t4 0).f3)] (by rfl) rfl rfl lm_ ?_
       with_reducible refine (impl_WrapGroup.calls _ _ t1 _ _ t8 ((rd_T35 t4 0).f3) t20 true _ ?side1 ?side2 ?side3 ?side4 A31.out).mono ?_
       (case side1=>exact cc_ (Kd.R_reads' Z8.out).2.2)
       (case side2=>exact (Kd.R_reads' Z8.out).2.1)
       (case side3=>repeat (first | exact (Kd.S_reads' HO_5.out).2.2 | (with_reducible refine Kd.C_alloc ?_ _) | (with_reducible refine Kd.C_drewN ?_ _) | (with_reducible refine Kd.C_drew ?_)))
       (case side4=>exact (Kd.S_reads' HO_5.out).2.1)
       rintro e w36 ⟨v21,rfl,ho0,hb⟩
       have HS1_:=(hb.cell (World.block_lt_of_cell? _ _ (hHeld.2.1))).trans (hHeld.2.1)
       have HS2_:=(hb.cell (World.block_lt_of_cell? _ _ (hHeld.2.2.1))).trans (hHeld.2.2.1)
       have HS3_:=(hb.cell (World.block_lt_of_cell? _ _ (hHeld.2.2.2.1))).trans (hHeld.2.2.2.1)
       have HS4_:=(hb.cell (World.block_lt_of_cell? _ _ (hHeld.2.2.2.2))).trans (hHeld.2.2.2.2)
       refine ⟨_,rfl,?_⟩
       have n0_:=a0_ (Kd.R_elder' (rr_ HO_4.out) (Kd.R_base ho0) hb)
       have n1_:=a0_ (Kd.S_elder' (by (with_reducible repeat (first | apply Kd.S_alloc | apply Kd.S_drewN | apply Kd.S_drew));exact HO_5.out) (Kd.R_base ho0) hb)
       have n2_:=rb_ Z8 hb
       have n3_:=a0_ (Kd.R_lower (Kd.R_new' ho0 (Kd.R_lt (rr_ HO_4.out))) (below_size hb_))
       have n4_:=kb_ BK7 hb
       have n5_:=a0_ (below_step hb_ hb)
       clear HO_4
       clear HO_5
       clear Z8
       clear BK7
       clear HB
       have HO_4:=n0_
       have HO_5:=n1_
       have Z8:=n2_
       have HO22:=n3_
       have BK7:=n4_
       have HB:=n5_
       clear n0_ n1_ n2_ n3_ n4_ n5_
       (try clear hb)
       (try clear hb2)
       (try clear hk)
       (try clear hi)
       (try clear ho0)
       refine hK.out _ _ ⟨(blk_cell BK7.out 0).trans rfl,HS1_,HS2_,HS3_,HS4_⟩ (fun hHeld=>?_)
       clear hK K
       refine norm_ (a':=?_) ?_ ?_
       rotate_left
       ·show Act.put _ (some 42) _ = _
        simp only [Act.put,s1_,s2_,s3_,i64_w,i32_w]
        rfl
       refine pure_ (i:=7) (N:=some 35) (v:=?_) (a':=?_) #[true,true,true,true,true,true,true,true,false,false,false,false] rfl rfl (any_of HT_.out (by kernel_rfl)) (fun _ _ _ h=>h) (Or.inl ⟨by rfl,?_⟩) ?_ ?_
       rotate_left
       ·intro w'
        go_simp
        with_reducible rfl
       rotate_left
       ·simp only [Act.put,s1_,s2_,s3_,i64_w,i32_w]
        rfl
       refine pure_ (i:=8) (N:=some 43) (v:=?_) (a':=?_) #[true,true,true,true,true,true,true,true,true,false,false,false] rfl rfl (any_of HT_.out (by kernel_rfl)) (fun _ _ _ h=>h) (Or.inl ⟨by rfl,?_⟩) ?_ ?_
       rotate_left
       ·intro w'
        go_simp
        with_reducible rfl
       rotate_left
       ·simp only [Act.put,s1_,s2_,s3_,i64_w,i32_w]
        rfl
       refine pure_ (i:=9) (N:=some 44) (v:=?_) (a':=?_) #[true,true,true,true,true,true,true,true,true,true,false,false] rfl rfl (any_of HT_.out (by kernel_rfl)) (fun _ _ _ h=>h) (Or.inl ⟨by rfl,?_⟩) ?_ ?_
       rotate_left
       ·intro w'
        go_simp
        with_reducible rfl
       rotate_left
       ·simp only [Act.put,s1_,s2_,s3_,i64_w,i32_w]
        rfl
       refine pure_ (i:=10) (N:=some 6) (v:=?_) (a':=?_) #[true,true,true,true,true,true,true,true,true,true,true,false] rfl rfl (any_of HT_.out (by kernel_rfl)) (fun _ _ _ h=>h) (Or.inl ⟨by rfl,?_⟩) ?_ ?_
       rotate_left
       ·intro w'
        go_simp
        with_reducible rfl
       rotate_left
       ·simp only [Act.put,s1_,s2_,s3_,i64_w,i32_w]
        rfl
       refine pure_ (i:=11) (N:=some 7) (v:=?_) (a':=?_) #[true,true,true,true,true,true,true,true,true,true,true,true] rfl rfl (any_of HT_.out (by kernel_rfl)) (fun _ _ _ h=>h) (Or.inl ⟨by rfl,?_⟩) ?_ ?_
       rotate_left
       ·intro w'
        go_simp
        with_reducible rfl
       rotate_left
       ·simp only [Act.put,s1_,s2_,s3_,i64_w,i32_w]
        rfl
       refine done_ (done_of HT_.out (by kernel_rfl)) ?_
       obtain ⟨Ao37,co37,eo37⟩:=Kd.R_slice HO22.out
       subst eo37
       try go_wp2_with (first | (go_at_call 11;(with_reducible refine (laws_equalGroup.calls kj4 _ _ t20 _ _ t4 t24 _ ?side1 ?side2 ?side3 ?side4 A33.out).mono ?_);(case side1=>exact cc_ (Kd.R_reads' HO22.out).2.2);(case side2=>exact (Kd.R_reads' HO22.out).2.1);(case side3=>exact cc_ (Kd.R_reads' HO_4.out).2.2);(case side4=>exact (Kd.R_reads' HO_4.out).2.1);rintro e w' ⟨rfl,⟨nd,rfl⟩⟩))
       go_ret
       exact ⟨by first | rfl | (simp [errW_none,errW_some] <;> rfl) | (simp [*,errW_none,errW_some] <;> rfl),hb_⟩
      ·replace c32:=Bool.eq_false_iff.mpr c32
       subst c32
       have H1 : (some false) = some r:=by rw [if_neg (show ¬ (false = true) by decide)] at H;exact H
       clear H
       have H:=H1
       clear H1
       obtain rfl:=Option.some.inj H
       try go_wp2
       have n0_:=a0_ (Kd.R_drew HO_4.out)
       have n1_:=a0_ (Kd.S_drew HO_5.out)
       have n2_:=a0_ (Kd.R_drew Z8.out)
       have n3_:=a0_ (blk_drew BK7.out)
       have n4_:=a0_ (below_drew1 HB.out)
       clear HO_4
       clear HO_5
       clear Z8
       clear BK7
       clear HB
       have HO_4:=n0_
       have HO_5:=n1_
       have Z8:=n2_
       have BK7:=n3_
       have HB:=n4_
       clear n0_ n1_ n2_ n3_ n4_
       have p19 : 0 ≤ (0 : Int):=(by omega)
       have q19 : 0 < (t4.length : Int):=of_decide_eq_true (by first | (with_reducible assumption) | assumption)
       obtain ⟨ad19,e19,hx19_0,hx19_1,hx19_2,hx19_3⟩:=at_T35 (Kd.R_reads' HO_4.out).2.2 0 p19 q19
       cases e19
       have qi19 : (0 < t4.length) = True:=eq_true (by omega)
       (try rw [show ((0 : Int)).toNat = 0 from rfl] at hx19_0)
       (try rw [show 0 * 4 = 0 from rfl] at hx19_0)
       (try rw [Addr.add_zero'] at hx19_0)
       (try rw [show ((0 : Int)).toNat = 0 from rfl] at hx19_1)
       (try rw [show 0 * 4 = 0 from rfl] at hx19_1)
       (try rw [Addr.add_zero'] at hx19_1)
       (try rw [show ((0 : Int)).toNat = 0 from rfl] at hx19_2)
       (try rw [show 0 * 4 = 0 from rfl] at hx19_2)
       (try rw [Addr.add_zero'] at hx19_2)
       (try rw [show ((0 : Int)).toNat = 0 from rfl] at hx19_3)
       (try rw [show 0 * 4 = 0 from rfl] at hx19_3)
       (try rw [Addr.add_zero'] at hx19_3)
       replace p19:=eq_true p19
       replace q19:=eq_true q19
       obtain ⟨Ao39,co39,eo39⟩:=Kd.S_slice HO_5.out
       (first | subst eo39 | (injection eo39 with f1_ f2_ f3_;have f4_:=f1_.symm;have f5_:=f3_.symm;clear f1_ f2_ f3_;subst f4_;subst f5_))
       refine start_ (n:=12) (S:=fun w'=>w'.cell? ⟨gb7,0,none⟩ = some (.slice Ao8 t1.length co8) ∧ w'.cell? ad19 = some (.int .i64 ((rd_T35 t4 0).f0)) ∧ w'.cell? ⟨ad19.block,ad19.off + 1,none⟩ = some (.bool ((rd_T35 t4 0).f1)) ∧ w'.cell? ⟨ad19.block,ad19.off + 2,none⟩ = some (.int .i64 ((rd_T35 t4 0).f2)) ∧ w'.cell? ⟨ad19.block,ad19.off + 3,none⟩ = some (.int .i64 ((rd_T35 t4 0).f3))) (ds:=[]) #[false,false,false,false,false,false,false,false,false,false,false,false] (by kernel_rfl) rfl rfl ⟨(blk_cell BK7.out 0).trans rfl,hx19_0,hx19_1,hx19_2,hx19_3⟩ (fun hHeld=>?_);refine with_tabW laws_FnKidsOf.tab7 laws_FnKidsOf.bits7 (fun HT_ HW_=>?_)
       generalize wc.drew = w38 at HO_4 HO_5 Z8 BK7 HB hx19_0 hx19_1 hx19_2 hx19_3 hHeld ⊢
       refine pure_ (i:=1) (N:=some 37) (v:=?_) (a':=?_) #[false,true,false,false,false,false,false,false,false,false,false,false] rfl rfl (any_of HT_.out (by kernel_rfl)) (fun _ _ _ h=>h) (Or.inl ⟨by rfl,?_⟩) ?_ ?_
       rotate_left
       ·intro w'
        go_simp
        with_reducible rfl
       rotate_left
       ·simp only [Act.put,s1_,s2_,s3_,i64_w,i32_w]
        rfl
       refine pure_ (i:=2) (N:=some 38) (v:=?_) (a':=?_) #[false,true,true,false,false,false,false,false,false,false,false,false] rfl rfl (any_of HT_.out (by kernel_rfl)) (fun _ _ _ h=>h) (Or.inl ⟨by rfl,?_⟩) ?_ ?_
       rotate_left
       ·intro w'
        go_simp
        with_reducible rfl
       rotate_left
       ·simp only [Act.put,s1_,s2_,s3_,i64_w,i32_w]
        rfl
       refine pure_ (i:=3) (N:=some 39) (v:=?_) (a':=?_) #[false,true,true,true,false,false,false,false,false,false,false,false] rfl rfl (any_of HT_.out (by kernel_rfl)) (fun _ _ _ h=>h) (Or.inl ⟨by rfl,?_⟩) ?_ ?_
       rotate_left
       ·intro w'
        go_simp
        with_reducible rfl
       rotate_left
       ·simp only [Act.put,s1_,s2_,s3_,i64_w,i32_w]
        rfl
       refine pure_ (i:=4) (N:=some 40) (v:=?_) (a':=?_) #[false,true,true,true,true,false,false,false,false,false,false,false] rfl rfl (any_of HT_.out (by kernel_rfl)) (fun _ _ _ h=>h) (Or.inl ⟨by rfl,?_⟩) ?_ ?_
       rotate_left
       ·intro w'
        go_simp
        with_reducible rfl
       rotate_left
       ·simp only [Act.put,s1_,s2_,s3_,i64_w,i32_w]
        rfl
       refine take_ (i:=0) (N:=some 36) (v:=?_) (a':=?_) #[true,true,true,true,true,false,false,false,false,false,false,false] rfl rfl (take_ofW HT_.out HW_.out (by kernel_rfl)) (fun _ _ _ h=>h) (Or.inl ⟨by rfl,?_⟩) hHeld ?_ ?_
       rotate_left
       ·rintro w' ⟨s0,s1,s2,s3,s4⟩
        go_simp
        with_reducible rfl
       rotate_left
       ·simp only [Act.put,s1_,s2_,s3_,i64_w,i32_w]
        rfl
       refine take_ (i:=5) (N:=some 41) (v:=?_) (a':=?_) #[true,true,true,true,true,true,false,false,false,false,false,false] rfl rfl (take_ofW HT_.out HW_.out (by kernel_rfl)) (fun _ _ _ h=>h) (Or.inl ⟨by rfl,?_⟩) hHeld ?_ ?_
       rotate_left
       ·rintro w' ⟨s0,s1,s2,s3,s4⟩
        go_simp
        with_reducible rfl
       rotate_left
       ·simp only [Act.put,s1_,s2_,s3_,i64_w,i32_w]
        rfl
       refine one_ (i:=6) (N:=some 42) #[true,true,true,true,true,true,true,false,false,false,false,false] rfl rfl (one_of HT_.out (by kernel_rfl)) (by decide) (fun K hK=>?_)
       refine goes_ Try.func10 (by kernel_rfl) rfl #[.agg #[.slice Ao8 t1.length co8],.slice Ao39 t8.length co39,.int .i64 ((rd_T35 t4 0).f3)] (by rfl) rfl rfl lm_ ?_
       with_reducible refine (impl_WrapGroup.calls _ _ t1 _ _ t8 ((rd_T35 t4 0).f3) t20 false _ ?side1 ?side2 ?side3 ?side4 A31.out).mono ?_
       (case side1=>exact cc_ (Kd.R_reads' Z8.out).2.2)
       (case side2=>exact (Kd.R_reads' Z8.out).2.1)
       (case side3=>repeat (first | exact (Kd.S_reads' HO_5.out).2.2 | (with_reducible refine Kd.C_alloc ?_ _) | (with_reducible refine Kd.C_drewN ?_ _) | (with_reducible refine Kd.C_drew ?_)))
       (case side4=>exact (Kd.S_reads' HO_5.out).2.1)
       rintro e w40 ⟨v21,rfl,ho0,hb⟩
       have HS1_:=(hb.cell (World.block_lt_of_cell? _ _ (hHeld.2.1))).trans (hHeld.2.1)
       have HS2_:=(hb.cell (World.block_lt_of_cell? _ _ (hHeld.2.2.1))).trans (hHeld.2.2.1)
       have HS3_:=(hb.cell (World.block_lt_of_cell? _ _ (hHeld.2.2.2.1))).trans (hHeld.2.2.2.1)
       have HS4_:=(hb.cell (World.block_lt_of_cell? _ _ (hHeld.2.2.2.2))).trans (hHeld.2.2.2.2)
       refine ⟨_,rfl,?_⟩
       have n0_:=a0_ (Kd.R_elder' (rr_ HO_4.out) (Kd.R_base ho0) hb)
       have n1_:=a0_ (Kd.S_elder' (by (with_reducible repeat (first | apply Kd.S_alloc | apply Kd.S_drewN | apply Kd.S_drew));exact HO_5.out) (Kd.R_base ho0) hb)
       have n2_:=rb_ Z8 hb
       have n3_:=a0_ (Kd.R_lower (Kd.R_new' ho0 (Kd.R_lt (rr_ HO_4.out))) (below_size hb_))
       have n4_:=kb_ BK7 hb
       have n5_:=a0_ (below_step hb_ hb)
       clear HO_4
       clear HO_5
       clear Z8
       clear BK7
       clear HB
       have HO_4:=n0_
       have HO_5:=n1_
       have Z8:=n2_
       have HO22:=n3_
       have BK7:=n4_
       have HB:=n5_
       clear n0_ n1_ n2_ n3_ n4_ n5_
       (try clear hb)
       (try clear hb2)
       (try clear hk)
       (try clear hi)
       (try clear ho0)
       refine hK.out _ _ ⟨(blk_cell BK7.out 0).trans rfl,HS1_,HS2_,HS3_,HS4_⟩ (fun hHeld=>?_)
       clear hK K
       refine norm_ (a':=?_) ?_ ?_
       rotate_left
       ·show Act.put _ (some 42) _ = _
        simp only [Act.put,s1_,s2_,s3_,i64_w,i32_w]
        rfl
       refine pure_ (i:=7) (N:=some 35) (v:=?_) (a':=?_) #[true,true,true,true,true,true,true,true,false,false,false,false] rfl rfl (any_of HT_.out (by kernel_rfl)) (fun _ _ _ h=>h) (Or.inl ⟨by rfl,?_⟩) ?_ ?_
       rotate_left
       ·intro w'
        go_simp
        with_reducible rfl
       rotate_left
       ·simp only [Act.put,s1_,s2_,s3_,i64_w,i32_w]
        rfl
       refine pure_ (i:=8) (N:=some 43) (v:=?_) (a':=?_) #[true,true,true,true,true,true,true,true,true,false,false,false] rfl rfl (any_of HT_.out (by kernel_rfl)) (fun _ _ _ h=>h) (Or.inl ⟨by rfl,?_⟩) ?_ ?_
       rotate_left
       ·intro w'
        go_simp
        with_reducible rfl
       rotate_left
       ·simp only [Act.put,s1_,s2_,s3_,i64_w,i32_w]
        rfl
       refine pure_ (i:=9) (N:=some 44) (v:=?_) (a':=?_) #[true,true,true,true,true,true,true,true,true,true,false,false] rfl rfl (any_of HT_.out (by kernel_rfl)) (fun _ _ _ h=>h) (Or.inl ⟨by rfl,?_⟩) ?_ ?_
       rotate_left
       ·intro w'
        go_simp
        with_reducible rfl
       rotate_left
       ·simp only [Act.put,s1_,s2_,s3_,i64_w,i32_w]
        rfl
       refine pure_ (i:=10) (N:=some 6) (v:=?_) (a':=?_) #[true,true,true,true,true,true,true,true,true,true,true,false] rfl rfl (any_of HT_.out (by kernel_rfl)) (fun _ _ _ h=>h) (Or.inl ⟨by rfl,?_⟩) ?_ ?_
       rotate_left
       ·intro w'
        go_simp
        with_reducible rfl
       rotate_left
       ·simp only [Act.put,s1_,s2_,s3_,i64_w,i32_w]
        rfl
       refine pure_ (i:=11) (N:=some 7) (v:=?_) (a':=?_) #[true,true,true,true,true,true,true,true,true,true,true,true] rfl rfl (any_of HT_.out (by kernel_rfl)) (fun _ _ _ h=>h) (Or.inl ⟨by rfl,?_⟩) ?_ ?_
       rotate_left
       ·intro w'
        go_simp
        with_reducible rfl
       rotate_left
       ·simp only [Act.put,s1_,s2_,s3_,i64_w,i32_w]
        rfl
       refine done_ (done_of HT_.out (by kernel_rfl)) ?_
       try go_wp2
       go_ret
       exact ⟨by first | rfl | (simp [errW_none,errW_some] <;> rfl) | (simp [*,errW_none,errW_some] <;> rfl),hb_⟩
     ·rw [if_neg c30] at H
      exact absurd H (by simp)
def laws_FnKidsOf.Pure : Prop:=∀ (l0 : List Int),l0.length ≤ maxLen → l0.length * 1 ≤ 140737488351232 → (∀ x ∈ l0,(Lit.int .u8 x).wf = true) → ∃ k,laws_FnKidsOf.f k l0 = some true
theorem laws_FnKidsOf.walk (P : laws_FnKidsOf.Pure) (a0 : Option Addr) (len0 cap0 : Nat) (z0 : List Int) (w : World) (w0 : (a0 = none ∧ len0 = 0 ∧ cap0 = 0 ∧ z0 = []) ∨ ∃ x,a0 = some x ∧ len0 ≤ cap0 ∧ cap0 ≤ maxLen ∧ z0.length = cap0 ∧ (∀ i,i < z0.length → w.cell? (x.add i) = some (.int .u8 (z0.getD i 0))) ∧ ∀ n ∈ z0,(Lit.int .u8 n).wf = true) (y0 : len0 * 1 ≤ 140737488351232) :
  Calls Try.prog 3 #[.slice a0 len0 cap0] w fun e w'=>e = .returned (.bool true) ∧ Below w.heap.size w w':=by
 obtain ⟨l0,rfl,hr0,hm0,hw0,hc0⟩:=ReadsInt.ofRowC w0
 obtain ⟨k,h⟩:=P l0 hm0 y0 hw0
 refine (laws_FnKidsOf.calls k _ _ l0 true w (Kd.C_of_reads (d:=(0 : Int)) (h1:=fun _=>rfl) hr0) hc0 h).mono ?_
 rintro e w' ⟨rfl,hd⟩
 exact ⟨rfl,hd⟩
end Go.Proofs.Ytjdpaholpfpiiaa.P
namespace Go.Proofs.Ytjdpaholpfpiiaa.Pure
open Go.RowKit Go.Proofs.Ytjdpaholpfpiiaa.P
open Go.Proofs.YtjdpaholpfpiiaaW.PrintWords (rd rdOf wrap_succ wrap_pred wrap_in toL_beq idxP)
set_option linter.unusedVariables false
theorem FnKidsOf : laws_FnKidsOf.Pure:=by
 intro l0 _ _ hw
 refine Ev.out (F:=fun k=>laws_FnKidsOf.f k l0) ?_
 unfold laws_FnKidsOf.f
 by_cases hbig : (l0.length : Int) > 1048576
 ·exact Ev.pos hbig (Ev.const rfl)
 refine Ev.neg hbig ?_
 obtain ⟨t,g,hd,ht,hs,hg⟩:=spec_DrawKidsOf_ev l0 hw
 have hI:=impl_KidsOf_ev t g (by omega) (by omega) hs
 have hS:=spec_KidsOf_ev t g (by omega) hs
 have hkl:=kidP_len t g
 have hE:=laws_equalGroups_ev (kidP t g) (by omega) (fun x hx=>by have:=hkl.2 x hx;omega)
 have no : Ev (fun k=>laws_FnKidsOf.j0 k g (kidP t g) true t) true:=by
  refine Ev.succ ?_
  simp only [laws_FnKidsOf.j0]
  exact Ev.pos trivial (Ev.bind hS (Ev.bind hE (Ev.const rfl)))
 refine Ev.bind hd (Ev.bind hI (Ev.bind hS (Ev.bind hE (Ev.pos rfl ?_))))
 by_cases hn : kidP t g = []
 ·have e0 : (((kidP t g).length : Int) == 0) = true:=by rw [hn];rfl
  rw [e0]
  exact no
 ·have hv : vG t g = true:=by
   cases hv : vG t g with
   | true=>rfl
   | false=>exact absurd (by unfold kidP;rw [hv];rfl) hn
  have hk : kidP t g = kidL g:=by unfold kidP;rw [if_pos hv]
  rw [hk] at hn ⊢
  have hp:=List.length_pos_iff.2 hn
  have e0 : (((kidL g).length : Int) == 0) = false:=beq_eq_false_iff_ne.2 (by omega)
  rw [e0]
  have hgl:=(vG_tree hv).2.1
  have hW:=impl_WrapGroup_ev t (kidL g) (rd_T35 g 0).f3 hs
  have hr : (rd_T35 g 0).f3 = (g.getD 0 z35).f3:=rfl
  rw [hr,wraP_yes (List.all_eq_true.2 (vG_kid hv)) (by rw [wraL_kid hv hn];exact hv),wraL_kid hv hn] at hW
  refine Ev.succ ?_
  simp only [laws_FnKidsOf.j0]
  exact Ev.neg (by simp) (Ev.pos (by omega) (Ev.bind (Ev.const hW) (Ev.pos rfl (Ev.bind (laws_equalGroup_ev g (by omega)) (Ev.const rfl)))))
end Go.Proofs.Ytjdpaholpfpiiaa.Pure
