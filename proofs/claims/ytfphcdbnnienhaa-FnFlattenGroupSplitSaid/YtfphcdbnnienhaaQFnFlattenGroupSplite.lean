/- Texts under the proof of FnFlattenGroupSplit: helper words, the functions' contracts and the plain laws. No condition. -/
import Derived.Test.YtfphcdbnnienhaaQFnFlattenGroupSplita
import Derived.Test.YtfphcdbnnienhaaQFnFlattenGroupSplitc
import Derived.Test.YtfphcdbnnienhaaQFnFlattenGroupSplitd
namespace Go.Proofs.Ytfphcdbnnienhaa.P
open Go.RowKit Go.Proofs.YtfphcdbnnienhaaW.PrintWords Go.Proofs.YtfphcdbnnienhaaW.PrintLast Go.Proofs.YtfphcdbnnienhaaW.PrintMore
attribute [local go_sem] max2_int min2_int max_two min_two max_three min_three max_four min_four
set_option linter.unusedVariables false
set_option linter.unusedSimpArgs false
def toLf (p : Prt) : S43:=⟨p.f2,p.f3⟩
def lfs (g : List Prt) : List S43:=(g.filter (fun p=>!p.f1)).map toLf
theorem lfs_len (g : List Prt) : (lfs g).length ≤ g.length:=by
 unfold lfs
 rw [List.length_map]
 exact List.length_filter_le _ _
theorem lfs_step (g : List Prt) (i : Nat) (hi : i < g.length) : lfs (g.take (i + 1)) = lfs (g.take i) ++ (if g[i].f1 = true then [] else [⟨g[i].f2,g[i].f3⟩]):=by
 unfold lfs
 rw [List.take_succ_eq_append_getElem hi,List.filter_append,List.map_append,List.filter_cons,List.filter_nil]
 congr 1
 cases g[i].f1 <;> rfl
def leavesP (t : List Cls) (g : List Prt) : List S43:=if vG t g = true then lfs g else []
theorem leavesP_len (t : List Cls) (g : List Prt) : (leavesP t g).length ≤ g.length:=by
 unfold leavesP
 split
 ·exact lfs_len g
 ·simp
end Go.Proofs.Ytfphcdbnnienhaa.P
namespace Go.Proofs.Ytfphcdbnnienhaa.P
open Go.RowKit Go.Proofs.YtfphcdbnnienhaaW.PrintWords Go.Proofs.YtfphcdbnnienhaaW.PrintLast Go.Proofs.YtfphcdbnnienhaaW.PrintMore
attribute [local go_sem] max2_int min2_int max_two min_two max_three min_three max_four min_four
set_option linter.unusedVariables false
set_option linter.unusedSimpArgs false
theorem lfs_sel (t : List Cls) (a : Int) (yes : Bool) {g : List Prt} (h : Fr 0 g) : lfs (selR (fun q=>isA t q.f2 a == yes) g) = (lfs g).filter (fun x=>isA t x.f0 a == yes):=by
 unfold lfs
 rw [selR_leaves _ h,List.filter_map]
 rfl
theorem selN_selR (t : List Cls) (g : List Prt) (a : Int) (yes : Bool) : selN t g a yes g.length = selR (fun q=>isA t q.f2 a == yes) g:=by
 rw [← selW_selN,selW_selR]
theorem vG_nil (t : List Cls) : vG t [] = false:=by
 cases h : vG t [] with
 | false=>rfl
 | true=>have:=vG_tree h;simp at this
theorem leavesP_sel {t : List Cls} {g : List Prt} (hv : vG t g = true) (P : Prt → Bool) : leavesP t (selR P g) = lfs (selR P g):=by
 unfold leavesP
 by_cases hn : selR P g = []
 ·rw [hn,vG_nil,if_neg (by simp)]
  rfl
 ·rw [if_pos (vG_sel hv P hn)]
theorem leavesP_ok {t : List Cls} {g : List Prt} (hv : vG t g = true) : leavesP t g = lfs g:=by unfold leavesP;rw [if_pos hv]
theorem Fr_leaf {d : Int} {l : List Prt} (h : Fr d l) : l ≠ [] → ∃ q ∈ l,q.f1 = false:=by
 refine Fr.rec2 (P:=fun d l=>l ≠ [] → ∃ q ∈ l,q.f1 = false) (fun d hn=>absurd rfl hn) (fun d p r h0 h1 _ _ _=>⟨p,by simp,h1⟩) (fun d p k r h0 h1 hne _ _ ihk _ _=>?_) h
 obtain ⟨q,hq,h2⟩:=ihk hne
 exact ⟨q,by simp [hq],h2⟩
theorem vG_leafy {t : List Cls} {g : List Prt} (hv : vG t g = true) : ∃ q ∈ g,q.f1 = false:=by
 refine Fr_leaf (Tre_Fr (vG_tre hv).1) ?_
 obtain ⟨p,r,rfl,_⟩:=(vG_tre hv).1
 simp
def flatL (g : List Prt) : List Prt:=g.take 1 ++ flt (g.drop 1)
theorem flatP_ok {t : List Cls} {g : List Prt} (hv : vG t g = true) : flatP t g = flatL g:=by unfold flatP flatL;rw [if_pos hv]
theorem flt_all (l : List Prt) : ∀ q ∈ flt l,q.f1 = false ∧ q.f0 = 1:=by
 intro q hq
 unfold flt at hq
 obtain ⟨x,hx,rfl⟩:=List.mem_map.1 hq
 have:=(List.mem_filter.1 hx).2
 exact ⟨by simpa [d1P] using this,rfl⟩
theorem Fr_flat {d : Int} : ∀ l : List Prt,(∀ q ∈ l,q.f1 = false ∧ q.f0 = d) → Fr d l:=by
 intro l
 induction l with
 | nil=>intro _;exact Fr.nil d
 | cons p l ih=>intro h;exact Fr.leaf (h p (by simp)).2 (h p (by simp)).1 (ih (fun q hq=>h q (by simp [hq])))
theorem flt_ne {d : Int} {l : List Prt} (h : Fr d l) (hn : l ≠ []) : flt l ≠ []:=by
 obtain ⟨q,hq,h1⟩:=Fr_leaf h hn
 intro he
 unfold flt at he
 rw [List.map_eq_nil_iff] at he
 have : q ∈ l.filter (fun p=>!p.f1):=List.mem_filter.2 ⟨hq,by rw [h1];rfl⟩
 rw [he] at this
 simp at this
theorem flatL_Tre {g : List Prt} (hT : Tre g) : Tre (flatL g):=by
 obtain ⟨p,r,rfl,h0,⟨h1,rfl⟩ | ⟨h1,h2,h3⟩⟩:=hT
 ·exact ⟨p,[],rfl,h0,Or.inl ⟨h1,rfl⟩⟩
 ·exact ⟨p,flt r,rfl,h0,Or.inr ⟨h1,flt_ne h3 h2,Fr_flat _ (flt_all r)⟩⟩
theorem flatL_len (g : List Prt) : (flatL g).length ≤ g.length:=by
 have:=flt_len (g.drop 1)
 unfold flatL
 rw [List.length_append,List.length_take]
 rw [List.length_drop] at this
 omega
theorem flatL_mem {t : List Cls} {g : List Prt} (he : ∀ p ∈ g,okE t p ∧ 0 ≤ p.f0 ∧ p.f0 ≤ 5) : ∀ p ∈ flatL g,okE t p ∧ p.f0 ≤ 5:=by
 intro p hp
 unfold flatL at hp
 rcases List.mem_append.1 hp with hp | hp
 ·have:=he p (List.mem_of_mem_take hp)
  exact ⟨this.1,this.2.2⟩
 ·unfold flt at hp
  obtain ⟨x,hx,rfl⟩:=List.mem_map.1 hp
  have:=he x (List.mem_of_mem_drop (List.mem_filter.1 hx).1)
  exact ⟨this.1,by show (1 : Int) ≤ 5;omega⟩
theorem vG_flat {t : List Cls} {g : List Prt} (hv : vG t g = true) : vG t (flatL g) = true:=by
 obtain ⟨hT,he,hl,ht⟩:=vG_tre hv
 exact vG_mk (flatL_Tre hT) (flatL_mem he) (Nat.le_trans (flatL_len g) hl) ht
theorem lfs_flt (l : List Prt) : lfs (flt l) = lfs l:=by
 unfold lfs
 rw [List.filter_eq_self.2 (fun q hq=>by rw [(flt_all l q hq).1];rfl)]
 unfold flt
 rw [List.map_map]
 rfl
theorem lfs_append (a b : List Prt) : lfs (a ++ b) = lfs a ++ lfs b:=by unfold lfs;rw [List.filter_append,List.map_append]
theorem lfs_flat (g : List Prt) : lfs (flatL g) = lfs g:=by
 unfold flatL
 rw [lfs_append,lfs_flt,← lfs_append,List.take_append_drop]
theorem flt_flt (l : List Prt) : flt (flt l) = flt l:=by
 conv=>lhs;unfold flt
 rw [List.filter_eq_self.2 (fun q hq=>by rw [(flt_all l q hq).1];rfl)]
 conv=>rhs;rw [← List.map_id (flt l)]
 refine List.map_congr_left (fun q hq=>?_)
 have:=(flt_all l q hq).2
 cases q
 simp only at this
 simp [d1P,this]
theorem flatL_flatL (g : List Prt) : flatL (flatL g) = flatL g:=by
 cases g with
 | nil=>rfl
 | cons p r =>
  show [p] ++ flt (flt r) = [p] ++ flt r
  rw [flt_flt]
theorem flatL_depth {t : List Cls} {g : List Prt} (hv : vG t g = true) : ∀ p ∈ flatL g,p.f0 ≤ 1:=by
 obtain ⟨p,r,rfl,h0,_⟩:=(vG_tre hv).1
 intro q hq
 have hq2 : q = p ∨ q ∈ flt r:=by simpa [flatL] using hq
 rcases hq2 with rfl | hq
 ·omega
 ·have:=(flt_all r q hq).2;omega
theorem selR_filter (P : Prt → Bool) {d : Int} : ∀ l : List Prt,(∀ q ∈ l,q.f1 = false ∧ q.f0 = d) → selR P l = l.filter P:=by
 intro l
 induction l with
 | nil=>intro _;rfl
 | cons p l ih =>
  intro h
  have hp:=h p (by simp)
  rw [selR_leaf P hp.2 (Fr_flat l (fun q hq=>h q (by simp [hq]))),ih (fun q hq=>h q (by simp [hq])),List.filter_cons]
  unfold lfQ
  rw [hp.1]
  cases P p <;> rfl
theorem flt_sel (P : Prt → Bool) (hP : ∀ q,P (d1P q) = P q) {d : Int} {l : List Prt} (h : Fr d l) : selR P (flt l) = flt (selR P l):=by
 rw [selR_filter P (flt l) (flt_all l)]
 unfold flt
 rw [selR_leaves P h,List.filter_map]
 congr 1
 refine List.filter_congr (fun q _=>hP q)
theorem flat_sel (P : Prt → Bool) (hP : ∀ q,P (d1P q) = P q) {g : List Prt} (hT : Tre g) : selR P (flatL g) = flatL (selR P g):=by
 obtain ⟨p,r,rfl,h0,⟨h1,rfl⟩ | ⟨h1,h2,h3⟩⟩:=hT
 ·have e : flatL [p] = [p]:=rfl
  rw [e,selR_leaf P h0 (Fr.nil 0)]
  cases lfQ P p <;> rfl
 ·have e1 : flatL (p :: r) = p :: flt r:=rfl
  have e2:=selR_node P h0 h1 h3 (Fr.nil 0)
  have e3:=selR_node P h0 h1 (Fr_flat (flt r) (fun q hq=>flt_all r q hq)) (Fr.nil 0)
  rw [List.append_nil] at e2 e3
  rw [e1,e2,e3,flt_sel P hP h3]
  have e4 : (flt r).any (lfQ P) = r.any (lfQ P):=by
   rw [any_leaves,any_leaves,List.filter_eq_self.2 (fun q hq=>by rw [(flt_all r q hq).1];rfl)]
   unfold flt
   rw [List.any_map]
   congr 1
   funext q
   exact hP q
  rw [e4]
  cases r.any (lfQ P) with
  | false=>rfl
  | true=>simp [flatL,selR]
def mxd (g : List Prt) : Int:=g.foldl (fun m p=>max m p.f0) 0
theorem fold_le (c : Int) : ∀ (g : List Prt) (m : Int),m ≤ c → (∀ p ∈ g,p.f0 ≤ c) → g.foldl (fun m p=>max m p.f0) m ≤ c:=by
 intro g
 induction g with
 | nil=>intro m h _;exact h
 | cons p g ih =>
  intro m h hp
  have h1:=hp p (by simp)
  exact ih _ (show max m p.f0 ≤ c by omega) (fun q hq=>hp q (by simp [hq]))
theorem fold_ge : ∀ (g : List Prt) (m : Int),m ≤ g.foldl (fun m p=>max m p.f0) m ∧ ∀ p ∈ g,p.f0 ≤ g.foldl (fun m p=>max m p.f0) m:=by
 intro g
 induction g with
 | nil=>intro m;exact ⟨Int.le_refl _,fun p hp=>absurd hp (by simp)⟩
 | cons q g ih =>
  intro m
  have:=ih (max m q.f0)
  refine ⟨by show m ≤ g.foldl _ (max m q.f0);omega,fun p hp=>?_⟩
  rcases List.mem_cons.1 hp with rfl | hp
  ·show p.f0 ≤ g.foldl _ (max m p.f0)
   omega
  ·exact this.2 p hp
theorem mxd_sub {a b : List Prt} (h : ∀ p ∈ a,p ∈ b) : mxd a ≤ mxd b:=fold_le _ a 0 (fold_ge b 0).1 (fun p hp=>(fold_ge b 0).2 p (h p hp))
theorem mxd_flat {t : List Cls} {g : List Prt} (hv : vG t g = true) : mxd (flatL g) ≤ 1:=fold_le _ _ 0 (by omega) (flatL_depth hv)
end Go.Proofs.Ytfphcdbnnienhaa.P
namespace Go.Proofs.Ytfphcdbnnienhaa.Pure
open Go.RowKit Go.Proofs.Ytfphcdbnnienhaa.P
open Go.Proofs.YtfphcdbnnienhaaW.PrintWords (rd rdOf wrap_succ wrap_pred wrap_in toL_beq idxP)
set_option linter.unusedVariables false
theorem FnFlattenGroupSplit : laws_FnFlattenGroupSplit.Pure:=by
 intro l0 _ _ hw
 refine Ev.out (F:=fun k=>laws_FnFlattenGroupSplit.f k l0) ?_
 unfold laws_FnFlattenGroupSplit.f
 by_cases hbig : (l0.length : Int) > 1048576
 ·exact Ev.pos hbig (Ev.const rfl)
 refine Ev.neg hbig ?_
 obtain ⟨t,g,a,hd,ht,hs,hg⟩:=spec_DrawSplitGroup_ev l0 hw
 have hI:=impl_SplitGroup_ev t g a hs (by omega)
 have hS : Ev (fun k=>spec_SplitGroup.f k t g a) (splitP t g a):=spec_SplitGroup_ev t g a hs (by omega) (by omega)
 have hV:=impl_ValidGroup_ev t g (by omega) (by omega) hs
 by_cases hc : (vG t g && hasC t a) = true
 ·have hr : splitP t g a = (selR (fun q=>isA t q.f2 a == true) g,selR (fun q=>isA t q.f2 a == false) g):=by
   unfold splitP
   rw [if_pos hc,selN_selR,selN_selR]
  rw [hr] at hI hS
  rw [Bool.and_eq_true] at hc
  obtain ⟨hv,ha⟩:=hc
  rw [hv] at hV
  have hT:=(vG_tree hv).1
  have hF:=Tre_Fr (vG_tre hv).1
  have l1:=(selR_sub (fun q=>isA t q.f2 a == true) g).length_le
  have l2:=(selR_sub (fun q=>isA t q.f2 a == false) g).length_le
  have hH:=laws_has_ev t a
  rw [ha] at hH
  refine Ev.bind hd (Ev.bind (Ev.const hI) (Ev.bind hS (Ev.bind (laws_equalGroup_ev _ (Nat.le_trans l1 (by omega))) (Ev.pos rfl (Ev.bind (laws_equalGroup_ev _ (Nat.le_trans l2 (by omega))) (Ev.pos rfl (Ev.bind hV (Ev.pos rfl (Ev.bind (Ev.const hH) (Ev.succ ?_))))))))))
  simp only [laws_FnFlattenGroupSplit.j0]
  refine Ev.neg (by simp) ?_
  have hvo:=vG_flat hv
  have hFg:=impl_FlattenGroup_ev t g (by omega) (by omega) hs
  rw [flatP_ok hv] at hFg
  have hfl:=flatL_len g
  have hI2:=impl_SplitGroup_ev t (flatL g) a hs (by omega)
  have hr2 : splitP t (flatL g) a = (selR (fun q=>isA t q.f2 a == true) (flatL g),selR (fun q=>isA t q.f2 a == false) (flatL g)):=by
   unfold splitP
   rw [if_pos (by rw [hvo,ha];rfl),selN_selR,selN_selR]
  rw [hr2,flat_sel _ (fun _=>rfl) (vG_tre hv).1,flat_sel _ (fun _=>rfl) (vG_tre hv).1] at hI2
  have part : ∀ P : Prt → Bool,(selR P g).length ≤ g.length → selR P g ≠ [] → Ev (fun k=>impl_FlattenGroup.f k t (selR P g)) (flatL (selR P g)):=by
   intro P hl hn
   have:=impl_FlattenGroup_ev t (selR P g) (by omega) (by omega) hs
   rwa [flatP_ok (vG_sel hv P hn)] at this
  have p1:=part _ l1
  have p2:=part _ l2
  have f1:=flatL_len (selR (fun q=>isA t q.f2 a == true) g)
  have f2:=flatL_len (selR (fun q=>isA t q.f2 a == false) g)
  refine Ev.bind hFg (Ev.bind (Ev.const hI2) ?_)
  simp only
  generalize selR (fun q=>isA t q.f2 a == true) g = m at l1 p1 f1
  generalize selR (fun q=>isA t q.f2 a == false) g = n at l2 p2 f2
  have e1:=laws_equalGroup_ev (flatL m) (by omega)
  have e2:=laws_equalGroup_ev (flatL n) (by omega)
  have nil : ∀ x : List Prt,(x.length : Int) = 0 → ((flatL x).length : Int) = 0:=by
   intro x hx
   have:=List.length_eq_zero_iff.1 (show x.length = 0 by omega)
   rw [this]
   rfl
  have ne : ∀ x : List Prt,¬ (x.length : Int) = 0 → x ≠ []:=by
   rintro x hx rfl
   exact hx rfl
  by_cases c1 : (m.length : Int) = 0
  ·refine Ev.pos c1 (Ev.pos (nil m c1) ?_)
   by_cases c2 : (n.length : Int) = 0
   ·exact Ev.pos c2 (Ev.pos (nil n c2) (Ev.const rfl))
   ·exact Ev.neg c2 (Ev.bind (p2 (ne n c2)) (Ev.bind e2 (Ev.const rfl)))
  ·refine Ev.neg c1 (Ev.bind (p1 (ne m c1)) (Ev.bind e1 (Ev.pos rfl ?_)))
   by_cases c2 : (n.length : Int) = 0
   ·exact Ev.pos c2 (Ev.pos (nil n c2) (Ev.const rfl))
   ·exact Ev.neg c2 (Ev.bind (p2 (ne n c2)) (Ev.bind e2 (Ev.const rfl)))
 ·have hr : splitP t g a = ([],[]):=by unfold splitP;rw [if_neg hc]
  rw [hr] at hI hS
  have no : Ev (fun k=>laws_FnFlattenGroupSplit.j0 k g a [] [] [] [] true t) true:=by
   refine Ev.succ ?_
   simp only [laws_FnFlattenGroupSplit.j0]
   exact Ev.pos trivial (Ev.bind (laws_equalGroup_ev _ (by simp)) (Ev.pos rfl (Ev.bind (laws_equalGroup_ev _ (by simp)) (Ev.const rfl))))
  refine Ev.bind hd (Ev.bind (Ev.const hI) (Ev.bind hS (Ev.bind (laws_equalGroup_ev _ (by simp)) (Ev.pos rfl (Ev.bind (laws_equalGroup_ev _ (by simp)) (Ev.pos rfl (Ev.bind hV ?_)))))))
  cases hv : vG t g with
  | false=>exact Ev.neg (by simp) no
  | true =>
   refine Ev.pos rfl (Ev.bind (Ev.const (laws_has_ev t a)) ?_)
   cases ha : hasC t a with
   | false=>exact no
   | true=>rw [hv,ha] at hc;exact absurd rfl hc
end Go.Proofs.Ytfphcdbnnienhaa.Pure
