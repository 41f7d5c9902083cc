/- Texts under the proof of FnExactEscapesOf: helper words, the functions' contracts and the plain laws. No condition. -/
import Derived.Test.YtjcodcimodnbjaaQFnExactEscapesOfa
import Derived.Test.YtjcodcimodnbjaaQFnExactEscapesOfb
import Derived.LoopIn
import Derived.LoopNIn
import Derived.OwnWalkIn
import Derived.RangeFuncBound
import Derived.RangeFuncBox
import Derived.RangeFuncCalls
import Derived.RangeFuncLeaves
import Derived.RangeFuncNested
import Derived.Shelf.RegionOpen
import Derived.TacticsInMore
import Derived.WalkKit
import Derived.OrdersIn
namespace Go.Proofs.Ytjcodcimodnbjaa.P
open Go.RowKit Go.Proofs.YtjcodcimodnbjaaW.PrintWords Go.Proofs.YtjcodcimodnbjaaW.PrintLast Go.Proofs.YtjcodcimodnbjaaW.PrintMore
attribute [local go_sem] max2_int min2_int max_two min_two max_three min_three max_four min_four
set_option linter.unusedVariables false
set_option linter.unusedSimpArgs false
def stp (next : Int → Int) : Nat → Int → Prop
 | 0,x=>x < 0
 | n + 1,x=>x < 0 ∨ stp next n (next x)
def itL (next : Int → Int) : Nat → Int → List Int
 | 0,_=>[]
 | n + 1,x=>if 0 ≤ x then x :: itL next n (next x) else []
theorem stp_neg (next : Int → Int) (n : Nat) (x : Int) (h : x < 0) : stp next n x:=by
 cases n with
 | zero=>exact h
 | succ n=>exact Or.inl h
theorem stp_mono (next : Int → Int) : ∀ (n : Nat) (x : Int),stp next n x → stp next (n + 1) x:=by
 intro n
 induction n with
 | zero=>intro x h;exact Or.inl h
 | succ n ih =>
  intro x h
  rcases h with h | h
  ·exact Or.inl h
  ·exact Or.inr (ih _ h)
theorem stp_le (next : Int → Int) {n m : Nat} (x : Int) (h : n ≤ m) (hs : stp next n x) : stp next m x:=by
 obtain ⟨d,rfl⟩:=Nat.exists_eq_add_of_le h
 clear h
 induction d with
 | zero=>exact hs
 | succ d ih=>exact stp_mono next _ x ih
theorem chain_stp (next : Int → Int) : ∀ (d : Nat) (out : List Int) (x : Int),0 ≤ x → chainL next d out x ≠ [] → next (lastI (chainL next d out x)) < 0 → stp next (d + 1) x:=by
 intro d
 induction d with
 | zero=>intro out x _ hne;exact absurd rfl hne
 | succ d ih =>
  intro out x h0 hne hl
  rw [chainL] at hne hl
  by_cases hc : 0 ≤ x ∧ out.contains x = false
  ·rw [if_pos hc] at hne hl
   refine Or.inr ?_
   cases hr : chainL next d (out ++ [x]) (next x) with
   | nil =>
    rw [hr] at hl
    have e : lastI [x] = x:=by simp [lastI]
    rw [e] at hl
    exact stp_neg next _ _ hl
   | cons z r =>
    rw [hr,lastI_cons,← hr] at hl
    by_cases h1 : 0 ≤ next x
    ·exact ih (out ++ [x]) (next x) h1 (by rw [hr];simp) hl
    ·exact stp_neg next _ _ (by omega)
  ·rw [if_neg hc] at hne
   exact absurd rfl hne
theorem stp_least (next : Int → Int) (n : Nat) (x : Int) (h : stp next n x) : ∃ m,m ≤ n ∧ stp next m x ∧ (∀ k,k < m → ¬ stp next k x):=by
 induction n using Nat.strongRecOn with
 | ind n ih =>
  by_cases hk : ∃ k,k < n ∧ stp next k x
  ·obtain ⟨k,hk,hs⟩:=hk
   obtain ⟨m,hm,h1,h2⟩:=ih k hk hs
   exact ⟨m,by omega,h1,h2⟩
  ·exact ⟨n,Nat.le_refl _,h,fun k hkn hs=>hk ⟨k,hkn,hs⟩⟩
theorem itL_more (next : Int → Int) : ∀ (n m : Nat) (x : Int),stp next n x → n ≤ m → itL next m x = itL next n x:=by
 intro n
 induction n with
 | zero =>
  intro m x h _
  cases m with
  | zero=>rfl
  | succ m =>
   have h' : x < 0:=h
   simp only [itL]
   rw [if_neg (by omega)]
 | succ n ih =>
  intro m x h hm
  obtain ⟨m,rfl⟩ : ∃ j,m = j + 1:=⟨m - 1,by omega⟩
  rw [itL,itL]
  by_cases h0 : 0 ≤ x
  ·rw [if_pos h0,if_pos h0]
   rcases h with h | h
   ·omega
   ·rw [ih m _ h (by omega)]
  ·rw [if_neg h0,if_neg h0]
theorem chain_it (next : Int → Int) (N : Nat) (hn : ∀ x : Int,0 ≤ x → x < (N : Int) → next x < (N : Int)) : ∀ (d : Nat) (out : List Int) (x : Int) (n : Nat),x < (N : Int) → stp next n x → (∀ y ∈ out,¬ stp next n y) → restN N out ≤ d → chainL next d out x = itL next n x:=by
 intro d
 induction d with
 | zero =>
  intro out x n hx hs ho hr
  rw [chainL]
  by_cases h0 : 0 ≤ x
  ·have:=restN_zero (n:=N) (out:=out) h0 hx (by omega)
   rw [List.contains_iff_mem] at this
   exact absurd hs (ho x this)
  ·cases n with
   | zero=>rfl
   | succ n=>rw [itL,if_neg h0]
 | succ d ih =>
  intro out x n hx hs ho hr
  rw [chainL]
  by_cases h0 : 0 ≤ x
  ·have hno : out.contains x = false:=by
    cases hq : out.contains x with
    | false=>rfl
    | true=>rw [List.contains_iff_mem] at hq;exact absurd hs (ho x hq)
   rw [if_pos ⟨h0,hno⟩]
   obtain ⟨m,hm,h1,h2⟩:=stp_least next n x hs
   obtain ⟨k,rfl⟩ : ∃ k,m = k + 1:=⟨m - 1,by
    cases m with
    | zero=>simp [stp] at h1;omega
    | succ m=>omega⟩
   obtain ⟨n,rfl⟩ : ∃ j,n = j + 1:=⟨n - 1,by omega⟩
   rw [itL,if_pos h0]
   have h3 : stp next k (next x):=by
    rcases h1 with h1 | h1
    ·omega
    ·exact h1
   rw [itL_more next k n _ h3 (by omega)]
   rw [ih (out ++ [x]) (next x) k (hn x h0 hx) h3 (fun y hy=>?_) (by have:=restN_lt h0 hx hno;omega)]
   rcases List.mem_append.1 hy with hy | hy
   ·exact fun hs2=>ho y hy (stp_le next y (by omega) hs2)
   ·obtain rfl : y = x:=by simpa using hy
    exact h2 k (by omega)
  ·rw [if_neg (fun hh=>h0 hh.1)]
   cases n with
   | zero=>rfl
   | succ n=>rw [itL,if_neg h0]
theorem walk_it (next : Int → Int) (N : Nat) (hn : ∀ x : Int,0 ≤ x → x < (N : Int) → next x < (N : Int)) (x : Int) (n : Nat) (hx : x < (N : Int)) (hs : stp next n x) : walkL next N [] x = itL next n x:=by
 rw [walkL_chain,chain_it next N hn N [] x n hx hs (fun y hy=>absurd hy (by simp)) (restN_le _ _)]
 rfl
theorem itL_last (next : Int → Int) : ∀ (n : Nat) (x : Int),0 ≤ x → stp next n x → itL next n x ≠ [] ∧ next (lastI (itL next n x)) < 0:=by
 intro n
 induction n with
 | zero=>intro x h0 h;simp [stp] at h;omega
 | succ n ih =>
  intro x h0 h
  rw [itL,if_pos h0]
  refine ⟨by simp,?_⟩
  rcases h with h | h
  ·omega
  ·by_cases h1 : 0 ≤ next x
   ·obtain ⟨h2,h3⟩:=ih _ h1 h
    cases hr : itL next n (next x) with
    | nil=>exact absurd hr h2
    | cons z r=>rw [lastI_cons,← hr];exact h3
   ·have : itL next n (next x) = []:=by
     cases n with
     | zero=>rfl
     | succ n=>rw [itL,if_neg h1]
    rw [this]
    have e : lastI [x] = x:=by simp [lastI]
    rw [e]
    omega
theorem end_stp {h : List Fau} {f : Nat} (he : endB h f = true) (hl : f < h.length) : stp (ctxN h) (h.length + 1) (f : Int):=by
 unfold endB at he
 have he:=of_decide_eq_true he
 have hcl : ctxL h (f : Int) = chainL (ctxN h) h.length [] (f : Int):=by
  unfold ctxL
  rw [walkL_chain]
  rfl
 have hp:=ctxL_pos h (f : Int) (by omega) (by omega)
 rw [hcl] at he hp
 refine chain_stp _ _ [] _ (by omega) (fun hn=>?_) he
 rw [hn] at hp
 simp at hp
theorem stp_end {h : List Fau} {f : Nat} (n : Nat) (hc : ∀ x : Int,0 ≤ x → x < (h.length : Int) → ctxN h x < (h.length : Int)) (hs : stp (ctxN h) n (f : Int)) (hl : f < h.length) : endB h f = true:=by
 unfold endB ctxL
 rw [walk_it _ _ hc _ n (by omega) hs]
 exact decide_eq_true (itL_last _ n _ (by omega) hs).2
theorem vH_stp {t : List Cls} {h : List Fau} (hv : vH t h = true) (x : Int) (hx : x < (h.length : Int)) : stp (ctxN h) (h.length + 1) x:=by
 by_cases h0 : 0 ≤ x
 ·have:=end_stp (all_at (vH_parts hv).2.1 x.toNat (by omega)) (by omega)
  rwa [show ((x.toNat : Nat) : Int) = x by omega] at this
 ·exact stp_neg _ _ _ (by omega)
theorem ctxL_it {t : List Cls} {h : List Fau} (hv : vH t h = true) (x : Int) (hx : x < (h.length : Int)) : ctxL h x = itL (ctxN h) (h.length + 1) x :=
 walk_it _ _ (fun y a b=>(fsH_ctx (vH_parts hv).1 y a b).2) _ _ hx (vH_stp hv x hx)
theorem vH_mk {t : List Cls} {h : List Fau} (hf : fsH t h = true) (hs : ∀ f,f < h.length → ∃ n,stp (ctxN h) n (f : Int)) (ht : vT t = true) (hl : h.length ≤ 24) : vH t h = true:=by
 unfold vH
 rw [hf,ht,decide_eq_true hl,Bool.true_and,Bool.and_true,Bool.and_true]
 refine all_of (fun j hj=>?_)
 obtain ⟨n,hn⟩:=hs j hj
 exact stp_end n (fun y a b=>(fsH_ctx hf y a b).2) hn hj
theorem itL_mem (next : Int → Int) : ∀ (n : Nat) (x : Int),∀ y ∈ itL next n x,0 ≤ y:=by
 intro n
 induction n with
 | zero=>intro x y hy;simp [itL] at hy
 | succ n ih =>
  intro x y hy
  rw [itL] at hy
  split at hy
  ·rcases List.mem_cons.1 hy with rfl | hy
   ·assumption
   ·exact ih _ y hy
  ·simp at hy
theorem fauAt_set_ne {h : List Fau} {x y : Int} {v : Fau} (hx : 0 ≤ x) (hy : 0 ≤ y) (hn : y ≠ x) : fauAt (h.set x.toNat v) y = fauAt h y:=by
 have : x.toNat ≠ y.toNat:=by omega
 simp [fauAt,this]
theorem fauAt_set_eq {h : List Fau} {x : Int} {v : Fau} (h0 : 0 ≤ x) (h1 : x < (h.length : Int)) : fauAt (h.set x.toNat v) x = v:=by
 have : x.toNat < h.length:=by omega
 simp [fauAt,this]
theorem ctxN_fau (h : List Fau) (x : Int) : ctxN h x = (fauAt h x).f3:=rfl
theorem vH_same {t : List Cls} {h k : List Fau} (hv : vH t h = true) (hl : k.length = h.length) (he : ∀ x : Int,0 ≤ x → x < (h.length : Int) → (fauAt k x).f0 = (fauAt h x).f0 ∧ (fauAt k x).f1 = (fauAt h x).f1 ∧ (fauAt k x).f3 = (fauAt h x).f3 ∧ lnkB h x (fauAt k x).f2 = true) : vH t k = true:=by
 obtain ⟨hfs,hes,ht,hn⟩:=vH_parts hv
 have hc : ∀ x : Int,0 ≤ x → x < (h.length : Int) → ctxN h x = ctxN k x:=fun x a b=>(he x a b).2.2.1.symm
 refine vH_mk ?_ (fun f hf=>?_) ht (by omega)
 ·refine all_of (fun j hj=>?_)
  have h1:=all_at hfs j (by omega)
  obtain ⟨e0,e1,e3,e2⟩:=he (j : Int) (by omega) (by omega)
  unfold okF at h1 ⊢
  simp only [fauAt,Int.toNat_natCast] at e0 e1 e2 e3
  have hlk : ∀ a u,lnkB k a u = lnkB h a u:=fun a u=>by unfold lnkB hasF;rw [hl]
  rw [hlk,hlk,e0,e1,e3,e2]
  simp only [Bool.and_eq_true,decide_eq_true_eq] at h1 ⊢
  exact ⟨h1.1,h1.2.1,trivial,h1.2.2.2⟩
 ·refine ⟨h.length + 1,?_⟩
  have key : ∀ (n : Nat) (x : Int),x < (h.length : Int) → stp (ctxN h) n x → stp (ctxN k) n x:=by
   intro n
   induction n with
   | zero=>intro x _ hs;exact hs
   | succ n ih =>
    intro x hx hs
    by_cases h0 : 0 ≤ x
    ·rcases hs with hs | hs
     ·omega
     ·refine Or.inr ?_
      rw [← hc x h0 hx]
      exact ih _ (fsH_ctx hfs x h0 hx).2 hs
    ·exact Or.inl (by omega)
  exact key _ _ (by omega) (vH_stp hv _ (by omega))
theorem lnkB_old {t : List Cls} {h : List Fau} (hv : vH t h = true) (x : Int) (h0 : 0 ≤ x) (h1 : x < (h.length : Int)) : lnkB h x (fauAt h x).f2 = true:=by
 have:=all_at (vH_parts hv).1 x.toNat (by omega)
 unfold okF at this
 simp only [Bool.and_eq_true] at this
 have h2:=this.2.2.1
 rwa [show ((x.toNat : Nat) : Int) = x by omega] at h2
theorem set_len (h : List Fau) (x : Int) (v : Fau) : (h.set x.toNat v).length = h.length:=by simp
theorem vH_hide {t : List Cls} {h : List Fau} (hv : vH t h = true) (f : Int) (b : Bool) (h0 : 0 ≤ f) (h1 : f < (h.length : Int)) : vH t (h.set f.toNat ⟨(fauAt h f).f0,(fauAt h f).f1,(fauAt h f).f2,(fauAt h f).f3,b⟩) = true:=by
 refine vH_same hv (set_len _ _ _) (fun x a c=>?_)
 by_cases e : x = f
 ·subst e
  rw [fauAt_set_eq h0 h1]
  exact ⟨rfl,rfl,rfl,lnkB_old hv x a c⟩
 ·rw [fauAt_set_ne h0 a e]
  exact ⟨rfl,rfl,rfl,lnkB_old hv x a c⟩
theorem vH_cause {t : List Cls} {h : List Fau} (hv : vH t h = true) (f c : Int) (b : Bool) (h0 : 0 ≤ f) (h1 : f < (h.length : Int)) (hc : lnkB h f c = true) : vH t (h.set f.toNat ⟨(fauAt h f).f0,(fauAt h f).f1,c,(fauAt h f).f3,b⟩) = true:=by
 refine vH_same hv (set_len _ _ _) (fun x a d=>?_)
 by_cases e : x = f
 ·subst e
  rw [fauAt_set_eq h0 h1]
  exact ⟨rfl,rfl,rfl,hc⟩
 ·rw [fauAt_set_ne h0 a e]
  exact ⟨rfl,rfl,rfl,lnkB_old hv x a d⟩
theorem ctxL_set {h : List Fau} (f : Int) (v : Fau) (h0 : 0 ≤ f) (h1 : f < (h.length : Int)) (hv : v.f3 = (fauAt h f).f3) (x : Int) : ctxL (h.set f.toNat v) x = ctxL h x:=by
 have e : ctxN (h.set f.toNat v) = ctxN h:=by
  funext y
  unfold ctxN
  by_cases hy : y.toNat = f.toNat
  ·rw [hy]
   have : f.toNat < h.length:=by omega
   simp [this]
   rw [hv]
   simp [fauAt,this]
  ·have : f.toNat ≠ y.toNat:=fun hh=>hy hh.symm
   simp [this]
 unfold ctxL
 rw [e,set_len]
end Go.Proofs.Ytjcodcimodnbjaa.P
namespace Go.Proofs.Ytjcodcimodnbjaa.P
open Go.RowKit Go.Proofs.YtjcodcimodnbjaaW.PrintWords Go.Proofs.YtjcodcimodnbjaaW.PrintLast Go.Proofs.YtjcodcimodnbjaaW.PrintMore
attribute [local go_sem] max2_int min2_int max_two min_two max_three min_three max_four min_four
set_option linter.unusedVariables false
set_option linter.unusedSimpArgs false
theorem fau_setC_ne {h : List Fau} {x y c : Int} (hx : 0 ≤ x) (hy : 0 ≤ y) (hn : y ≠ x) : fauAt (setC h x c) y = fauAt h y:=fauAt_set_ne hx hy hn
theorem fau_setC_eq {h : List Fau} {x c : Int} (h0 : 0 ≤ x) (h1 : x < (h.length : Int)) : fauAt (setC h x c) x = ⟨(fauAt h x).f0,(fauAt h x).f1,(fauAt h x).f2,c,(fauAt h x).f4⟩:=fauAt_set_eq h0 h1
theorem fau_ext {x y : Fau} (h0 : x.f0 = y.f0) (h1 : x.f1 = y.f1) (h2 : x.f2 = y.f2) (h3 : x.f3 = y.f3) (h4 : x.f4 = y.f4) : x = y:=by
 cases x;cases y;simp_all
def cutN (h : List Fau) (L : List Int) (f x : Int) : Int:=if x ∈ L ∧ ctxN h x = f then -1 else ctxN h x
theorem cutL_at (f : Int) (hf : 0 ≤ f) : ∀ (r : List Int) (h : List Fau),(∀ y ∈ r,0 ≤ y ∧ y < (h.length : Int)) → ∀ x : Int,0 ≤ x → x < (h.length : Int) → fauAt (cutL f r h) x = ⟨(fauAt h x).f0,(fauAt h x).f1,(fauAt h x).f2,cutN h r f x,(fauAt h x).f4⟩:=by
 intro r
 induction r with
 | nil=>intro h _ x _ _;simp [cutL,cutN,ctxN_fau]
 | cons y r ih =>
  intro h hr x h0 h1
  have hy:=hr y (by simp)
  rw [cutL]
  by_cases he : ctxN h y = f
  ·rw [if_pos he]
   rw [ih _ (fun z hz=>by rw [setC_len];exact hr z (by simp [hz])) x h0 (by rw [setC_len];exact h1)]
   by_cases e : x = y
   ·subst e
    rw [fau_setC_eq h0 h1]
    have e2 : ctxN (setC h x (-1)) x = -1:=by rw [ctxN_fau,fau_setC_eq h0 h1]
    have e3 : cutN (setC h x (-1)) r f x = -1:=by
     unfold cutN
     split
     ·rfl
     ·exact e2
    have e4 : cutN h (x :: r) f x = -1:=by unfold cutN;rw [if_pos ⟨by simp,he⟩]
    rw [e3,e4]
   ·rw [fau_setC_ne hy.1 h0 e]
    have e2 : ctxN (setC h y (-1)) x = ctxN h x:=ctxN_setC hy.1 h0 e
    have e3 : cutN (setC h y (-1)) r f x = cutN h (y :: r) f x:=by
     unfold cutN
     rw [e2]
     simp [e]
    rw [e3]
  ·rw [if_neg he,ih h (fun z hz=>hr z (by simp [hz])) x h0 h1]
   have e3 : cutN h r f x = cutN h (y :: r) f x:=by
    unfold cutN
    by_cases e : x = y
    ·subst e
     rw [if_neg (fun hh=>he hh.2),if_neg (fun hh=>he hh.2)]
    ·simp [e]
   rw [e3]
def raiN (h : List Fau) (L : List Int) (f g x : Int) : Int:=if x = f then g else cutN h L f x
theorem whl_at {h : List Fau} {f g : Int} (h0 : 0 ≤ f) (h1 : f < (h.length : Int)) (hne : f ≠ g) (hm : ∀ y ∈ ctxL h g,0 ≤ y ∧ y < (h.length : Int)) (x : Int) (x0 : 0 ≤ x) (x1 : x < (h.length : Int)) : fauAt (whlP h f g) x = ⟨(fauAt h x).f0,(fauAt h x).f1,(fauAt h x).f2,raiN h (ctxL h g) f g x,(fauAt h x).f4⟩:=by
 unfold whlP raiN
 rw [if_neg hne]
 by_cases e : x = f
 ·subst e
  rw [fau_setC_eq x0 (by rw [cutL_len];exact x1),cutL_at x x0 _ h hm x x0 x1,if_pos rfl]
 ·rw [fau_setC_ne h0 x0 e,cutL_at f h0 _ h hm x x0 x1,if_neg e]
theorem itL_closed (next : Int → Int) : ∀ (n : Nat) (x : Int),stp next n x → ∀ y ∈ itL next n x,next y < 0 ∨ next y ∈ itL next n x:=by
 intro n
 induction n with
 | zero=>intro x _ y hy;simp [itL] at hy
 | succ n ih =>
  intro x hs y hy
  rw [itL] at hy ⊢
  by_cases h0 : 0 ≤ x
  ·rw [if_pos h0] at hy ⊢
   rcases hs with hs | hs
   ·omega
   ·rcases List.mem_cons.1 hy with rfl | hy
    ·by_cases h1 : 0 ≤ next y
     ·right
      refine List.mem_cons_of_mem _ ?_
      cases n with
      | zero=>have : next y < 0:=hs;omega
      | succ n=>rw [itL,if_pos h1];exact List.mem_cons_self
     ·left;omega
    ·rcases ih _ hs y hy with h2 | h2
     ·exact Or.inl h2
     ·exact Or.inr (List.mem_cons_of_mem _ h2)
  ·rw [if_neg h0] at hy
   simp at hy
theorem itL_head (next : Int → Int) (n : Nat) (x : Int) (h0 : 0 ≤ x) (hs : stp next n x) : x ∈ itL next n x:=by
 cases n with
 | zero=>have : x < 0:=hs;omega
 | succ n=>rw [itL,if_pos h0];exact List.mem_cons_self
section
variable {t : List Cls} {h : List Fau} {f g : Int}
theorem whl_mem (hv : vH t h = true) (g1 : g < (h.length : Int)) : ∀ y ∈ ctxL h g,0 ≤ y ∧ y < (h.length : Int) :=
 ctxL_mem (fun x a b=>(fsH_ctx (vH_parts hv).1 x a b).2) g g1
theorem whl_closed (hv : vH t h = true) (g1 : g < (h.length : Int)) : ∀ y ∈ ctxL h g,ctxN h y < 0 ∨ ctxN h y ∈ ctxL h g:=by
 rw [ctxL_it hv g g1]
 exact itL_closed _ _ _ (vH_stp hv g g1)
theorem whl_head (hv : vH t h = true) (g0 : 0 ≤ g) (g1 : g < (h.length : Int)) : g ∈ ctxL h g:=by
 rw [ctxL_it hv g g1]
 exact itL_head _ _ _ g0 (vH_stp hv g g1)
theorem whl_ctx (hv : vH t h = true) (h0 : 0 ≤ f) (h1 : f < (h.length : Int)) (hne : f ≠ g) (g1 : g < (h.length : Int)) (x : Int) (x0 : 0 ≤ x) (x1 : x < (h.length : Int)) : ctxN (whlP h f g) x = raiN h (ctxL h g) f g x:=by
 rw [ctxN_fau,whl_at h0 h1 hne (whl_mem hv g1) x x0 x1]
theorem whl_next (hv : vH t h = true) (h0 : 0 ≤ f) (h1 : f < (h.length : Int)) (hne : f ≠ g) (g1 : g < (h.length : Int)) (y : Int) (hy : y ∈ ctxL h g) (hyf : y ≠ f) : ctxN (whlP h f g) y = if ctxN h y = f then -1 else ctxN h y:=by
 have hm:=whl_mem hv g1 y hy
 rw [whl_ctx hv h0 h1 hne g1 y hm.1 hm.2,raiN,if_neg hyf,cutN]
 by_cases e : ctxN h y = f
 ·rw [if_pos ⟨hy,e⟩,if_pos e]
 ·rw [if_neg (fun hh=>e hh.2),if_neg e]
theorem whl_it (hv : vH t h = true) (h0 : 0 ≤ f) (h1 : f < (h.length : Int)) (hne : f ≠ g) (g1 : g < (h.length : Int)) : ∀ (n : Nat) (y : Int),(y < 0 ∨ y ∈ ctxL h g) → y ≠ f → stp (ctxN h) n y → stp (ctxN (whlP h f g)) n y ∧ itL (ctxN (whlP h f g)) n y = (itL (ctxN h) n y).takeWhile (fun z=>!(z == f)):=by
 intro n
 induction n with
 | zero=>intro y _ _ hs;exact ⟨hs,rfl⟩
 | succ n ih =>
  intro y hy hyf hs
  by_cases y0 : 0 ≤ y
  ·rcases hy with hy | hy
   ·omega
   rcases hs with hs | hs
   ·omega
   rw [itL,itL,if_pos y0,if_pos y0,List.takeWhile_cons,if_pos (by simpa using hyf)]
   have hn:=whl_next hv h0 h1 hne g1 y hy hyf
   by_cases e : ctxN h y = f
   ·rw [if_pos e] at hn
    refine ⟨Or.inr (by rw [hn];exact stp_neg _ _ _ (by omega)),?_⟩
    have e1 : itL (ctxN (whlP h f g)) n (ctxN (whlP h f g) y) = []:=by
     rw [hn]
     cases n with
     | zero=>rfl
     | succ n=>rw [itL,if_neg (by omega)]
    have e2 : (itL (ctxN h) n (ctxN h y)).takeWhile (fun z=>!(z == f)) = []:=by
     rw [e]
     cases n with
     | zero=>rfl
     | succ n=>rw [itL,if_pos h0,List.takeWhile_cons,if_neg (by simp)]
    rw [e1,e2]
   ·rw [if_neg e] at hn
    obtain ⟨h2,h3⟩:=ih (ctxN h y) (whl_closed hv g1 y hy) e hs
    refine ⟨Or.inr (by rw [hn];exact h2),?_⟩
    rw [hn,h3]
  ·refine ⟨Or.inl (by omega),?_⟩
   rw [itL,itL,if_neg y0,if_neg y0]
   rfl
theorem whl_stp (hv : vH t h = true) (h0 : 0 ≤ f) (h1 : f < (h.length : Int)) (hne : f ≠ g) (g0 : 0 ≤ g) (g1 : g < (h.length : Int)) : stp (ctxN (whlP h f g)) (h.length + 1 + 1) f:=by
 right
 rw [whl_ctx hv h0 h1 hne g1 f h0 h1,raiN,if_pos rfl]
 exact (whl_it hv h0 h1 hne g1 _ g (Or.inr (whl_head hv g0 g1)) (fun e=>hne e.symm) (vH_stp hv g g1)).1
theorem whl_all (hv : vH t h = true) (h0 : 0 ≤ f) (h1 : f < (h.length : Int)) (hne : f ≠ g) (g0 : 0 ≤ g) (g1 : g < (h.length : Int)) : ∀ (n : Nat) (x : Int),x < (h.length : Int) → stp (ctxN h) n x → stp (ctxN (whlP h f g)) (n + (h.length + 1 + 1)) x:=by
 intro n
 induction n with
 | zero=>intro x _ hs;exact stp_neg _ _ _ hs
 | succ n ih =>
  intro x hx hs
  by_cases x0 : 0 ≤ x
  ·by_cases e : x = f
   ·subst e
    exact stp_le _ _ (by omega) (whl_stp hv h0 h1 hne g0 g1)
   ·rcases hs with hs | hs
    ·omega
    ·rw [show n + 1 + (h.length + 1 + 1) = (n + (h.length + 1 + 1)) + 1 by omega]
     right
     rw [whl_ctx hv h0 h1 hne g1 x x0 hx,raiN,if_neg e,cutN]
     split
     ·exact stp_neg _ _ _ (by omega)
     ·exact ih _ (fsH_ctx (vH_parts hv).1 x x0 hx).2 hs
  ·exact stp_neg _ _ _ (by omega)
theorem vH_whl (hv : vH t h = true) (h0 : 0 ≤ f) (h1 : f < (h.length : Int)) (g0 : 0 ≤ g) (g1 : g < (h.length : Int)) : vH t (whlP h f g) = true:=by
 by_cases hne : f = g
 ·unfold whlP
  rw [if_pos hne]
  exact hv
 obtain ⟨hfs,hes,ht,hn⟩:=vH_parts hv
 refine vH_mk ?_ (fun j hj=>?_) ht (by rw [whlP_len];exact hn)
 ·refine all_of (fun j hj=>?_)
  rw [whlP_len] at hj
  have h2:=all_at hfs j hj
  have e:=whl_at h0 h1 hne (whl_mem hv g1) (j : Int) (by omega) (by omega)
  simp only [fauAt,Int.toNat_natCast] at e
  unfold okF at h2 ⊢
  have hlk : ∀ a u,lnkB (whlP h f g) a u = lnkB h a u:=fun a u=>by unfold lnkB hasF;rw [whlP_len]
  rw [hlk,hlk,e]
  simp only [Bool.and_eq_true,decide_eq_true_eq] at h2 ⊢
  refine ⟨h2.1,h2.2.1,h2.2.2.1,?_⟩
  unfold raiN cutN
  split
  ·rename_i hjf
   unfold lnkB hasF
   simp only [Bool.or_eq_true,Bool.and_eq_true,beq_iff_eq,bne_iff_ne,decide_eq_true_eq]
   omega
  ·split
   ·unfold lnkB;simp
   ·exact h2.2.2.2
 ·rw [whlP_len] at hj
  exact ⟨_,whl_all hv h0 h1 hne g0 g1 _ _ (by omega) (vH_stp hv _ (by omega))⟩
theorem whl_again (hv : vH t h = true) (h0 : 0 ≤ f) (h1 : f < (h.length : Int)) (g0 : 0 ≤ g) (g1 : g < (h.length : Int)) : whlP (whlP h f g) f g = whlP h f g:=by
 by_cases hne : f = g
 ·unfold whlP
  rw [if_pos hne]
 have hv2:=vH_whl hv h0 h1 g0 g1
 have hl:=whlP_len h f g
 have hcl : ctxL (whlP h f g) g = (itL (ctxN h) (h.length + 1) g).takeWhile (fun z=>!(z == f)):=by
  rw [ctxL_it hv2 g (by rw [hl];exact g1),hl]
  exact (whl_it hv h0 h1 hne g1 _ g (Or.inr (whl_head hv g0 g1)) (fun e=>hne e.symm) (vH_stp hv g g1)).2
 have hin : ∀ y ∈ ctxL (whlP h f g) g,y ∈ ctxL h g ∧ y ≠ f:=by
  intro y hy
  rw [hcl] at hy
  constructor
  ·rw [ctxL_it hv g g1]
   exact (List.takeWhile_sublist _).subset hy
  ·have:=List.all_takeWhile (p:=fun z=>!(z == f)) (l:=itL (ctxN h) (h.length + 1) g)
   rw [List.all_eq_true] at this
   simpa using this y hy
 have hno : ∀ y ∈ ctxL (whlP h f g) g,ctxN (whlP h f g) y ≠ f:=by
  intro y hy
  obtain ⟨a,b⟩:=hin y hy
  rw [whl_next hv h0 h1 hne g1 y a b]
  split
  ·omega
  ·assumption
 have hw : ∀ H : List Fau,whlP H f g = setC (cutL f (ctxL H g) H) f g:=fun H=>by unfold whlP;rw [if_neg hne]
 have e : whlP (whlP h f g) f g = setC (whlP h f g) f g:=by rw [hw (whlP h f g),cutL_none f _ _ hno]
 rw [e]
 have hc : (fauAt (whlP h f g) f).f3 = g:=by
  have:=whl_ctx hv h0 h1 hne g1 f h0 h1
  rw [raiN,if_pos rfl] at this
  exact this
 unfold setC
 rw [show (⟨(fauAt (whlP h f g) f).f0,(fauAt (whlP h f g) f).f1,(fauAt (whlP h f g) f).f2,g,(fauAt (whlP h f g) f).f4⟩ : Fau) = fauAt (whlP h f g) f from fau_ext rfl rfl rfl hc.symm rfl]
 refine List.ext_getElem (by simp) (fun i a b=>?_)
 rw [List.getElem_set]
 split
 ·rename_i hi
  subst hi
  simp [fauAt,show f.toNat < (whlP h f g).length by omega]
 ·rfl
theorem whl_chain (hv : vH t h = true) (h0 : 0 ≤ f) (h1 : f < (h.length : Int)) (hne : f ≠ g) (g0 : 0 ≤ g) (g1 : g < (h.length : Int)) : ctxL (whlP h f g) f = f :: (ctxL h g).takeWhile (fun z=>!(z == f)):=by
 have hv2:=vH_whl hv h0 h1 g0 g1
 have hl:=whlP_len h f g
 have hs:=whl_stp hv h0 h1 hne g0 g1
 rw [ctxL_it hv2 f (by rw [hl];exact h1),ctxL_it hv g g1,hl]
 have hs2:=vH_stp hv2 f (by rw [hl];exact h1)
 rw [hl] at hs2
 rw [← itL_more _ _ (h.length + 1 + 1) _ hs2 (by omega),itL,if_pos h0,whl_ctx hv h0 h1 hne g1 f h0 h1,raiN,if_pos rfl]
 rw [(whl_it hv h0 h1 hne g1 _ g (Or.inr (whl_head hv g0 g1)) (fun e=>hne e.symm) (vH_stp hv g g1)).2]
end
end Go.Proofs.Ytjcodcimodnbjaa.P
namespace Go.Proofs.Ytjcodcimodnbjaa.P
open Go.RowKit Go.Proofs.YtjcodcimodnbjaaW.PrintWords Go.Proofs.YtjcodcimodnbjaaW.PrintLast Go.Proofs.YtjcodcimodnbjaaW.PrintMore
attribute [local go_sem] max2_int min2_int max_two min_two max_three min_three max_four min_four
set_option linter.unusedVariables false
set_option linter.unusedSimpArgs false
def slices_Index_int.l0 : Nat → List Int → Int → Int → Int → Option (Int)
 | 0,_,_,_,_=>none
 | k + 1,x0,x1,x7,x8=>if x8 < x7 then (if 0 ≤ x8 then (if x8 < (x0.length : Int) then (if x1 = (rd x0 x8) then (some x8) else (slices_Index_int.l0 k x0 x1 x7 (wrap64 (x8 + 1)))) else (none)) else (none)) else (some (-1))
def slices_Index_int.f (k : Nat) (l0 : List Int) (a1 : Int) : Option (Int):=slices_Index_int.l0 k l0 a1 (l0.length : Int) 0
theorem slices_Index_int.mono_l : ∀ k,(∀ y0 y1 y2 y3,LeO (slices_Index_int.l0 k y0 y1 y2 y3) (slices_Index_int.l0 (k + 1) y0 y1 y2 y3))
 | 0=>fun _ _ _ _ r h=>by simp [slices_Index_int.l0] at h
 | k + 1=>by
  have ih0:=slices_Index_int.mono_l k
  ·intro y0 y1 y2 y3
   unfold slices_Index_int.l0
   repeat' first
   | (with_reducible exact ih0 _ _ _ _)
   | (with_reducible exact LeO.refl _)
   | (with_reducible exact LeO.none _)
   | (with_reducible refine LeO.ite ?_ ?_)
   | (with_reducible refine LeO.bind ?_ (fun _=>?_))
   | exact ih0 _ _ _ _
   | exact LeO.none _
   | refine LeO.ite ?_ ?_
   | refine LeO.bind ?_ (fun _=>?_)
theorem slices_Index_int.mono : ∀ a0 a1 k,LeO (slices_Index_int.f k a0 a1) (slices_Index_int.f (k + 1) a0 a1):=by
 intro a0 a1 k
 have ih0:=slices_Index_int.mono_l k
 unfold slices_Index_int.f
 repeat' first
   | (with_reducible exact ih0 _ _ _ _)
   | (with_reducible exact LeO.refl _)
   | (with_reducible exact LeO.none _)
   | (with_reducible refine LeO.ite ?_ ?_)
   | (with_reducible refine LeO.bind ?_ (fun _=>?_))
   | exact ih0 _ _ _ _
   | exact LeO.none _
   | refine LeO.ite ?_ ?_
   | refine LeO.bind ?_ (fun _=>?_)
set_option maxHeartbeats 8000000 in
set_option maxRecDepth 100000 in
theorem slices_Index_int.calls (k : Nat) (A0 : Option Addr) (c0 : Nat) (l0 : List Int) (a1 : Int) (r : Int) (w : World) (hr0 : Kd.C (Kd.int .i64) w A0 l0.length l0) (hc0 : l0.length ≤ c0) (h : slices_Index_int.f k l0 a1 = some r) :
  Calls Try.prog 80 #[.slice A0 l0.length c0,.int .i64 a1] w fun e w'=>e = .returned (.int .i64 r) ∧ Drawn0 w w':=by
 have HR0:=a0_ hr0
 have HC0:=a0_ hc0
 clear hr0 hc0
 have H : (slices_Index_int.l0 k l0 a1 (l0.length : Int) 0) = some r:=h
 clear h
 have H':=a0_ H
 clear H
 go_enter Try.func80,Try.ntmps80
 go_wp2
 go_loopg [8] k (fun kq v8 w'=>∃ (x8_1 : Int),v8 = .int .i64 x8_1 ∧ Aside0 (slices_Index_int.l0 kq l0 a1 (l0.length : Int) x8_1 = some r) ∧ Aside0 (kq ≤ k) ∧ Drawn0 w w')
 case atStart=>exact ⟨(0),(by first | rfl | (simp;done) | (simp [*];done)),H',⟨Nat.le_refl _⟩,by repeat (first | exact Drawn0.refl _ | apply Drawn0.step)⟩
 case round =>
  clear H'
  try clear p2
  obtain ⟨x8_1,rfl,HA,HK1,⟨m1,rfl⟩⟩:=hrel
  cases gk with
  | zero=>exact absurd HA.out (by simp [slices_Index_int.l0])
  | succ k1 =>
   have H:=HA.out
   clear HA
   simp only [slices_Index_int.l0] at H
   by_cases c3 : x8_1 < (l0.length : Int)
   ·rw [if_pos c3] at H
    have c3b0 : decide (x8_1 < (l0.length : Int)) = true:=decide_eq_true c3
    clear c3
    by_cases c4 : 0 ≤ x8_1
    ·rw [if_pos c4] at H
     have c4b0 : decide (0 ≤ x8_1) = true:=decide_eq_true c4
     clear c4
     by_cases c5 : x8_1 < (l0.length : Int)
     ·rw [if_pos c5] at H
      have c5b0 : decide (x8_1 < (l0.length : Int)) = true:=decide_eq_true c5
      clear c5
      by_cases c6 : a1 = (rd l0 x8_1)
      ·rw [if_pos c6] at H
       have c6b0 : (a1 == (rd l0 x8_1)) = true:=beq_iff_eq.mpr c6
       have c6b1 : (a1 != (rd l0 x8_1)) = false:=bne_eq_false_iff_eq.mpr c6
       clear c6
       obtain rfl:=Option.some.inj H
       have p1 : 0 ≤ (x8_1 : Int):=of_decide_eq_true (by first | (with_reducible assumption) | assumption)
       have q1 : x8_1 < (l0.length : Int):=of_decide_eq_true (by first | (with_reducible assumption) | assumption)
       obtain ⟨ad1,e1,hx1_0⟩:=Kd.at_int HR0.out x8_1 p1 q1
       cases e1
       replace p1:=eq_true p1
       replace q1:=eq_true q1
       go_wp2
       go_ret
       exact ⟨by first | rfl | (simp;done) | (simp [*];done),by repeat (first | exact Drawn0.refl _ | apply Drawn0.step)⟩
      ·rw [if_neg c6] at H
       have c6b0 : (a1 == (rd l0 x8_1)) = false:=beq_eq_false_iff_ne.mpr c6
       have c6b1 : (a1 != (rd l0 x8_1)) = true:=bne_iff_ne.mpr c6
       have H':=a0_ H
       clear H
       have p1 : 0 ≤ (x8_1 : Int):=of_decide_eq_true (by first | (with_reducible assumption) | assumption)
       have q1 : x8_1 < (l0.length : Int):=of_decide_eq_true (by first | (with_reducible assumption) | assumption)
       obtain ⟨ad1,e1,hx1_0⟩:=Kd.at_int HR0.out x8_1 p1 q1
       cases e1
       replace p1:=eq_true p1
       replace q1:=eq_true q1
       go_wp2
       go_roundg k1
       case measure=>have:=HK1.out;omega
       case rel=>exact ⟨(wrap64 (x8_1 + 1)),(by first | rfl | (simp;done) | (simp [*];done)),H',⟨by have:=HK1.out;omega⟩,by repeat (first | exact Drawn0.refl _ | apply Drawn0.step)⟩
     ·rw [if_neg c5] at H
      exact absurd H (by simp)
    ·rw [if_neg c4] at H
     exact absurd H (by simp)
   ·rw [if_neg c3] at H
    have c3b0 : decide (x8_1 < (l0.length : Int)) = false:=decide_eq_false c3
    clear c3
    obtain rfl:=Option.some.inj H
    go_wp2
    go_ret
    exact ⟨by first | rfl | (simp;done) | (simp [*];done),by repeat (first | exact Drawn0.refl _ | apply Drawn0.step)⟩
theorem slices_Index_int_l0 (l : List Int) (x : Int) (hs : l.length ≤ 9223372036854775807) (d : Nat) : ∀ (k : Nat) (i : Nat),i ≤ l.length → l.length - i = d → d < k → (∀ j (hj : j < l.length),j < i → decide (x = l[j]) = false) → slices_Index_int.l0 k l x (l.length : Int) (i : Int) = some (idxP (fun y=>decide (x = y)) l):=by
 induction d with
 | zero =>
  intro k i hi hd hk hA
  obtain ⟨k,rfl⟩ : ∃ m,k = m + 1:=⟨k - 1,by omega⟩
  simp only [slices_Index_int.l0]
  rw [if_neg (show ¬ (i : Int) < (l.length : Int) by omega),idxP_miss _ l (fun j hj=>hA j hj (by omega))]
 | succ d ih =>
  intro k i hi hd hk hA
  obtain ⟨k,rfl⟩ : ∃ m,k = m + 1:=⟨k - 1,by omega⟩
  have hlt : i < l.length:=by omega
  simp only [slices_Index_int.l0]
  have hrd : rd l (i : Int) = l[i]:=by simp [rd,hlt]
  rw [if_pos (show (i : Int) < (l.length : Int) by omega),if_pos (show (0 : Int) ≤ (i : Int) by omega),if_pos (show (i : Int) < (l.length : Int) by omega),hrd]
  by_cases h1 : x = l[i]
  ·rw [if_pos h1,idxP_hit (fun y=>decide (x = y)) l i hlt (decide_eq_true h1) hA]
  ·rw [if_neg h1,wrap_succ (n:=l.length) (by omega) (by omega) (by omega)]
   rw [show ((i : Int) + 1) = ((i + 1 : Nat) : Int) by omega]
   refine ih k (i + 1) (by omega) (by omega) (by omega) (fun j hj hji=>?_)
   by_cases e : j = i
   ·subst e;exact decide_eq_false h1
   ·exact hA j hj (by omega)
end Go.Proofs.Ytjcodcimodnbjaa.P
namespace Go.Proofs.Ytjcodcimodnbjaa.P
open Go.RowKit Go.Proofs.YtjcodcimodnbjaaW.PrintWords Go.Proofs.YtjcodcimodnbjaaW.PrintLast Go.Proofs.YtjcodcimodnbjaaW.PrintMore
attribute [local go_sem] max2_int min2_int max_two min_two max_three min_three max_four min_four
set_option linter.unusedVariables false
set_option linter.unusedSimpArgs false
def slices_Contains_int.f (k : Nat) (l0 : List Int) (a1 : Int) : Option (Bool):=(slices_Index_int.f k l0 a1).bind fun t1=>(some (decide (t1 ≥ 0)))
theorem slices_Contains_int.mono : ∀ a0 a1 k,LeO (slices_Contains_int.f k a0 a1) (slices_Contains_int.f (k + 1) a0 a1):=by
 intro a0 a1 k
 unfold slices_Contains_int.f
 repeat' first
   | (with_reducible exact slices_Index_int.mono _ _ _)
   | (with_reducible exact LeO.refl _)
   | (with_reducible exact LeO.none _)
   | (with_reducible refine LeO.ite ?_ ?_)
   | (with_reducible refine LeO.bind ?_ (fun _=>?_))
   | exact slices_Index_int.mono _ _ _
   | exact LeO.none _
   | refine LeO.ite ?_ ?_
   | refine LeO.bind ?_ (fun _=>?_)
set_option maxHeartbeats 8000000 in
set_option maxRecDepth 100000 in
theorem slices_Contains_int.calls (k : Nat) (A0 : Option Addr) (c0 : Nat) (l0 : List Int) (a1 : Int) (r : Bool) (w : World) (hr0 : Kd.C (Kd.int .i64) w A0 l0.length l0) (hc0 : l0.length ≤ c0) (h : slices_Contains_int.f k l0 a1 = some r) :
  Calls Try.prog 75 #[.slice A0 l0.length c0,.int .i64 a1] w fun e w'=>e = .returned (.bool r) ∧ Drawn0 w w':=by
 have HR0:=a0_ hr0
 have HC0:=a0_ hc0
 clear hr0 hc0
 have H : ((slices_Index_int.f k l0 a1).bind fun t1=>(some (decide (t1 ≥ 0)))) = some r:=h
 clear h
 replace H:=Option.bind_eq_some_iff.mp H
 obtain ⟨t1,A30,H⟩:=H
 replace H : (some (decide (t1 ≥ 0))) = some r:=H
 have A3:=a0_ A30
 clear A30
 obtain rfl:=Option.some.inj H
 go_enter Try.func75,Try.ntmps75
 go_wp2_with (first | ((with_reducible refine gate_callee (f:=80) rfl ?_);refine goesL_ (some 7) rfl rfl Try.func80 (by kernel_rfl) rfl #[.slice A0 l0.length c0,.int .i64 a1] rfl lm_ ?_;(with_reducible refine (slices_Index_int.calls k _ _ l0 a1 t1 _ ?side1 ?side2 A3.out).mono ?_);(case side1=>repeat (first | exact HR0.out | (with_reducible refine Kd.C_alloc ?_ _) | (with_reducible refine Kd.C_drewN ?_ _) | (with_reducible refine Kd.C_drew ?_)));(case side2=>exact HC0.out);rintro e w' ⟨rfl,⟨nd,rfl⟩⟩;refine ⟨_,rfl,?_⟩))
 go_ret
 exact ⟨by first | rfl | (simp;done) | (simp [*];done),by repeat (first | exact Drawn0.refl _ | apply Drawn0.step)⟩
theorem slices_Contains_int_ev (l : List Int) (x : Int) (hs : l.length ≤ 9223372036854775807) (k : Nat) (hk : l.length < k) : slices_Contains_int.f k l x = some (l.contains x):=by
 unfold slices_Contains_int.f slices_Index_int.f
 have h0:=slices_Index_int_l0 l x hs l.length k 0 (by omega) (by omega) hk (fun j _ hj=>absurd hj (Nat.not_lt_zero _))
 rw [show ((0 : Nat) : Int) = 0 from rfl] at h0
 rw [h0]
 simp only [Option.bind_some,Option.some.injEq]
 rw [idxP_nonneg]
 rw [Bool.eq_iff_iff,List.any_eq_true,List.contains_iff_mem]
 constructor
 ·rintro ⟨y,hy,e⟩
  have : x = y:=of_decide_eq_true e
  rw [this];exact hy
 ·intro hm;exact ⟨x,hm,decide_eq_true rfl⟩
end Go.Proofs.Ytjcodcimodnbjaa.P
namespace Go.Proofs.Ytjcodcimodnbjaa.P
open Go.RowKit Go.Proofs.YtjcodcimodnbjaaW.PrintWords Go.Proofs.YtjcodcimodnbjaaW.PrintLast Go.Proofs.YtjcodcimodnbjaaW.PrintMore
attribute [local go_sem] max2_int min2_int max_two min_two max_three min_three max_four min_four
set_option linter.unusedVariables false
set_option linter.unusedSimpArgs false
def slices_Clip_int.f (l0 : List Int) : Option (List Int):=if 0 ≤ (l0.length : Int) then (if (l0.length : Int) ≤ (l0.length : Int) then (some (l0.take ((l0.length : Int) : Int).toNat)) else (none)) else (none)
set_option maxHeartbeats 8000000 in
set_option maxRecDepth 100000 in
theorem slices_Clip_int.calls (P0_ : Nat → Prop) (u9000_ : Value) (l0 : List Int) (r : List Int) (w0 w : World) (hB : Below w0.heap.size w0 w) (ho0 : Kd.R (Kd.int .i64) 3 w w0.heap.size P0_ u9000_ l0) (h : slices_Clip_int.f l0 = some r) :
  Calls Try.prog 83 #[u9000_] w fun e w'=>∃ v0_ : Value,e = .returned (v0_) ∧ Kd.R (Kd.int .i64) 3 w' w0.heap.size (fun k_=>(P0_ k_ ∨ w.heap.size ≤ k_)) v0_ r ∧ Below w0.heap.size w0 w' ∧ Kept w w' (fun k_=>P0_ k_):=by
 have HO0:=a0_ (show Kd.R (Kd.int .i64) 3 w w0.heap.size (fun k_=>(P0_ k_ ∨ w.heap.size ≤ k_)) u9000_ l0 from Kd.R_mono ho0 (fun k_ hk=>(.inl hk)))
 have HK:=a0_ (Kept.refl w (fun k_=>P0_ k_))
 have HW0:=a0_ hB.size
 have HB:=a0_ hB
 clear hB
 have H : (if 0 ≤ (l0.length : Int) then (if (l0.length : Int) ≤ (l0.length : Int) then (some (l0.take ((l0.length : Int) : Int).toNat)) else (none)) else (none)) = some r:=h
 clear h
 by_cases c2 : 0 ≤ (l0.length : Int)
 ·rw [if_pos c2] at H
  have c2b0:=eq_true c2
  have c2b1 : decide (0 ≤ (l0.length : Int)) = true:=decide_eq_true c2
  clear c2
  by_cases c3 : (l0.length : Int) ≤ (l0.length : Int)
  ·rw [if_pos c3] at H
   have c3b0:=eq_true c3
   have c3b1 : decide ((l0.length : Int) ≤ (l0.length : Int)) = true:=decide_eq_true c3
   clear c3
   obtain ⟨y1,hy1⟩ : ∃ y_ : List Int,y_ = (l0.take ((l0.length : Int) : Int).toNat):=⟨_,rfl⟩
   replace H : (some y1) = some r:=by first | (rw [hy1];with_reducible exact H) | (have H2_:=(Option.bind_some _ _).symm.trans H;rw [hy1];with_reducible exact H2_) | (have H2_:=(Option.bind_some _ _).symm.trans H;with_reducible exact H2_) | with_reducible exact H | (rw [hy1];exact H) | exact H
   have Ny1:=a0_ hy1
   clear hy1
   obtain rfl:=Option.some.inj H
   obtain ⟨Ao4,co4,eo4⟩:=Kd.R_slice HO0.out
   subst eo4
   have q5 : l0.length ≤ co4:=(Kd.R_reads' HO0.out).2.1
   have hr5:=Kd.R_clip2 HO0.out (((l0.length : Int) : Int).toNat) (by omega)
   rw [← Ny1.out] at hr5
   clear HO0
   have HO3:=a0_ hr5
   clear hr5
   go_enter Try.func83,Try.ntmps83
   go_wp2
   go_ret
   exact ⟨_,by first | rfl | (simp [errW_none,errW_some] <;> rfl) | (simp [*,errW_none,errW_some] <;> rfl),by (with_reducible repeat (first | apply Kd.R_alloc | apply Kd.R_drewN | apply Kd.R_drew));exact HO3.out,hbw_,by repeat (first | (with_reducible first | exact HK.out | apply Kept.alloc | apply Kept.drewN | apply Kept.drew) | exact HK.out)⟩
  ·rw [if_neg c3] at H
   exact absurd H (by simp)
 ·rw [if_neg c2] at H
  exact absurd H (by simp)
theorem slices_Clip_int_ev (l : List Int) : slices_Clip_int.f l = some l:=by
 unfold slices_Clip_int.f
 rw [if_pos (by omega),if_pos (by omega)]
 simp
end Go.Proofs.Ytjcodcimodnbjaa.P
namespace Go.Proofs.Ytjcodcimodnbjaa.P
open Go.RowKit Go.Proofs.YtjcodcimodnbjaaW.PrintWords Go.Proofs.YtjcodcimodnbjaaW.PrintLast Go.Proofs.YtjcodcimodnbjaaW.PrintMore
attribute [local go_sem] max2_int min2_int max_two min_two max_three min_three max_four min_four
set_option linter.unusedVariables false
set_option linter.unusedSimpArgs false
set_option maxHeartbeats 4000000 in
set_option maxRecDepth 100000 in
theorem impl_walk.callsF (n : Nat) (next : Int → Int) (g : Nat) (ba lb : Array Value) (f0 : Int) (w : World) (eg : ∀ args w,(callFunc g args).run Try.prog w = .ok (.enter g args) w)
  (hf : f0 < (n : Int)) (hn : n ≤ 2097152) (hnx : ∀ x : Int,0 ≤ x → x < (n : Int) → next x < (n : Int)) (hp : ∀ x : Int,0 ≤ x → x < (n : Int) → ∀ W,Below w.heap.size w W → Calls Try.prog g (ba ++ #[.int .i64 x] ++ lb) W fun e w'=>e = .returned (.int .i64 (next x)) ∧ Below W.heap.size W w') :
  Calls Try.prog 81 #[.int .i64 f0,.func (.func g) ba lb] w fun e w'=>∃ v : Value,e = .returned v ∧ Kd.R (Kd.int .i64) 3 w' w.heap.size (fun _=>True) v (walkL next n [] f0) ∧ Below w.heap.size w w':=by
 have HP:=a0_ hp
 have HNX:=a0_ hnx
 have HN:=a0_ hn
 have HF:=a0_ hf
 have HRL:=a0_ (restN_le n [])
 clear hp hnx hf
 have HB:=a0_ (Below.refl w.heap.size w)
 go_enter Try.func81,Try.ntmps81
 go_wp2_with ((with_reducible refine gate_dst (N:=6) rfl ?_);refine Kd.R_lit (Kd.int .i64) _ 3 ?hg (N:=6) ?hd (xs:=([] : List Int)) (inner:=[]) (ok:=fun _=>True) (okp:=fun _=>True) ?hr ?hp (fun _ hk=>hk) trivial (Below.refl _ _) (Nat.le_refl _) (by simp) ?_;(case hd=>rfl);(case hg=>rfl);(case hr=>first | (go_simp;done) | (go_simp;rfl));(case hp=>exact (Reps.none _ _));intro v2 w4 ho5 hb hg_ hnew_;clear hg_ hnew_;have HO:=a0_ (Kd.R_lower ho5 (below_size HB.out));replace HB:=a0_ (below_step HB.out hb);clear hb ho5)
 go_loopg [0,5] n (fun gg s0 s5 wr=>∃ (f : Int) (out : List Int) (d : Nat),d ≤ gg ∧ s0 = .int .i64 f ∧ Aside0 (f < (n : Int)) ∧ Aside0 (restN n out ≤ d) ∧ Aside0 (out.length + d ≤ n) ∧ Aside0 (walkL next d out f = walkL next n [] f0) ∧ Aside0 (Kd.R (Kd.int .i64) 3 wr w.heap.size (fun _=>True) s5 out) ∧ Aside0 (Below w.heap.size w wr))
 case atStart=>exact ⟨f0,[],n,by omega,rfl,HF,HRL,⟨by simp⟩,⟨rfl⟩,HO,HB⟩
 case round =>
  clear HO HB HRL HF
  obtain ⟨f,out,d,hd,rfl,HF,HR,HL,HE,HO,HB⟩:=hrel
  obtain ⟨Ao,co,eo⟩:=Kd.R_slice HO.out
  subst eo
  have HRC:=Kd.R_reads' HO.out
  have hcap:=HRC.2.1
  have HCL:=a0_ (slices_Clip_int_ev out)
  have hco:=slices_Contains_int.calls (out.length + 1) Ao co out f (out.contains f) wr HRC.2.2 hcap (slices_Contains_int_ev out f (by have:=HL.out;omega) _ (by omega))
  by_cases h0 : 0 ≤ f
  ·have h0b:=eq_true h0
   cases hq : out.contains f with
   | true =>
    rw [hq] at hco
    have HS:=a0_ (walkL_stop next d out f (by rw [hq];simp))
    have HCO:=a0_ hco
    clear hco hq
    go_wp2_with (first
     | (go_at_call 75;refine (HCO.out).mono ?_;rintro e w' ⟨rfl,hd'⟩;have hb':=hd'.below;replace HO:=a0_ (Kd.R_below HO.out hb');replace HB:=a0_ (below_step HB.out hb');clear hb' hd')
     | (go_at_call 83;refine (slices_Clip_int.calls (fun _=>True) _ out out w _ HB.out HO.out HCL.out).mono ?_;rintro e w2 ⟨v9,rfl,ho9,hb9,hk9⟩))
    go_ret
    exact ⟨_,rfl,Kd.R_mono (by rw [← HE.out,HS.out];exact ho9) (fun _ _=>trivial),hb9⟩
   | false =>
    rw [hq] at hco
    have HCO:=a0_ hco
    obtain ⟨d',hd'⟩ : ∃ d',d = d' + 1:=⟨d - 1,by
     have h1:=restN_zero (n:=n) (out:=out) h0 HF.out
     have h2:=HR.out
     apply Classical.byContradiction
     intro hn0
     rw [h1 (by omega)] at hq
     cases hq⟩
    subst hd'
    have HR2:=a0_ (show restN n (out ++ [f]) ≤ d' by have h1:=restN_lt h0 HF.out hq;have h2:=HR.out;omega)
    have HE2:=a0_ (show walkL next d' (out ++ [f]) (next f) = walkL next n [] f0 by rw [← HE.out,walkL,if_pos ⟨h0,hq⟩])
    have HF2:=a0_ (HNX.out f h0 HF.out)
    have HCALL:=a0_ (HP.out f h0 HF.out)
    clear hco hq
    go_wp2_with (first
     | (go_at_call 75;refine (HCO.out).mono ?_;rintro e w' ⟨rfl,hd'⟩;have hb':=hd'.below;replace HO:=a0_ (Kd.R_below HO.out hb');replace HB:=a0_ (below_step HB.out hb');clear hb' hd')
     | ((with_reducible refine gate_builtin (b:=.append) (xs:=#[.tmp 18,.tmp 20]) rfl ?_);at_builtin;refine Kd.R_append (Kd.int .i64) (w0:=w) w.heap.size rfl (.tmp 18) (.tmp 20) 51 3 (.int .i64 0) 8 rfl Try.underlying51 info3 rfl (by decide) (by omega) _ _ f [.int .i64 f] (fun _=>True) (fun _=>False) rfl rfl rfl (fun _ hk=>hk.elim) (fun _ _=>trivial) HO.out HB.out (below_size HB.out) (by have:=HL.out;have:=HN.out;omega) ?_;intro v3 w3 ho hb hg3 hat;replace HO:=a0_ ho;replace HB:=a0_ hb;clear ho hb hg3 hat)
     | (go_at_fn g;refine (HCALL.out _ HB.out).mono ?_;rintro e w2 ⟨rfl,hb2⟩;replace HO:=a0_ (Kd.R_below HO.out hb2);replace HB:=a0_ (below_step HB.out hb2);clear hb2))
    go_roundg d'
    case measure=>omega
    case rel=>exact ⟨next f,out ++ [f],d',by omega,rfl,HF2,HR2,⟨by have:=HL.out;rw [List.length_append,List.length_singleton];omega⟩,HE2,HO,HB⟩
  ·have HS:=a0_ (walkL_stop next d out f (fun h=>h0 h.1))
   clear hco
   go_wp2_with (go_at_call 83;refine (slices_Clip_int.calls (fun _=>True) _ out out w _ HB.out HO.out HCL.out).mono ?_;rintro e w2 ⟨v9,rfl,ho9,hb9,hk9⟩)
   go_ret
   exact ⟨_,rfl,Kd.R_mono (by rw [← HE.out,HS.out];exact ho9) (fun _ _=>trivial),hb9⟩
end Go.Proofs.Ytjcodcimodnbjaa.P
namespace Go.Proofs.Ytjcodcimodnbjaa.P
open Go.RowKit Go.Proofs.YtjcodcimodnbjaaW.PrintWords Go.Proofs.YtjcodcimodnbjaaW.PrintLast Go.Proofs.YtjcodcimodnbjaaW.PrintMore
attribute [local go_sem] max2_int min2_int max_two min_two max_three min_three max_four min_four
set_option linter.unusedVariables false
set_option linter.unusedSimpArgs false
theorem impl_Heap_contexts_1.callsF (B : Nat) (A : Option Addr) (c : Nat) (h : List Fau) (x : Int) (w : World) (h0 : 0 ≤ x) (h1 : x < (h.length : Int)) (hB : w.heap[B]? = some (.cells #[.slice A h.length c] 88 (0,0))) (hr : Kd.C k97 w A h.length h) :
  Calls Try.prog 82 #[.int .i64 x,.pointer (some ⟨B,0,none⟩)] w fun e w'=>e = .returned (.int .i64 (ctxN h x)) ∧ Below w.heap.size w w':=by
 have hu37:=Try.underlying88
 have hu79:=Try.underlying97
 have hcell : w.cell? ⟨B,0,none⟩ = some (.slice A h.length c):=(blk_cell hB 0).trans rfl
 obtain ⟨ad,ea,hx0,hx1,hx2,hx3,hx4⟩:=at_T97 hr x h0 h1
 cases ea
 have hrd : (rd_T97 h x).f3 = ctxN h x:=by simp [rd_T97,ctxN]
 rw [hrd] at hx3
 have p0:=eq_true h0
 have p1:=eq_true h1
 clear hB hr hx0 hx1 hx2 hx4 hrd
 generalize ctxN h x = r at hx3 ⊢
 go_enter Try.func82,Try.ntmps82
 go_wp2
 go_ret
 exact ⟨rfl,Below.refl _ w⟩
end Go.Proofs.Ytjcodcimodnbjaa.P
namespace Go.Proofs.Ytjcodcimodnbjaa.P
open Go.RowKit Go.Proofs.YtjcodcimodnbjaaW.PrintWords Go.Proofs.YtjcodcimodnbjaaW.PrintLast Go.Proofs.YtjcodcimodnbjaaW.PrintMore
attribute [local go_sem] max2_int min2_int max_two min_two max_three min_three max_four min_four
set_option linter.unusedVariables false
set_option linter.unusedSimpArgs false
theorem impl_Heap_contexts.callsF (A : Option Addr) (c : Nat) (h : List Fau) (f : Int) (w : World) (hf : f < (h.length : Int)) (hn : h.length ≤ 2097152) (hc : ∀ x : Int,0 ≤ x → x < (h.length : Int) → ctxN h x < (h.length : Int)) (hr : Kd.C k97 w A h.length h) :
  Calls Try.prog 79 #[.agg #[.slice A h.length c],.int .i64 f] w fun e w'=>∃ v : Value,e = .returned v ∧ Kd.R (Kd.int .i64) 3 w' w.heap.size (fun _=>True) v (ctxL h f) ∧ Below w.heap.size w w':=by
 have hu37:=Try.underlying88
 have eg : ∀ args w,(callFunc 82 args).run Try.prog w = .ok (.enter 82 args) w:=enters_of Try.func82 (by kernel_rfl) rfl
 have HB:=a0_ (below1 w (.cells #[.slice A h.length c] 88))
 have BK:=a0_ (heap_new1 w (.cells #[.slice A h.length c] 88))
 have HW:=a0_ (fun (W : World) (hb : Below w.heap.size w W) (hB : W.heap[w.heap.size]? = some (.cells #[.slice A h.length c] 88 (0,0)))=>impl_walk.callsF h.length (ctxN h) 82 #[] #[.pointer (some ⟨w.heap.size,0,none⟩)] f W eg hf hn hc (fun x h0 h1 W' hW=>impl_Heap_contexts_1.callsF w.heap.size A c h x W' h0 h1 (blk_keptB hB hW) (Kd.C_below (Kd.C_below hr hb) hW)))
 unfold ctxL
 clear hr eg hc hf
 generalize walkL (ctxN h) h.length [] f = r at HW ⊢
 go_enter Try.func79,Try.ntmps79
 go_wp2_with (go_at_call 81;refine (HW.out _ HB.out BK.out).mono ?_;rintro e w2 ⟨v2,rfl,ho2,hb2⟩)
 go_ret
 exact ⟨_,rfl,Kd.R_lower ho2 (below_size HB.out),below_step HB.out hb2⟩
def ctxOkB (h : List Fau) : Bool:=(List.range h.length).all (fun i=>decide (ctxN h ((i : Nat) : Int) < (h.length : Int)))
def impl_Heap_contexts.f (l0_0 : List Fau) (a1 : Int) : Option (List Int):=if ctxOkB l0_0 = true ∧ (a1 < (l0_0.length : Int) ∧ l0_0.length ≤ 2097152) then some (ctxL l0_0 a1) else none
theorem ctxOkB_out {h : List Fau} (hb : ctxOkB h = true) (x : Int) (h0 : 0 ≤ x) (h1 : x < (h.length : Int)) : ctxN h x < (h.length : Int):=by
 have:=all_at hb x.toNat (by omega)
 rw [show ((x.toNat : Nat) : Int) = x by omega] at this
 exact of_decide_eq_true this
theorem ctxOkB_of {h : List Fau} (hb : ∀ x : Int,0 ≤ x → x < (h.length : Int) → ctxN h x < (h.length : Int)) : ctxOkB h = true:=all_of (fun i hi=>decide_eq_true (hb (i : Int) (by omega) (by omega)))
theorem impl_Heap_contexts.calls (A0_0 : Option Addr) (c0_0 : Nat) (l0_0 : List (S97)) (a1 : Int) (r : List Int) (w : World) (hr0_0 : Kd.C k97 w A0_0 l0_0.length l0_0) (hc0_0 : l0_0.length ≤ c0_0) (h : impl_Heap_contexts.f l0_0 a1 = some r) :
  Calls Try.prog 79 #[.agg #[.slice A0_0 l0_0.length c0_0],.int .i64 a1] w fun e w'=>∃ v0_ : Value,e = .returned (v0_) ∧ Kd.R (Kd.int .i64) 3 w' w.heap.size (fun _=>True) v0_ r ∧ Below w.heap.size w w':=by
 have hsm : ctxOkB l0_0 = true ∧ (a1 < (l0_0.length : Int) ∧ l0_0.length ≤ 2097152):=by
  apply Classical.byContradiction
  intro hn
  rw [impl_Heap_contexts.f,if_neg hn] at h
  cases h
 rw [impl_Heap_contexts.f,if_pos hsm] at h
 obtain rfl:=Option.some.inj h
 exact impl_Heap_contexts.callsF A0_0 c0_0 l0_0 a1 w hsm.2.1 hsm.2.2 (ctxOkB_out hsm.1) hr0_0
end Go.Proofs.Ytjcodcimodnbjaa.P
namespace Go.Proofs.Ytjcodcimodnbjaa.P
open Go.RowKit Go.Proofs.YtjcodcimodnbjaaW.PrintWords Go.Proofs.YtjcodcimodnbjaaW.PrintLast Go.Proofs.YtjcodcimodnbjaaW.PrintMore
attribute [local go_sem] max2_int min2_int max_two min_two max_three min_three max_four min_four
set_option linter.unusedVariables false
set_option linter.unusedSimpArgs false
theorem infoFault_ : (Try.prog.info? 97).map (fun i=>(i.zero,i.size,i.bytes)) = some (some (.agg #[(.int .i64 0),(.int .i64 0),(.int .i64 0),(.int .i64 0),(.bool false)]),5,40):=by kernel_rfl
set_option maxHeartbeats 2000000 in
set_option maxRecDepth 100000 in
theorem mach_raise0 (B : Nat) (x0 x1 x2 x4 v : Value) (l : List Fau) (a c : Int) (w0 w : World) (hB : w.heap[B]? = some (.cells #[x0,x1,x2,v,x4] 90 (0,0))) (hr : Kd.R k97 97 w w0.heap.size (fun _=>True) v l) (hb : Below w0.heap.size w0 w) (h0 : w0.heap.size ≤ B) (hl : l.length ≤ 2097152) :
  Calls Try.prog 72 #[.pointer (some ⟨B,3,none⟩),.int .i64 a,.int .i64 c] w fun e w'=>∃ v' : Value,e = .returned (.int .i64 (l.length : Int)) ∧ w'.heap[B]? = some (.cells #[x0,x1,x2,v',x4] 90 (0,0)) ∧ Kd.R k97 97 w' w0.heap.size (fun _=>True) v' (l ++ [⟨a,c,-1,-1,false⟩]) ∧ Below w0.heap.size w0 w' ∧ (∀ g o,w.heap[g]? = some o → g ≠ B → some g ≠ v.ownBlock → w'.heap[g]? = some o) ∧ (v'.ownBlock = v.ownBlock ∨ ∃ b,v'.ownBlock = some b ∧ w.heap.size ≤ b):=by
 have hu37:=Try.underlying88
 have hu79:=Try.underlying97
 have BK:=a0_ hB
 have HO:=a0_ hr
 have HB:=a0_ hb
 have H0:=a0_ h0
 have HL:=a0_ hl
 have hcz : w.cell? ⟨B,3,none⟩ = some v:=(blk_cell hB 3).trans rfl
 clear hB hr hb h0 hl
 go_enter Try.func72,Try.ntmps72
 go_wp2_with ((with_reducible refine gate_builtin (b:=.append) (xs:=#[.tmp 11,.tmp 15]) rfl ?_);at_builtin;refine Kd.R_append k97 (w0:=w0) w0.heap.size rfl (.tmp 11) (.tmp 15) 86 97 (.agg #[(.int .i64 0),(.int .i64 0),(.int .i64 0),(.int .i64 0),(.bool false)]) 40 rfl Try.underlying86 infoFault_ rfl (by decide) (by omega) _ _ (⟨a,c,-1,-1,false⟩ : S97) [.int .i64 a,.int .i64 c,.int .i64 (-1),.int .i64 (-1),.bool false] (fun _=>True) (fun _=>False) rfl rfl (k97_mkM _ _ _ (⟨a,c,-1,-1,false⟩ : S97)) (fun _ hk=>hk.elim) (fun _ _=>trivial) HO.out HB.out (below_size HB.out) (by have:=HL.out;omega) ?_;intro v3 w3 ho hb hg3 hat;have BK3:=a0_ (blk_grown BK.out hg3 (Kd.R_ne HO.out BK.out (by decide)));have HO3:=a0_ ho;have HB3:=a0_ hb;have HG3:=a0_ hg3;obtain ⟨A3,c3,e3⟩:=Kd.R_slice ho;subst e3;have HAT:=a0_ hat;clear ho hb hg3 hat hcz;have hcz : w3.cell? ⟨B,3,none⟩ = some v:=(blk_cell BK3.out 3).trans rfl;have hfz:=blk_frozen BK3.out 3;have BK4:=a0_ (blk_put BK3.out 3 (.slice A3 (l ++ [(⟨a,c,-1,-1,false⟩ : S97)]).length c3) rfl);have hcz4:=(blk_cell BK4.out 3).trans rfl)
 go_ret
 have ho:=HO3.out
 have bk:=BK4.out
 rw [List.length_append,List.length_singleton] at ho bk
 have hll:=HL.out
 refine ⟨_,?_,bk,Kd.R_set ho BK3.out (by decide) 3 _,below_set HB3.out H0.out,fun g o hg hgB hgv=>?_,by have:=HAT.out;rw [List.length_append,List.length_singleton] at this;exact this⟩
 ·show Ending.returned (.int .i64 (wrap64 (l.length : Int))) = _
  rw [wrap_in (by omega) (by omega)]
 ·exact (Below.heap_setCell w3 ⟨B,3,none⟩ _ g hgB).trans ((HG3.out.block g (blk_lt hg) hgv).trans hg)
set_option maxHeartbeats 4000000 in
set_option maxRecDepth 100000 in
theorem mach_while0 (B go n c : Nat) (x0 x1 x2 x4 : Value) (l : List Fau) (f g : Int) (w0 w : World) (hn : n = l.length) (hB : w.heap[B]? = some (.cells #[x0,x1,x2,.slice (some ⟨go,0,none⟩) n c,x4] 90 (0,0))) (hr : Kd.R k97 97 w w0.heap.size (fun _=>True) (.slice (some ⟨go,0,none⟩) n c) l) (hb : Below w0.heap.size w0 w) (hgo : w0.heap.size ≤ go) (hl : l.length ≤ 2097152)
  (hc : ∀ x : Int,0 ≤ x → x < (l.length : Int) → ctxN l x < (l.length : Int)) (f0 : 0 ≤ f) (f1 : f < (l.length : Int)) (g0 : 0 ≤ g) (g1 : g < (l.length : Int)) :
  Calls Try.prog 73 #[.pointer (some ⟨B,3,none⟩),.int .i64 f,.int .i64 g] w fun e w'=>e = .returned (.tuple #[]) ∧ Kd.R k97 97 w' w0.heap.size (fun _=>True) (.slice (some ⟨go,0,none⟩) n c) (whlP l f g) ∧ Below w0.heap.size w0 w' ∧ ∀ b o,w.heap[b]? = some o → b ≠ go → w'.heap[b]? = some o:=by
 have hu37:=Try.underlying88
 have hu79:=Try.underlying97
 subst hn
 have BK:=a0_ hB
 have HO:=a0_ hr
 have HB:=a0_ hb
 have HG:=a0_ hgo
 have hcz : w.cell? ⟨B,3,none⟩ = some (.slice (some ⟨go,0,none⟩) l.length c):=(blk_cell hB 3).trans rfl
 have HX:=a0_ (fun (W : World) (hr : Kd.C k97 W (some ⟨go,0,none⟩) l.length l)=>impl_Heap_contexts.callsF (some ⟨go,0,none⟩) c l g W g1 hl hc hr)
 have HM:=a0_ (ctxL_mem hc g g1)
 have HLN:=a0_ (ctxL_len l g)
 have HL:=a0_ hl
 have NE:=a0_ (show B ≠ go from fun e=>Kd.R_ne hr hB (by decide) (by rw [e];rfl))
 clear hB hr hb hgo
 unfold whlP
 by_cases hfg : f = g
 ·have hd : (f == g) = true:=beq_iff_eq.2 hfg
  rw [if_pos hfg]
  clear hfg HX
  go_enter Try.func73,Try.ntmps73
  go_wp2
  refine bodyPost_ret (results_none rfl _ _ _) rfl ?_
  exact ⟨rfl,HO.out,HB.out,fun b o h _=>h⟩
 ·have hd : (f == g) = false:=beq_eq_false_iff_ne.2 hfg
  rw [if_neg hfg]
  clear hfg
  generalize ctxL l g = L at HX HM HLN ⊢
  go_enter Try.func73,Try.ntmps73
  go_wp2_with (go_at_call 79;refine (HX.out _ (Kd.R_reads' HO.out).2.2).mono ?_;rintro e w2 ⟨v2,rfl,ho2,hb2⟩;obtain ⟨A2,c2,e2⟩:=Kd.R_slice ho2;subst e2;have HL2:=a0_ (Kd.R_lower ho2 (below_size HB.out));replace HO:=a0_ (Kd.R_below HO.out hb2);replace HB:=a0_ (below_step HB.out hb2);have KP:=a0_ (show ∀ b o,w.heap[b]? = some o → b ≠ go → w2.heap[b]? = some o from fun b o h _=>blk_keptB h hb2);clear ho2 hb2)
  go_loopg [17] L.length (fun gg s17 wr=>∃ (kk : Nat) (hh : List Fau),kk ≤ L.length ∧ L.length - kk ≤ gg ∧ s17 = .int .i64 kk ∧ hh.length = l.length ∧ Aside0 (cutL f (L.drop kk) hh = cutL f L l) ∧ Aside0 (Kd.R k97 97 wr w0.heap.size (fun _=>True) (.slice (some ⟨go,0,none⟩) l.length c) hh) ∧ Aside0 (Kd.R (Kd.int .i64) 3 wr w0.heap.size (fun _=>True) (.slice A2 L.length c2) L) ∧ Aside0 (Below w0.heap.size w0 wr) ∧ Aside0 (∀ b o,w.heap[b]? = some o → b ≠ go → wr.heap[b]? = some o))
  case atStart=>exact ⟨0,l,Nat.zero_le _,by omega,rfl,rfl,⟨by simp⟩,HO,HL2,HB,KP⟩
  case round =>
   clear HO HL2 HB KP hcz
   obtain ⟨kk,hh,hkk,hg,rfl,hhl,HE,HO,HL2,HB,KP⟩:=hrel
   have hcz : wr.cell? ⟨B,3,none⟩ = some (.slice (some ⟨go,0,none⟩) l.length c):=(blk_cell (KP.out B _ BK.out NE.out) 3).trans rfl
   have hln:=HLN.out
   by_cases hlt : kk < L.length
   ·have hltz : (kk : Int) < (L.length : Int):=by omega
    obtain ⟨ae,eae,hy0⟩:=Kd.at_int (Kd.R_reads' HL2.out).2.2 (kk : Int) (by omega) (by omega)
    cases eae
    have hrd : rd L (kk : Int) = L[kk]:=by simp [rd,hlt]
    rw [hrd,Int.toNat_natCast] at hy0
    have hmx:=HM.out L[kk] (List.getElem_mem hlt)
    have he:=HE.out
    rw [List.drop_eq_getElem_cons hlt,cutL] at he
    clear hrd HE
    generalize L[kk] = x at hy0 hmx he
    have hx0:=hmx.1
    have hx1:=hmx.2
    clear hmx
    obtain ⟨ce,hcl,hM,hcc,hfr⟩:=Kd.R_elem HO.out z97 x hx0 hx1
    obtain rfl:=k97_openM hM
    have hx3 : wr.cell? ⟨go,x.toNat * 5 + 3,none⟩ = some (.int .i64 (fauAt hh x).f3):=hcc 3 _ rfl
    have hf3 : wr.frozen? ⟨go,x.toNat * 5 + 3,none⟩ = false:=hfr 3
    have HP:=a0_ (Kd.R_seg HO.out x hx0 hx1 (seg:=[.int .i64 (-1)]) (j:=3) hcl hcc (show 4 ≤ 5 by decide) (x':=(⟨(fauAt hh x).f0,(fauAt hh x).f1,(fauAt hh x).f2,-1,(fauAt hh x).f4⟩ : S97)) (k97_mkM _ _ _ (⟨(fauAt hh x).f0,(fauAt hh x).f1,(fauAt hh x).f2,-1,(fauAt hh x).f4⟩ : S97)) (fun _ hk=>hk))
    have hcx : ctxN hh x = (fauAt hh x).f3:=rfl
    rw [hcx] at he
    have HE:=a0_ he
    have q0:=eq_true hx0
    have q1:=eq_true hx1
    clear hcl hcc hfr hM hcx he
    generalize (fauAt hh x).f3 = u3 at hx3 HE
    cases hq : (u3 == f) with
    | true =>
     have he2:=HE.out
     rw [if_pos (beq_iff_eq.1 hq)] at he2
     have HE2:=a0_ he2
     clear he2
     go_wp2
     go_roundg (L.length - (kk + 1))
     case measure=>omega
     case rel =>
      have hp1:=HP.out.1
      have hp2:=HP.out.2
      refine ⟨kk + 1,setC hh x (-1),by omega,by omega,by go_num,by rw [setC_len];exact hhl,HE2,⟨hp1⟩,⟨Kd.R_over' HL2.out (Kd.R_typed HO.out) (by decide) hp2⟩,⟨below_grown HB.out hp2 HG.out⟩,⟨fun b o h hb'=>blk_grown (KP.out b o h hb') hp2 (fun e=>hb' (Option.some.inj e))⟩⟩
    | false =>
     have he2:=HE.out
     rw [if_neg (fun e=>by rw [beq_iff_eq.2 e] at hq;cases hq)] at he2
     have HE2:=a0_ he2
     clear he2
     go_wp2
     go_roundg (L.length - (kk + 1))
     case measure=>omega
     case rel=>exact ⟨kk + 1,hh,by omega,by omega,by go_num,hhl,HE2,HO,HL2,HB,KP⟩
   ·have hltz : ¬ (kk : Int) < (L.length : Int):=by omega
    have he:=HE.out
    rw [List.drop_eq_nil_of_le (by omega),cutL] at he
    subst he
    obtain ⟨ce,hcl,hM,hcc,hfr⟩:=Kd.R_elem HO.out z97 f f0 f1
    obtain rfl:=k97_openM hM
    have hx3 : wr.cell? ⟨go,f.toNat * 5 + 3,none⟩ = some (.int .i64 (fauAt (cutL f L l) f).f3):=hcc 3 _ rfl
    have hf3 : wr.frozen? ⟨go,f.toNat * 5 + 3,none⟩ = false:=hfr 3
    have HP:=a0_ (Kd.R_seg HO.out f f0 f1 (seg:=[.int .i64 g]) (j:=3) hcl hcc (show 4 ≤ 5 by decide) (x':=(⟨(fauAt (cutL f L l) f).f0,(fauAt (cutL f L l) f).f1,(fauAt (cutL f L l) f).f2,g,(fauAt (cutL f L l) f).f4⟩ : S97)) (k97_mkM _ _ _ (⟨(fauAt (cutL f L l) f).f0,(fauAt (cutL f L l) f).f1,(fauAt (cutL f L l) f).f2,g,(fauAt (cutL f L l) f).f4⟩ : S97)) (fun _ hk=>hk))
    have q0:=eq_true f0
    have q1:=eq_true f1
    clear hcl hcc hfr hM
    go_wp2
    refine bodyPost_end (results_none rfl _ _ _) rfl ?_
    have hp1:=HP.out.1
    have hp2:=HP.out.2
    exact ⟨rfl,hp1,below_grown HB.out hp2 HG.out,fun b o h hb'=>blk_grown (KP.out b o h hb') hp2 (fun e=>hb' (Option.some.inj e))⟩
def fltOk (t : List Cls) (l : List Fau) : Prop:=∀ x : Int,0 ≤ x → x < (l.length : Int) → (0 ≤ (fauAt l x).f0 ∧ (fauAt l x).f0 < (t.length : Int)) ∧ ctxN l x < (l.length : Int)
theorem fltOk_nil (t : List Cls) : fltOk t []:=fun x h0 h1=>by simp at h1;omega
theorem fltOk_add {t : List Cls} {l : List Fau} (h : fltOk t l) (a c : Int) (h0 : 0 ≤ a) (h1 : a < (t.length : Int)) : fltOk t (l ++ [⟨a,c,-1,-1,false⟩]):=by
 intro x x0 x1
 rw [List.length_append,List.length_singleton] at x1 ⊢
 by_cases e : x < (l.length : Int)
 ·have e1 : fauAt (l ++ [(⟨a,c,-1,-1,false⟩ : Fau)]) x = fauAt l x:=by
   unfold fauAt
   simp [List.getD,List.getElem?_append_left (show x.toNat < l.length by omega)]
  obtain ⟨q1,q2⟩:=h x x0 e
  refine ⟨by rw [e1];exact q1,?_⟩
  have e2 : ctxN (l ++ [(⟨a,c,-1,-1,false⟩ : Fau)]) x = ctxN l x:=by
   show (fauAt (l ++ [(⟨a,c,-1,-1,false⟩ : Fau)]) x).f3 = (fauAt l x).f3
   rw [e1]
  rw [e2]
  omega
 ·obtain rfl : x = (l.length : Int):=by omega
  have e1 : fauAt (l ++ [(⟨a,c,-1,-1,false⟩ : Fau)]) (l.length : Int) = ⟨a,c,-1,-1,false⟩:=by
   unfold fauAt
   simp [List.getD]
  refine ⟨by rw [e1];exact ⟨h0,h1⟩,?_⟩
  show (fauAt (l ++ [(⟨a,c,-1,-1,false⟩ : Fau)]) (l.length : Int)).f3 < _
  rw [e1]
  show (-1 : Int) < _
  omega
theorem fltOk_whl {t : List Cls} {l : List Fau} (h : fltOk t l) {f g : Int} (f0 : 0 ≤ f) (f1 : f < (l.length : Int)) (g0 : 0 ≤ g) (g1 : g < (l.length : Int)) (hne : f ≠ g) : fltOk t (whlP l f g):=by
 have hm:=ctxL_mem (fun x h0 h1=>(h x h0 h1).2) g g1
 intro x x0 x1
 rw [whlP_len] at x1 ⊢
 have e:=whl_at f0 f1 hne hm x x0 x1
 obtain ⟨q1,q2⟩:=h x x0 x1
 refine ⟨by rw [e];exact q1,?_⟩
 show (fauAt (whlP l f g) x).f3 < _
 rw [e]
 show raiN l (ctxL l g) f g x < _
 unfold raiN cutN
 split
 ·exact g1
 ·split
  ·omega
  ·exact q2
theorem R_some {α : Type} {d : Kd α} {e base : Nat} {w : World} {ok : Nat → Prop} {v : Value} {xs : List α} (h : d.R e w base ok v xs) (hn : 0 < xs.length) : ∃ go c,v = .slice (some ⟨go,0,none⟩) xs.length c ∧ base ≤ go:=by
 obtain ⟨_,inner,hown,_⟩:=h
 rcases hown.2 with ⟨_,h0⟩ | ⟨g,cap,cur,hv,hb,_⟩
 ·omega
 ·exact ⟨g,cap,hv,hb⟩
theorem size_kept {w w' : World} (h : ∀ g,g < w.heap.size → g < w'.heap.size) : w.heap.size ≤ w'.heap.size:=by
 refine Nat.le_of_not_lt (fun hlt=>?_)
 exact Nat.lt_irrefl _ (h w'.heap.size hlt)
theorem get_lt {w : World} {g : Nat} (h : g < w.heap.size) : ∃ o,w.heap[g]? = some o:=⟨w.heap[g],by simp [h]⟩
theorem R_own_lt {α : Type} {d : Kd α} {e base : Nat} {w : World} {ok : Nat → Prop} {v : Value} {xs : List α} (h : d.R e w base ok v xs) {k : Nat} (hk : v.ownBlock = some k) : k < w.heap.size:=((Kd.R_bound h).1 k hk).2.2.1
theorem size_raise {α : Type} {d : Kd α} {e base : Nat} {ok : Nat → Prop} {xs : List α} {w w' : World} {B : Nat} {oB : Obj} {v v' : Value} (hB : w'.heap[B]? = some oB) (hr : d.R e w' base ok v' xs) (hn : 0 < xs.length) (hk : ∀ g o,w.heap[g]? = some o → g ≠ B → some g ≠ v.ownBlock → w'.heap[g]? = some o) (hat : v'.ownBlock = v.ownBlock ∨ ∃ b,v'.ownBlock = some b ∧ w.heap.size ≤ b) : w.heap.size ≤ w'.heap.size:=by
 rcases hat with ha | ⟨b,hb,hle⟩
 ·refine size_kept (fun g hg=>?_)
  obtain ⟨o,ho⟩:=get_lt hg
  by_cases e1 : g = B
  ·rw [e1];exact blk_lt hB
  ·by_cases e2 : some g = v.ownBlock
   ·exact R_own_lt hr (by rw [ha,← e2])
   ·exact blk_lt (hk g o ho e1 e2)
 ·have:=R_own_lt hr hb
  omega
set_option maxHeartbeats 2000000 in
set_option maxRecDepth 100000 in
theorem mach_raise (t : List Cls) (B : Nat) (x0 x1 x2 x4 v : Value) (l : List Fau) (a c h : Int) (w0 w : World) (hB : w.heap[B]? = some (.cells #[x0,x1,x2,v,x4] 90 (0,0))) (hr : Kd.R k97 97 w w0.heap.size (fun _=>True) v l) (hb : Below w0.heap.size w0 w) (h0 : w0.heap.size ≤ B) (hl : l.length ≤ 1000) (hok : fltOk t l) (ha0 : 0 ≤ a) (ha1 : a < (t.length : Int)) (hh : h = -1 ∨ (0 ≤ h ∧ h < (l.length : Int))) :
  Calls Try.prog 57 #[.pointer (some ⟨B,0,none⟩),.int .i64 a,.int .i64 c,.int .i64 h] w fun e w'=>∃ (v' : Value) (l' : List Fau),e = .returned (.int .i64 (l.length : Int)) ∧ w'.heap[B]? = some (.cells #[x0,x1,x2,v',x4] 90 (0,0)) ∧ Kd.R k97 97 w' w0.heap.size (fun _=>True) v' l' ∧ l'.length = l.length + 1 ∧ fltOk t l' ∧ (h = -1 → l' = l ++ [⟨a,c,-1,-1,false⟩]) ∧ Below w0.heap.size w0 w' ∧ (∀ g o,w.heap[g]? = some o → g ≠ B → some g ≠ v.ownBlock → w'.heap[g]? = some o) ∧ w.heap.size ≤ w'.heap.size:=by
 have hu37:=Try.underlying88
 have hu79:=Try.underlying90
 have HC:=a0_ (mach_raise0 B x0 x1 x2 x4 v l a c w0 w hB hr hb h0 (by omega))
 have HOK:=a0_ hok
 have hBsz:=a0_ (blk_lt hB)
 clear hB hr
 rcases hh with rfl | ⟨hh0,hh1⟩
 ·have hd : decide ((-1 : Int) ≥ 0) = false:=by decide
  go_enter Try.func57,Try.ntmps57
  go_wp2_with (go_at_call 72;refine HC.out.mono ?_;rintro e w1 ⟨v',rfl,hB1,hr1,hb1,hk1,hat1⟩)
  go_ret
  refine ⟨v',_,rfl,hB1,hr1,by simp,fltOk_add HOK.out a c ha0 ha1,fun _=>rfl,hb1,hk1,size_raise hB1 hr1 (by simp) hk1 hat1⟩
 ·have hd : decide (h ≥ 0) = true:=decide_eq_true hh0
  have hne : (l.length : Int) ≠ h:=by omega
  go_enter Try.func57,Try.ntmps57
  go_wp2_with (first
   | (go_at_call 72;refine HC.out.mono ?_;rintro e w1 ⟨v',rfl,hB1,hr1,hb1,hk1,hat1⟩;have ok1:=a0_ (fltOk_add HOK.out a c ha0 ha1);have hln:=a0_ (show (l ++ [(⟨a,c,-1,-1,false⟩ : Fau)]).length = l.length + 1 by simp);generalize l ++ [(⟨a,c,-1,-1,false⟩ : Fau)] = l1 at hr1 ok1 hln;obtain ⟨go,cc,rfl,hgo⟩:=R_some hr1 (by rw [hln.out];omega);have HR1:=a0_ hr1;have HB1:=a0_ hB1;have HBL:=a0_ hb1;have HK1:=a0_ hk1;have HGO:=a0_ hgo;have HAT:=a0_ hat1;clear hr1 hB1 hb1 hk1 hgo hat1)
   | (go_at_call 73;refine (mach_while0 B go l1.length cc x0 x1 x2 x4 l1 (l.length : Int) h w0 _ rfl HB1.out HR1.out HBL.out HGO.out (by rw [hln.out];omega) (fun x h0 h1=>(ok1.out x h0 h1).2) (by omega) (by rw [hln.out];omega) (by omega) (by rw [hln.out];omega)).mono ?_;rintro e w2 ⟨rfl,hr2,hb2,hk2⟩))
  go_ret
  have hneB : B ≠ go:=fun e=>Kd.R_ne HR1.out HB1.out (by decide) (by rw [e];rfl)
  have hln2 : l1.length = l.length + 1:=hln.out
  refine ⟨_,whlP l1 (l.length : Int) h,rfl,hk2 _ _ HB1.out hneB,hr2,by rw [whlP_len];exact hln2,fltOk_whl ok1.out (by omega) (by omega) (by omega) (by omega) hne,fun e=>by omega,hb2,fun g o hg hgB hgv=>?_,Nat.le_trans (size_raise HB1.out HR1.out (by rw [hln2];omega) HK1.out HAT.out) (size_kept (fun g hg=>?_))⟩
  rotate_left
  ·obtain ⟨o,ho⟩:=get_lt hg
   by_cases e2 : g = go
   ·exact R_own_lt hr2 (by rw [e2];rfl)
   ·exact blk_lt (hk2 g o ho e2)
  have hg1:=HK1.out g o hg hgB hgv
  refine hk2 g o hg1 (fun e=>?_)
  rcases HAT.out with ha | ⟨b,hb,hle⟩
  ·exact hgv (by rw [← ha,e];rfl)
  ·have e2 : go = b:=Option.some.inj hb
   have:=blk_lt hg
   omega
end Go.Proofs.Ytjcodcimodnbjaa.P
namespace Go.Proofs.Ytjcodcimodnbjaa.P
open Go.RowKit Go.Proofs.YtjcodcimodnbjaaW.PrintWords Go.Proofs.YtjcodcimodnbjaaW.PrintLast Go.Proofs.YtjcodcimodnbjaaW.PrintMore
attribute [local go_sem] max2_int min2_int max_two min_two max_three min_three max_four min_four
set_option linter.unusedVariables false
set_option linter.unusedSimpArgs false
open Go.Shelf
attribute [local go_sem] Oper.semAt_some
def bwUpto {α : Type} (f : Nat → α) (k : Nat) : List α:=(List.range k).map f
theorem bwUpto_succ {α : Type} (f : Nat → α) (k : Nat) : bwUpto f (k + 1) = bwUpto f k ++ [f k]:=by simp [bwUpto,List.range_succ]
theorem bwUpto_length {α : Type} (f : Nat → α) (k : Nat) : (bwUpto f k).length = k:=by simp [bwUpto]
def bwAt {α : Type} (z : α) (l : List α) (k : Nat) : Nat × α:=(l.length - 1 - k,l[l.length - 1 - k]?.getD z)
def bwKp (n₀ Bs : Nat) (W W' : World) : Prop:=Below n₀ W W' ∧ W'.heap[Bs]? = W.heap[Bs]?
theorem bwKp_refl (n₀ Bs : Nat) (W : World) : bwKp n₀ Bs W W:=⟨Below.refl _ _,rfl⟩
theorem bwKp_t {n₀ Bs : Nat} {A B C : World} (h1 : bwKp n₀ Bs A B) (h2 : bwKp n₀ Bs B C) : bwKp n₀ Bs A C:=⟨h1.1.trans h2.1,h2.2.trans h1.2⟩
set_option maxRecDepth 100000 in
set_option maxHeartbeats 2000000 in
theorem slices_Backward_Exit_1.callsI {α : Type} (vl : α → Nat × S38) (at_ : Nat → α) (F : Fence) (n : Nat) (h7 : F.fn 74) (hro : F.round = none) (hn : 1 ≤ n) (l Bs : Nat) (A : Option Addr) (c : Nat) (zs : List S38) (hat_ : ∀ k,vl (at_ k) = bwAt z38 zs k) (hreach : zs.length ≤ 1099511627776) (w0 : World) (hr : Kd.C k38 w0 A zs.length zs) (J Jx : List α → World → Prop)
  (hY : ∀ pre x W,J pre W → pre.length < zs.length → YieldAt F (n - 1) Try.prog l #[.int .i64 ((vl x).1 : Int),.agg #[.int .i64 (vl x).2.f0,.int .i64 (vl x).2.f1,.int .i64 (vl x).2.f2]] W fun e W' =>
   (e = .returned (.bool true) ∧ J (pre ++ [x]) W' ∧ bwKp w0.heap.size Bs W W') ∨ (e = .returned (.bool false) ∧ Jx (pre ++ [x]) W'))
  (W : World) (hW : Below w0.heap.size w0 W) (hBs : W.heap[Bs]? = some (.cells #[.slice A zs.length c] 30 (0,0))) (h0 : J [] W) :
  CallsIn F n Try.prog 74 #[.func (.yield l) #[] #[],.pointer (some ⟨Bs,0,none⟩)] W fun e W'=>(∃ v,e = .returned v) ∧
   ((∃ ys,ys = bwUpto at_ zs.length ∧ J ys W') ∨ (∃ pre,(∃ k,k ≤ zs.length ∧ pre = bwUpto at_ k) ∧ Jx pre W')):=by
 have HR:=a0_ hr
 have HBS:=a0_ hBs
 have HW:=a0_ hW
 clear hr hBs hW
 have hcb : W.cell? ⟨Bs,0,none⟩ = some (.slice A zs.length c):=(blk_cell HBS.out 0).trans rfl
 refine callsIn_of_wp Try.func74 rfl h7 ?_ hro
 simp only [Try.ntmps74,List.size_toArray,List.length_cons,List.length_nil,Nat.reduceAdd,Nat.reduceSub,Array.replicate_succ,Array.replicate_zero,List.push_toArray,List.append_toArray,List.nil_append,List.cons_append]
 have hs_ : wrap64 ((zs.length : Int) - 1) = (zs.length : Int) - 1:=wrap_in (by omega) (by omega)
 gi_wp2
 clear hcb
 gi_loopw [3] (fun i wr=>∃ m : Nat,m ≤ zs.length ∧ i = .int .i64 ((m : Int) - 1) ∧ Aside0 (J (bwUpto at_ (zs.length - m)) wr) ∧ Aside0 (bwKp w0.heap.size Bs W wr))
  (fun i _=>(intOf i + 1).toNat)
 case atStart=>exact ⟨zs.length,Nat.le_refl _,by first | rfl | (rw [hs_]),⟨by rw [Nat.sub_self];exact h0⟩,⟨bwKp_refl _ _ _⟩⟩
 case round =>
  obtain ⟨m,hm,rfl,HJ,HK⟩:=hrel
  have hcb : wr.cell? ⟨Bs,0,none⟩ = some (.slice A zs.length c):=(blk_cell (HK.out.2.trans HBS.out) 0).trans rfl
  cases m with
  | succ m =>
   have e1 : ((m + 1 : Nat) : Int) - 1 = (m : Int):=by omega
   rw [e1]
   have hge : (0 : Int) ≤ (m : Int):=by omega
   have hlt : (m : Int) < (zs.length : Int):=by omega
   obtain ⟨ad,ea,hx0,hx1,hx2⟩:=at_T38 (Kd.C_below HR.out (HW.out.trans HK.out.1)) (m : Int) (by omega) hlt
   have hrd : rd_T38 zs (m : Int) = zs[m]?.getD z38:=by simp [rd_T38]
   rw [hrd] at hx0 hx1 hx2
   rw [Int.toNat_natCast] at hx0 hx1 hx2
   cases ea
   have hat : bwAt z38 zs (zs.length - (m + 1)) = (m,zs[m]?.getD z38):=by unfold bwAt;rw [show zs.length - 1 - (zs.length - (m + 1)) = m by omega]
   obtain ⟨fn,tmps,assign,body,hy,hR⟩:=hY _ (at_ (zs.length - (m + 1))) wr HJ.out (by rw [bwUpto_length];omega)
   rw [hat_,hat] at hy
   dsimp only at hy
   have HRND:=a0_ hR
   clear hR
   gi_wp2
   refine HRND.out.mono ?_
   rintro e W3 (⟨rfl,hJ3,hk3⟩ | ⟨rfl,hJx3⟩)
   ·gi_wp2
    go_roundw
    case rel=>exact ⟨m,by omega,by first | rfl | (rw [wrap_in (by omega) (by omega)]),⟨by rw [show zs.length - m = (zs.length - (m + 1)) + 1 by omega,bwUpto_succ];exact hJ3⟩,⟨bwKp_t HK.out hk3⟩⟩
    case measure=>simp [intOf]
   ·gi_wp2
    refine bodyPost_ret (results_none rfl _ _ _) rfl ?_
    exact ⟨⟨_,rfl⟩,.inr ⟨_,⟨zs.length - (m + 1) + 1,by omega,by rw [bwUpto_succ]⟩,hJx3⟩⟩
  | zero =>
   gi_wp2
   go_end0
   exact ⟨⟨_,rfl⟩,.inl ⟨_,rfl,by have:=HJ.out;rw [Nat.sub_zero] at this;exact this⟩⟩
theorem slices_Backward_Exit_1.stops {α : Type} (vl : α → Nat × S38) (at_ : Nat → α) (F : Fence) (n : Nat) (h7 : F.fn 74) (hro : F.round = none) (hn : 1 ≤ n) (Bs : Nat) (A : Option Addr) (c : Nat) (zs : List S38) (hat_ : ∀ k,vl (at_ k) = bwAt z38 zs k) (hreach : zs.length ≤ 1099511627776) (w0 : World) (hr : Kd.C k38 w0 A zs.length zs) (w : World) (hw : Below w0.heap.size w0 w) (hBs : w.heap[Bs]? = some (.cells #[.slice A zs.length c] 30 (0,0))) :
  SeqStopsK F n Try.prog 74 #[.pointer (some ⟨Bs,0,none⟩)] (fun x : α=>#[.int .i64 ((vl x).1 : Int),.agg #[.int .i64 (vl x).2.f0,.int .i64 (vl x).2.f1,.int .i64 (vl x).2.f2]]) (bwKp w0.heap.size Bs) (fun ys=>ys = bwUpto at_ zs.length) (fun pre=>∃ k,k ≤ zs.length ∧ pre = bwUpto at_ k) zs.length w:=fun l J Jx W hW _ _ hY h0 =>
 slices_Backward_Exit_1.callsI vl at_ F n h7 hro hn l Bs A c zs hat_ hreach w0 hr J Jx hY W (hw.trans (hW.mono hw.size)) (blk_keptB hBs hW) h0
theorem bwKp_b {n₀ Bs : Nat} {w : World} (hn : n₀ ≤ w.heap.size) (hB : Bs < w.heap.size) (W : World) (l : Nat) (o o' : Obj) (hl : w.heap.size ≤ l) (h : W.heap[l]? = some o) (h1 : o.isCells = false) (h2 : o.isWalk = false) : bwKp n₀ Bs W (W.putObj l o') :=
 ⟨belowK_b hn W l o o' hl h h1 h2,World.putObj_heap_other (fun e=>by omega)⟩
end Go.Proofs.Ytjcodcimodnbjaa.P
namespace Go.Proofs.Ytjcodcimodnbjaa.P
open Go.RowKit Go.Proofs.YtjcodcimodnbjaaW.PrintWords Go.Proofs.YtjcodcimodnbjaaW.PrintLast Go.Proofs.YtjcodcimodnbjaaW.PrintMore
attribute [local go_sem] max2_int min2_int max_two min_two max_three min_three max_four min_four
set_option linter.unusedVariables false
set_option linter.unusedSimpArgs false
set_option maxHeartbeats 1000000 in
theorem slices_Backward_Exit.callsI (F : Fence) (n : Nat) (h5 : F.fn 58) (hro : F.round = none) (a : Option Addr) (len cap : Nat) (w : World) :
  CallsIn F n Try.prog 58 #[.slice a len cap] w fun e w'=>e = .returned (.func (.func 74) #[] #[.pointer (some ⟨w.heap.size,0,none⟩)]) ∧ w' = w.alloc (.cells #[.slice a len cap] 30):=by
 refine callsIn_of_wp Try.func58 rfl h5 ?_ hro
 simp only [Try.ntmps58,List.size_toArray,List.length_cons,List.length_nil,Nat.reduceAdd,Nat.reduceSub,Array.replicate_succ,Array.replicate_zero,List.push_toArray,List.append_toArray,List.nil_append,List.cons_append]
 gi_wp2
 go_ret
 exact ⟨rfl,rfl⟩
end Go.Proofs.Ytjcodcimodnbjaa.P
namespace Go.Proofs.Ytjcodcimodnbjaa.P
open Go.RowKit Go.Proofs.YtjcodcimodnbjaaW.PrintWords Go.Proofs.YtjcodcimodnbjaaW.PrintLast Go.Proofs.YtjcodcimodnbjaaW.PrintMore
attribute [local go_sem] max2_int min2_int max_two min_two max_three min_three max_four min_four
set_option linter.unusedVariables false
set_option linter.unusedSimpArgs false
def impl_Tree_above.l0 : Nat → Int → List Int → List (S76) → Option (List Int)
 | 0,_,_,_=>none
 | k + 1,x1,x5,x2000=>if x1 ≥ 0 then (if x5.length < 17592186044416 then (if 0 ≤ x1 then (if x1 < (x2000.length : Int) then (impl_Tree_above.l0 k ((rd_T76 x2000 x1).f1) (x5 ++ [x1]) x2000) else (none)) else (none)) else (none)) else (if 0 ≤ (x5.length : Int) then (if (x5.length : Int) ≤ (x5.length : Int) then (some (x5.take ((x5.length : Int) : Int).toNat)) else (none)) else (none))
def impl_Tree_above.f (k : Nat) (l0_0 : List (S76)) (a1 : Int) : Option (List Int):=if 0 ≤ (l0_0.length : Int) then (if ((l0_0.length : Int) : Int).toNat ≤ 35184372088832 then (impl_Tree_above.l0 k a1 (([] : List Int)) l0_0) else (none)) else (none)
theorem impl_Tree_above.mono_l : ∀ k,(∀ y0 y1 y2,LeO (impl_Tree_above.l0 k y0 y1 y2) (impl_Tree_above.l0 (k + 1) y0 y1 y2))
 | 0=>fun _ _ _ r h=>by simp [impl_Tree_above.l0] at h
 | k + 1=>by
  have ih0:=impl_Tree_above.mono_l k
  ·intro y0 y1 y2
   unfold impl_Tree_above.l0
   repeat' first
   | (with_reducible exact ih0 _ _ _)
   | (with_reducible exact LeO.refl _)
   | (with_reducible exact LeO.none _)
   | (with_reducible refine LeO.ite ?_ ?_)
   | (with_reducible refine LeO.bind ?_ (fun _=>?_))
   | exact ih0 _ _ _
   | exact LeO.none _
   | refine LeO.ite ?_ ?_
   | refine LeO.bind ?_ (fun _=>?_)
theorem impl_Tree_above.mono : ∀ a0 a1 k,LeO (impl_Tree_above.f k a0 a1) (impl_Tree_above.f (k + 1) a0 a1):=by
 intro a0 a1 k
 have ih0:=impl_Tree_above.mono_l k
 unfold impl_Tree_above.f
 repeat' first
   | (with_reducible exact ih0 _ _ _)
   | (with_reducible exact LeO.refl _)
   | (with_reducible exact LeO.none _)
   | (with_reducible refine LeO.ite ?_ ?_)
   | (with_reducible refine LeO.bind ?_ (fun _=>?_))
   | exact ih0 _ _ _
   | exact LeO.none _
   | refine LeO.ite ?_ ?_
   | refine LeO.bind ?_ (fun _=>?_)
set_option maxHeartbeats 8000000 in
set_option maxRecDepth 100000 in
theorem impl_Tree_above.calls (k : Nat) (A0_0 : Option Addr) (c0_0 : Nat) (l0_0 : List (S76)) (a1 : Int) (r : List Int) (w : World) (hr0_0 : Kd.C k76 w A0_0 l0_0.length l0_0) (hc0_0 : l0_0.length ≤ c0_0) (h : impl_Tree_above.f k l0_0 a1 = some r) :
  Calls Try.prog 76 #[.agg #[.slice A0_0 l0_0.length c0_0],.int .i64 a1] w fun e w'=>∃ v0_ : Value,e = .returned (v0_) ∧ Kd.R (Kd.int .i64) 3 w' w.heap.size (fun _=>True) v0_ r ∧ Below w.heap.size w w':=by
 have hu35:=Try.underlying35
 have HR0_0:=a0_ hr0_0
 have HC0_0:=a0_ hc0_0
 clear hr0_0 hc0_0
 have HB:=a0_ (Below.refl w.heap.size w)
 have H : (if 0 ≤ (l0_0.length : Int) then (if ((l0_0.length : Int) : Int).toNat ≤ 35184372088832 then (impl_Tree_above.l0 k a1 (([] : List Int)) l0_0) else (none)) else (none)) = some r:=h
 clear h
 by_cases c3 : 0 ≤ (l0_0.length : Int)
 ·rw [if_pos c3] at H
  have c3b0:=eq_true c3
  have c3b1 : decide (0 ≤ (l0_0.length : Int)) = true:=decide_eq_true c3
  clear c3
  by_cases c4 : ((l0_0.length : Int) : Int).toNat ≤ 35184372088832
  ·rw [if_pos c4] at H
   have c4b0:=eq_true c4
   have c4b1 : decide (((l0_0.length : Int) : Int).toNat ≤ 35184372088832) = true:=decide_eq_true c4
   clear c4
   obtain ⟨y2,hy2⟩ : ∃ y_ : List Int,y_ = (([] : List Int)):=⟨_,rfl⟩
   replace H : (impl_Tree_above.l0 k a1 y2 l0_0) = some r:=by first | (rw [hy2];with_reducible exact H) | (have H2_:=(Option.bind_some _ _).symm.trans H;rw [hy2];with_reducible exact H2_) | (have H2_:=(Option.bind_some _ _).symm.trans H;with_reducible exact H2_) | with_reducible exact H | (rw [hy2];exact H) | exact H
   have Ny2:=a0_ hy2
   clear hy2
   have H':=a0_ H
   clear H
   go_enter Try.func76,Try.ntmps76
   go_wp2_with (first | ((with_reducible refine gate_dst (N:=2) rfl ?_);refine box_event ?hg (N:=2) ?hd (cs:=#[.slice A0_0 l0_0.length c0_0]) (t:=35) ?hr ?_;(case hd=>rfl);(case hg=>rfl);(case hr=>first | (go_simp;done) | (go_simp;rfl));intro gb1 hg w5 hbox hb;have BK1:=a0_ (hbox);have GW1:=a0_ ((by rw [hg];exact (below_size hbw_) : w.heap.size ≤ gb1));have GE1:=a0_ ((by rw [hg];exact (below_size hbw_) : w.heap.size ≤ gb1));replace HB:=a0_ (below_step hbw_ hb);clear hb hbox hg;have hcz6_0 : w5.cell? ⟨gb1,0,none⟩ = some (.slice A0_0 l0_0.length c0_0):=(blk_cell BK1.out 0).trans rfl;have hfz6_0:=blk_frozen BK1.out 0) | ((with_reducible refine gate_dst (N:=9) rfl ?_);refine Kd.R_make0 (Kd.int .i64) _ 3 rfl (N:=9) rfl 51 _ _ rfl (l0_0.length : Int) rfl rfl Try.underlying51 (.int .i64 0) 8 info3 rfl (by decide) (by omega) 0 (ok:=fun _=>True) (okp:=fun _=>True) rfl (fun _ hk=>hk) trivial (of_decide_eq_true (by first | (with_reducible assumption) | assumption)) (Nat.le_trans (Nat.mul_le_mul_right _ (of_decide_eq_true (by first | (with_reducible assumption) | assumption) : (l0_0.length : Int).toNat ≤ 35184372088832)) (by omega)) (Below.refl _ _) (Nat.le_refl _) ?_;intro v3 w7 ho8 hb hg_ hnew_;clear hg_ hnew_;(first | rw [← Ny2.out] at ho8 | (simp only [Int.reduceToNat] at ho8;rw [← Ny2.out] at ho8));have HO4:=a0_ (Kd.R_lower ho8 (below_size hbw_));replace BK1:=kb_ BK1 hb;replace HB:=a0_ (below_step hbw_ hb);clear hb ho8))
   go_loopg [1,5] k (fun kq v1 v5 w'=>∃ (x1_1 : Int) (x5_1 : List Int),v1 = .int .i64 x1_1 ∧ Aside0 (impl_Tree_above.l0 kq x1_1 x5_1 l0_0 = some r) ∧ Aside0 (kq ≤ k) ∧ Aside0 (Kd.R (Kd.int .i64) 3 w' w.heap.size (fun _=>True) v5 x5_1) ∧ Aside0 (w'.heap[gb1]? = some (.cells #[(.slice A0_0 l0_0.length c0_0)] 35 (0,0))) ∧ Aside0 (Below w.heap.size w w'))
   case atStart=>exact ⟨(a1),(y2),(by first | rfl | (simp;done) | (simp [*];done)),H',⟨Nat.le_refl _⟩,⟨by (with_reducible repeat (first | apply Kd.R_alloc | apply Kd.R_drewN | apply Kd.R_drew));exact HO4.out⟩,⟨by (with_reducible repeat (first | refine blk_drewN ?_ _ | refine blk_drew ?_ | refine blk_alloc ?_ _));exact BK1.out⟩,⟨hbw_⟩⟩
   case round =>
    clear H'
    try clear p2
    try clear c3
    try clear c3b0
    try clear c3b1
    try clear c4
    try clear c4b0
    try clear c4b1
    try clear c7
    try clear hcz6_0
    try clear hfz6_0
    obtain ⟨x1_1,x5_1,rfl,HA,HK1,HO_5,BK1,HB⟩:=hrel
    cases gk with
    | zero=>exact absurd HA.out (by simp [impl_Tree_above.l0])
    | succ k1 =>
     have H:=HA.out
     clear HA
     simp only [impl_Tree_above.l0] at H
     by_cases c9 : x1_1 ≥ 0
     ·rw [if_pos c9] at H
      have c9b0 : decide (0 ≤ x1_1) = true:=decide_eq_true c9
      clear c9
      by_cases c10 : x5_1.length < 17592186044416
      ·rw [if_pos c10] at H
       have LMc10:=a0_ c10
       clear c10
       obtain ⟨y5,hy5⟩ : ∃ y_ : List Int,y_ = (x5_1 ++ [x1_1]):=⟨_,rfl⟩
       replace H : (if 0 ≤ x1_1 then (if x1_1 < (l0_0.length : Int) then (impl_Tree_above.l0 k1 ((rd_T76 l0_0 x1_1).f1) y5 l0_0) else (none)) else (none)) = some r:=by first | (rw [hy5];with_reducible exact H) | (have H2_:=(Option.bind_some _ _).symm.trans H;rw [hy5];with_reducible exact H2_) | (have H2_:=(Option.bind_some _ _).symm.trans H;with_reducible exact H2_) | with_reducible exact H | (rw [hy5];exact H) | exact H
       have Ny5:=a0_ hy5
       clear hy5
       by_cases c11 : 0 ≤ x1_1
       ·rw [if_pos c11] at H
        have c11b0 : decide (0 ≤ x1_1) = true:=decide_eq_true c11
        clear c11
        by_cases c12 : x1_1 < (l0_0.length : Int)
        ·rw [if_pos c12] at H
         have c12b0 : decide (x1_1 < (l0_0.length : Int)) = true:=decide_eq_true c12
         clear c12
         have H':=a0_ H
         clear H
         go_wp2_with (first | ((with_reducible refine gate_builtin (b:=.append) (xs:=#[.tmp 18,.tmp 20]) rfl ?_);at_builtin;refine Kd.R_append (Kd.int .i64) (w0:=w) w.heap.size rfl (.tmp 18) (.tmp 20) 51 3 (.int .i64 0) 8 rfl Try.underlying51 info3 rfl (by decide) (by omega) u5 x5_1 x1_1 [.int .i64 x1_1] (fun _=>True) (fun _=>False) rfl rfl ?aP (fun _ hk=>hk.elim) ?aF ?aO ?aB ?aS ?aL ?_;(case aP=>exact rfl);(case aB=>exact hbw_);(case aF=>exact (fun _ _=>trivial));(case aO=>exact (rr_ HO_5.out));(case aS=>exact (below_size hbw_));(case aL=>have:=LMc10.out;omega);intro v6 w13 ho hb hg hat;rw [← Ny5.out] at ho;replace BK1:=a0_ (blk_grown (bb_ BK1.out) hg (Kd.R_ne HO_5.out BK1.out (by decide)));have HO7:=a0_ (ho);replace HB:=a0_ (hb);clear HO_5;clear ho hb hg hat;have hcz14_0 : w13.cell? ⟨gb1,0,none⟩ = some (.slice A0_0 l0_0.length c0_0):=(blk_cell BK1.out 0).trans rfl;have hfz14_0:=blk_frozen BK1.out 0;have p8 : 0 ≤ (x1_1 : Int):=of_decide_eq_true (by first | (with_reducible assumption) | assumption);have q8 : x1_1 < (l0_0.length : Int):=of_decide_eq_true (by first | (with_reducible assumption) | assumption);obtain ⟨ad8,e8,hx8_0,hx8_1⟩:=at_T76 HR0_0.out x1_1 p8 q8;cases e8;replace hx8_0:=(HB.out.cell (World.block_lt_of_cell? w _ hx8_0)).trans hx8_0;replace hx8_1:=(HB.out.cell (World.block_lt_of_cell? w _ hx8_1)).trans hx8_1;replace p8:=eq_true p8;replace q8:=eq_true q8))
         go_roundg k1
         case measure=>have:=HK1.out;omega
         case rel=>exact ⟨((rd_T76 l0_0 x1_1).f1),(y5),(by first | rfl | (simp;done) | (simp [*];done)),H',⟨by have:=HK1.out;omega⟩,⟨by (with_reducible repeat (first | apply Kd.R_alloc | apply Kd.R_drewN | apply Kd.R_drew));exact HO7.out⟩,⟨by (with_reducible repeat (first | refine blk_drewN ?_ _ | refine blk_drew ?_ | refine blk_alloc ?_ _));exact BK1.out⟩,⟨hbw_⟩⟩
        ·rw [if_neg c12] at H
         exact absurd H (by simp)
       ·rw [if_neg c11] at H
        exact absurd H (by simp)
      ·rw [if_neg c10] at H
       exact absurd H (by simp)
     ·rw [if_neg c9] at H
      have c9b0 : decide (0 ≤ x1_1) = false:=decide_eq_false c9
      clear c9
      by_cases c15 : 0 ≤ (x5_1.length : Int)
      ·rw [if_pos c15] at H
       have c15b0:=eq_true c15
       have c15b1 : decide (0 ≤ (x5_1.length : Int)) = true:=decide_eq_true c15
       clear c15
       by_cases c16 : (x5_1.length : Int) ≤ (x5_1.length : Int)
       ·rw [if_pos c16] at H
        have c16b0:=eq_true c16
        have c16b1 : decide ((x5_1.length : Int) ≤ (x5_1.length : Int)) = true:=decide_eq_true c16
        clear c16
        obtain ⟨y9,hy9⟩ : ∃ y_ : List Int,y_ = (x5_1.take ((x5_1.length : Int) : Int).toNat):=⟨_,rfl⟩
        replace H : (some y9) = some r:=by first | (rw [hy9];with_reducible exact H) | (have H2_:=(Option.bind_some _ _).symm.trans H;rw [hy9];with_reducible exact H2_) | (have H2_:=(Option.bind_some _ _).symm.trans H;with_reducible exact H2_) | with_reducible exact H | (rw [hy9];exact H) | exact H
        have Ny9:=a0_ hy9
        clear hy9
        obtain rfl:=Option.some.inj H
        obtain ⟨Ao17,co17,eo17⟩:=Kd.R_slice HO_5.out
        subst eo17
        have q18 : x5_1.length ≤ co17:=(Kd.R_reads' HO_5.out).2.1
        have hr18:=Kd.R_clip2 HO_5.out (((x5_1.length : Int) : Int).toNat) (by omega)
        rw [← Ny9.out] at hr18
        clear HO_5
        have HO11:=a0_ hr18
        clear hr18
        go_wp2
        go_ret
        exact ⟨_,by first | rfl | (simp [errW_none,errW_some] <;> rfl) | (simp [*,errW_none,errW_some] <;> rfl),by (with_reducible repeat (first | apply Kd.R_alloc | apply Kd.R_drewN | apply Kd.R_drew));exact HO11.out,hbw_⟩
       ·rw [if_neg c16] at H
        exact absurd H (by simp)
      ·rw [if_neg c15] at H
       exact absurd H (by simp)
  ·rw [if_neg c4] at H
   exact absurd H (by simp)
 ·rw [if_neg c3] at H
  exact absurd H (by simp)
theorem impl_Tree_above_l0 {t : List Cls} (h : vT t = true) : ∀ (k : Nat) (a : Int) (acc : List Int),a < (t.length : Int) → a + 1 < (k : Int) → 0 < k → acc.length + k ≤ 1000000 → impl_Tree_above.l0 k a acc t = some (acc ++ abv t a):=by
 intro k
 induction k with
 | zero=>intro a acc _ _ h0;exact absurd h0 (Nat.lt_irrefl 0)
 | succ k ih =>
  intro a acc ha hk _ hl
  simp only [impl_Tree_above.l0]
  by_cases h0 : a ≥ 0
  ·have hp:=vT_par' h a h0 ha
   rw [if_pos h0,if_pos (show acc.length < 17592186044416 by omega),if_pos (show 0 ≤ a from h0),if_pos ha,abv_step h a h0 ha,ih _ _ (by omega) (by omega) (by omega) (by simp;omega)]
   simp
  ·rw [if_neg h0,abv_neg t a (by omega),List.append_nil]
   rw [if_pos (show (0 : Int) ≤ (acc.length : Int) by omega),if_pos (Int.le_refl _)]
   rw [List.take_of_length_le (by simp)]
theorem impl_Tree_above_ev {t : List Cls} (h : vT t = true) (a : Int) (ha : a < (t.length : Int)) (k : Nat) (hk : 10 ≤ k) (hk2 : k ≤ 1000000) : impl_Tree_above.f k t a = some (abv t a):=by
 have h2:=vT_len h
 unfold impl_Tree_above.f
 rw [if_pos (show (0 : Int) ≤ (t.length : Int) by omega),if_pos (show ((t.length : Int) : Int).toNat ≤ 35184372088832 by omega),impl_Tree_above_l0 h k a [] ha (by omega) (by omega) (by simp;omega)]
 simp
end Go.Proofs.Ytjcodcimodnbjaa.P
namespace Go.Proofs.Ytjcodcimodnbjaa.P
open Go.RowKit Go.Proofs.YtjcodcimodnbjaaW.PrintWords Go.Proofs.YtjcodcimodnbjaaW.PrintLast Go.Proofs.YtjcodcimodnbjaaW.PrintMore
attribute [local go_sem] max2_int min2_int max_two min_two max_three min_three max_four min_four
set_option linter.unusedVariables false
set_option linter.unusedSimpArgs false
def impl_Tree_is.f (k : Nat) (l0_0 : List (S76)) (a1 : Int) (a2 : Int) : Option (Bool):=(impl_Tree_above.f k l0_0 a1).bind fun t2=>((slices_Contains_int.f k t2 a2).bind fun t5=>(some t5))
theorem impl_Tree_is.mono : ∀ a0 a1 a2 k,LeO (impl_Tree_is.f k a0 a1 a2) (impl_Tree_is.f (k + 1) a0 a1 a2):=by
 intro a0 a1 a2 k
 unfold impl_Tree_is.f
 repeat' first
   | (with_reducible exact impl_Tree_above.mono _ _ _)
   | (with_reducible exact slices_Contains_int.mono _ _ _)
   | (with_reducible exact LeO.refl _)
   | (with_reducible exact LeO.none _)
   | (with_reducible refine LeO.ite ?_ ?_)
   | (with_reducible refine LeO.bind ?_ (fun _=>?_))
   | exact impl_Tree_above.mono _ _ _
   | exact slices_Contains_int.mono _ _ _
   | exact LeO.none _
   | refine LeO.ite ?_ ?_
   | refine LeO.bind ?_ (fun _=>?_)
set_option maxHeartbeats 8000000 in
set_option maxRecDepth 100000 in
theorem impl_Tree_is.calls (k : Nat) (A0_0 : Option Addr) (c0_0 : Nat) (l0_0 : List (S76)) (a1 : Int) (a2 : Int) (r : Bool) (w : World) (hr0_0 : Kd.C k76 w A0_0 l0_0.length l0_0) (hc0_0 : l0_0.length ≤ c0_0) (h : impl_Tree_is.f k l0_0 a1 a2 = some r) :
  Calls Try.prog 59 #[.agg #[.slice A0_0 l0_0.length c0_0],.int .i64 a1,.int .i64 a2] w fun e w'=>e = .returned (.bool r) ∧ Below w.heap.size w w':=by
 have hu35:=Try.underlying35
 have HR0_0:=a0_ hr0_0
 have HC0_0:=a0_ hc0_0
 clear hr0_0 hc0_0
 have HB:=a0_ (Below.refl w.heap.size w)
 have H : ((impl_Tree_above.f k l0_0 a1).bind fun t2=>((slices_Contains_int.f k t2 a2).bind fun t5=>(some t5))) = some r:=h
 clear h
 replace H:=Option.bind_eq_some_iff.mp H
 obtain ⟨t2,A40,H⟩:=H
 try dsimp only at H
 have A4:=a0_ A40
 clear A40
 replace H:=Option.bind_eq_some_iff.mp H
 obtain ⟨t5,A50,H⟩:=H
 replace H : (some t5) = some r:=H
 have A5:=a0_ A50
 clear A50
 obtain rfl:=Option.some.inj H
 go_enter Try.func59,Try.ntmps59
 go_wp2_with (first | ((with_reducible refine gate_dst (N:=3) rfl ?_);refine box_event ?hg (N:=3) ?hd (cs:=#[.slice A0_0 l0_0.length c0_0]) (t:=35) ?hr ?_;(case hd=>rfl);(case hg=>rfl);(case hr=>first | (go_simp;done) | (go_simp;rfl));intro gb1 hg w6 hbox hb;have BK1:=a0_ (hbox);have GW1:=a0_ ((by rw [hg];exact (below_size hbw_) : w.heap.size ≤ gb1));have GE1:=a0_ ((by rw [hg];exact (below_size hbw_) : w.heap.size ≤ gb1));replace HB:=a0_ (below_step hbw_ hb);clear hb hbox hg;have hcz7_0 : w6.cell? ⟨gb1,0,none⟩ = some (.slice A0_0 l0_0.length c0_0):=(blk_cell BK1.out 0).trans rfl;have hfz7_0:=blk_frozen BK1.out 0) | ((with_reducible refine gate_callee (f:=76) rfl ?_);refine goesL_ (some 9) rfl rfl Try.func76 (by kernel_rfl) rfl #[.agg #[.slice A0_0 l0_0.length c0_0],.int .i64 a1] rfl lm_ ?_;(with_reducible refine (impl_Tree_above.calls k _ _ l0_0 a1 t2 _ ?side1 ?side2 A4.out).mono ?_);(case side1=>exact cc_ (Kd.C_below HR0_0.out HB.out));(case side2=>exact HC0_0.out);rintro e w8 ⟨v3,rfl,ho0,hb⟩;refine ⟨_,rfl,?_⟩;have HO4:=a0_ (Kd.R_lower ho0 (below_size hbw_));replace BK1:=kb_ BK1 hb;replace HB:=a0_ (below_step hbw_ hb);(try clear hb);(try clear ho0);obtain ⟨Ao9,co9,eo9⟩:=Kd.R_slice HO4.out;subst eo9) | ((with_reducible refine gate_callee (f:=75) rfl ?_);refine goesL_ (some 11) rfl rfl Try.func75 (by kernel_rfl) rfl #[.slice Ao9 t2.length co9,.int .i64 a2] rfl lm_ ?_;(with_reducible refine (slices_Contains_int.calls k _ _ t2 a2 t5 _ ?side1 ?side2 A5.out).mono ?_);(case side1=>exact cc_ (Kd.R_reads' HO4.out).2.2);(case side2=>exact (Kd.R_reads' HO4.out).2.1);rintro e w' ⟨rfl,⟨nd,rfl⟩⟩;refine ⟨_,rfl,?_⟩))
 go_ret
 exact ⟨by first | rfl | (simp [errW_none,errW_some] <;> rfl) | (simp [*,errW_none,errW_some] <;> rfl),hbw_⟩
theorem impl_Tree_is_ev {t : List Cls} (h : vT t = true) (a b : Int) (ha : a < (t.length : Int)) (k : Nat) (hk : 10 ≤ k) (hk2 : k ≤ 1000000) : impl_Tree_is.f k t a b = some (isA t a b):=by
 have hl:=abv_len h a ha
 unfold impl_Tree_is.f
 rw [impl_Tree_above_ev h a ha k hk hk2]
 simp only [Option.bind_some]
 rw [slices_Contains_int_ev _ _ (by omega) k (by omega)]
 rfl
end Go.Proofs.Ytjcodcimodnbjaa.P
namespace Go.Proofs.Ytjcodcimodnbjaa.P
open Go.RowKit Go.Proofs.YtjcodcimodnbjaaW.PrintWords Go.Proofs.YtjcodcimodnbjaaW.PrintLast Go.Proofs.YtjcodcimodnbjaaW.PrintMore
attribute [local go_sem] max2_int min2_int max_two min_two max_three min_three max_four min_four
set_option linter.unusedVariables false
set_option linter.unusedSimpArgs false
open Go.Shelf
attribute [local go_sem] Oper.semAt_some
def onlyN (K : Act → World → Prop) : Exit → Act → World → Prop
 | .normal,a,w=>K a w
 | _,_,_=>False
theorem onlyN_lets (K : Act → World → Prop) : ¬ LetsOut (onlyN K):=fun ⟨_,_,h⟩=>h
theorem op_in {l n : Nat} {P : Program} {o : Oper} {a : Act} {w : World} {K K' : Act → World → Prop} {Q : Exit → Act → World → Prop} (hd : ∀ c,o.op ≠ .defer c) (hk : ∀ a w,K a w → K' a w) {KN : Act → World → Prop} (h : o.wp P a w K (onlyN KN)) : o.wpIn (Fence.wide.inRound l) n P a w K' Q:=by
 refine ⟨fun _ _=>trivial,?_⟩
 rw [show (Fence.wide.inRound l).round = some l from rfl,Oper.semAt_some l _ _ hd]
 unfold Oper.wp at h
 generalize (execOp a.eval o).run P w = r at h
 cases r with
 | ok x w' =>
  cases x with
  | value v=>exact hk _ _ h
  | skip=>exact hk _ _ h
  | defer d=>exact hk _ _ h
  | enter f args =>
   refine ⟨fun hh=>(by cases hh),CallsIn.inRound l (callsIn_wide.2 (Calls.mono h ?_))⟩
   intro e w'' he
   cases e with
   | returned v=>exact hk _ _ he
   | panicked c=>exact absurd he (fun h=>h)
   | outgrown=>exact absurd he (onlyN_lets _)
  | row row args =>
   refine ⟨fun hh=>(by cases hh),fun c cs _=>?_⟩
   obtain ⟨v,w2,r2,s2⟩:=h c cs
   exact ⟨v,w2,hk _ _ r2,stepsIn_wide.2 s2⟩
  | _=>exact absurd h (fun h=>h)
 | halt s w' =>
  cases s with
  | panic v=>exact absurd h (fun h=>h)
  | _=>exact absurd h (fun h=>h)
theorem wpAny_in {l n : Nat} {P : Program} {md : Region.Mode} {ops : Array Oper} {K : Act → World → Prop} {Q : Exit → Act → World → Prop} (hd : ∀ (i : Nat) (o : Oper),ops[i]? = some o → ∀ c,o.op ≠ .defer c) (hk : ∀ a w,K a w → Q .normal a w) : ∀ (fuel : Nat) (listed : Array Bool) (a : Act) (w : World),wpAny P md ops (onlyN K) fuel listed a w → wpAnyIn (Fence.wide.inRound l) n P md ops Q fuel listed a w
 | 0,_,_,_,h=>⟨h.1,hk _ _ h.2⟩
 | fuel + 1,listed,a,w,h=>⟨fun he=>hk _ _ (h.1 he),fun i hi=>by
   have h2:=h.2 i hi
   unfold wpOp at h2
   unfold wpOpIn
   cases ho : ops[i]? with
   | none=>rw [ho] at h2;exact wpAny_in hd hk fuel _ _ _ h2
   | some o =>
    rw [ho] at h2
    simp only at h2 ⊢
    split at h2
    ·rename_i hw
     rw [if_pos hw]
     rcases h2 with h2 | h2
     ·refine op_in (KN:=K) (hd i o ho) (wpAny_in hd hk fuel _) ?_
      exact h2
     ·exact absurd h2.2 (onlyN_lets _)
    ·rename_i hw
     rw [if_neg hw]
     exact ⟨fun _ _=>trivial,wpAny_in hd hk fuel _ _ _ h2⟩⟩
theorem start_in {l n m : Nat} {id : Nat} {P : Program} {ops : Array Oper} {K : Act → World → Prop} {Q : Exit → Act → World → Prop} {S : World → Prop} {ds : List Nat} {a : Act} {w : World} (L : Array Bool) (hm : P.follows .mixedOrders = true) (hn : ops.size = m) (hl : Array.replicate m false = L) (hd : ops.all (fun o=>match o.op with | .defer _=>false | _=>true) = true) (hk : ∀ a w,K a w → Q .normal a w) (hS : S w.drew)
  (h : S w.drew → wpAnyLast P .any ops (onlyN K) S ds m L a w.drew) : (Code.region id ops true).wpIn (Fence.wide.inRound l) n P Q a w:=by
 subst hn
 subst hl
 refine wpIn_region_any hm (wpAny_in (fun i o ho c hc=>?_) hk _ _ _ _ (wpAny_of_last _ _ _ _ (h hS)))
 have h1 : o ∈ ops:=Array.mem_of_getElem? ho
 have h2:=Array.all_eq_true_iff_forall_mem.1 hd o h1
 rw [hc] at h2
 simp at h2
abbrev exT (t : List Cls):={ x : Nat × S38 // exOk t x.2 }
theorem exOk_z (t : List Cls) : exOk t z38:=fun h=>by
 have h2 : (0 : Int) = 3:=h
 omega
theorem exOk_at {t : List Cls} {l : List (S38)} (h : ∀ x ∈ l,exOk t x) (k : Nat) : exOk t (bwAt z38 l k).2:=by
 unfold bwAt
 simp only
 cases hq : l[l.length - 1 - k]? with
 | none=>exact exOk_z t
 | some y=>exact h y (List.mem_of_getElem? hq)
def exAt {t : List Cls} {l : List (S38)} (h : ∀ x ∈ l,exOk t x) (k : Nat) : exT t:=⟨bwAt z38 l k,exOk_at h k⟩
theorem exAt_snd {t : List Cls} {l : List (S38)} (h : ∀ x ∈ l,exOk t x) : (bwUpto (exAt h) l.length).map (fun x=>x.1.2) = l.reverse:=by
 apply List.ext_getElem
 ·simp [bwUpto]
 ·intro i h1 h2
  have h3 : i < l.length:=by simpa using h2
  have h4 : l.length - 1 - i < l.length:=by omega
  simp [bwUpto,bwAt,exAt,h4]
structure mst (t : List Cls) (a : Int) (At : Option Addr) (ct Bm B3 B7 : Nat) (w0 : World) (pre : List (S38)) (W : World) (logv hv : Value) (log : List Int) (fs : List Fau) (f : Int) : Prop where
 b3 : W.heap[B3]? = some (.cells #[.pointer (some ⟨Bm,0,none⟩)] 65 (0,0))
 b7 : W.heap[B7]? = some (.cells #[.int .i64 f] 3 (0,0))
 bm : W.heap[Bm]? = some (.cells #[.slice At t.length ct,.slice none 0 0,logv,hv,.int .i64 (-1)] 90 (0,0))
 rl : Kd.R (Kd.int .i64) 3 W w0.heap.size (fun k=>k ≠ B7) logv log
 rf : Kd.R k97 97 W w0.heap.size (fun _=>True) hv fs
 ll : log.length ≤ pre.length
 lf : fs.length ≤ pre.length + 1
 l1 : 1 ≤ fs.length
 ok : fltOk t fs
 fr : f = -1 ∨ (0 ≤ f ∧ f < (fs.length : Int))
 py : psB t a pre = true → f = 0 ∧ fs = [⟨a,0,-1,-1,false⟩]
 pn : psB t a pre = false → f ≠ 0
 bw : Below w0.heap.size w0 W
theorem own_blk {β : Type} (B : Nat) (g : β → Nat) (o : β → Obj) (ho : ∀ s,(o s).isCells = true) : OwnFrom B (fun (s : β) W=>W.heap[g s]? = some (o s)):=fun s W W' row hs hg hr=>(hg.block _ (blk_lt hs) (fun e=>by
 obtain ⟨_,o',h1,h2⟩:=hr _ e.symm
 rw [hs] at h1
 cases h1
 rw [ho] at h2
 cases h2)).trans hs
theorem ko_below {W W' : World} (h : Below W.heap.size W W') : KeepsOthers W W':=⟨h.size,fun k o hk _=>blk_keptB hk h⟩
theorem own_R {α : Type} (d : Kd α) {e base B : Nat} {ok : Nat → Prop} {v : Value} {xs : List α} {W W' : World} {row : Option Nat} (h : d.R e W base ok v xs) (hg : W.grownBy W' row) (hr : ∀ r,row = some r → B ≤ r ∧ ∃ o,W.heap[r]? = some o ∧ o.isCells = false) : d.R e W' base ok v xs :=
 Kd.R_mono (Kd.R_grown (Kd.R_bound h) hg (fun k hk e=>by
  obtain ⟨_,_,_,q,_,cells,hc⟩:=hk
  obtain ⟨_,o,h1,h2⟩:=hr k e.symm
  rw [hc] at h1
  cases h1
  cases h2)) (fun k hk=>hk.1)
theorem own_mst {t : List Cls} {a : Int} {At : Option Addr} {ct Bm B3 B7 B : Nat} {w0 : World} (hB : w0.heap.size ≤ B) : OwnFrom B (fun (pre : List (exT t)) W=>∃ logv hv log fs f,mst t a At ct Bm B3 B7 w0 (pre.map (fun x=>x.1.2)) W logv hv log fs f):=by
 rintro pre W W' row ⟨logv,hv,log,fs,f,h⟩ hg hr
 refine ⟨logv,hv,log,fs,f,?_,?_,?_,own_R (B:=B) _ h.rl hg hr,own_R (B:=B) _ h.rf hg hr,h.ll,h.lf,h.l1,h.ok,h.fr,h.py,h.pn,?_⟩
 ·exact own_blk (β:=Unit) B (fun _=>B3) (fun _=>_) (fun _=>rfl) () W W' row h.b3 hg hr
 ·exact own_blk (β:=Unit) B (fun _=>B7) (fun _=>_) (fun _=>rfl) () W W' row h.b7 hg hr
 ·exact own_blk (β:=Unit) B (fun _=>Bm) (fun _=>_) (fun _=>rfl) () W W' row h.bm hg hr
 ·exact (ownFrom_below (β:=Unit) (Nat.le_refl _) hB) () W W' row h.bw hg hr
theorem mst_below {t : List Cls} {a : Int} {At : Option Addr} {ct Bm B3 B7 : Nat} {w0 : World} {pre : List (S38)} {W W' : World} {logv hv : Value} {log : List Int} {fs : List Fau} {f : Int} (h : mst t a At ct Bm B3 B7 w0 pre W logv hv log fs f) (hb : Below W.heap.size W W') : mst t a At ct Bm B3 B7 w0 pre W' logv hv log fs f :=
 ⟨blk_keptB h.b3 hb,blk_keptB h.b7 hb,blk_keptB h.bm hb,Kd.R_below h.rl hb,Kd.R_below h.rf hb,h.ll,h.lf,h.l1,h.ok,h.fr,h.py,h.pn,below_step h.bw hb⟩
theorem mst_pass {t : List Cls} {a : Int} {At : Option Addr} {ct Bm B3 B7 : Nat} {w0 : World} {pre : List (S38)} {W : World} {logv hv : Value} {log : List Int} {fs : List Fau} {f : Int} (h : mst t a At ct Bm B3 B7 w0 pre W logv hv log fs f) (x : S38) (hx : (decide (x.f0 = 3) || (decide (x.f0 = 2) && isA t a x.f1)) = false) : mst t a At ct Bm B3 B7 w0 (pre ++ [x]) W logv hv log fs f:=by
 have e : psB t a (pre ++ [x]) = psB t a pre:=by rw [psB_snoc,hx];simp
 exact ⟨h.b3,h.b7,h.bm,h.rl,h.rf,by rw [List.length_append];have:=h.ll;omega,by rw [List.length_append];have:=h.lf;omega,h.l1,h.ok,h.fr,fun q=>h.py (e ▸ q),fun q=>h.pn (e ▸ q),h.bw⟩
theorem below_btw {n : Nat} {w W W' : World} (h1 : Below n w W) (h2 : Below n w W') (hs : W.heap.size ≤ W'.heap.size) : Below n W W':=⟨h2.os.trans h1.os.symm,h2.tape.trans h1.tape.symm,h2.output.trans h1.output.symm,hs,fun k hk=>(h2.block k hk).trans (h1.block k hk).symm⟩
theorem mst_log {t : List Cls} {a : Int} {At : Option Addr} {ct Bm B3 B7 : Nat} {w0 W W1 : World} {pre : List (S38)} {logv hv v9 : Value} {log : List Int} {fs : List Fau} {f u : Int} (h : mst t a At ct Bm B3 B7 w0 pre W logv hv log fs f) (hg : W.grownBy W1 logv.ownBlock) (ho : Kd.R (Kd.int .i64) 3 W1 w0.heap.size (fun k=>k ≠ B7) v9 (log ++ [u])) (hb : Below w0.heap.size w0 W1) (h0 : w0.heap.size ≤ Bm) (n3 : B3 ≠ Bm) (n7 : B7 ≠ Bm) (x : S38) (hx : (decide (x.f0 = 3) || (decide (x.f0 = 2) && isA t a x.f1)) = false) :
  mst t a At ct Bm B3 B7 w0 (pre ++ [x]) (W1.setCell ⟨Bm,2,none⟩ v9) v9 hv (log ++ [u]) fs f:=by
 have e3:=blk_grown h.b3 hg (Kd.R_ne h.rl h.b3 (by decide))
 have e7:=blk_grown h.b7 hg (Kd.R_away h.rl (fun _ hk=>hk))
 have eM:=blk_grown h.bm hg (Kd.R_ne h.rl h.bm (by decide))
 have e : psB t a (pre ++ [x]) = psB t a pre:=by rw [psB_snoc,hx];simp
 exact ⟨blk_far e3 n3 _,blk_far e7 n7 _,blk_put eM 2 _ rfl,Kd.R_set ho eM (by decide) 2 _,Kd.R_set (Kd.R_over' h.rf (Kd.R_typed h.rl) (by decide) hg) eM (by decide) 2 _,by rw [List.length_append,List.length_append];have:=h.ll;simp;omega,by rw [List.length_append];have:=h.lf;omega,h.l1,h.ok,h.fr,fun q=>h.py (e ▸ q),fun q=>h.pn (e ▸ q),below_set hb h0⟩
theorem log_keeps {t : List Cls} {a : Int} {At : Option Addr} {ct Bm B3 B7 : Nat} {w0 W W1 : World} {pre : List (S38)} {logv hv v9 : Value} {log : List Int} {fs : List Fau} {f : Int} (h : mst t a At ct Bm B3 B7 w0 pre W logv hv log fs f) (hg : W.grownBy W1 logv.ownBlock) : KeepsOthers W (W1.setCell ⟨Bm,2,none⟩ v9):=by
 refine KeepsOthers.trans ⟨hg.size,fun k o hk hc=>(hg.block k (blk_lt hk) (fun e=>?_)).trans hk⟩ (KeepsOthers.setCell _ _ _)
 obtain ⟨_,_,_,q,_,cells,hcc⟩:=(Kd.R_bound h.rl).1 k e.symm
 rw [hk] at hcc
 cases hcc
 cases hc
theorem log_size {W W1 : World} {Bm : Nat} {v9 : Value} {row : Option Nat} (hg : W.grownBy W1 row) : W.heap.size ≤ (W1.setCell ⟨Bm,2,none⟩ v9).heap.size:=by
 rw [World.size_setCell]
 exact hg.size
theorem mst_keep {t : List Cls} {a : Int} {At : Option Addr} {ct Bm B3 B7 : Nat} {w0 : World} {pre : List (S38)} {W : World} {logv hv : Value} {log : List Int} {fs : List Fau} {f : Int} (h : mst t a At ct Bm B3 B7 w0 pre W logv hv log fs f) (x : S38) (hx : psB t a pre = true → (decide (x.f0 = 3) || (decide (x.f0 = 2) && isA t a x.f1)) = false) : mst t a At ct Bm B3 B7 w0 (pre ++ [x]) W logv hv log fs f:=by
 have e : psB t a (pre ++ [x]) = psB t a pre:=by
  rw [psB_snoc]
  cases hp : psB t a pre with
  | true=>rw [hx hp];rfl
  | false=>rfl
 exact ⟨h.b3,h.b7,h.bm,h.rl,h.rf,by rw [List.length_append];have:=h.ll;omega,by rw [List.length_append];have:=h.lf;omega,h.l1,h.ok,h.fr,fun q=>h.py (e ▸ q),fun q=>h.pn (e ▸ q),h.bw⟩
theorem mst_catch {t : List Cls} {a : Int} {At : Option Addr} {ct Bm B3 B7 : Nat} {w0 : World} {pre : List (S38)} {W : World} {logv hv : Value} {log : List Int} {fs : List Fau} {f : Int} (h : mst t a At ct Bm B3 B7 w0 pre W logv hv log fs f) (x : S38) (n3 : B3 ≠ B7) (nm : Bm ≠ B7) (h0 : w0.heap.size ≤ B7) (hx : psB t a pre = true → (decide (x.f0 = 3) || (decide (x.f0 = 2) && isA t a x.f1)) = true) : mst t a At ct Bm B3 B7 w0 (pre ++ [x]) (W.setCell ⟨B7,0,none⟩ (.int .i64 (-1))) logv hv log fs (-1):=by
 have e : psB t a (pre ++ [x]) = false:=by
  rw [psB_snoc]
  cases hp : psB t a pre with
  | true=>rw [hx hp];rfl
  | false=>rfl
 exact ⟨blk_far h.b3 n3 _,blk_put h.b7 0 _ rfl,blk_far h.bm nm _,Kd.R_far (p:=⟨B7,0,none⟩) h.rl (fun g hg=>hg) _,Kd.R_set h.rf h.b7 (by decide) 0 _,by rw [List.length_append];have:=h.ll;omega,by rw [List.length_append];have:=h.lf;omega,h.l1,h.ok,.inl rfl,fun q=>absurd q (by rw [e];simp),fun _=>by omega,below_set h.bw h0⟩
set_option maxRecDepth 100000 in
set_option maxHeartbeats 4000000 in
theorem mach_closed (t : List Cls) (At : Option Addr) (ct : Nat) (l : List (S38)) (A : Option Addr) (c : Nat) (a : Int) (Bm : Nat) (w0 w : World) (hv : vT t = true) (ha0 : 0 ≤ a) (ha1 : a < (t.length : Int)) (hl : l.length ≤ 8) (hx : ∀ x ∈ l,exOk t x) (hB : w.heap[Bm]? = some (.cells #[.slice At t.length ct,.slice none 0 0,.slice none 0 0,.slice none 0 0,.int .i64 (-1)] 90 (0,0))) (hrt : Kd.C k76 w0 At t.length t) (hct : t.length ≤ ct) (hrl : Kd.C k38 w0 A l.length l) (hb : Below w0.heap.size w0 w) (h0 : w0.heap.size ≤ Bm) :
  Calls Try.prog 44 #[.pointer (some ⟨Bm,0,none⟩),.slice A l.length c,.agg #[.bool true,.int .i64 a,.int .i64 0]] w fun e w'=>∃ f : Int,e = .returned (.int .i64 f) ∧ (f == 0) = psB t a l ∧ Below w0.heap.size w0 w':=by
 have hu_:=Try.underlying90
 have hu2:=Try.underlying38
 have hu3:=Try.underlying69
 have hu4:=Try.underlying88
 have hu5:=Try.underlying97
 have HRT:=a0_ hrt
 have hv0:=a0_ hv
 have HRL:=a0_ hrl
 have HX:=a0_ hx
 have b3:=heap_new1 w (.cells #[.pointer (some ⟨Bm,0,none⟩)] 65)
 have b5:=heap_new1 (w.alloc (.cells #[.pointer (some ⟨Bm,0,none⟩)] 65)) (.cells #[.bool true,.int .i64 a,.int .i64 0] 69)
 have b7:=heap_new1 ((w.alloc (.cells #[.pointer (some ⟨Bm,0,none⟩)] 65)).alloc (.cells #[.bool true,.int .i64 a,.int .i64 0] 69)) (.cells #[.int .i64 0] 3)
 simp only [World.size_alloc] at b5 b7
 refine (callsIn_wide (n:=3)).1 ?_
 refine callsIn_of_wp_marks Try.func44 rfl trivial ?_ rfl
 simp only [Try.ntmps44,List.size_toArray,List.length_cons,List.length_nil,Nat.reduceAdd,Nat.reduceSub,Array.replicate_succ,Array.replicate_zero,List.push_toArray,List.append_toArray,List.nil_append,List.cons_append]
 gi_wp2_with (fail)
 have B3:=a0_ (blk_alloc (blk_alloc b3 (.cells #[.bool true,.int .i64 a,.int .i64 0] 69)) (.cells #[.int .i64 (-1)] 3))
 have B7:=a0_ (heap_new1 ((w.alloc (.cells #[.pointer (some ⟨Bm,0,none⟩)] 65)).alloc (.cells #[.bool true,.int .i64 a,.int .i64 0] 69)) (.cells #[.int .i64 (-1)] 3))
 have BM:=a0_ (blk_alloc (blk_alloc (blk_alloc hB (.cells #[.pointer (some ⟨Bm,0,none⟩)] 65)) (.cells #[.bool true,.int .i64 a,.int .i64 0] 69)) (.cells #[.int .i64 (-1)] 3))
 have HB:=a0_ (below_alloc (below_alloc (below_alloc hb (.cells #[.pointer (some ⟨Bm,0,none⟩)] 65)) (.cells #[.bool true,.int .i64 a,.int .i64 0] 69)) (.cells #[.int .i64 (-1)] 3))
 have hsz:=hb.size
 have hBm:=blk_lt hB
 clear b3 b5 b7 hB hb
 simp only [World.size_alloc] at B7
 generalize hW1 : (((w.alloc (.cells #[.pointer (some ⟨Bm,0,none⟩)] 65)).alloc (.cells #[.bool true,.int .i64 a,.int .i64 0] 69)).alloc (.cells #[.int .i64 (-1)] 3)) = W1 at B3 B7 BM HB ⊢
 have hs1 : W1.heap.size = w.heap.size + 3:=by rw [← hW1,World.size_alloc,World.size_alloc,World.size_alloc]
 clear hW1
 refine ⟨trivial,?_⟩
 refine (callsIn_wide.2 (mach_raise t Bm _ _ _ _ (.slice none 0 0) [] a 0 (-1) w0 W1 BM.out (Kd.R_nil _ _ _ _ _) HB.out h0 (by simp) (fltOk_nil t) ha0 ha1 (.inl rfl))).mono ?_
 rintro e W2 ⟨v2,fs2,rfl,hB2,hr2,hl2,hok2,hfs2,hb2,hk2,_⟩
 obtain rfl:=hfs2 rfl
 replace B3:=a0_ (hk2 _ _ B3.out (by omega) (by simp [Value.ownBlock]))
 replace B7:=a0_ (hk2 _ _ B7.out (by omega) (by simp [Value.ownBlock]))
 clear BM HB hk2 hfs2
 have hc7:=(blk_cell B7.out 0).trans rfl
 have hf7:=blk_frozen B7.out 0
 gi_wp2_with (fail)
 have MS:=a0_ (show mst t a At ct Bm w.heap.size (w.heap.size + 1 + 1) w0 ([] : List (S38)) (W2.setCell ⟨w.heap.size + 1 + 1,0,none⟩ (.int .i64 0)) (.slice none 0 0) v2 [] [⟨a,0,-1,-1,false⟩] 0 from
  ⟨blk_far B3.out (show w.heap.size ≠ w.heap.size + 1 + 1 by omega) _,blk_put B7.out 0 _ rfl,blk_far hB2 (show Bm ≠ w.heap.size + 1 + 1 by omega) _,Kd.R_nil _ _ _ _ _,Kd.R_set hr2 B7.out (by decide) 0 _,Nat.le_refl _,by simp,by simp,hok2,.inr ⟨by omega,by simp⟩,fun _=>⟨rfl,rfl⟩,fun h=>by simp [psB] at h,below_set hb2 (show w0.heap.size ≤ w.heap.size + 1 + 1 by omega)⟩)
 have hs2 : W2.heap.size ≥ w.heap.size + 3:=by have:=blk_lt B7.out;omega
 clear hc7 hf7 hB2 hr2 hb2 B3 B7 hl2 hok2
 have hs3 : (W2.setCell ⟨w.heap.size + 1 + 1,0,none⟩ (.int .i64 0)).heap.size ≥ w.heap.size + 3:=by rw [World.size_setCell];exact hs2
 generalize W2.setCell ⟨w.heap.size + 1 + 1,0,none⟩ (.int .i64 0) = W3 at MS hs3 ⊢
 refine ⟨trivial,?_⟩
 refine (slices_Backward_Exit.callsI Fence.wide 2 trivial rfl _ _ _ _).mono ?_
 rintro e w' ⟨rfl,rfl⟩
 have BS:=a0_ (heap_new1 W3 (.cells #[.slice A l.length c] 30))
 replace MS:=a0_ (mst_below MS.out (below1 W3 (.cells #[.slice A l.length c] 30)))
 have MS4:=a0_ MS.out.bw.size
 have hs4 : (W3.alloc (.cells #[.slice A l.length c] 30)).heap.size = W3.heap.size + 1:=by rw [World.size_alloc]
 gi_wp2
 generalize W3.alloc (.cells #[.slice A l.length c] 30) = W4 at MS BS hs4 ⊢
 generalize W3.heap.size = gS at BS hs4 hs3 ⊢
 refine wpIn_rangeFunc_ownH (F:=Fence.wide) (n:=3) rfl (by omega) (gf:=74) (lb:=#[.pointer (some ⟨gS,0,none⟩)]) rfl trivial (enters_of Try.func74 (by kernel_rfl) rfl)
  (slices_Backward_Exit_1.stops (α:=exT t) (fun x=>x.1) (exAt hx) Fence.wide 2 trivial rfl (by omega) gS A c l (fun k=>rfl) (by omega) w0 HRL.out W4 MS.out.bw BS.out) bwKp_t (bwKp_b (by have:=MS.out.bw.size;omega) (by omega)) (Below.refl _ _) (fun _=>rfl)
  (fun pre W=>(∃ logv hv log fs f,mst t a At ct Bm w.heap.size (w.heap.size + 1 + 1) w0 (pre.map (fun x=>x.1.2)) W logv hv log fs f) ∧ W.heap[gS]? = some (.cells #[.slice A l.length c] 30 (0,0)))
  (fun _ _ _=>False)
  (OwnFrom.and (own_mst (by have:=MS.out.bw.size;omega)) (own_blk _ (fun _=>gS) (fun _=>_) (fun _=>rfl)))
  (fun _=>ownFrom_pure _ _)
  ⟨⟨_,_,_,_,_,MS.out⟩,BS.out⟩
  (fun x a' W=>∃ Bx,W.heap[Bx]? = some (.cells #[.int .i64 x.1.2.f0,.int .i64 x.1.2.f1,.int .i64 x.1.2.f2] 38 (0,0)) ∧ a' = { tmps:=#[.pointer (some ⟨Bm,0,none⟩),.slice A l.length c,.agg #[.bool true,.int .i64 a,.int .i64 0],.pointer (some ⟨w.heap.size,0,none⟩),undef,.pointer (some ⟨w.heap.size + 1,0,none⟩),.int .i64 0,.pointer (some ⟨w.heap.size + 1 + 1,0,none⟩),undef,.pointer (some ⟨Bx,0,none⟩),.pointer (some ⟨w.heap.size + 1,0,none⟩),.bool true,.pointer (some ⟨Bm,0,none⟩),.pointer (some ⟨w.heap.size + 1,1,none⟩),.int .i64 a,.pointer (some ⟨w.heap.size + 1,2,none⟩),.int .i64 0,.int .i64 0,.slice A l.length c,.func (.func 74) #[] #[.pointer (some ⟨gS,0,none⟩)],.int .i64 (x.1.1 : Int),.agg #[.int .i64 x.1.2.f0,.int .i64 x.1.2.f1,.int .i64 x.1.2.f2],undef,undef,undef,undef,undef,undef,undef,undef,undef,undef,undef,undef,undef,undef,undef,undef,undef,undef,undef,undef,undef,undef,undef,undef,undef,undef,undef,undef,undef,undef,undef,undef,undef,undef,undef,undef,undef,undef,undef,undef,undef,undef,undef,undef,undef,undef,undef,undef,undef,undef,undef,undef,undef,undef,undef,undef,undef,undef,undef,undef,undef,undef],defers:=[] })
  (fun x a' _ X Y row hs hg hr=>by obtain ⟨Bx,e2,e3⟩:=hs;exact ⟨Bx,own_blk (β:=Unit) _ (fun _=>Bx) (fun _=>Obj.cells #[.int .i64 x.1.2.f0,.int .i64 x.1.2.f1,.int .i64 x.1.2.f2] 38 (0,0)) (fun _=>rfl) () X Y row e2 hg hr,e3⟩)
  ?assign ?body ?done ?stop
 case assign =>
  rintro lr pre x W K ⟨⟨logv,hv,log,fs,f,MS⟩,dS⟩ hK
  gi_wp2
  exact hK _ _ ((KeepsOthers.alloc _ _).from _) ⟨(Below.refl _ W).alloc MS.bw.size _,Below.heap_alloc W _ _ (blk_lt dS)⟩ ⟨⟨_,_,_,_,_,mst_below MS (below1 W _)⟩,blk_alloc dS _⟩ ⟨W.heap.size,heap_new1 W _,rfl⟩
 case body =>
  rintro lr pre ⟨⟨xi,k,u,v⟩,hxk⟩ a' W hlr ⟨rec_,hrec⟩ ⟨⟨logv,hv,log,fs,f,MS⟩,dS⟩ ⟨Bx,dX,rfl⟩ hlt
  dsimp only at dX hxk ⊢
  have hx0 : W.cell? ⟨Bx,0,none⟩ = some (.int .i64 k):=(blk_cell dX 0).trans rfl
  have hx1 : W.cell? ⟨Bx,1,none⟩ = some (.int .i64 u):=(blk_cell dX 1).trans rfl
  have hx2 : W.cell? ⟨Bx,2,none⟩ = some (.int .i64 v):=(blk_cell dX 2).trans rfl
  by_cases k0 : k = 0
  ·have hk0 : (k == 0) = true:=beq_iff_eq.2 k0
   gi_wp2_with (fail)
   have MSW:=a0_ MS
   refine start_in (m:=12) (S:=fun w'=>(w'.cell? ⟨w.heap.size,0,none⟩ = some (.pointer (some ⟨Bm,0,none⟩)) ∧ w'.cell? ⟨Bm,2,none⟩ = some logv) ∧ w'.cell? ⟨Bx,1,none⟩ = some (.int .i64 u)) (ds:=[11]) #[false,false,false,false,false,false,false,false,false,false,false,false] (by kernel_rfl) rfl rfl (by kernel_rfl) (fun _ _ h=>h) ⟨⟨(blk_cell MS.b3 0).trans rfl,(blk_cell MS.bm 2).trans rfl⟩,(blk_cell dX 1).trans rfl⟩ (fun hHeld=>?_)
   refine take_ (i:=0) (N:=some 26) (v:=?_) (a':=?_) #[true,false,false,false,false,false,false,false,false,false,false,false] rfl rfl (by kernel_rfl) (fun _ _ _ h=>h) (Or.inl ⟨by rfl,?_⟩) hHeld ?_ ?_
   rotate_left
   ·rintro w' ⟨⟨s0,s1⟩,s2⟩
    go_simp
    with_reducible rfl
   rotate_left
   ·simp only [Act.put,s1_,s2_,s3_,i64_w,i32_w]
    rfl
   refine take_ (i:=1) (N:=some 27) (v:=?_) (a':=?_) #[true,true,false,false,false,false,false,false,false,false,false,false] rfl rfl (by kernel_rfl) (fun _ _ _ h=>h) (Or.inl ⟨by rfl,?_⟩) hHeld ?_ ?_
   rotate_left
   ·rintro w' ⟨⟨s0,s1⟩,s2⟩
    go_simp
    with_reducible rfl
   rotate_left
   ·simp only [Act.put,s1_,s2_,s3_,i64_w,i32_w]
    rfl
   refine pure_ (i:=2) (N:=some 28) (v:=?_) (a':=?_) #[true,true,true,false,false,false,false,false,false,false,false,false] rfl rfl (by kernel_rfl) (fun _ _ _ h=>h) (Or.inl ⟨by rfl,?_⟩) ?_ ?_
   rotate_left
   ·intro w'
    go_simp
    with_reducible rfl
   rotate_left
   ·simp only [Act.put,s1_,s2_,s3_,i64_w,i32_w]
    rfl
   refine pure_ (i:=3) (N:=some 29) (v:=?_) (a':=?_) #[true,true,true,true,false,false,false,false,false,false,false,false] rfl rfl (by kernel_rfl) (fun _ _ _ h=>h) (Or.inl ⟨by rfl,?_⟩) ?_ ?_
   rotate_left
   ·intro w'
    go_simp
    with_reducible rfl
   rotate_left
   ·simp only [Act.put,s1_,s2_,s3_,i64_w,i32_w]
    rfl
   refine take_ (i:=4) (N:=some 30) (v:=?_) (a':=?_) #[true,true,true,true,true,false,false,false,false,false,false,false] rfl rfl (by kernel_rfl) (fun _ _ _ h=>h) (Or.inl ⟨by rfl,?_⟩) hHeld ?_ ?_
   rotate_left
   ·rintro w' ⟨⟨s0,s1⟩,s2⟩
    go_simp
    with_reducible rfl
   rotate_left
   ·simp only [Act.put,s1_,s2_,s3_,i64_w,i32_w]
    rfl
   refine pure_ (i:=5) (N:=some 31) (v:=?_) (a':=?_) #[true,true,true,true,true,true,false,false,false,false,false,false] rfl rfl (by kernel_rfl) (fun _ _ _ h=>h) (Or.inl ⟨by rfl,?_⟩) ?_ ?_
   rotate_left
   ·intro w'
    go_simp
    with_reducible rfl
   rotate_left
   ·simp only [Act.put,s1_,s2_,s3_,i64_w,i32_w]
    rfl
   refine take_ (i:=6) (N:=some 32) (v:=?_) (a':=?_) #[true,true,true,true,true,true,true,false,false,false,false,false] rfl rfl (by kernel_rfl) (fun _ _ _ h=>h) (Or.inl ⟨by rfl,?_⟩) hHeld ?_ ?_
   rotate_left
   ·rintro w' ⟨⟨s0,s1⟩,s2⟩
    go_simp
    with_reducible rfl
   rotate_left
   ·simp only [Act.put,s1_,s2_,s3_,i64_w,i32_w]
    rfl
   have MD:=a0_ (mst_below MSW.out (below_drew1 (Below.refl W.heap.size W)))
   have HDR:=a0_ (below_drew1 (Below.refl W.heap.size W))
   have DXd:=a0_ (blk_keptB dX (below_drew1 (Below.refl W.heap.size W)))
   have DSd:=a0_ (blk_keptB dS (below_drew1 (Below.refl W.heap.size W)))
   generalize W.drew = Wd at MD HDR DXd DSd hHeld ⊢
   refine one_ (i:=7) (N:=some 33) #[true,true,true,true,true,true,true,true,false,false,false,false] rfl rfl (by kernel_rfl) (by decide) (fun K hK=>?_)
   refine value_ (v:=.slice (some ⟨Wd.heap.size,0,none⟩) 1 1) (w1:=Wd.alloc (.cells #[.int .i64 u] 3)) (by rfl) rfl (by first | (go_simp;done) | (go_simp;rfl)) ?_
   refine hK.out _ _ ⟨⟨(blk_cell (blk_alloc MD.out.b3 _) 0).trans rfl,(blk_cell (blk_alloc MD.out.bm _) 2).trans rfl⟩,(blk_cell (blk_alloc DXd.out _) 1).trans rfl⟩ (fun hHeld=>?_)
   clear hK K
   refine norm_ (a':=?_) ?_ ?_
   rotate_left
   ·simp only [Act.put,s1_,s2_,s3_,i64_w,i32_w]
    rfl
   have HLL:=a0_ MSW.out.ll
   refine one_ (i:=8) (N:=some 34) #[true,true,true,true,true,true,true,true,true,false,false,false] rfl rfl (by kernel_rfl) (by decide) (fun K hK=>?_)
   refine Kd.R_append_step (Kd.int .i64) (w0:=w0) w0.heap.size (by rfl) (.tmp 30) (.tmp 33) 51 3 (.int .i64 0) 8 rfl Try.underlying51 info3 rfl (by decide) (by omega) logv log u [.int .i64 u] (fun k=>k ≠ w.heap.size + 1 + 1) (fun _=>False) rfl rfl rfl (fun _ h=>h.elim) (fun k hk=>by have:=blk_lt MD.out.b7;omega) MD.out.rl MD.out.bw MD.out.bw.size (by have:=HLL.out;rw [List.length_map] at this;omega) ?_
   intro v9 w9 ho9 hb9 hg9 hat9
   obtain ⟨A9,c9,rfl⟩:=Kd.R_slice ho9
   have e3:=blk_grown MD.out.b3 hg9 (Kd.R_ne MD.out.rl MD.out.b3 (by decide))
   have e7:=blk_grown MD.out.b7 hg9 (Kd.R_away MD.out.rl (fun _ hk=>hk))
   have eM:=blk_grown MD.out.bm hg9 (Kd.R_ne MD.out.rl MD.out.bm (by decide))
   have eX:=blk_grown DXd.out hg9 (Kd.R_ne MD.out.rl DXd.out (by decide))
   have eS:=blk_grown DSd.out hg9 (Kd.R_ne MD.out.rl DSd.out (by decide))
   refine hK.out _ _ ⟨⟨(blk_cell e3 0).trans rfl,(blk_cell eM 2).trans rfl⟩,(blk_cell eX 1).trans rfl⟩ (fun hHeld=>?_)
   clear hK K
   refine norm_ (a':=?_) ?_ ?_
   rotate_left
   ·simp only [Act.put,s1_,s2_,s3_,i64_w,i32_w]
    rfl
   refine pure_ (i:=9) (N:=some 35) (v:=?_) (a':=?_) #[true,true,true,true,true,true,true,true,true,true,false,false] rfl rfl (by kernel_rfl) (fun _ _ _ h=>h) (Or.inl ⟨by rfl,?_⟩) ?_ ?_
   rotate_left
   ·intro w'
    go_simp
    with_reducible rfl
   rotate_left
   ·simp only [Act.put,s1_,s2_,s3_,i64_w,i32_w]
    rfl
   refine pure_ (i:=10) (N:=some 36) (v:=?_) (a':=?_) #[true,true,true,true,true,true,true,true,true,true,true,false] rfl rfl (by kernel_rfl) (fun _ _ _ h=>h) (Or.inl ⟨by rfl,?_⟩) ?_ ?_
   rotate_left
   ·intro w'
    go_simp
    with_reducible rfl
   rotate_left
   ·simp only [Act.put,s1_,s2_,s3_,i64_w,i32_w]
    rfl
   have hfm:=blk_frozen eM 2
   refine last_ (i:=11) (N:=none) #[true,true,true,true,true,true,true,true,true,true,true,true] rfl rfl (by kernel_rfl) (by decide) (fun K hK=>?_)
   refine skip_ (w1:=w9.setCell ⟨Bm,2,none⟩ (.slice A9 (log ++ [u]).length c9)) (by rfl) rfl ?hrun11 ?_
   case hrun11=>first | (go_simp;done) | (go_simp;rfl)
   refine hK.out _ _ ?_
   clear hK K
   refine done_ (by kernel_rfl) ?_
   unfold onlyN
   have hnew:=mst_log MD.out hg9 ho9 hb9 h0 (by omega) (by omega) (⟨k,u,v⟩ : S38) (by simp [k0])
   rw [List.length_append,List.length_singleton] at hnew
   gi_wp2
   refine ⟨((ko_below HDR.out).trans (log_keeps MD.out hg9)).from _,⟨below_btw MSW.out.bw hnew.bw (Nat.le_trans HDR.out.size (log_size hg9)),?_⟩,⟨_,_,_,_,_,by rw [List.map_append];exact hnew⟩,?_⟩
   ·exact (blk_far eS (show gS ≠ Bm by omega) _).trans dS.symm
   ·exact blk_far eS (show gS ≠ Bm by omega) _
  have hk0 : (k == 0) = false:=beq_eq_false_iff_ne.2 k0
  by_cases k1 : k = 1
  ·subst k1
   have hk1 : ((1 : Int) == 1) = true:=rfl
   have hc7:=(blk_cell MS.b7 0).trans rfl
   by_cases hf0 : f ≥ 0
   ·have hfd : decide (f ≥ 0) = true:=decide_eq_true hf0
    gi_wp2_with (fail)
    have MSW:=a0_ MS
    refine start_in (m:=12) (S:=fun w'=>(w'.cell? ⟨w.heap.size,0,none⟩ = some (.pointer (some ⟨Bm,0,none⟩)) ∧ w'.cell? ⟨Bm,2,none⟩ = some logv) ∧ w'.cell? ⟨Bx,1,none⟩ = some (.int .i64 u)) (ds:=[11]) #[false,false,false,false,false,false,false,false,false,false,false,false] (by kernel_rfl) rfl rfl (by kernel_rfl) (fun _ _ h=>h) ⟨⟨(blk_cell MS.b3 0).trans rfl,(blk_cell MS.bm 2).trans rfl⟩,(blk_cell dX 1).trans rfl⟩ (fun hHeld=>?_)
    refine take_ (i:=0) (N:=some 41) (v:=?_) (a':=?_) #[true,false,false,false,false,false,false,false,false,false,false,false] rfl rfl (by kernel_rfl) (fun _ _ _ h=>h) (Or.inl ⟨by rfl,?_⟩) hHeld ?_ ?_
    rotate_left
    ·rintro w' ⟨⟨s0,s1⟩,s2⟩
     go_simp
     with_reducible rfl
    rotate_left
    ·simp only [Act.put,s1_,s2_,s3_,i64_w,i32_w]
     rfl
    refine take_ (i:=1) (N:=some 42) (v:=?_) (a':=?_) #[true,true,false,false,false,false,false,false,false,false,false,false] rfl rfl (by kernel_rfl) (fun _ _ _ h=>h) (Or.inl ⟨by rfl,?_⟩) hHeld ?_ ?_
    rotate_left
    ·rintro w' ⟨⟨s0,s1⟩,s2⟩
     go_simp
     with_reducible rfl
    rotate_left
    ·simp only [Act.put,s1_,s2_,s3_,i64_w,i32_w]
     rfl
    refine pure_ (i:=2) (N:=some 43) (v:=?_) (a':=?_) #[true,true,true,false,false,false,false,false,false,false,false,false] rfl rfl (by kernel_rfl) (fun _ _ _ h=>h) (Or.inl ⟨by rfl,?_⟩) ?_ ?_
    rotate_left
    ·intro w'
     go_simp
     with_reducible rfl
    rotate_left
    ·simp only [Act.put,s1_,s2_,s3_,i64_w,i32_w]
     rfl
    refine pure_ (i:=3) (N:=some 44) (v:=?_) (a':=?_) #[true,true,true,true,false,false,false,false,false,false,false,false] rfl rfl (by kernel_rfl) (fun _ _ _ h=>h) (Or.inl ⟨by rfl,?_⟩) ?_ ?_
    rotate_left
    ·intro w'
     go_simp
     with_reducible rfl
    rotate_left
    ·simp only [Act.put,s1_,s2_,s3_,i64_w,i32_w]
     rfl
    refine take_ (i:=4) (N:=some 45) (v:=?_) (a':=?_) #[true,true,true,true,true,false,false,false,false,false,false,false] rfl rfl (by kernel_rfl) (fun _ _ _ h=>h) (Or.inl ⟨by rfl,?_⟩) hHeld ?_ ?_
    rotate_left
    ·rintro w' ⟨⟨s0,s1⟩,s2⟩
     go_simp
     with_reducible rfl
    rotate_left
    ·simp only [Act.put,s1_,s2_,s3_,i64_w,i32_w]
     rfl
    refine pure_ (i:=5) (N:=some 46) (v:=?_) (a':=?_) #[true,true,true,true,true,true,false,false,false,false,false,false] rfl rfl (by kernel_rfl) (fun _ _ _ h=>h) (Or.inl ⟨by rfl,?_⟩) ?_ ?_
    rotate_left
    ·intro w'
     go_simp
     with_reducible rfl
    rotate_left
    ·simp only [Act.put,s1_,s2_,s3_,i64_w,i32_w]
     rfl
    refine take_ (i:=6) (N:=some 47) (v:=?_) (a':=?_) #[true,true,true,true,true,true,true,false,false,false,false,false] rfl rfl (by kernel_rfl) (fun _ _ _ h=>h) (Or.inl ⟨by rfl,?_⟩) hHeld ?_ ?_
    rotate_left
    ·rintro w' ⟨⟨s0,s1⟩,s2⟩
     go_simp
     with_reducible rfl
    rotate_left
    ·simp only [Act.put,s1_,s2_,s3_,i64_w,i32_w]
     rfl
    have MD:=a0_ (mst_below MSW.out (below_drew1 (Below.refl W.heap.size W)))
    have HDR:=a0_ (below_drew1 (Below.refl W.heap.size W))
    have DXd:=a0_ (blk_keptB dX (below_drew1 (Below.refl W.heap.size W)))
    have DSd:=a0_ (blk_keptB dS (below_drew1 (Below.refl W.heap.size W)))
    generalize W.drew = Wd at MD HDR DXd DSd hHeld ⊢
    refine one_ (i:=7) (N:=some 48) #[true,true,true,true,true,true,true,true,false,false,false,false] rfl rfl (by kernel_rfl) (by decide) (fun K hK=>?_)
    refine value_ (v:=.slice (some ⟨Wd.heap.size,0,none⟩) 1 1) (w1:=Wd.alloc (.cells #[.int .i64 u] 3)) (by rfl) rfl (by first | (go_simp;done) | (go_simp;rfl)) ?_
    refine hK.out _ _ ⟨⟨(blk_cell (blk_alloc MD.out.b3 _) 0).trans rfl,(blk_cell (blk_alloc MD.out.bm _) 2).trans rfl⟩,(blk_cell (blk_alloc DXd.out _) 1).trans rfl⟩ (fun hHeld=>?_)
    clear hK K
    refine norm_ (a':=?_) ?_ ?_
    rotate_left
    ·simp only [Act.put,s1_,s2_,s3_,i64_w,i32_w]
     rfl
    have HLL:=a0_ MSW.out.ll
    refine one_ (i:=8) (N:=some 49) #[true,true,true,true,true,true,true,true,true,false,false,false] rfl rfl (by kernel_rfl) (by decide) (fun K hK=>?_)
    refine Kd.R_append_step (Kd.int .i64) (w0:=w0) w0.heap.size (by rfl) (.tmp 45) (.tmp 48) 51 3 (.int .i64 0) 8 rfl Try.underlying51 info3 rfl (by decide) (by omega) logv log u [.int .i64 u] (fun k=>k ≠ w.heap.size + 1 + 1) (fun _=>False) rfl rfl rfl (fun _ h=>h.elim) (fun k hk=>by have:=blk_lt MD.out.b7;omega) MD.out.rl MD.out.bw MD.out.bw.size (by have:=HLL.out;rw [List.length_map] at this;omega) ?_
    intro v9 w9 ho9 hb9 hg9 hat9
    obtain ⟨A9,c9,rfl⟩:=Kd.R_slice ho9
    have e3:=blk_grown MD.out.b3 hg9 (Kd.R_ne MD.out.rl MD.out.b3 (by decide))
    have e7:=blk_grown MD.out.b7 hg9 (Kd.R_away MD.out.rl (fun _ hk=>hk))
    have eM:=blk_grown MD.out.bm hg9 (Kd.R_ne MD.out.rl MD.out.bm (by decide))
    have eX:=blk_grown DXd.out hg9 (Kd.R_ne MD.out.rl DXd.out (by decide))
    have eS:=blk_grown DSd.out hg9 (Kd.R_ne MD.out.rl DSd.out (by decide))
    refine hK.out _ _ ⟨⟨(blk_cell e3 0).trans rfl,(blk_cell eM 2).trans rfl⟩,(blk_cell eX 1).trans rfl⟩ (fun hHeld=>?_)
    clear hK K
    refine norm_ (a':=?_) ?_ ?_
    rotate_left
    ·simp only [Act.put,s1_,s2_,s3_,i64_w,i32_w]
     rfl
    refine pure_ (i:=9) (N:=some 50) (v:=?_) (a':=?_) #[true,true,true,true,true,true,true,true,true,true,false,false] rfl rfl (by kernel_rfl) (fun _ _ _ h=>h) (Or.inl ⟨by rfl,?_⟩) ?_ ?_
    rotate_left
    ·intro w'
     go_simp
     with_reducible rfl
    rotate_left
    ·simp only [Act.put,s1_,s2_,s3_,i64_w,i32_w]
     rfl
    refine pure_ (i:=10) (N:=some 51) (v:=?_) (a':=?_) #[true,true,true,true,true,true,true,true,true,true,true,false] rfl rfl (by kernel_rfl) (fun _ _ _ h=>h) (Or.inl ⟨by rfl,?_⟩) ?_ ?_
    rotate_left
    ·intro w'
     go_simp
     with_reducible rfl
    rotate_left
    ·simp only [Act.put,s1_,s2_,s3_,i64_w,i32_w]
     rfl
    have hfm:=blk_frozen eM 2
    refine last_ (i:=11) (N:=none) #[true,true,true,true,true,true,true,true,true,true,true,true] rfl rfl (by kernel_rfl) (by decide) (fun K hK=>?_)
    refine skip_ (w1:=w9.setCell ⟨Bm,2,none⟩ (.slice A9 (log ++ [u]).length c9)) (by rfl) rfl ?hrun11b ?_
    case hrun11b=>first | (go_simp;done) | (go_simp;rfl)
    refine hK.out _ _ ?_
    clear hK K
    refine done_ (by kernel_rfl) ?_
    unfold onlyN
    have hnew:=mst_log MD.out hg9 ho9 hb9 h0 (by omega) (by omega) (⟨1,u,v⟩ : S38) (by simp)
    rw [List.length_append,List.length_singleton] at hnew
    gi_wp2
    refine ⟨((ko_below HDR.out).trans (log_keeps MD.out hg9)).from _,⟨below_btw MSW.out.bw hnew.bw (Nat.le_trans HDR.out.size (log_size hg9)),?_⟩,⟨_,_,_,_,_,by rw [List.map_append];exact hnew⟩,?_⟩
    ·exact (blk_far eS (show gS ≠ Bm by omega) _).trans dS.symm
    ·exact blk_far eS (show gS ≠ Bm by omega) _
   ·have hfd : decide (f ≥ 0) = false:=decide_eq_false hf0
    gi_wp2_with (fail)
    exact ⟨(KeepsOthers.refl W).from _,bwKp_refl _ _ _,⟨_,_,_,_,_,by rw [List.map_append];exact mst_pass MS (⟨1,u,v⟩ : S38) (by simp)⟩,dS⟩
  have hk1 : (k == 1) = false:=beq_eq_false_iff_ne.2 k1
  by_cases k2 : k = 2
  ·subst k2
   have hk2 : ((2 : Int) == 2) = true:=rfl
   by_cases hf0 : f ≥ 0
   ·have hfd : decide (f ≥ 0) = true:=decide_eq_true hf0
    have hf1 : f < (fs.length : Int):=by rcases MS.fr with h | h <;> omega
    obtain ⟨go,cg,rfl,hgo⟩:=R_some MS.rf (by have:=MS.l1;omega)
    obtain ⟨ce,hcl,hM,hcc,hfr⟩:=Kd.R_elem MS.rf z97 f hf0 hf1
    obtain rfl:=k97_openM hM
    have hcf : W.cell? ⟨go,f.toNat * 5,none⟩ = some (.int .i64 (fauAt fs f).f0):=hcc 0 _ rfl
    obtain ⟨⟨hc0,hc1⟩,_⟩:=MS.ok f hf0 hf1
    have hca : psB t a (pre.map (fun x=>x.1.2)) = true → (fauAt fs f).f0 = a:=fun q=>by rw [(MS.py q).2,(MS.py q).1];rfl
    have q0:=eq_true (show 0 ≤ f from hf0)
    have q1:=eq_true hf1
    clear hcl hcc hfr hM
    cases hq : isA t (fauAt fs f).f0 u with
    | true =>
     gi_wp2_with (fail)
     refine start_in (m:=20) (S:=fun w'=>w'.cell? ⟨w.heap.size + 1 + 1,0,none⟩ = some (.int .i64 f) ∧ w'.cell? ⟨w.heap.size,0,none⟩ = some (.pointer (some ⟨Bm,0,none⟩)) ∧ w'.cell? ⟨Bm,0,none⟩ = some (.slice At t.length ct) ∧ w'.cell? ⟨Bm,3,none⟩ = some (.slice (some ⟨go,0,none⟩) fs.length cg) ∧ w'.cell? ⟨go,f.toNat * 5,none⟩ = some (.int .i64 (fauAt fs f).f0) ∧ w'.cell? ⟨Bx,1,none⟩ = some (.int .i64 u)) (ds:=[]) #[false,false,false,false,false,false,false,false,false,false,false,false,false,false,false,false,false,false,false,false] (by kernel_rfl) rfl rfl (by kernel_rfl) (fun _ _ h=>h) ⟨(blk_cell MS.b7 0).trans rfl,(blk_cell MS.b3 0).trans rfl,(blk_cell MS.bm 0).trans rfl,(blk_cell MS.bm 3).trans rfl,hcf,(blk_cell dX 1).trans rfl⟩ (fun hHeld=>?_)
     refine take_ (i:=0) (N:=some 54) (v:=?_) (a':=?_) #[true,false,false,false,false,false,false,false,false,false,false,false,false,false,false,false,false,false,false,false] rfl rfl (by kernel_rfl) (fun _ _ _ h=>h) (Or.inl ⟨by rfl,?_⟩) hHeld ?_ ?_
     rotate_left
     ·rintro w' ⟨s0,s1,s2,s3,s4,s5⟩
      go_simp
      with_reducible rfl
     rotate_left
     ·simp only [Act.put,s1_,s2_,s3_,i64_w,i32_w]
      rfl
     refine pure_ (i:=1) (N:=some 55) (v:=?_) (a':=?_) #[true,true,false,false,false,false,false,false,false,false,false,false,false,false,false,false,false,false,false,false] rfl rfl (by kernel_rfl) (fun _ _ _ h=>h) (Or.inl ⟨by rfl,?_⟩) ?_ ?_
     rotate_left
     ·intro w'
      go_simp
      with_reducible rfl
     rotate_left
     ·simp only [Act.put,s1_,s2_,s3_,i64_w,i32_w]
      rfl
     refine pure_ (i:=2) (N:=some 56) (v:=?_) (a':=?_) #[true,true,true,false,false,false,false,false,false,false,false,false,false,false,false,false,false,false,false,false] rfl rfl (by kernel_rfl) (fun _ _ _ h=>h) (Or.inl ⟨by rfl,?_⟩) ?_ ?_
     rotate_left
     ·intro w'
      go_simp
      with_reducible rfl
     rotate_left
     ·simp only [Act.put,s1_,s2_,s3_,i64_w,i32_w]
      rfl
     refine take_ (i:=3) (N:=some 57) (v:=?_) (a':=?_) #[true,true,true,true,false,false,false,false,false,false,false,false,false,false,false,false,false,false,false,false] rfl rfl (by kernel_rfl) (fun _ _ _ h=>h) (Or.inl ⟨by rfl,?_⟩) hHeld ?_ ?_
     rotate_left
     ·rintro w' ⟨s0,s1,s2,s3,s4,s5⟩
      go_simp
      with_reducible rfl
     rotate_left
     ·simp only [Act.put,s1_,s2_,s3_,i64_w,i32_w]
      rfl
     refine pure_ (i:=4) (N:=some 58) (v:=?_) (a':=?_) #[true,true,true,true,true,false,false,false,false,false,false,false,false,false,false,false,false,false,false,false] rfl rfl (by kernel_rfl) (fun _ _ _ h=>h) (Or.inl ⟨by rfl,?_⟩) ?_ ?_
     rotate_left
     ·intro w'
      go_simp
      with_reducible rfl
     rotate_left
     ·simp only [Act.put,s1_,s2_,s3_,i64_w,i32_w]
      rfl
     refine pure_ (i:=5) (N:=some 59) (v:=?_) (a':=?_) #[true,true,true,true,true,true,false,false,false,false,false,false,false,false,false,false,false,false,false,false] rfl rfl (by kernel_rfl) (fun _ _ _ h=>h) (Or.inl ⟨by rfl,?_⟩) ?_ ?_
     rotate_left
     ·intro w'
      go_simp
      with_reducible rfl
     rotate_left
     ·simp only [Act.put,s1_,s2_,s3_,i64_w,i32_w]
      rfl
     refine take_ (i:=6) (N:=some 60) (v:=?_) (a':=?_) #[true,true,true,true,true,true,true,false,false,false,false,false,false,false,false,false,false,false,false,false] rfl rfl (by kernel_rfl) (fun _ _ _ h=>h) (Or.inl ⟨by rfl,?_⟩) hHeld ?_ ?_
     rotate_left
     ·rintro w' ⟨s0,s1,s2,s3,s4,s5⟩
      go_simp
      with_reducible rfl
     rotate_left
     ·simp only [Act.put,s1_,s2_,s3_,i64_w,i32_w]
      rfl
     refine take_ (i:=7) (N:=some 61) (v:=?_) (a':=?_) #[true,true,true,true,true,true,true,true,false,false,false,false,false,false,false,false,false,false,false,false] rfl rfl (by kernel_rfl) (fun _ _ _ h=>h) (Or.inl ⟨by rfl,?_⟩) hHeld ?_ ?_
     rotate_left
     ·rintro w' ⟨s0,s1,s2,s3,s4,s5⟩
      go_simp
      with_reducible rfl
     rotate_left
     ·simp only [Act.put,s1_,s2_,s3_,i64_w,i32_w]
      rfl
     refine pure_ (i:=8) (N:=some 62) (v:=?_) (a':=?_) #[true,true,true,true,true,true,true,true,true,false,false,false,false,false,false,false,false,false,false,false] rfl rfl (by kernel_rfl) (fun _ _ _ h=>h) (Or.inl ⟨by rfl,?_⟩) ?_ ?_
     rotate_left
     ·intro w'
      go_simp
      with_reducible rfl
     rotate_left
     ·simp only [Act.put,s1_,s2_,s3_,i64_w,i32_w]
      rfl
     refine pure_ (i:=9) (N:=some 63) (v:=?_) (a':=?_) #[true,true,true,true,true,true,true,true,true,true,false,false,false,false,false,false,false,false,false,false] rfl rfl (by kernel_rfl) (fun _ _ _ h=>h) (Or.inl ⟨by rfl,?_⟩) ?_ ?_
     rotate_left
     ·intro w'
      go_simp
      with_reducible rfl
     rotate_left
     ·simp only [Act.put,s1_,s2_,s3_,i64_w,i32_w]
      rfl
     refine pure_ (i:=10) (N:=some 64) (v:=?_) (a':=?_) #[true,true,true,true,true,true,true,true,true,true,true,false,false,false,false,false,false,false,false,false] rfl rfl (by kernel_rfl) (fun _ _ _ h=>h) (Or.inl ⟨by rfl,?_⟩) ?_ ?_
     rotate_left
     ·intro w'
      go_simp
      with_reducible rfl
     rotate_left
     ·simp only [Act.put,s1_,s2_,s3_,i64_w,i32_w]
      rfl
     refine take_ (i:=11) (N:=some 65) (v:=?_) (a':=?_) #[true,true,true,true,true,true,true,true,true,true,true,true,false,false,false,false,false,false,false,false] rfl rfl (by kernel_rfl) (fun _ _ _ h=>h) (Or.inl ⟨by rfl,?_⟩) hHeld ?_ ?_
     rotate_left
     ·rintro w' ⟨s0,s1,s2,s3,s4,s5⟩
      go_simp
      with_reducible rfl
     rotate_left
     ·simp only [Act.put,s1_,s2_,s3_,i64_w,i32_w]
      rfl
     refine take_ (i:=12) (N:=some 66) (v:=?_) (a':=?_) #[true,true,true,true,true,true,true,true,true,true,true,true,true,false,false,false,false,false,false,false] rfl rfl (by kernel_rfl) (fun _ _ _ h=>h) (Or.inl ⟨by rfl,?_⟩) hHeld ?_ ?_
     rotate_left
     ·rintro w' ⟨s0,s1,s2,s3,s4,s5⟩
      go_simp
      with_reducible rfl
     rotate_left
     ·simp only [Act.put,s1_,s2_,s3_,i64_w,i32_w]
      rfl
     refine pure_ (i:=13) (N:=some 67) (v:=?_) (a':=?_) #[true,true,true,true,true,true,true,true,true,true,true,true,true,true,false,false,false,false,false,false] rfl rfl (by kernel_rfl) (fun _ _ _ h=>h) (Or.inl ⟨by rfl,?_⟩) ?_ ?_
     rotate_left
     ·intro w'
      go_simp
      with_reducible rfl
     rotate_left
     ·simp only [Act.put,s1_,s2_,s3_,i64_w,i32_w]
      rfl
     refine pure_ (i:=14) (N:=some 68) (v:=?_) (a':=?_) #[true,true,true,true,true,true,true,true,true,true,true,true,true,true,true,false,false,false,false,false] rfl rfl (by kernel_rfl) (fun _ _ _ h=>h) (Or.inl ⟨by rfl,?_⟩) ?_ ?_
     rotate_left
     ·intro w'
      go_simp
      with_reducible rfl
     rotate_left
     ·simp only [Act.put,s1_,s2_,s3_,i64_w,i32_w]
      rfl
     refine take_ (i:=15) (N:=some 69) (v:=?_) (a':=?_) #[true,true,true,true,true,true,true,true,true,true,true,true,true,true,true,true,false,false,false,false] rfl rfl (by kernel_rfl) (fun _ _ _ h=>h) (Or.inl ⟨by rfl,?_⟩) hHeld ?_ ?_
     rotate_left
     ·rintro w' ⟨s0,s1,s2,s3,s4,s5⟩
      go_simp
      with_reducible rfl
     rotate_left
     ·simp only [Act.put,s1_,s2_,s3_,i64_w,i32_w]
      rfl
     refine pure_ (i:=16) (N:=some 70) (v:=?_) (a':=?_) #[true,true,true,true,true,true,true,true,true,true,true,true,true,true,true,true,true,false,false,false] rfl rfl (by kernel_rfl) (fun _ _ _ h=>h) (Or.inl ⟨by rfl,?_⟩) ?_ ?_
     rotate_left
     ·intro w'
      go_simp
      with_reducible rfl
     rotate_left
     ·simp only [Act.put,s1_,s2_,s3_,i64_w,i32_w]
      rfl
     refine take_ (i:=17) (N:=some 71) (v:=?_) (a':=?_) #[true,true,true,true,true,true,true,true,true,true,true,true,true,true,true,true,true,true,false,false] rfl rfl (by kernel_rfl) (fun _ _ _ h=>h) (Or.inl ⟨by rfl,?_⟩) hHeld ?_ ?_
     rotate_left
     ·rintro w' ⟨s0,s1,s2,s3,s4,s5⟩
      go_simp
      with_reducible rfl
     rotate_left
     ·simp only [Act.put,s1_,s2_,s3_,i64_w,i32_w]
      rfl
     have MD:=a0_ (mst_below MS (below_drew1 (Below.refl W.heap.size W)))
     have HDR:=a0_ (below_drew1 (Below.refl W.heap.size W))
     generalize W.drew = Wd at MD HDR hHeld ⊢
     refine one_ (i:=18) (N:=some 72) #[true,true,true,true,true,true,true,true,true,true,true,true,true,true,true,true,true,true,true,false] rfl rfl (by kernel_rfl) (by decide) (fun K hK=>?_)
     refine goes_ Try.func59 (by kernel_rfl) rfl #[.agg #[.slice At t.length ct],.int .i64 (fauAt fs f).f0,.int .i64 u] (by rfl) rfl rfl (by (try simp only [List.map_toArray,List.map_cons,List.map_nil]);first | done | rfl) ?_
     with_reducible refine (impl_Tree_is.calls 10 _ _ t (fauAt fs f).f0 u true _ ?side1 hct (by rw [impl_Tree_is_ev hv0.out (fauAt fs f).f0 u hc1 10 (by omega) (by omega),hq])).mono ?_
     (case side1=>exact Kd.C_below HRT.out MD.out.bw)
     rintro e w5 ⟨rfl,hb5⟩
     refine ⟨_,rfl,?_⟩
     refine hK.out _ _ ⟨(hb5.cell (World.block_lt_of_cell? Wd _ hHeld.1)).trans hHeld.1,(hb5.cell (World.block_lt_of_cell? Wd _ hHeld.2.1)).trans hHeld.2.1,(hb5.cell (World.block_lt_of_cell? Wd _ hHeld.2.2.1)).trans hHeld.2.2.1,(hb5.cell (World.block_lt_of_cell? Wd _ hHeld.2.2.2.1)).trans hHeld.2.2.2.1,(hb5.cell (World.block_lt_of_cell? Wd _ hHeld.2.2.2.2.1)).trans hHeld.2.2.2.2.1,(hb5.cell (World.block_lt_of_cell? Wd _ hHeld.2.2.2.2.2)).trans hHeld.2.2.2.2.2⟩ (fun hHeld=>?_)
     clear hK K
     refine norm_ (a':=?_) ?_ ?_
     rotate_left
     ·show Act.put _ (some 72) _ = _
      simp only [Act.put,s1_,s2_,s3_,i64_w,i32_w]
      rfl
     refine pure_ (i:=19) (N:=some 73) (v:=?_) (a':=?_) #[true,true,true,true,true,true,true,true,true,true,true,true,true,true,true,true,true,true,true,true] rfl rfl (by kernel_rfl) (fun _ _ _ h=>h) (Or.inl ⟨by rfl,?_⟩) ?_ ?_
     rotate_left
     ·intro w'
      go_simp
      with_reducible rfl
     rotate_left
     ·simp only [Act.put,s1_,s2_,s3_,i64_w,i32_w]
      rfl
     refine done_ (by kernel_rfl) ?_
     unfold onlyN
     have M5:=mst_below MD.out hb5
     have d7:=(blk_cell M5.b7 0).trans rfl
     have f7:=blk_frozen M5.b7 0
     have hle:=Nat.le_trans HDR.out.size hb5.size
     have dS5:=blk_keptB (blk_keptB dS HDR.out) hb5
     have M6:=mst_catch M5 (⟨2,u,v⟩ : S38) (by omega) (by omega) (by omega) (fun q=>by rw [(hca q).symm];simp [hq])
     gi_wp2
     refine ⟨(((ko_below HDR.out).trans (ko_below hb5)).trans (KeepsOthers.setCell _ _ _)).from _,⟨below_btw MS.bw M6.bw (by rw [World.size_setCell];exact hle),(blk_far dS5 (show gS ≠ w.heap.size + 1 + 1 by omega) _).trans dS.symm⟩,⟨_,_,_,_,_,by rw [List.map_append];exact M6⟩,blk_far dS5 (show gS ≠ w.heap.size + 1 + 1 by omega) _⟩
    | false =>
     gi_wp2_with (fail)
     refine start_in (m:=20) (S:=fun w'=>w'.cell? ⟨w.heap.size + 1 + 1,0,none⟩ = some (.int .i64 f) ∧ w'.cell? ⟨w.heap.size,0,none⟩ = some (.pointer (some ⟨Bm,0,none⟩)) ∧ w'.cell? ⟨Bm,0,none⟩ = some (.slice At t.length ct) ∧ w'.cell? ⟨Bm,3,none⟩ = some (.slice (some ⟨go,0,none⟩) fs.length cg) ∧ w'.cell? ⟨go,f.toNat * 5,none⟩ = some (.int .i64 (fauAt fs f).f0) ∧ w'.cell? ⟨Bx,1,none⟩ = some (.int .i64 u)) (ds:=[]) #[false,false,false,false,false,false,false,false,false,false,false,false,false,false,false,false,false,false,false,false] (by kernel_rfl) rfl rfl (by kernel_rfl) (fun _ _ h=>h) ⟨(blk_cell MS.b7 0).trans rfl,(blk_cell MS.b3 0).trans rfl,(blk_cell MS.bm 0).trans rfl,(blk_cell MS.bm 3).trans rfl,hcf,(blk_cell dX 1).trans rfl⟩ (fun hHeld=>?_)
     refine take_ (i:=0) (N:=some 54) (v:=?_) (a':=?_) #[true,false,false,false,false,false,false,false,false,false,false,false,false,false,false,false,false,false,false,false] rfl rfl (by kernel_rfl) (fun _ _ _ h=>h) (Or.inl ⟨by rfl,?_⟩) hHeld ?_ ?_
     rotate_left
     ·rintro w' ⟨s0,s1,s2,s3,s4,s5⟩
      go_simp
      with_reducible rfl
     rotate_left
     ·simp only [Act.put,s1_,s2_,s3_,i64_w,i32_w]
      rfl
     refine pure_ (i:=1) (N:=some 55) (v:=?_) (a':=?_) #[true,true,false,false,false,false,false,false,false,false,false,false,false,false,false,false,false,false,false,false] rfl rfl (by kernel_rfl) (fun _ _ _ h=>h) (Or.inl ⟨by rfl,?_⟩) ?_ ?_
     rotate_left
     ·intro w'
      go_simp
      with_reducible rfl
     rotate_left
     ·simp only [Act.put,s1_,s2_,s3_,i64_w,i32_w]
      rfl
     refine pure_ (i:=2) (N:=some 56) (v:=?_) (a':=?_) #[true,true,true,false,false,false,false,false,false,false,false,false,false,false,false,false,false,false,false,false] rfl rfl (by kernel_rfl) (fun _ _ _ h=>h) (Or.inl ⟨by rfl,?_⟩) ?_ ?_
     rotate_left
     ·intro w'
      go_simp
      with_reducible rfl
     rotate_left
     ·simp only [Act.put,s1_,s2_,s3_,i64_w,i32_w]
      rfl
     refine take_ (i:=3) (N:=some 57) (v:=?_) (a':=?_) #[true,true,true,true,false,false,false,false,false,false,false,false,false,false,false,false,false,false,false,false] rfl rfl (by kernel_rfl) (fun _ _ _ h=>h) (Or.inl ⟨by rfl,?_⟩) hHeld ?_ ?_
     rotate_left
     ·rintro w' ⟨s0,s1,s2,s3,s4,s5⟩
      go_simp
      with_reducible rfl
     rotate_left
     ·simp only [Act.put,s1_,s2_,s3_,i64_w,i32_w]
      rfl
     refine pure_ (i:=4) (N:=some 58) (v:=?_) (a':=?_) #[true,true,true,true,true,false,false,false,false,false,false,false,false,false,false,false,false,false,false,false] rfl rfl (by kernel_rfl) (fun _ _ _ h=>h) (Or.inl ⟨by rfl,?_⟩) ?_ ?_
     rotate_left
     ·intro w'
      go_simp
      with_reducible rfl
     rotate_left
     ·simp only [Act.put,s1_,s2_,s3_,i64_w,i32_w]
      rfl
     refine pure_ (i:=5) (N:=some 59) (v:=?_) (a':=?_) #[true,true,true,true,true,true,false,false,false,false,false,false,false,false,false,false,false,false,false,false] rfl rfl (by kernel_rfl) (fun _ _ _ h=>h) (Or.inl ⟨by rfl,?_⟩) ?_ ?_
     rotate_left
     ·intro w'
      go_simp
      with_reducible rfl
     rotate_left
     ·simp only [Act.put,s1_,s2_,s3_,i64_w,i32_w]
      rfl
     refine take_ (i:=6) (N:=some 60) (v:=?_) (a':=?_) #[true,true,true,true,true,true,true,false,false,false,false,false,false,false,false,false,false,false,false,false] rfl rfl (by kernel_rfl) (fun _ _ _ h=>h) (Or.inl ⟨by rfl,?_⟩) hHeld ?_ ?_
     rotate_left
     ·rintro w' ⟨s0,s1,s2,s3,s4,s5⟩
      go_simp
      with_reducible rfl
     rotate_left
     ·simp only [Act.put,s1_,s2_,s3_,i64_w,i32_w]
      rfl
     refine take_ (i:=7) (N:=some 61) (v:=?_) (a':=?_) #[true,true,true,true,true,true,true,true,false,false,false,false,false,false,false,false,false,false,false,false] rfl rfl (by kernel_rfl) (fun _ _ _ h=>h) (Or.inl ⟨by rfl,?_⟩) hHeld ?_ ?_
     rotate_left
     ·rintro w' ⟨s0,s1,s2,s3,s4,s5⟩
      go_simp
      with_reducible rfl
     rotate_left
     ·simp only [Act.put,s1_,s2_,s3_,i64_w,i32_w]
      rfl
     refine pure_ (i:=8) (N:=some 62) (v:=?_) (a':=?_) #[true,true,true,true,true,true,true,true,true,false,false,false,false,false,false,false,false,false,false,false] rfl rfl (by kernel_rfl) (fun _ _ _ h=>h) (Or.inl ⟨by rfl,?_⟩) ?_ ?_
     rotate_left
     ·intro w'
      go_simp
      with_reducible rfl
     rotate_left
     ·simp only [Act.put,s1_,s2_,s3_,i64_w,i32_w]
      rfl
     refine pure_ (i:=9) (N:=some 63) (v:=?_) (a':=?_) #[true,true,true,true,true,true,true,true,true,true,false,false,false,false,false,false,false,false,false,false] rfl rfl (by kernel_rfl) (fun _ _ _ h=>h) (Or.inl ⟨by rfl,?_⟩) ?_ ?_
     rotate_left
     ·intro w'
      go_simp
      with_reducible rfl
     rotate_left
     ·simp only [Act.put,s1_,s2_,s3_,i64_w,i32_w]
      rfl
     refine pure_ (i:=10) (N:=some 64) (v:=?_) (a':=?_) #[true,true,true,true,true,true,true,true,true,true,true,false,false,false,false,false,false,false,false,false] rfl rfl (by kernel_rfl) (fun _ _ _ h=>h) (Or.inl ⟨by rfl,?_⟩) ?_ ?_
     rotate_left
     ·intro w'
      go_simp
      with_reducible rfl
     rotate_left
     ·simp only [Act.put,s1_,s2_,s3_,i64_w,i32_w]
      rfl
     refine take_ (i:=11) (N:=some 65) (v:=?_) (a':=?_) #[true,true,true,true,true,true,true,true,true,true,true,true,false,false,false,false,false,false,false,false] rfl rfl (by kernel_rfl) (fun _ _ _ h=>h) (Or.inl ⟨by rfl,?_⟩) hHeld ?_ ?_
     rotate_left
     ·rintro w' ⟨s0,s1,s2,s3,s4,s5⟩
      go_simp
      with_reducible rfl
     rotate_left
     ·simp only [Act.put,s1_,s2_,s3_,i64_w,i32_w]
      rfl
     refine take_ (i:=12) (N:=some 66) (v:=?_) (a':=?_) #[true,true,true,true,true,true,true,true,true,true,true,true,true,false,false,false,false,false,false,false] rfl rfl (by kernel_rfl) (fun _ _ _ h=>h) (Or.inl ⟨by rfl,?_⟩) hHeld ?_ ?_
     rotate_left
     ·rintro w' ⟨s0,s1,s2,s3,s4,s5⟩
      go_simp
      with_reducible rfl
     rotate_left
     ·simp only [Act.put,s1_,s2_,s3_,i64_w,i32_w]
      rfl
     refine pure_ (i:=13) (N:=some 67) (v:=?_) (a':=?_) #[true,true,true,true,true,true,true,true,true,true,true,true,true,true,false,false,false,false,false,false] rfl rfl (by kernel_rfl) (fun _ _ _ h=>h) (Or.inl ⟨by rfl,?_⟩) ?_ ?_
     rotate_left
     ·intro w'
      go_simp
      with_reducible rfl
     rotate_left
     ·simp only [Act.put,s1_,s2_,s3_,i64_w,i32_w]
      rfl
     refine pure_ (i:=14) (N:=some 68) (v:=?_) (a':=?_) #[true,true,true,true,true,true,true,true,true,true,true,true,true,true,true,false,false,false,false,false] rfl rfl (by kernel_rfl) (fun _ _ _ h=>h) (Or.inl ⟨by rfl,?_⟩) ?_ ?_
     rotate_left
     ·intro w'
      go_simp
      with_reducible rfl
     rotate_left
     ·simp only [Act.put,s1_,s2_,s3_,i64_w,i32_w]
      rfl
     refine take_ (i:=15) (N:=some 69) (v:=?_) (a':=?_) #[true,true,true,true,true,true,true,true,true,true,true,true,true,true,true,true,false,false,false,false] rfl rfl (by kernel_rfl) (fun _ _ _ h=>h) (Or.inl ⟨by rfl,?_⟩) hHeld ?_ ?_
     rotate_left
     ·rintro w' ⟨s0,s1,s2,s3,s4,s5⟩
      go_simp
      with_reducible rfl
     rotate_left
     ·simp only [Act.put,s1_,s2_,s3_,i64_w,i32_w]
      rfl
     refine pure_ (i:=16) (N:=some 70) (v:=?_) (a':=?_) #[true,true,true,true,true,true,true,true,true,true,true,true,true,true,true,true,true,false,false,false] rfl rfl (by kernel_rfl) (fun _ _ _ h=>h) (Or.inl ⟨by rfl,?_⟩) ?_ ?_
     rotate_left
     ·intro w'
      go_simp
      with_reducible rfl
     rotate_left
     ·simp only [Act.put,s1_,s2_,s3_,i64_w,i32_w]
      rfl
     refine take_ (i:=17) (N:=some 71) (v:=?_) (a':=?_) #[true,true,true,true,true,true,true,true,true,true,true,true,true,true,true,true,true,true,false,false] rfl rfl (by kernel_rfl) (fun _ _ _ h=>h) (Or.inl ⟨by rfl,?_⟩) hHeld ?_ ?_
     rotate_left
     ·rintro w' ⟨s0,s1,s2,s3,s4,s5⟩
      go_simp
      with_reducible rfl
     rotate_left
     ·simp only [Act.put,s1_,s2_,s3_,i64_w,i32_w]
      rfl
     have MD:=a0_ (mst_below MS (below_drew1 (Below.refl W.heap.size W)))
     have HDR:=a0_ (below_drew1 (Below.refl W.heap.size W))
     generalize W.drew = Wd at MD HDR hHeld ⊢
     refine one_ (i:=18) (N:=some 72) #[true,true,true,true,true,true,true,true,true,true,true,true,true,true,true,true,true,true,true,false] rfl rfl (by kernel_rfl) (by decide) (fun K hK=>?_)
     refine goes_ Try.func59 (by kernel_rfl) rfl #[.agg #[.slice At t.length ct],.int .i64 (fauAt fs f).f0,.int .i64 u] (by rfl) rfl rfl (by (try simp only [List.map_toArray,List.map_cons,List.map_nil]);first | done | rfl) ?_
     with_reducible refine (impl_Tree_is.calls 10 _ _ t (fauAt fs f).f0 u false _ ?side1 hct (by rw [impl_Tree_is_ev hv0.out (fauAt fs f).f0 u hc1 10 (by omega) (by omega),hq])).mono ?_
     (case side1=>exact Kd.C_below HRT.out MD.out.bw)
     rintro e w5 ⟨rfl,hb5⟩
     refine ⟨_,rfl,?_⟩
     refine hK.out _ _ ⟨(hb5.cell (World.block_lt_of_cell? Wd _ hHeld.1)).trans hHeld.1,(hb5.cell (World.block_lt_of_cell? Wd _ hHeld.2.1)).trans hHeld.2.1,(hb5.cell (World.block_lt_of_cell? Wd _ hHeld.2.2.1)).trans hHeld.2.2.1,(hb5.cell (World.block_lt_of_cell? Wd _ hHeld.2.2.2.1)).trans hHeld.2.2.2.1,(hb5.cell (World.block_lt_of_cell? Wd _ hHeld.2.2.2.2.1)).trans hHeld.2.2.2.2.1,(hb5.cell (World.block_lt_of_cell? Wd _ hHeld.2.2.2.2.2)).trans hHeld.2.2.2.2.2⟩ (fun hHeld=>?_)
     clear hK K
     refine norm_ (a':=?_) ?_ ?_
     rotate_left
     ·show Act.put _ (some 72) _ = _
      simp only [Act.put,s1_,s2_,s3_,i64_w,i32_w]
      rfl
     refine pure_ (i:=19) (N:=some 73) (v:=?_) (a':=?_) #[true,true,true,true,true,true,true,true,true,true,true,true,true,true,true,true,true,true,true,true] rfl rfl (by kernel_rfl) (fun _ _ _ h=>h) (Or.inl ⟨by rfl,?_⟩) ?_ ?_
     rotate_left
     ·intro w'
      go_simp
      with_reducible rfl
     rotate_left
     ·simp only [Act.put,s1_,s2_,s3_,i64_w,i32_w]
      rfl
     refine done_ (by kernel_rfl) ?_
     unfold onlyN
     have M5:=mst_below MD.out hb5
     have d7:=(blk_cell M5.b7 0).trans rfl
     have f7:=blk_frozen M5.b7 0
     have hle:=Nat.le_trans HDR.out.size hb5.size
     have dS5:=blk_keptB (blk_keptB dS HDR.out) hb5
     gi_wp2
     exact ⟨((ko_below HDR.out).trans (ko_below hb5)).from _,⟨below_btw MS.bw M5.bw hle,dS5.trans dS.symm⟩,⟨_,_,_,_,_,by rw [List.map_append];exact mst_keep M5 (⟨2,u,v⟩ : S38) (fun q=>by rw [(hca q).symm];simp [hq])⟩,dS5⟩
   ·have hfd : decide (f ≥ 0) = false:=decide_eq_false hf0
    gi_wp2_with (fail)
    refine start_in (m:=20) (S:=fun w'=>w'.cell? ⟨w.heap.size + 1 + 1,0,none⟩ = some (.int .i64 f)) (ds:=[]) #[false,false,false,false,false,false,false,false,false,false,false,false,false,false,false,false,false,false,false,false] (by kernel_rfl) rfl rfl (by kernel_rfl) (fun _ _ h=>h) ((blk_cell MS.b7 0).trans rfl) (fun hHeld=>?_)
    refine take_ (i:=0) (N:=some 54) (v:=?_) (a':=?_) #[true,false,false,false,false,false,false,false,false,false,false,false,false,false,false,false,false,false,false,false] rfl rfl (by kernel_rfl) (fun _ _ _ h=>h) (Or.inl ⟨by rfl,?_⟩) hHeld ?_ ?_
    rotate_left
    ·rintro w' s0
     go_simp
     with_reducible rfl
    rotate_left
    ·simp only [Act.put,s1_,s2_,s3_,i64_w,i32_w]
     rfl
    refine pure_ (i:=1) (N:=some 55) (v:=?_) (a':=?_) #[true,true,false,false,false,false,false,false,false,false,false,false,false,false,false,false,false,false,false,false] rfl rfl (by kernel_rfl) (fun _ _ _ h=>h) (Or.inl ⟨by rfl,?_⟩) ?_ ?_
    rotate_left
    ·intro w'
     go_simp
     with_reducible rfl
    rotate_left
    ·simp only [Act.put,s1_,s2_,s3_,i64_w,i32_w]
     rfl
    refine pure_ (i:=2) (N:=some 56) (v:=?_) (a':=?_) #[true,true,true,false,false,false,false,false,false,false,false,false,false,false,false,false,false,false,false,false] rfl rfl (by kernel_rfl) (fun _ _ _ h=>h) (Or.inl ⟨by rfl,?_⟩) ?_ ?_
    rotate_left
    ·intro w'
     go_simp
     with_reducible rfl
    rotate_left
    ·simp only [Act.put,s1_,s2_,s3_,i64_w,i32_w]
     rfl
    refine pure_ (i:=3) (N:=some 57) (v:=undef) (a':=?_) #[true,true,true,true,false,false,false,false,false,false,false,false,false,false,false,false,false,false,false,false] rfl rfl (by kernel_rfl) (fun _ _ _ h=>h) (Or.inr ⟨by rfl,rfl⟩) ?_ ?_
    rotate_left
    ·simp only [Act.put,s1_,s2_,s3_,i64_w,i32_w]
     rfl
    refine pure_ (i:=4) (N:=some 58) (v:=undef) (a':=?_) #[true,true,true,true,true,false,false,false,false,false,false,false,false,false,false,false,false,false,false,false] rfl rfl (by kernel_rfl) (fun _ _ _ h=>h) (Or.inr ⟨by rfl,rfl⟩) ?_ ?_
    rotate_left
    ·simp only [Act.put,s1_,s2_,s3_,i64_w,i32_w]
     rfl
    refine pure_ (i:=5) (N:=some 59) (v:=undef) (a':=?_) #[true,true,true,true,true,true,false,false,false,false,false,false,false,false,false,false,false,false,false,false] rfl rfl (by kernel_rfl) (fun _ _ _ h=>h) (Or.inr ⟨by rfl,rfl⟩) ?_ ?_
    rotate_left
    ·simp only [Act.put,s1_,s2_,s3_,i64_w,i32_w]
     rfl
    refine pure_ (i:=6) (N:=some 60) (v:=undef) (a':=?_) #[true,true,true,true,true,true,true,false,false,false,false,false,false,false,false,false,false,false,false,false] rfl rfl (by kernel_rfl) (fun _ _ _ h=>h) (Or.inr ⟨by rfl,rfl⟩) ?_ ?_
    rotate_left
    ·simp only [Act.put,s1_,s2_,s3_,i64_w,i32_w]
     rfl
    refine pure_ (i:=7) (N:=some 61) (v:=undef) (a':=?_) #[true,true,true,true,true,true,true,true,false,false,false,false,false,false,false,false,false,false,false,false] rfl rfl (by kernel_rfl) (fun _ _ _ h=>h) (Or.inr ⟨by rfl,rfl⟩) ?_ ?_
    rotate_left
    ·simp only [Act.put,s1_,s2_,s3_,i64_w,i32_w]
     rfl
    refine pure_ (i:=8) (N:=some 62) (v:=undef) (a':=?_) #[true,true,true,true,true,true,true,true,true,false,false,false,false,false,false,false,false,false,false,false] rfl rfl (by kernel_rfl) (fun _ _ _ h=>h) (Or.inr ⟨by rfl,rfl⟩) ?_ ?_
    rotate_left
    ·simp only [Act.put,s1_,s2_,s3_,i64_w,i32_w]
     rfl
    refine pure_ (i:=9) (N:=some 63) (v:=undef) (a':=?_) #[true,true,true,true,true,true,true,true,true,true,false,false,false,false,false,false,false,false,false,false] rfl rfl (by kernel_rfl) (fun _ _ _ h=>h) (Or.inr ⟨by rfl,rfl⟩) ?_ ?_
    rotate_left
    ·simp only [Act.put,s1_,s2_,s3_,i64_w,i32_w]
     rfl
    refine pure_ (i:=10) (N:=some 64) (v:=undef) (a':=?_) #[true,true,true,true,true,true,true,true,true,true,true,false,false,false,false,false,false,false,false,false] rfl rfl (by kernel_rfl) (fun _ _ _ h=>h) (Or.inr ⟨by rfl,rfl⟩) ?_ ?_
    rotate_left
    ·simp only [Act.put,s1_,s2_,s3_,i64_w,i32_w]
     rfl
    refine pure_ (i:=11) (N:=some 65) (v:=undef) (a':=?_) #[true,true,true,true,true,true,true,true,true,true,true,true,false,false,false,false,false,false,false,false] rfl rfl (by kernel_rfl) (fun _ _ _ h=>h) (Or.inr ⟨by rfl,rfl⟩) ?_ ?_
    rotate_left
    ·simp only [Act.put,s1_,s2_,s3_,i64_w,i32_w]
     rfl
    refine pure_ (i:=12) (N:=some 66) (v:=undef) (a':=?_) #[true,true,true,true,true,true,true,true,true,true,true,true,true,false,false,false,false,false,false,false] rfl rfl (by kernel_rfl) (fun _ _ _ h=>h) (Or.inr ⟨by rfl,rfl⟩) ?_ ?_
    rotate_left
    ·simp only [Act.put,s1_,s2_,s3_,i64_w,i32_w]
     rfl
    refine pure_ (i:=13) (N:=some 67) (v:=undef) (a':=?_) #[true,true,true,true,true,true,true,true,true,true,true,true,true,true,false,false,false,false,false,false] rfl rfl (by kernel_rfl) (fun _ _ _ h=>h) (Or.inr ⟨by rfl,rfl⟩) ?_ ?_
    rotate_left
    ·simp only [Act.put,s1_,s2_,s3_,i64_w,i32_w]
     rfl
    refine pure_ (i:=14) (N:=some 68) (v:=undef) (a':=?_) #[true,true,true,true,true,true,true,true,true,true,true,true,true,true,true,false,false,false,false,false] rfl rfl (by kernel_rfl) (fun _ _ _ h=>h) (Or.inr ⟨by rfl,rfl⟩) ?_ ?_
    rotate_left
    ·simp only [Act.put,s1_,s2_,s3_,i64_w,i32_w]
     rfl
    refine pure_ (i:=15) (N:=some 69) (v:=undef) (a':=?_) #[true,true,true,true,true,true,true,true,true,true,true,true,true,true,true,true,false,false,false,false] rfl rfl (by kernel_rfl) (fun _ _ _ h=>h) (Or.inr ⟨by rfl,rfl⟩) ?_ ?_
    rotate_left
    ·simp only [Act.put,s1_,s2_,s3_,i64_w,i32_w]
     rfl
    refine pure_ (i:=16) (N:=some 70) (v:=undef) (a':=?_) #[true,true,true,true,true,true,true,true,true,true,true,true,true,true,true,true,true,false,false,false] rfl rfl (by kernel_rfl) (fun _ _ _ h=>h) (Or.inr ⟨by rfl,rfl⟩) ?_ ?_
    rotate_left
    ·simp only [Act.put,s1_,s2_,s3_,i64_w,i32_w]
     rfl
    refine pure_ (i:=17) (N:=some 71) (v:=undef) (a':=?_) #[true,true,true,true,true,true,true,true,true,true,true,true,true,true,true,true,true,true,false,false] rfl rfl (by kernel_rfl) (fun _ _ _ h=>h) (Or.inr ⟨by rfl,rfl⟩) ?_ ?_
    rotate_left
    ·simp only [Act.put,s1_,s2_,s3_,i64_w,i32_w]
     rfl
    refine pure_ (i:=18) (N:=some 72) (v:=undef) (a':=?_) #[true,true,true,true,true,true,true,true,true,true,true,true,true,true,true,true,true,true,true,false] rfl rfl (by kernel_rfl) (fun _ _ _ h=>h) (Or.inr ⟨by rfl,rfl⟩) ?_ ?_
    rotate_left
    ·simp only [Act.put,s1_,s2_,s3_,i64_w,i32_w]
     rfl
    refine pure_ (i:=19) (N:=some 73) (v:=?_) (a':=?_) #[true,true,true,true,true,true,true,true,true,true,true,true,true,true,true,true,true,true,true,true] rfl rfl (by kernel_rfl) (fun _ _ _ h=>h) (Or.inl ⟨by rfl,?_⟩) ?_ ?_
    rotate_left
    ·intro w'
     go_simp
     with_reducible rfl
    rotate_left
    ·simp only [Act.put,s1_,s2_,s3_,i64_w,i32_w]
     rfl
    refine done_ (by kernel_rfl) ?_
    unfold onlyN
    gi_wp2
    exact ⟨(ko_below (below_drew1 (Below.refl W.heap.size W))).from _,⟨below_btw MS.bw (below_drew1 MS.bw) (Nat.le_refl _),rfl⟩,⟨_,_,_,_,_,by rw [List.map_append];exact mst_keep (mst_below MS (below_drew1 (Below.refl W.heap.size W))) (⟨2,u,v⟩ : S38) (fun q=>absurd (MS.py q).1 (by omega))⟩,blk_keptB dS (below_drew1 (Below.refl W.heap.size W))⟩
  have hk2 : (k == 2) = false:=beq_eq_false_iff_ne.2 k2
  by_cases k3 : k = 3
  ·have hk3 : (k == 3) = true:=beq_iff_eq.2 k3
   have hc7:=(blk_cell MS.b7 0).trans rfl
   have hc3:=(blk_cell MS.b3 0).trans rfl
   gi_wp2_with (fail)
   obtain ⟨u0,u1⟩:=hxk k3
   have hlf:=MS.lf
   rw [List.length_map] at hlf
   have hl1:=MS.l1
   have hbw:=MS.bw
   refine ⟨trivial,?_⟩
   refine (CallsIn.inRound lr (callsIn_wide.2 (mach_raise t Bm _ _ _ _ hv fs u v f w0 W MS.bm MS.rf MS.bw h0 (by omega) MS.ok u0 u1 MS.fr))).mono ?_
   rintro e W5 ⟨v5,fs5,rfl,hB5,hr5,hl5,hok5,_,hb5,hk5,hsz5⟩
   have hne3 : some w.heap.size ≠ hv.ownBlock:=Kd.R_ne MS.rf MS.b3 (by decide)
   have hne7 : some (w.heap.size + 1 + 1) ≠ hv.ownBlock:=Kd.R_ne MS.rf MS.b7 (by decide)
   have d3:=hk5 _ _ MS.b3 (by omega) hne3
   have d7:=hk5 _ _ MS.b7 (by omega) hne7
   have dS5:=hk5 _ _ dS (by have:=blk_lt MS.b7;omega) (Kd.R_ne MS.rf dS (by decide))
   clear hc7 hc3
   have hc7:=(blk_cell d7 0).trans rfl
   have hf7:=blk_frozen d7 0
   gi_wp2
   have hko : KeepsOthers W W5:=⟨hsz5,fun g o hg hc=>hk5 g o hg (fun e=>by rw [e,MS.bm] at hg;cases hg;cases hc) (fun e=>by
    obtain ⟨_,_,_,q,_,cells,hcc⟩:=(Kd.R_bound MS.rf).1 g e.symm
    rw [hg] at hcc
    cases hcc
    cases hc)⟩
   refine ⟨(hko.trans (KeepsOthers.setCell _ _ _)).from _,⟨?_,?_⟩,⟨logv,v5,log,fs5,(fs.length : Int),?_⟩,blk_far dS5 (show gS ≠ w.heap.size + 1 + 1 by omega) _⟩
   ·exact (below_btw hbw hb5 hsz5).setCell (p:=⟨w.heap.size + 1 + 1,0,none⟩) (show w0.heap.size ≤ w.heap.size + 1 + 1 by omega) _
   ·exact (blk_far dS5 (show gS ≠ w.heap.size + 1 + 1 by omega) _).trans dS.symm
   ·rw [List.map_append]
    have hpf : psB t a (pre.map (fun x=>x.1.2) ++ [(⟨k,u,v⟩ : S38)]) = false:=by rw [psB_snoc];simp [k3]
    refine ⟨blk_far d3 (show w.heap.size ≠ w.heap.size + 1 + 1 by omega) _,blk_put d7 0 _ rfl,blk_far hB5 (show Bm ≠ w.heap.size + 1 + 1 by omega) _,?_,Kd.R_set hr5 d7 (by decide) 0 _,?_,?_,by omega,hok5,.inr ⟨by omega,by omega⟩,fun q=>absurd q (by rw [show (List.map (fun x=>x.1.2) [(⟨(xi,⟨k,u,v⟩),hxk⟩ : exT t)]) = [(⟨k,u,v⟩ : S38)] from rfl,hpf];simp),fun _=>by omega,below_set hb5 (show w0.heap.size ≤ w.heap.size + 1 + 1 by omega)⟩
    ·refine Kd.R_far (p:=⟨w.heap.size + 1 + 1,0,none⟩) (Kd.R_mono (Kd.R_step (Kd.R_bound MS.rl) (fun g hg hlt=>?_)) (fun g hg=>hg.1)) (fun g hg=>hg) _
     obtain ⟨o,ho⟩:=get_lt hlt
     obtain ⟨_,_,_,q,hq,cells,hcc⟩:=hg
     rw [ho]
     refine hk5 g o ho (fun e=>?_) (fun e=>?_)
     ·rw [e,MS.bm] at hcc
      simp only [Option.some.injEq,Obj.cells.injEq] at hcc
      have hqq:=hcc.2.1
      rw [← hqq] at hq
      revert hq
      decide
     ·obtain ⟨_,_,_,q2,hq2,cells2,hcc2⟩:=(Kd.R_bound MS.rf).1 g e.symm
      rw [hcc] at hcc2
      simp only [Option.some.injEq,Obj.cells.injEq] at hcc2
      have hqq:=hcc2.2.1
      rw [hqq] at hq
      simp only [List.mem_cons] at hq hq2
      have e1 : (Kd.int IntKind.i64).E = []:=rfl
      have e2 : k97.E = []:=rfl
      rw [e1] at hq
      rw [e2] at hq2
      simp at hq hq2
      omega
    ·rw [List.length_append,List.length_map];have:=MS.ll;rw [List.length_map] at this;omega
    ·rw [List.length_append,List.length_map,hl5];simp;omega
  have hk3 : (k == 3) = false:=beq_eq_false_iff_ne.2 k3
  gi_wp2
  exact ⟨(KeepsOthers.refl W).from _,bwKp_refl _ _ _,⟨_,_,_,_,_,by rw [List.map_append];exact mst_pass MS (⟨k,u,v⟩ : S38) (by simp [k2,k3])⟩,dS⟩
 case done =>
  rintro D ys W hD rfl ⟨⟨logv,hv,log,fs,f,MS⟩,dS⟩ hK
  have hc7:=(blk_cell MS.b7 0).trans rfl
  have hbw:=MS.bw
  have hfin : (f == 0) = psB t a l:=by
   have e1 : psB t a ((bwUpto (exAt hx) l.length).map (fun x=>x.1.2)) = psB t a l:=by rw [exAt_snd,psB,List.all_reverse];rfl
   have h1:=MS.py
   have h2:=MS.pn
   rw [e1] at h1 h2
   cases hp : psB t a l with
   | true=>rw [(h1 hp).1];rfl
   | false=>exact beq_eq_false_iff_ne.2 (h2 hp)
  clear MS dS
  gi_wp2
  refine ⟨by simp,.inl ⟨_,_,rfl,run_takeDeferred hK,?_⟩⟩
  refine ⟨.int .i64 f,?_,f,rfl,hfin,hbw.trans (belowK_b (w:=w0) (Nat.le_refl _) W D _ _ (by have:=MS4.out;omega) hK rfl rfl)⟩
  simp [results,Try.f44,go_sem]
 case stop =>
  rintro D cc pre W hD ⟨k,hk,rfl⟩ hF hK
  exact hF.elim
end Go.Proofs.Ytjcodcimodnbjaa.P
namespace Go.Proofs.Ytjcodcimodnbjaa.P
open Go.RowKit Go.Proofs.YtjcodcimodnbjaaW.PrintWords Go.Proofs.YtjcodcimodnbjaaW.PrintLast Go.Proofs.YtjcodcimodnbjaaW.PrintMore
attribute [local go_sem] max2_int min2_int max_two min_two max_three min_three max_four min_four
set_option linter.unusedVariables false
set_option linter.unusedSimpArgs false
theorem mach_of (A : Option Addr) (c : Nat) (t : List Cls) (w : World) :
  Calls Try.prog 43 #[.agg #[.slice A t.length c],.slice none 0 0] w fun e w'=>∃ g : Nat,e = .returned (.pointer (some ⟨g,0,none⟩)) ∧ w'.heap[g]? = some (.cells #[.slice A t.length c,.slice none 0 0,.slice none 0 0,.slice none 0 0,.int .i64 (-1)] 90 (0,0)) ∧ w.heap.size ≤ g ∧ Below w.heap.size w w':=by
 have hu1:=Try.underlying35
 have hu2:=Try.underlying90
 have hcell:=(blk_cell (heap_new1 w (.cells #[.slice A t.length c] 35)) 0).trans rfl
 have hB:=a0_ (below_alloc (below1 w (.cells #[.slice A t.length c] 35)) (.cells #[.slice A t.length c,.slice none 0 0,.slice none 0 0,.slice none 0 0,.int .i64 (-1)] 90))
 have hN:=a0_ (heap_new1 (w.alloc (.cells #[.slice A t.length c] 35)) (.cells #[.slice A t.length c,.slice none 0 0,.slice none 0 0,.slice none 0 0,.int .i64 (-1)] 90))
 go_enter Try.func43,Try.ntmps43
 go_wp2
 go_ret
 have hn:=hN.out
 simp only [World.size_alloc] at hn ⊢
 exact ⟨_,rfl,hn,by omega,hB.out⟩
set_option maxHeartbeats 2000000 in
set_option maxRecDepth 100000 in
theorem impl_EscapesOf_1.callsF (B D : Nat) (A : Option Addr) (c : Nat) (t : List Cls) (A1 : Option Addr) (c1 : Nat) (l : List (S38)) (a : Int) (w : World) (hv : vT t = true) (ha0 : 0 ≤ a) (ha1 : a < (t.length : Int)) (hl : l.length ≤ 8) (hx : ∀ x ∈ l,exOk t x) (hB : w.heap[B]? = some (.cells #[.slice A t.length c] 35 (0,0))) (hD : w.heap[D]? = some (.cells #[.slice A1 l.length c1] 30 (0,0))) (hr : Kd.C k76 w A t.length t) (hc : t.length ≤ c) (hr1 : Kd.C k38 w A1 l.length l) :
  Calls Try.prog 42 #[.int .i64 a,.pointer (some ⟨B,0,none⟩),.pointer (some ⟨D,0,none⟩)] w fun e w'=>e = .returned (.bool (psB t a l)) ∧ Below w.heap.size w w':=by
 have hu1:=Try.underlying35
 have hu2:=Try.underlying69
 have HMC:=a0_ (fun (Bm : Nat) (w0 w : World) (hB) (hrt) (hrl) (hb) (h0)=>mach_closed t A c l A1 c1 a Bm w0 w hv ha0 ha1 hl hx hB hrt hc hrl hb h0)
 have HR:=a0_ hr
 have HR1:=a0_ hr1
 clear hr hr1
 go_enter Try.func42,Try.ntmps42
 go_wp2_with (fail)
 refine start_ (n:=8) (S:=fun w'=>w'.cell? ⟨B,0,none⟩ = some (.slice A t.length c) ∧ w'.cell? ⟨D,0,none⟩ = some (.slice A1 l.length c1)) (ds:=[]) #[false,false,false,false,false,false,false,false] (by kernel_rfl) rfl rfl ⟨(blk_cell hB 0).trans rfl,(blk_cell hD 0).trans rfl⟩ (fun hHeld=>?_)
 have HDR:=a0_ (below_drew1 (Below.refl w.heap.size w))
 clear hB hD
 generalize w.drew = Wd at HDR hHeld ⊢
 refine take_ (i:=0) (N:=some 5) (v:=?_) (a':=?_) #[true,false,false,false,false,false,false,false] rfl rfl (by kernel_rfl) (fun _ _ _ h=>h) (Or.inl ⟨by rfl,?_⟩) hHeld ?_ ?_
 rotate_left
 ·rintro w' ⟨s0,s1⟩
  go_simp
  with_reducible rfl
 rotate_left
 ·simp only [Act.put,s1_,s2_,s3_,i64_w,i32_w]
  rfl
 refine take_ (i:=2) (N:=some 7) (v:=?_) (a':=?_) #[true,false,true,false,false,false,false,false] rfl rfl (by kernel_rfl) (fun _ _ _ h=>h) (Or.inl ⟨by rfl,?_⟩) hHeld ?_ ?_
 rotate_left
 ·rintro w' ⟨s0,s1⟩
  go_simp
  with_reducible rfl
 rotate_left
 ·simp only [Act.put,s1_,s2_,s3_,i64_w,i32_w]
  rfl
 refine pure_ (i:=3) (N:=some 8) (v:=?_) (a':=?_) #[true,false,true,true,false,false,false,false] rfl rfl (by kernel_rfl) (fun _ _ _ h=>h) (Or.inl ⟨by rfl,?_⟩) ?_ ?_
 rotate_left
 ·intro w'
  go_simp
  with_reducible rfl
 rotate_left
 ·simp only [Act.put,s1_,s2_,s3_,i64_w,i32_w]
  rfl
 refine pure_ (i:=4) (N:=some 9) (v:=?_) (a':=?_) #[true,false,true,true,true,false,false,false] rfl rfl (by kernel_rfl) (fun _ _ _ h=>h) (Or.inl ⟨by rfl,?_⟩) ?_ ?_
 rotate_left
 ·intro w'
  go_simp
  with_reducible rfl
 rotate_left
 ·simp only [Act.put,s1_,s2_,s3_,i64_w,i32_w]
  rfl
 refine one_ (i:=1) (N:=some 6) #[true,true,true,true,true,false,false,false] rfl rfl (by kernel_rfl) (by decide) (fun K hK=>?_)
 refine goes_ Try.func43 (by kernel_rfl) rfl #[.agg #[.slice A t.length c],.slice none 0 0] (by rfl) rfl rfl (by (try simp only [List.map_toArray,List.map_cons,List.map_nil]);first | done | rfl) ?_
 refine (mach_of A c t Wd).mono ?_
 rintro e w4 ⟨g,rfl,hg,hge,hb4⟩
 refine ⟨_,rfl,?_⟩
 refine hK.out _ _ ⟨(hb4.cell (World.block_lt_of_cell? Wd _ hHeld.1)).trans hHeld.1,(hb4.cell (World.block_lt_of_cell? Wd _ hHeld.2)).trans hHeld.2⟩ (fun hHeld4=>?_)
 clear hK K
 refine norm_ (a':=?_) ?_ ?_
 rotate_left
 ·show Act.put _ (some 6) _ = _
  simp only [Act.put,s1_,s2_,s3_,i64_w,i32_w]
  rfl
 refine one_ (i:=5) (N:=some 10) #[true,true,true,true,true,true,false,false] rfl rfl (by kernel_rfl) (by decide) (fun K hK=>?_)
 refine goes_ Try.func44 (by kernel_rfl) rfl #[.pointer (some ⟨g,0,none⟩),.slice A1 l.length c1,.agg #[.bool true,.int .i64 a,.int .i64 0]] (by rfl) rfl rfl (by (try simp only [List.map_toArray,List.map_cons,List.map_nil]);first | done | rfl) ?_
 refine (HMC.out g Wd w4 hg (Kd.C_below HR.out HDR.out) (Kd.C_below HR1.out HDR.out) hb4 hge).mono ?_
 rintro e w5 ⟨f,rfl,hf,hb5⟩
 refine ⟨_,rfl,?_⟩
 refine hK.out _ _ ⟨(hb5.cell (World.block_lt_of_cell? Wd _ hHeld.1)).trans hHeld.1,(hb5.cell (World.block_lt_of_cell? Wd _ hHeld.2)).trans hHeld.2⟩ (fun hHeld5=>?_)
 clear hK K
 refine norm_ (a':=?_) ?_ ?_
 rotate_left
 ·show Act.put _ (some 10) _ = _
  simp only [Act.put,s1_,s2_,s3_,i64_w,i32_w]
  rfl
 clear HMC
 refine pure_ (i:=6) (N:=some 11) (v:=?_) (a':=?_) #[true,true,true,true,true,true,true,false] rfl rfl (by kernel_rfl) (fun _ _ _ h=>h) (Or.inl ⟨by rfl,?_⟩) ?_ ?_
 rotate_left
 ·intro w'
  go_simp
  with_reducible rfl
 rotate_left
 ·simp only [Act.put,s1_,s2_,s3_,i64_w,i32_w]
  rfl
 refine pure_ (i:=7) (N:=some 4) (v:=?_) (a':=?_) #[true,true,true,true,true,true,true,true] rfl rfl (by kernel_rfl) (fun _ _ _ h=>h) (Or.inl ⟨by rfl,?_⟩) ?_ ?_
 rotate_left
 ·intro w'
  go_simp
  with_reducible rfl
 rotate_left
 ·simp only [Act.put,s1_,s2_,s3_,i64_w,i32_w]
  rfl
 refine done_ (by kernel_rfl) ?_
 try go_wp2
 go_ret
 exact ⟨by simp [hf],below_step HDR.out hb5⟩
end Go.Proofs.Ytjcodcimodnbjaa.P
namespace Go.Proofs.Ytjcodcimodnbjaa.P
open Go.RowKit Go.Proofs.YtjcodcimodnbjaaW.PrintWords Go.Proofs.YtjcodcimodnbjaaW.PrintLast Go.Proofs.YtjcodcimodnbjaaW.PrintMore
attribute [local go_sem] max2_int min2_int max_two min_two max_three min_three max_four min_four
set_option linter.unusedVariables false
set_option linter.unusedSimpArgs false
def impl_EscapesOf.f (l0_0 : List Cls) (l1 : List (S38)) : Option (List Int):=if smT l0_0 = true then some (escP l0_0 l1) else none
set_option maxHeartbeats 2000000 in
set_option maxRecDepth 100000 in
theorem impl_EscapesOf.calls (A0_0 : Option Addr) (c0_0 : Nat) (l0_0 : List (S76)) (A1 : Option Addr) (c1 : Nat) (l1 : List (S38)) (r : List Int) (w : World) (hr0_0 : Kd.C k76 w A0_0 l0_0.length l0_0) (hc0_0 : l0_0.length ≤ c0_0) (hr1 : Kd.C k38 w A1 l1.length l1) (hc1 : l1.length ≤ c1) (h : impl_EscapesOf.f l0_0 l1 = some r) :
  Calls Try.prog 25 #[.agg #[.slice A0_0 l0_0.length c0_0],.slice A1 l1.length c1] w fun e w'=>∃ v0_ : Value,e = .returned (v0_) ∧ Kd.R (Kd.int .i64) 3 w' w.heap.size (fun _=>True) v0_ r ∧ Below w.heap.size w w':=by
 have hu31:=Try.underlying35
 have hsm : smT l0_0 = true:=by
  apply Classical.byContradiction
  intro hn
  rw [impl_EscapesOf.f,if_neg hn] at h
  cases h
 rw [impl_EscapesOf.f,if_pos hsm] at h
 obtain rfl:=Option.some.inj h
 clear h
 have HK:=a0_ (fun (W : World) (hb : Below w.heap.size w W)=>impl_ValidExits.calls A0_0 c0_0 l0_0 A1 c1 l1 (vX l0_0 l1) W (Kd.C_below hr0_0 hb) hc0_0 (Kd.C_below hr1 hb) hc1 (impl_ValidExits_ev l0_0 l1 hsm))
 have eg : ∀ args w,(callFunc 42 args).run Try.prog w = .ok (.enter 42 args) w:=enters_of Try.func42 (by kernel_rfl) rfl
 have hcell:=(blk_cell (heap_old2 w (.cells #[.slice A0_0 l0_0.length c0_0] 35) (.cells #[.slice A1 l1.length c1] 30)) 0).trans rfl
 have hcell2:=(blk_cell (heap_new2 w (.cells #[.slice A0_0 l0_0.length c0_0] 35) (.cells #[.slice A1 l1.length c1] 30)) 0).trans rfl
 unfold escP
 cases hb1 : vX l0_0 l1 with
 | false =>
  rw [hb1] at HK
  rw [if_neg (by simp)]
  clear hr0_0 hr1 hsm eg hb1
  go_enter Try.func25,Try.ntmps25
  go_wp2_with (go_at_call 33;refine (HK.out _ (below2 w _ _)).mono ?_;rintro e w' ⟨rfl,hb'⟩)
  go_ret
  exact ⟨_,rfl,Kd.R_nil _ _ _ _ _,(below2 w _ _).trans (hb'.mono (by simp;omega))⟩
 | true =>
  rw [hb1] at HK
  have hv : vT l0_0 = true:=vX_tree hb1
  have hlen:=vT_len hv
  have hl8:=vX_len hb1
  have hxo:=vX_ok hb1
  have HC:=a0_ (fun (W : World) (hb : Below w.heap.size w W) (hB : W.heap[w.heap.size]? = some (.cells #[.slice A0_0 l0_0.length c0_0] 35 (0,0))) (hD : W.heap[w.heap.size + 1]? = some (.cells #[.slice A1 l1.length c1] 30 (0,0)))=>impl_Tree_filter.callsF A0_0 c0_0 l0_0 42 #[.pointer (some ⟨w.heap.size,0,none⟩),.pointer (some ⟨w.heap.size + 1,0,none⟩)] (fun a=>psB l0_0 a l1) W eg (Kd.C_below hr0_0 hb) hc0_0 (by omega) (fun i hi W' hW=>impl_EscapesOf_1.callsF w.heap.size (w.heap.size + 1) A0_0 c0_0 l0_0 A1 c1 l1 (i : Int) W' hv (by omega) (by omega) hl8 hxo (blk_keptB hB hW) (blk_keptB hD hW) (Kd.C_below (Kd.C_below hr0_0 hb) hW) hc0_0 (Kd.C_below (Kd.C_below hr1 hb) hW)))
  rw [if_pos rfl]
  clear hr0_0 hr1 hsm eg hb1 hv hxo
  generalize fil l0_0 (fun a=>psB l0_0 a l1) = res at HC ⊢
  go_enter Try.func25,Try.ntmps25
  go_wp2_with (first
   | (go_at_call 33;refine (HK.out _ (below2 w _ _)).mono ?_;rintro e w1 ⟨rfl,hb1⟩;replace hcell:=pw_cell_below hb1 hcell;replace hcell2:=pw_cell_below hb1 hcell2)
   | (go_at_call 41;refine (HC.out _ ((below2 w _ _).trans (hb1.mono (by simp;omega))) (blk_keptB (heap_old2 w _ _) hb1) (blk_keptB (heap_new2 w _ _) hb1)).mono ?_;rintro e w2 ⟨v2,rfl,ho2,hb2⟩))
  go_ret
  exact ⟨_,rfl,Kd.R_lower ho2 (by have:=hb1.size;simp at this;omega),below_step ((below2 w _ _).trans (hb1.mono (by simp;omega))) hb2⟩
theorem impl_EscapesOf_ev (t : List Cls) (l : List (S38)) (hs : smT t = true) : impl_EscapesOf.f t l = some (escP t l):=by rw [impl_EscapesOf.f,if_pos hs]
end Go.Proofs.Ytjcodcimodnbjaa.P
namespace Go.Proofs.Ytjcodcimodnbjaa.P
open Go.RowKit Go.Proofs.YtjcodcimodnbjaaW.PrintWords Go.Proofs.YtjcodcimodnbjaaW.PrintLast Go.Proofs.YtjcodcimodnbjaaW.PrintMore
attribute [local go_sem] max2_int min2_int max_two min_two max_three min_three max_four min_four
set_option linter.unusedVariables false
set_option linter.unusedSimpArgs false
def laws_eqIntS.l0 : Nat → List Int → List Int → Int → Option (Bool)
 | 0,_,_,_=>none
 | k + 1,x0,x1,x5=>if x5 < (x0.length : Int) then (if 0 ≤ x5 then (if x5 < (x1.length : Int) then (if (rd x0 x5) = (rd x1 x5) then (laws_eqIntS.l0 k x0 x1 (wrap64 (x5 + 1))) else (some false)) else (none)) else (none)) else (some true)
def laws_eqIntS.f (k : Nat) (l0 : List Int) (l1 : List Int) : Option (Bool):=if (l0.length : Int) = (l1.length : Int) then (laws_eqIntS.l0 k l0 l1 0) else (some false)
theorem laws_eqIntS.mono_l : ∀ k,(∀ y0 y1 y2,LeO (laws_eqIntS.l0 k y0 y1 y2) (laws_eqIntS.l0 (k + 1) y0 y1 y2))
 | 0=>fun _ _ _ r h=>by simp [laws_eqIntS.l0] at h
 | k + 1=>by
  have ih0:=laws_eqIntS.mono_l k
  ·intro y0 y1 y2
   unfold laws_eqIntS.l0
   repeat' first
   | (with_reducible exact ih0 _ _ _)
   | (with_reducible exact LeO.refl _)
   | (with_reducible exact LeO.none _)
   | (with_reducible refine LeO.ite ?_ ?_)
   | (with_reducible refine LeO.bind ?_ (fun _=>?_))
   | exact ih0 _ _ _
   | exact LeO.none _
   | refine LeO.ite ?_ ?_
   | refine LeO.bind ?_ (fun _=>?_)
theorem laws_eqIntS.mono : ∀ a0 a1 k,LeO (laws_eqIntS.f k a0 a1) (laws_eqIntS.f (k + 1) a0 a1):=by
 intro a0 a1 k
 have ih0:=laws_eqIntS.mono_l k
 unfold laws_eqIntS.f
 repeat' first
   | (with_reducible exact ih0 _ _ _)
   | (with_reducible exact LeO.refl _)
   | (with_reducible exact LeO.none _)
   | (with_reducible refine LeO.ite ?_ ?_)
   | (with_reducible refine LeO.bind ?_ (fun _=>?_))
   | exact ih0 _ _ _
   | exact LeO.none _
   | refine LeO.ite ?_ ?_
   | refine LeO.bind ?_ (fun _=>?_)
set_option maxHeartbeats 8000000 in
set_option maxRecDepth 100000 in
theorem laws_eqIntS.calls (k : Nat) (A0 : Option Addr) (c0 : Nat) (l0 : List Int) (A1 : Option Addr) (c1 : Nat) (l1 : List Int) (r : Bool) (w : World) (hr0 : Kd.C (Kd.int .i64) w A0 l0.length l0) (hc0 : l0.length ≤ c0) (hr1 : Kd.C (Kd.int .i64) w A1 l1.length l1) (hc1 : l1.length ≤ c1) (h : laws_eqIntS.f k l0 l1 = some r) :
  Calls Try.prog 26 #[.slice A0 l0.length c0,.slice A1 l1.length c1] w fun e w'=>e = .returned (.bool r) ∧ Drawn0 w w':=by
 have HR0:=a0_ hr0
 have HC0:=a0_ hc0
 clear hr0 hc0
 have HR1:=a0_ hr1
 have HC1:=a0_ hc1
 clear hr1 hc1
 have H : (if (l0.length : Int) = (l1.length : Int) then (laws_eqIntS.l0 k l0 l1 0) else (some false)) = some r:=h
 clear h
 by_cases c3 : (l0.length : Int) = (l1.length : Int)
 ·rw [if_pos c3] at H
  have c3b0 : ((l0.length : Int) == (l1.length : Int)) = true:=beq_iff_eq.mpr c3
  have c3b1 : ((l0.length : Int) != (l1.length : Int)) = false:=bne_eq_false_iff_eq.mpr c3
  have c3b2 : (l0.length == l1.length) = true:=by first | simpa using c3 | (simp at c3 ⊢;omega)
  clear c3
  have H':=a0_ H
  clear H
  go_enter Try.func26,Try.ntmps26
  go_wp2
  repeat (go_quiet (fail);try go_wp2)
  go_loopg [5] k (fun kq v5 w'=>∃ (x5_1 : Int),v5 = .int .i64 x5_1 ∧ Aside0 (laws_eqIntS.l0 kq l0 l1 x5_1 = some r) ∧ Aside0 (kq ≤ k) ∧ Drawn0 w w')
  case atStart=>exact ⟨(0),(by first | rfl | (simp;done) | (simp [*];done)),H',⟨Nat.le_refl _⟩,by repeat (first | exact Drawn0.refl _ | apply Drawn0.step)⟩
  case round =>
   clear H'
   try clear c1
   try clear c2
   try clear p2
   try clear c3
   try clear c3b0
   try clear c3b1
   try clear c3b2
   obtain ⟨x5_1,rfl,HA,HK1,⟨m1,rfl⟩⟩:=hrel
   cases gk with
   | zero=>exact absurd HA.out (by simp [laws_eqIntS.l0])
   | succ k1 =>
    have H:=HA.out
    clear HA
    simp only [laws_eqIntS.l0] at H
    by_cases c4 : x5_1 < (l0.length : Int)
    ·rw [if_pos c4] at H
     have c4b0 : decide (x5_1 < (l0.length : Int)) = true:=decide_eq_true c4
     clear c4
     by_cases c5 : 0 ≤ x5_1
     ·rw [if_pos c5] at H
      have c5b0 : decide (0 ≤ x5_1) = true:=decide_eq_true c5
      clear c5
      by_cases c6 : x5_1 < (l1.length : Int)
      ·rw [if_pos c6] at H
       have c6b0 : decide (x5_1 < (l1.length : Int)) = true:=decide_eq_true c6
       clear c6
       by_cases c7 : (rd l0 x5_1) = (rd l1 x5_1)
       ·rw [if_pos c7] at H
        have c7b0 : ((rd l0 x5_1) == (rd l1 x5_1)) = true:=beq_iff_eq.mpr c7
        have c7b1 : ((rd l0 x5_1) != (rd l1 x5_1)) = false:=bne_eq_false_iff_eq.mpr c7
        clear c7
        have H':=a0_ H
        clear H
        have p1 : 0 ≤ (x5_1 : Int):=of_decide_eq_true (by first | (with_reducible assumption) | assumption)
        have q1 : x5_1 < (l0.length : Int):=of_decide_eq_true (by first | (with_reducible assumption) | assumption)
        obtain ⟨ad1,e1,hx1_0⟩:=Kd.at_int HR0.out x5_1 p1 q1
        cases e1
        replace p1:=eq_true p1
        replace q1:=eq_true q1
        have p2 : 0 ≤ (x5_1 : Int):=of_decide_eq_true (by first | (with_reducible assumption) | assumption)
        have q2 : x5_1 < (l1.length : Int):=of_decide_eq_true (by first | (with_reducible assumption) | assumption)
        obtain ⟨ad2,e2,hx2_0⟩:=Kd.at_int HR1.out x5_1 p2 q2
        cases e2
        replace p2:=eq_true p2
        replace q2:=eq_true q2
        go_wp2
        repeat (go_quiet (fail);try go_wp2)
        go_roundg k1
        case measure=>have:=HK1.out;omega
        case rel=>exact ⟨(wrap64 (x5_1 + 1)),(by first | rfl | (simp;done) | (simp [*];done)),H',⟨by have:=HK1.out;omega⟩,by repeat (first | exact Drawn0.refl _ | apply Drawn0.step)⟩
       ·rw [if_neg c7] at H
        have c7b0 : ((rd l0 x5_1) == (rd l1 x5_1)) = false:=beq_eq_false_iff_ne.mpr c7
        have c7b1 : ((rd l0 x5_1) != (rd l1 x5_1)) = true:=bne_iff_ne.mpr c7
        obtain rfl:=Option.some.inj H
        have p1 : 0 ≤ (x5_1 : Int):=of_decide_eq_true (by first | (with_reducible assumption) | assumption)
        have q1 : x5_1 < (l0.length : Int):=of_decide_eq_true (by first | (with_reducible assumption) | assumption)
        obtain ⟨ad1,e1,hx1_0⟩:=Kd.at_int HR0.out x5_1 p1 q1
        cases e1
        replace p1:=eq_true p1
        replace q1:=eq_true q1
        have p2 : 0 ≤ (x5_1 : Int):=of_decide_eq_true (by first | (with_reducible assumption) | assumption)
        have q2 : x5_1 < (l1.length : Int):=of_decide_eq_true (by first | (with_reducible assumption) | assumption)
        obtain ⟨ad2,e2,hx2_0⟩:=Kd.at_int HR1.out x5_1 p2 q2
        cases e2
        replace p2:=eq_true p2
        replace q2:=eq_true q2
        go_wp2
        repeat (go_quiet (fail);try go_wp2)
        go_ret
        exact ⟨by first | rfl | (simp;done) | (simp [*];done),by repeat (first | exact Drawn0.refl _ | apply Drawn0.step)⟩
      ·rw [if_neg c6] at H
       exact absurd H (by simp)
     ·rw [if_neg c5] at H
      exact absurd H (by simp)
    ·rw [if_neg c4] at H
     have c4b0 : decide (x5_1 < (l0.length : Int)) = false:=decide_eq_false c4
     clear c4
     obtain rfl:=Option.some.inj H
     go_wp2
     repeat (go_quiet (fail);try go_wp2)
     go_ret
     exact ⟨by first | rfl | (simp;done) | (simp [*];done),by repeat (first | exact Drawn0.refl _ | apply Drawn0.step)⟩
 ·rw [if_neg c3] at H
  have c3b0 : ((l0.length : Int) == (l1.length : Int)) = false:=beq_eq_false_iff_ne.mpr c3
  have c3b1 : ((l0.length : Int) != (l1.length : Int)) = true:=bne_iff_ne.mpr c3
  have c3b2 : (l0.length == l1.length) = false:=by first | simpa using c3 | (simp at c3 ⊢;omega)
  obtain rfl:=Option.some.inj H
  go_enter Try.func26,Try.ntmps26
  go_wp2
  repeat (go_quiet (fail);try go_wp2)
  go_ret
  exact ⟨by first | rfl | (simp;done) | (simp [*];done),by repeat (first | exact Drawn0.refl _ | apply Drawn0.step)⟩
theorem laws_eqIntS_ev (l : List Int) (hl : l.length ≤ 9223372036854775807) : Ev (fun k=>laws_eqIntS.f k l l) true:=by
 have h:=st_loop (fun k (_ : Unit) i=>laws_eqIntS.l0 k l l i) l.length (fun _=>()) true (by
  intro k i hi
  simp only [laws_eqIntS.l0]
  rw [if_pos (by omega),if_pos (by omega),if_pos (by omega),if_pos trivial,wrap_succ (i:=(i : Int)) (n:=l.length) (by omega) (by omega) (by omega)]
  rfl) (by
  intro k
  simp only [laws_eqIntS.l0]
  rw [if_neg (by omega)])
 refine Ev.of_mono (laws_eqIntS.mono l l) (K:=l.length + 1) ?_
 unfold laws_eqIntS.f
 rw [if_pos rfl]
 exact h
end Go.Proofs.Ytjcodcimodnbjaa.P
namespace Go.Proofs.Ytjcodcimodnbjaa.P
open Go.RowKit Go.Proofs.YtjcodcimodnbjaaW.PrintWords Go.Proofs.YtjcodcimodnbjaaW.PrintLast Go.Proofs.YtjcodcimodnbjaaW.PrintMore
attribute [local go_sem] max2_int min2_int max_two min_two max_three min_three max_four min_four
set_option linter.unusedVariables false
set_option linter.unusedSimpArgs false
def laws_markIntS.l0 : Nat → List Int → Int → Int → Option (Int × List Int)
 | 0,_,_,_=>none
 | k + 1,x0,x1,x5=>if x5 < (x0.length : Int) then (if 0 ≤ x5 then (laws_markIntS.l0 k (x0.set (x5 : Int).toNat x1) (wrap64 (x1 + 1)) (wrap64 (x5 + 1))) else (none)) else (some (x1,x0))
def laws_markIntS.f (k : Nat) (l0 : List Int) (a1 : Int) : Option (Int × List Int):=laws_markIntS.l0 k l0 a1 0
theorem laws_markIntS.mono_l : ∀ k,(∀ y0 y1 y2,LeO (laws_markIntS.l0 k y0 y1 y2) (laws_markIntS.l0 (k + 1) y0 y1 y2))
 | 0=>fun _ _ _ r h=>by simp [laws_markIntS.l0] at h
 | k + 1=>by
  have ih0:=laws_markIntS.mono_l k
  ·intro y0 y1 y2
   unfold laws_markIntS.l0
   repeat' first
   | (with_reducible exact ih0 _ _ _)
   | (with_reducible exact LeO.refl _)
   | (with_reducible exact LeO.none _)
   | (with_reducible refine LeO.ite ?_ ?_)
   | (with_reducible refine LeO.bind ?_ (fun _=>?_))
   | exact ih0 _ _ _
   | exact LeO.none _
   | refine LeO.ite ?_ ?_
   | refine LeO.bind ?_ (fun _=>?_)
theorem laws_markIntS.mono : ∀ a0 a1 k,LeO (laws_markIntS.f k a0 a1) (laws_markIntS.f (k + 1) a0 a1):=by
 intro a0 a1 k
 have ih0:=laws_markIntS.mono_l k
 unfold laws_markIntS.f
 repeat' first
   | (with_reducible exact ih0 _ _ _)
   | (with_reducible exact LeO.refl _)
   | (with_reducible exact LeO.none _)
   | (with_reducible refine LeO.ite ?_ ?_)
   | (with_reducible refine LeO.bind ?_ (fun _=>?_))
   | exact ih0 _ _ _
   | exact LeO.none _
   | refine LeO.ite ?_ ?_
   | refine LeO.bind ?_ (fun _=>?_)
set_option maxHeartbeats 8000000 in
set_option maxRecDepth 100000 in
theorem laws_markIntS.calls (k : Nat) (P0_ : Nat → Prop) (u9000_ : Value) (l0 : List Int) (a1 : Int) (r1 : Int) (r2 : List Int) (w0 w : World) (hB : Below w0.heap.size w0 w) (ho0 : Kd.R (Kd.int .i64) 3 w w0.heap.size P0_ u9000_ l0) (h : laws_markIntS.f k l0 a1 = some (r1,r2)) :
  Calls Try.prog 27 #[u9000_,.int .i64 a1] w fun e w'=>e = .returned (.int .i64 r1) ∧ Kd.R (Kd.int .i64) 3 w' w0.heap.size (fun k_=>(P0_ k_ ∨ w.heap.size ≤ k_)) u9000_ r2 ∧ Below w0.heap.size w0 w' ∧ Kept w w' (fun k_=>P0_ k_):=by
 have HO0:=a0_ (show Kd.R (Kd.int .i64) 3 w w0.heap.size (fun k_=>(P0_ k_ ∨ w.heap.size ≤ k_)) u9000_ l0 from Kd.R_mono ho0 (fun k_ hk=>(.inl hk)))
 have HK:=a0_ (Kept.refl w (fun k_=>P0_ k_))
 have HW0:=a0_ hB.size
 have HB:=a0_ hB
 clear hB
 have H : (laws_markIntS.l0 k l0 a1 0) = some (r1,r2):=h
 clear h
 have H':=a0_ H
 clear H
 go_enter Try.func27,Try.ntmps27
 go_wp2
 go_loopg [1,5] k (fun kq v1 v5 w'=>∃ (x0_1 : List Int) (x1_1 : Int) (x5_1 : Int),v1 = .int .i64 x1_1 ∧ v5 = .int .i64 x5_1 ∧ Aside0 (laws_markIntS.l0 kq x0_1 x1_1 x5_1 = some (r1,r2)) ∧ Aside0 (kq ≤ k) ∧ Aside0 (Kd.R (Kd.int .i64) 3 w' w0.heap.size (fun k_=>(P0_ k_ ∨ w.heap.size ≤ k_)) u9000_ x0_1) ∧ Aside0 (Kept w w' (fun k_=>P0_ k_)) ∧ Aside0 (Below w0.heap.size w0 w'))
 case atStart=>exact ⟨(l0),(a1),(0),(by first | rfl | (simp;done) | (simp [*];done)),(by first | rfl | (simp;done) | (simp [*];done)),H',⟨Nat.le_refl _⟩,⟨by (with_reducible repeat (first | apply Kd.R_alloc | apply Kd.R_drewN | apply Kd.R_drew));exact HO0.out⟩,⟨by repeat (first | (with_reducible first | exact HK.out | apply Kept.alloc | apply Kept.drewN | apply Kept.drew) | exact HK.out)⟩,⟨hbw_⟩⟩
 case round =>
  clear H'
  try clear c2
  try clear p2
  obtain ⟨x0_1,x1_1,x5_1,rfl,rfl,HA,HK1,HO_0,HK,HB⟩:=hrel
  cases gk with
  | zero=>exact absurd HA.out (by simp [laws_markIntS.l0])
  | succ k1 =>
   have H:=HA.out
   clear HA
   simp only [laws_markIntS.l0] at H
   by_cases c3 : x5_1 < (x0_1.length : Int)
   ·rw [if_pos c3] at H
    have c3b0 : decide (x5_1 < (x0_1.length : Int)) = true:=decide_eq_true c3
    clear c3
    by_cases c4 : 0 ≤ x5_1
    ·rw [if_pos c4] at H
     have c4b0 : decide (0 ≤ x5_1) = true:=decide_eq_true c4
     clear c4
     obtain ⟨y1,hy1⟩ : ∃ y_ : List Int,y_ = (x0_1.set (x5_1 : Int).toNat x1_1):=⟨_,rfl⟩
     replace H : (laws_markIntS.l0 k1 y1 (wrap64 (x1_1 + 1)) (wrap64 (x5_1 + 1))) = some (r1,r2):=by first | (rw [hy1];with_reducible exact H) | (have H2_:=(Option.bind_some _ _).symm.trans H;rw [hy1];with_reducible exact H2_) | (have H2_:=(Option.bind_some _ _).symm.trans H;with_reducible exact H2_) | with_reducible exact H | (rw [hy1];exact H) | exact H
     have Ny1:=a0_ hy1
     clear hy1
     have H':=a0_ H
     clear H
     obtain ⟨Ao6,co6,eo6⟩:=Kd.R_slice HO_0.out
     subst eo6
     have p5 : 0 ≤ (x5_1 : Int):=of_decide_eq_true (by first | (with_reducible assumption) | assumption)
     have q5 : (x5_1 : Int) < ((x0_1.length : Int) : Int):=of_decide_eq_true (by first | (with_reducible assumption) | assumption)
     obtain ⟨go5,co5,eo5,gb5,gl5,cl5,HG5⟩:=Kd.R_form HO_0.out (by omega)
     (first | cases eo5 | (injection eo5 with ea_ en_ ec_;(first | subst ea_ | (injection ea_ with ea_;subst ea_));subst ec_;clear en_))
     have GB5:=a0_ gb5
     have GG5:=a0_ HG5
     clear gb5 gl5 HG5
     have HMgo5:=a0_ (show (P0_ go5 ∨ w.heap.size ≤ go5) from (HO_0.out.1 _ rfl))
     obtain ⟨hx5_0,hf5_0⟩:=Kd.R_celln 0 HO_0.out (x5_1 : Int) p5 q5
     replace p5:=eq_true p5
     replace q5:=eq_true q5
     have HP7:=Kd.R_putg HO_0.out (x5_1 : Int) x1_1
     go_wp2_with (first | ((with_reducible refine gate_store (t:=3) (p:=15) rfl ?_);refine store_event (t:=3) (p:=15) (v:=?vo_w8) (w1:=(wr.setCell ⟨go5,(x5_1 : Int).toNat,none⟩ (.int .i64 x1_1))) ?hg ?ho ?hn ?hr ?_;(case ho=>rfl);(case hg=>rfl);(case hn=>rfl);(case hr=>first | (go_simp;done) | (go_simp;rfl));intro w8 hw;have hg : wr.grownBy w8 (some go5):=(by rw [hw];exact HP7.2);have hp_ : Kd.R (Kd.int .i64) 3 w8 w0.heap.size (fun k_=>(P0_ k_ ∨ w.heap.size ≤ k_)) (.slice (some ⟨go5,0,none⟩) x0_1.length co6) y1:=(by rw [hw,Ny1.out];exact HP7.1);clear HP7;have n0_:=a0_ (hp_);have n1_:=a0_ ((by rw [hw];exact below_set (HB.out) GB5.out : Below w0.heap.size w0 w8));have n2_:=a0_ (Kept.of_grown (S:=(fun k_=>P0_ k_)) hg (by repeat (first | (with_reducible first | exact HK.out | apply Kept.alloc | apply Kept.drewN | apply Kept.drew) | exact HK.out)) (fun k_ e_=>(HO_0.out.1 k_ e_)));clear HO_0 HB HK;have HO_0:=n0_;have HB:=n1_;have HK:=n2_;clear n0_ n1_ n2_;clear hg hw hp_))
     go_roundg k1
     case measure=>have:=HK1.out;omega
     case rel=>exact ⟨(y1),(wrap64 (x1_1 + 1)),(wrap64 (x5_1 + 1)),(by first | rfl | (simp;done) | (simp [*];done)),(by first | rfl | (simp;done) | (simp [*];done)),H',⟨by have:=HK1.out;omega⟩,⟨by (with_reducible repeat (first | apply Kd.R_alloc | apply Kd.R_drewN | apply Kd.R_drew));exact HO_0.out⟩,⟨by repeat (first | (with_reducible first | exact HK.out | apply Kept.alloc | apply Kept.drewN | apply Kept.drew) | exact HK.out)⟩,⟨hbw_⟩⟩
    ·rw [if_neg c4] at H
     exact absurd H (by simp)
   ·rw [if_neg c3] at H
    have c3b0 : decide (x5_1 < (x0_1.length : Int)) = false:=decide_eq_false c3
    clear c3
    simp only [Option.some.injEq,Prod.mk.injEq] at H
    obtain ⟨rfl,rfl⟩:=H
    obtain ⟨Ao9,co9,eo9⟩:=Kd.R_slice HO_0.out
    subst eo9
    go_wp2
    go_ret
    exact ⟨by first | rfl | (simp [errW_none,errW_some] <;> rfl) | (simp [*,errW_none,errW_some] <;> rfl),by (with_reducible repeat (first | apply Kd.R_alloc | apply Kd.R_drewN | apply Kd.R_drew));exact HO_0.out,hbw_,by repeat (first | (with_reducible first | exact HK.out | apply Kept.alloc | apply Kept.drewN | apply Kept.drew) | exact HK.out)⟩
theorem laws_markIntS_ev (l : List Int) (a : Int) (h0 : 0 ≤ a) (hl : a + l.length ≤ 9223372036854775807) : Ev (fun k=>laws_markIntS.f k l a) (a + l.length,marks a l.length):=by
 have h:=st_loop (fun k (s : List Int × Int) i=>laws_markIntS.l0 k s.1 s.2 i) l.length (fun i=>((List.range i).map (fun j : Nat=>a + (j : Int)) ++ l.drop i,a + (i : Int))) (a + l.length,marks a l.length) (by
  intro k i hi
  simp only [laws_markIntS.l0]
  have hlen : ((List.range i).map (fun j : Nat=>a + (j : Int)) ++ l.drop i).length = l.length:=by simp;omega
  rw [hlen,if_pos (by omega),if_pos (by omega),wrap_succ (i:=(i : Int)) (n:=l.length) (by omega) (by omega) (by omega),wrap_in (by omega) (by omega),Int.add_assoc]
  congr 1
  ·rw [List.range_succ,List.map_append,show ((i : Int) : Int).toNat = i by omega,List.set_append_right _ _ (by simp),List.append_assoc]
   simp only [List.length_map,List.length_range,Nat.sub_self]
   rw [List.drop_eq_getElem_cons hi,s2_]
   rfl) (by
  intro k
  simp only [laws_markIntS.l0]
  rw [if_neg (by simp)]
  simp [marks])
 refine Ev.of_mono (laws_markIntS.mono l a) (K:=l.length + 1) ?_
 unfold laws_markIntS.f
 simpa using h
end Go.Proofs.Ytjcodcimodnbjaa.P
namespace Go.Proofs.Ytjcodcimodnbjaa.P
open Go.RowKit Go.Proofs.YtjcodcimodnbjaaW.PrintWords Go.Proofs.YtjcodcimodnbjaaW.PrintLast Go.Proofs.YtjcodcimodnbjaaW.PrintMore
attribute [local go_sem] max2_int min2_int max_two min_two max_three min_three max_four min_four
set_option linter.unusedVariables false
set_option linter.unusedSimpArgs false
def laws_heldIntS.l0 : Nat → List Int → Int → Int → Option (Int)
 | 0,_,_,_=>none
 | k + 1,x0,x1,x5=>if x5 < (x0.length : Int) then (if 0 ≤ x5 then (if (rd x0 x5) = x1 then (laws_heldIntS.l0 k x0 (wrap64 (x1 + 1)) (wrap64 (x5 + 1))) else (some (-1))) else (none)) else (some x1)
def laws_heldIntS.f (k : Nat) (l0 : List Int) (a1 : Int) : Option (Int):=laws_heldIntS.l0 k l0 a1 0
theorem laws_heldIntS.mono_l : ∀ k,(∀ y0 y1 y2,LeO (laws_heldIntS.l0 k y0 y1 y2) (laws_heldIntS.l0 (k + 1) y0 y1 y2))
 | 0=>fun _ _ _ r h=>by simp [laws_heldIntS.l0] at h
 | k + 1=>by
  have ih0:=laws_heldIntS.mono_l k
  ·intro y0 y1 y2
   unfold laws_heldIntS.l0
   repeat' first
   | (with_reducible exact ih0 _ _ _)
   | (with_reducible exact LeO.refl _)
   | (with_reducible exact LeO.none _)
   | (with_reducible refine LeO.ite ?_ ?_)
   | (with_reducible refine LeO.bind ?_ (fun _=>?_))
   | exact ih0 _ _ _
   | exact LeO.none _
   | refine LeO.ite ?_ ?_
   | refine LeO.bind ?_ (fun _=>?_)
theorem laws_heldIntS.mono : ∀ a0 a1 k,LeO (laws_heldIntS.f k a0 a1) (laws_heldIntS.f (k + 1) a0 a1):=by
 intro a0 a1 k
 have ih0:=laws_heldIntS.mono_l k
 unfold laws_heldIntS.f
 repeat' first
   | (with_reducible exact ih0 _ _ _)
   | (with_reducible exact LeO.refl _)
   | (with_reducible exact LeO.none _)
   | (with_reducible refine LeO.ite ?_ ?_)
   | (with_reducible refine LeO.bind ?_ (fun _=>?_))
   | exact ih0 _ _ _
   | exact LeO.none _
   | refine LeO.ite ?_ ?_
   | refine LeO.bind ?_ (fun _=>?_)
set_option maxHeartbeats 8000000 in
set_option maxRecDepth 100000 in
theorem laws_heldIntS.calls (k : Nat) (A0 : Option Addr) (c0 : Nat) (l0 : List Int) (a1 : Int) (r : Int) (w : World) (hr0 : Kd.C (Kd.int .i64) w A0 l0.length l0) (hc0 : l0.length ≤ c0) (h : laws_heldIntS.f k l0 a1 = some r) :
  Calls Try.prog 28 #[.slice A0 l0.length c0,.int .i64 a1] w fun e w'=>e = .returned (.int .i64 r) ∧ Drawn0 w w':=by
 have HR0:=a0_ hr0
 have HC0:=a0_ hc0
 clear hr0 hc0
 have H : (laws_heldIntS.l0 k l0 a1 0) = some r:=h
 clear h
 have H':=a0_ H
 clear H
 go_enter Try.func28,Try.ntmps28
 go_wp2
 go_loopg [1,5] k (fun kq v1 v5 w'=>∃ (x1_1 : Int) (x5_1 : Int),v1 = .int .i64 x1_1 ∧ v5 = .int .i64 x5_1 ∧ Aside0 (laws_heldIntS.l0 kq l0 x1_1 x5_1 = some r) ∧ Aside0 (kq ≤ k) ∧ Drawn0 w w')
 case atStart=>exact ⟨(a1),(0),(by first | rfl | (simp;done) | (simp [*];done)),(by first | rfl | (simp;done) | (simp [*];done)),H',⟨Nat.le_refl _⟩,by repeat (first | exact Drawn0.refl _ | apply Drawn0.step)⟩
 case round =>
  clear H'
  try clear c2
  try clear p2
  obtain ⟨x1_1,x5_1,rfl,rfl,HA,HK1,⟨m1,rfl⟩⟩:=hrel
  cases gk with
  | zero=>exact absurd HA.out (by simp [laws_heldIntS.l0])
  | succ k1 =>
   have H:=HA.out
   clear HA
   simp only [laws_heldIntS.l0] at H
   by_cases c3 : x5_1 < (l0.length : Int)
   ·rw [if_pos c3] at H
    have c3b0 : decide (x5_1 < (l0.length : Int)) = true:=decide_eq_true c3
    clear c3
    by_cases c4 : 0 ≤ x5_1
    ·rw [if_pos c4] at H
     have c4b0 : decide (0 ≤ x5_1) = true:=decide_eq_true c4
     clear c4
     by_cases c5 : (rd l0 x5_1) = x1_1
     ·rw [if_pos c5] at H
      have c5b0 : ((rd l0 x5_1) == x1_1) = true:=beq_iff_eq.mpr c5
      have c5b1 : ((rd l0 x5_1) != x1_1) = false:=bne_eq_false_iff_eq.mpr c5
      clear c5
      have H':=a0_ H
      clear H
      have p1 : 0 ≤ (x5_1 : Int):=of_decide_eq_true (by first | (with_reducible assumption) | assumption)
      have q1 : x5_1 < (l0.length : Int):=of_decide_eq_true (by first | (with_reducible assumption) | assumption)
      obtain ⟨ad1,e1,hx1_0⟩:=Kd.at_int HR0.out x5_1 p1 q1
      cases e1
      replace p1:=eq_true p1
      replace q1:=eq_true q1
      go_wp2
      go_roundg k1
      case measure=>have:=HK1.out;omega
      case rel=>exact ⟨(wrap64 (x1_1 + 1)),(wrap64 (x5_1 + 1)),(by first | rfl | (simp;done) | (simp [*];done)),(by first | rfl | (simp;done) | (simp [*];done)),H',⟨by have:=HK1.out;omega⟩,by repeat (first | exact Drawn0.refl _ | apply Drawn0.step)⟩
     ·rw [if_neg c5] at H
      have c5b0 : ((rd l0 x5_1) == x1_1) = false:=beq_eq_false_iff_ne.mpr c5
      have c5b1 : ((rd l0 x5_1) != x1_1) = true:=bne_iff_ne.mpr c5
      obtain rfl:=Option.some.inj H
      have p1 : 0 ≤ (x5_1 : Int):=of_decide_eq_true (by first | (with_reducible assumption) | assumption)
      have q1 : x5_1 < (l0.length : Int):=of_decide_eq_true (by first | (with_reducible assumption) | assumption)
      obtain ⟨ad1,e1,hx1_0⟩:=Kd.at_int HR0.out x5_1 p1 q1
      cases e1
      replace p1:=eq_true p1
      replace q1:=eq_true q1
      go_wp2
      go_ret
      exact ⟨by first | rfl | (simp;done) | (simp [*];done),by repeat (first | exact Drawn0.refl _ | apply Drawn0.step)⟩
    ·rw [if_neg c4] at H
     exact absurd H (by simp)
   ·rw [if_neg c3] at H
    have c3b0 : decide (x5_1 < (l0.length : Int)) = false:=decide_eq_false c3
    clear c3
    obtain rfl:=Option.some.inj H
    go_wp2
    go_ret
    exact ⟨by first | rfl | (simp;done) | (simp [*];done),by repeat (first | exact Drawn0.refl _ | apply Drawn0.step)⟩
theorem laws_heldIntS_ev (a : Int) (n : Nat) (h0 : 0 ≤ a) (hl : a + n ≤ 9223372036854775807) : Ev (fun k=>laws_heldIntS.f k (marks a n) a) (a + n):=by
 have h:=st_loop (fun k (s : Int) i=>laws_heldIntS.l0 k (marks a n) s i) n (fun i=>a + (i : Int)) (a + n) (by
  intro k i hi
  simp only [laws_heldIntS.l0]
  rw [marks_len,if_pos (by omega),if_pos (by omega),if_pos (by simp [rd,marks,hi]),wrap_succ (i:=(i : Int)) (n:=n) (by omega) (by omega) (by omega),wrap_in (by omega) (by omega),Int.add_assoc]
  rfl) (by
  intro k
  simp only [laws_heldIntS.l0]
  rw [marks_len,if_neg (by omega)])
 refine Ev.of_mono (laws_heldIntS.mono (marks a n) a) (K:=n + 1) ?_
 unfold laws_heldIntS.f
 simpa using h
end Go.Proofs.Ytjcodcimodnbjaa.P
