/- Part 4 of the walk and of the plain law. -/
import Derived.Test.YtlfdidaeachpoaaGreatCOT3
import Derived.RangeFuncNested
import Derived.Test.YtlfdidaeachpoaaGreatCOT2
import Derived.RangeFuncBox
import Derived.RangeFuncLeaves
import Derived.Shelf.Abstract
import Derived.WalkKit
import Derived.OwnWalkIn
import Derived.TacticsInMore
import Derived.LoopNIn
import Derived.LoopIn
import Derived.Test.YtlfdidaeachpoaaGreatProg
set_option linter.unusedSimpArgs false
set_option linter.unusedVariables false
namespace Go.Proofs.YtlfdidaeachpoaaGreat
open Go Go.RowKit
def bump (d : Int) (r : List Int) (k : Int) : List Int := sI r k (gI r k + d)
theorem zfI {d : Int} {r : List Int} {k : Int} : (bump d r k).length = r.length := by simp [bump,sI]
theorem zfU {d : Int} : ∀ {l r : List Int},(l.foldl (bump d) r).length = r.length
 | [],_ => rfl
 | k :: l,r => by rw [List.foldl_cons,zfU,zfI]
def inR (m : Nat) (l : List Int) : Prop := ∀ k ∈ l,0 ≤ k ∧ k < (m : Int)
theorem gI_bump {d : Int} {r : List Int} {k j : Int} (hk : 0 ≤ k ∧ k < (r.length : Int)) (hj : 0 ≤ j ∧ j < (r.length : Int)) : gI (bump d r k) j = gI r j + (if k = j then d else 0) := by
 obtain ⟨k,rfl⟩ := Int.eq_ofNat_of_zero_le hk.1
 obtain ⟨j,rfl⟩ := Int.eq_ofNat_of_zero_le hj.1
 have h1 : k < r.length := by omega
 have h2 : j < r.length := by omega
 simp only [gI,bump,sI,Int.toNat_natCast,List.getD_eq_getElem?_getD]
 by_cases h : k = j
 ·subst h
  rw [List.getElem?_set_self h1,if_pos rfl]
  simp
 ·rw [List.getElem?_set_ne h,if_neg (by omega)]
  simp
theorem gI_bumps {d : Int} {j : Int} : ∀ {l r : List Int},inR r.length l → (0 ≤ j ∧ j < (r.length : Int)) → gI (l.foldl (bump d) r) j = gI r j + d * (l.count j : Int)
 | [],r,_,_ => by simp
 | k :: l,r,hl,hj => by
  have hk := hl k (List.mem_cons_self ..)
  rw [List.foldl_cons,gI_bumps (by rw [zfI]; exact fun x hx => hl x (List.mem_cons_of_mem _ hx)) (by rw [zfI]; exact hj),gI_bump hk hj,List.count_cons]
  by_cases h : k = j
  ·subst h
   simp only [if_pos,beq_self_eq_true]
   rw [Int.natCast_add,Int.mul_add]
   simp
   omega
  ·rw [if_neg h]
   have : (k == j) = false := by simpa using h
   simp [this]
theorem zei {m : Nat} (l : List (Int × Int)) : (hds m l).length = m := by
 have : ∀ (l : List (Int × Int)) (LL : List (List Int)),(l.foldl (zfS m) LL).length = LL.length := by
  intro l
  induction l with
  | nil => intro LL; rfl
  | cons a l ih => intro LL; rw [List.foldl_cons,ih,ziO]
 rw [hds,this,List.length_replicate]
theorem hds_get {m : Nat} (l : List (Int × Int)) {i : Nat} (hi : i < m) : (hds m l).getD i [] = (l.filter fun a => zda m a && a.1 == (i : Int)).map (·.2) := by
 have : ∀ (l : List (Int × Int)) (LL : List (List Int)),LL.length = m → (l.foldl (zfS m) LL).getD i [] = LL.getD i [] ++ (l.filter fun a => zda m a && a.1 == (i : Int)).map (·.2) := by
  intro l
  induction l with
  | nil => intro LL _; simp
  | cons a l ih =>
   intro LL hLL
   rw [List.foldl_cons,ih _ (ziO.trans hLL),List.filter_cons]
   unfold zfS
   cases hok : zda m a with
   | false => simp
   | true =>
    have hv := hok
    simp only [zda,Bool.and_eq_true,decide_eq_true_eq] at hv
    simp only [if_true,Bool.true_and]
    by_cases h : a.1 = (i : Int)
    ·have h2 : (a.1 == (i : Int)) = true := by simpa using h
     rw [if_pos h2,h]
     simp only [Int.toNat_natCast,List.getD_eq_getElem?_getD,List.getElem?_set_self (by omega : i < LL.length)]
     simp
    ·have h2 : ¬ (a.1 == (i : Int)) = true := by simpa using h
     rw [if_neg h2]
     have h3 : a.1.toNat ≠ i := by omega
     simp only [List.getD_eq_getElem?_getD,List.getElem?_set_ne h3]
 rw [hds,this l _ (by simp)]
 simp [List.getD_eq_getElem?_getD,List.getElem?_replicate,hi]
theorem hds_inR {m : Nat} (l : List (Int × Int)) : ∀ to ∈ hds m l,inR m to := by
 intro to hto k hk
 obtain ⟨i,hi,rfl⟩ := List.mem_iff_getElem.1 hto
 rw [zei] at hi
 have h := hds_get l hi
 rw [List.getD_eq_getElem?_getD,List.getElem?_eq_getElem (by rw [zei]; exact hi)] at h
 simp only [Option.getD_some] at h
 rw [h,List.mem_map] at hk
 obtain ⟨a,ha,rfl⟩ := hk
 have := (List.mem_filter.1 ha).2
 simp only [zda,Bool.and_eq_true,decide_eq_true_eq] at this
 omega
theorem flatten_nils (m : Nat) : (List.replicate m ([] : List Int)).flatten = [] := by
 induction m with
 | zero => rfl
 | succ m ih => rw [List.replicate_succ,List.flatten_cons,ih]; rfl
theorem hds_count {m : Nat} (l : List (Int × Int)) (j : Int) : (hds m l).flatten.count j = (l.filter fun a => zda m a && a.2 == j).length := by
 have : ∀ (l : List (Int × Int)) (LL : List (List Int)),LL.length = m → (l.foldl (zfS m) LL).flatten.count j = LL.flatten.count j + (l.filter fun a => zda m a && a.2 == j).length := by
  intro l
  induction l with
  | nil => intro LL _; simp
  | cons a l ih =>
   intro LL hLL
   rw [List.foldl_cons,ih _ (ziO.trans hLL),List.filter_cons]
   unfold zfS
   cases hok : zda m a with
   | false => simp
   | true =>
    have hv := hok
    simp only [zda,Bool.and_eq_true,decide_eq_true_eq] at hv
    have hlt : a.1.toNat < LL.length := by omega
    simp only [if_true,Bool.true_and]
    have hset : ∀ (LL : List (List Int)) (i : Nat) (h : i < LL.length) (y : Int),(LL.set i (LL.getD i [] ++ [y])).flatten.count j = LL.flatten.count j + (if y = j then 1 else 0) := by
     intro LL
     induction LL with
     | nil => intro i h; exact absurd h (Nat.not_lt_zero i)
     | cons x LL ih2 =>
      intro i h y
      cases i with
      | zero => simp [List.count_append,List.count_cons]; omega
      | succ i =>
       have := ih2 i (by simpa using h) y
       simp only [List.set_cons_succ,List.getD_cons_succ,List.flatten_cons,List.count_append,this]
       omega
    rw [hset LL _ hlt]
    by_cases h : a.2 = j
    ·have h2 : (a.2 == j) = true := by simpa using h
     rw [if_pos h,if_pos h2,List.length_cons]; omega
    ·have h2 : ¬ (a.2 == j) = true := by simpa using h
     rw [if_neg h,if_neg h2]
     omega
 rw [hds,this l _ (by simp),flatten_nils]; simp
def zfL (m : Nat) (l : List (Int × Int)) (out : List Int) (j : Int) : Nat := (l.filter fun a => zda m a && a.2 == j && !(out.contains a.1)).length
def nxt (m : Nat) (l : List (Int × Int)) (out : List Int) : Option Nat := (List.range m).findIdx? fun (k : Nat) => !(out.contains (k : Int)) && zfL m l out (k : Int) == 0
def kahn (m : Nat) (l : List (Int × Int)) : Nat → List Int → Option (List Int)
 | 0,out => some out
 | n + 1,out => match nxt m l out with
  | none => none
  | some k => kahn m l n (out ++ [(k : Int)])
def zdD (m : Nat) (l : List (Int × Int)) : Bool × List Int := match kahn m l m [] with
 | some o => (true,o)
 | none => (false,[])
structure zfV (m : Nat) (l : List (Int × Int)) (out : List Int) : Prop where
 nodup : out.Nodup
 inr : inR m out
 closed : ∀ a ∈ l,zda m a = true → a.2 ∈ out → a.1 ∈ out
theorem nxt_spec {m : Nat} {l : List (Int × Int)} {out : List Int} {k : Nat} (h : nxt m l out = some k) : k < m ∧ (k : Int) ∉ out ∧ zfL m l out (k : Int) = 0 := by
 obtain ⟨h1,h2,_⟩ := List.findIdx?_eq_some_iff_getElem.1 h
 simp only [List.getElem_range,Bool.and_eq_true,Bool.not_eq_true',beq_iff_eq] at h2
 refine ⟨by simpa using h1,fun hc => ?_,h2.2⟩
 have := h2.1
 rw [List.contains_iff_mem.2 hc] at this
 cases this
theorem zfV.step {m : Nat} {l : List (Int × Int)} {out : List Int} {k : Nat} (H : zfV m l out) (h : nxt m l out = some k) : zfV m l (out ++ [(k : Int)]) := by
 obtain ⟨h1,h2,h3⟩ := nxt_spec h
 refine ⟨?_,?_,?_⟩
 ·rw [List.nodup_append]
  refine ⟨H.nodup,by simp,fun x hx y hy => ?_⟩
  rw [List.mem_singleton] at hy
  subst hy
  exact fun e => h2 (e ▸ hx)
 ·intro x hx
  rcases List.mem_append.1 hx with h | h
  ·exact H.inr x h
  ·rw [List.mem_singleton] at h; subst h; omega
 ·intro a ha hok hx
  rcases List.mem_append.1 hx with h | h
  ·exact List.mem_append_left _ (H.closed a ha hok h)
  ·rw [List.mem_singleton] at h
   refine List.mem_append_left _ (Classical.byContradiction fun hn => ?_)
   have : a ∈ l.filter fun a => zda m a && a.2 == (k : Int) && !(out.contains a.1) := by
    rw [List.mem_filter]
    refine ⟨ha,?_⟩
    have hc : out.contains a.1 = false := by
     cases hc : out.contains a.1 with
     | false => rfl
     | true => exact absurd (List.contains_iff_mem.1 hc) hn
    simp [hok,h,hc]
    exact fun hm => hn hm
   have hpos := List.length_pos_of_mem this
   unfold zfL at h3
   omega
theorem indeg_out {m : Nat} {l : List (Int × Int)} {out : List Int} {k j : Int} (hk : k ∉ out) : zfL m l out j = zfL m l (out ++ [k]) j + (l.filter fun a => zda m a && a.2 == j && a.1 == k).length := by
 unfold zfL
 induction l with
 | nil => rfl
 | cons a l ih =>
  simp only [List.filter_cons]
  by_cases h1 : (zda m a && a.2 == j) = true
  ·rw [h1]
   simp only [Bool.true_and]
   by_cases h2 : a.1 = k
   ·have hc : out.contains a.1 = false := by
     cases hc : out.contains a.1 with
     | false => rfl
     | true => exact absurd (h2 ▸ List.contains_iff_mem.1 hc) hk
    have hc2 : (out ++ [k]).contains a.1 = true := List.contains_iff_mem.2 (by simp [h2])
    have h3 : (a.1 == k) = true := by simpa using h2
    rw [hc,hc2,h3]
    simp only [Bool.not_false,Bool.not_true,if_true,Bool.false_eq_true,if_false,List.length_cons,ih]
    omega
   ·have h3 : (a.1 == k) = false := by simpa using h2
    have hc : (out ++ [k]).contains a.1 = out.contains a.1 := by
     cases hc : out.contains a.1 with
     | true => exact List.contains_iff_mem.2 (List.mem_append_left _ (List.contains_iff_mem.1 hc))
     | false =>
      cases hc2 : (out ++ [k]).contains a.1 with
      | false => rfl
      | true =>
       rcases List.mem_append.1 (List.contains_iff_mem.1 hc2) with h | h
       ·rw [List.contains_iff_mem.2 h] at hc; cases hc
       ·exact absurd (List.mem_singleton.1 h) h2
    rw [hc,h3]
    cases out.contains a.1 with
    | true => simp only [Bool.not_true,Bool.false_eq_true,if_false]; exact ih
    | false => simp only [Bool.not_false,Bool.false_eq_true,if_false,if_true,List.length_cons]; omega
  ·have h1' : (zda m a && a.2 == j) = false := by simpa using h1
   rw [h1']
   simpa using ih
def degs (m : Nat) (l : List (Int × Int)) (out : List Int) : List Int := (List.range m).map fun (k : Nat) => if out.contains (k : Int) then -1 else (zfL m l out (k : Int) : Int)
theorem zeo (m : Nat) (l : List (Int × Int)) (out : List Int) : (degs m l out).length = m := by simp [degs]
theorem degs_get (m : Nat) (l : List (Int × Int)) (out : List Int) {k : Nat} (h : k < m) : gI (degs m l out) (k : Int) = if out.contains (k : Int) then -1 else (zfL m l out (k : Int) : Int) := by
 rw [zcL (by rw [zeo]; exact h)]
 simp [degs]
theorem indeg_le (m : Nat) (l : List (Int × Int)) (out : List Int) (j : Int) : zfL m l out j ≤ l.length := List.length_filter_le ..
theorem row_ext {r r' : List Int} (hl : r.length = r'.length) (h : ∀ k : Nat,k < r.length → gI r (k : Int) = gI r' (k : Int)) : r = r' := by
 apply List.ext_getElem hl
 intro i h1 h2
 have := h i h1
 rwa [zcL h1,zcL h2] at this
theorem degs_start (m : Nat) (l : List (Int × Int)) : ((hds m l).flatten.foldl (bump 1) (List.replicate m 0)) = degs m l [] := by
 refine row_ext (by rw [zfU,List.length_replicate,zeo]) fun k hk => ?_
 rw [zfU,List.length_replicate] at hk
 rw [gI_bumps (fun x hx => ?_) (by rw [List.length_replicate]; omega),degs_get _ _ _ hk,hds_count]
 ·have h0 : gI (List.replicate m (0 : Int)) (k : Int) = 0 := by rw [zcL (by simpa using hk)]; simp
  rw [h0]
  simp [zfL]
 ·rw [List.length_replicate]
  obtain ⟨to,h1,h2⟩ := List.mem_flatten.1 hx
  exact hds_inR l to h1 x h2
theorem degs_step {m : Nat} {l : List (Int × Int)} {out : List Int} {k : Nat} (H : zfV m l out) (h : nxt m l out = some k) :
  ((hds m l).getD k []).foldl (bump (-1)) (sI (degs m l out) (k : Int) (-1)) = degs m l (out ++ [(k : Int)]) := by
 obtain ⟨h1,h2,h3⟩ := nxt_spec h
 have hsl : (sI (degs m l out) (k : Int) (-1)).length = m := by simp [sI,zeo]
 have hin : inR m ((hds m l).getD k []) := by
  rw [List.getD_eq_getElem?_getD,List.getElem?_eq_getElem (by rw [zei]; exact h1)]
  exact hds_inR l _ (List.getElem_mem _)
 refine row_ext (by rw [zfU,hsl,zeo]) fun j hj => ?_
 rw [zfU,hsl] at hj
 rw [gI_bumps (by rw [hsl]; exact hin) (by rw [hsl]; omega),degs_get _ _ _ hj]
 have hset : gI (sI (degs m l out) (k : Int) (-1)) (j : Int) = if k = j then -1 else gI (degs m l out) (j : Int) := by
  rw [zcL (by rw [hsl]; exact hj)]
  by_cases hkj : k = j
  ·subst hkj; rw [if_pos rfl]; simp [sI]
  ·rw [if_neg hkj,zcL (by rw [zeo]; exact hj)]
   simp [sI,List.getElem_set_ne hkj]
 have hcnt : ((hds m l).getD k []).count (j : Int) = (l.filter fun a => zda m a && a.2 == (j : Int) && a.1 == (k : Int)).length := by
  rw [hds_get l h1,List.count_eq_countP,List.countP_map,List.countP_eq_length_filter,List.filter_filter]
  congr 1
  apply List.filter_congr
  intro a _
  simp only [Function.comp]
  cases zda m a <;> cases (a.1 == (k : Int)) <;> cases (a.2 == (j : Int)) <;> rfl
 rw [hset,hcnt]
 have hdec := indeg_out (m := m) (l := l) (j := (j : Int)) h2
 by_cases hkj : k = j
 ·subst hkj
  rw [if_pos rfl,if_pos (List.contains_iff_mem.2 (by simp))]
  have : zfL m l (out ++ [(k : Int)]) (k : Int) + (l.filter fun a => zda m a && a.2 == (k : Int) && a.1 == (k : Int)).length = 0 := by omega
  omega
 ·rw [if_neg hkj,degs_get _ _ _ hj]
  by_cases hjo : (j : Int) ∈ out
  ·rw [if_pos (List.contains_iff_mem.2 hjo),if_pos (List.contains_iff_mem.2 (List.mem_append_left _ hjo))]
   have : (l.filter fun a => zda m a && a.2 == (j : Int) && a.1 == (k : Int)).length = 0 := by
    rw [List.length_eq_zero_iff,List.filter_eq_nil_iff]
    intro a ha hc
    simp only [Bool.and_eq_true,beq_iff_eq] at hc
    obtain ⟨⟨hok,e1⟩,e2⟩ := hc
    exact h2 (e2 ▸ H.closed a ha hok (e1 ▸ hjo))
   omega
  ·have hc1 : out.contains (j : Int) = false := by
    cases hc : out.contains (j : Int) with
    | false => rfl
    | true => exact absurd (List.contains_iff_mem.1 hc) hjo
   have hc2 : (out ++ [(k : Int)]).contains (j : Int) = false := by
    cases hc : (out ++ [(k : Int)]).contains (j : Int) with
    | false => rfl
    | true =>
     rcases List.mem_append.1 (List.contains_iff_mem.1 hc) with h | h
     ·exact absurd h hjo
     ·have := List.mem_singleton.1 h; omega
   rw [hc1,hc2]
   simp only [Bool.false_eq_true,if_false]
   omega
def idxI (v : Int) (s : List Int) : Int := match s.findIdx? (· == v) with
 | some j => (j : Int)
 | none => -1
theorem idx_degs (m : Nat) (l : List (Int × Int)) (out : List Int) : idxI 0 (degs m l out) = match nxt m l out with | some k => (k : Int) | none => -1 := by
 unfold idxI degs nxt
 rw [List.findIdx?_map]
 have : ((fun x => x == (0 : Int)) ∘ fun (k : Nat) => if out.contains (k : Int) then (-1 : Int) else (zfL m l out (k : Int) : Int)) = fun (k : Nat) => !(out.contains (k : Int)) && zfL m l out (k : Int) == 0 := by
  funext k
  simp only [Function.comp]
  cases out.contains (k : Int) with
  | true => rfl
  | false =>
   simp only [Bool.false_eq_true,if_false,Bool.not_false,Bool.true_and]
   cases h : zfL m l out (k : Int) with
   | zero => rfl
   | succ n => simp; omega
 rw [this]
theorem ziA {m : Nat} {l : List (Int × Int)} : ∀ {n : Nat} {out o : List Int},kahn m l n out = some o → o.length = out.length + n
 | 0,_,_,h => by cases h; rfl
 | n + 1,out,o,h => by
  unfold kahn at h
  split at h
  ·cases h
  ·have := ziA h
   simp at this
   omega
theorem kahn_out {m : Nat} {l : List (Int × Int)} : ∀ {n : Nat} {out o : List Int},zfV m l out → kahn m l n out = some o → zfV m l o
 | 0,_,_,H,h => by cases h; exact H
 | n + 1,out,o,H,h => by
  unfold kahn at h
  split at h
  ·cases h
  ·rename_i k hk
   exact kahn_out (H.step hk) h
theorem zfV.nil (m : Nat) (l : List (Int × Int)) : zfV m l [] := ⟨by simp,fun x hx => (by cases hx),fun a _ _ h => (by cases h)⟩
theorem zie (m : Nat) (l : List (Int × Int)) : zfV m l (zdD m l).2 := by
 unfold zdD
 cases h : kahn m l m [] with
 | none => exact zfV.nil m l
 | some o => exact kahn_out (zfV.nil m l) h
def zgZ (c : Nat) (r : List Int) : Prop := ∀ j : Int,0 ≤ j ∧ j < (r.length : Int) → -(c : Int) ≤ gI r j ∧ gI r j ≤ (c : Int)
theorem zjw {c : Nat} {r : List Int} {k d : Int} (h : zgZ c r) (hk : 0 ≤ k ∧ k < (r.length : Int)) (hd : d = 1 ∨ d = -1) : zgZ (c + 1) (bump d r k) := fun j hj => by
 rw [zfI] at hj
 rw [gI_bump hk hj]
 have := h j hj
 rcases hd with rfl | rfl <;> split <;> omega
theorem within_bumps {d : Int} (hd : d = 1 ∨ d = -1) : ∀ {l r : List Int} {c : Nat},zgZ c r → inR r.length l → zgZ (c + l.length) (l.foldl (bump d) r)
 | [],_,_,h,_ => h
 | k :: l,r,c,h,hl => by
  have := within_bumps hd (l := l) (zjw h (hl k (List.mem_cons_self ..)) hd) (by rw [zfI]; exact fun x hx => hl x (List.mem_cons_of_mem _ hx))
  rw [List.foldl_cons,List.length_cons]
  rwa [show c + (l.length + 1) = c + 1 + l.length by omega]
theorem within_degs (m : Nat) (l : List (Int × Int)) (out : List Int) : zgZ (l.length + 1) (degs m l out) := fun j hj => by
 rw [zeo] at hj
 obtain ⟨k,rfl⟩ := Int.eq_ofNat_of_zero_le hj.1
 rw [degs_get _ _ _ (by omega)]
 have := indeg_le m l out (k : Int)
 split <;> omega
end Go.Proofs.YtlfdidaeachpoaaGreat
namespace Go.Proofs.YtlfdidaeachpoaaGreat
open Go Go.RowKit
set_option maxRecDepth 100000
noncomputable section
def zj_b26 : (Int × Int × (List Int)) → Int → RT Int (LR Int Unit)
| (v,x7,p0),x8 =>
 .rq 1 (.ite (decide (x8 < x7))
 (.rq 5 (.req (inB p0 x8) (.rq 2 (.ite (v == (gI p0 x8))
 (.rq 2 (.done (.ex x8)))
 (.rq 2 (.again (w64 (x8 + 1))))))))
 (.done (.rt ())))
def zj_p26 : zch := ⟨26,true,[tI,tI,.sl tI],[tI],⟨[.keep [0,1,7,8],.gc],[0,1,7,8],[.lf (qr 1048576),.lf (qi 0),.lf (qi 1),.lf (qm 0)],[(1048576,true,.arr 3 (qi 2))]⟩,[⟨1,⟨[.keep [4],.gc],[4],[.lf (qm 0)],[(1048576,true,.arr 3 (qi 2))]⟩,[tI]⟩,⟨2,⟨[.keep [],.gc],[],[],[(1048576,true,.arr 3 (qi 2))]⟩,[]⟩],zj_b26⟩
def zj : (Int × (List Int)) → RT Unit (Int × (List Int))
| (v,s) =>
 .rq 4 (.call (lo zj_b26 (v,(s.length : Int),s) 0) default fun v0 =>
 .ite v0.isRt
 (.rq 1 (.done ((-1),s)))
 (.done (v0.getX,s)))
def F_zj (x : Int × (List Int)) : Option (Int × (List Int)) := (zj x).run fun _ => none
def io_zj : Io := ⟨n_zj,[tI,.sl tI],[.lf (qr 0),.lf (qm 0)],[.arr 3 (qm 1)],[[],[tI]],[tI,.sl tI],.lf (qm 0),[(true,.arr 3 (qm 1))],[],false⟩
def zj_P : List zch := [zj_p26]
def zj_T : zcl := tab []
theorem zj_To : zck pg zj_T := zci trivial
theorem zj_k26 : (zj_p26).OK pg (zj_T) (zcB 19 (zj_P)) (zcs f_zj) 19 := ⟨by kernel_rfl,fun i x => by kernel_rfl⟩
theorem zj_go : zcy pg (zj_T) io_zj f_zj (zj_P) [] (zj) := ⟨by kernel_rfl,by kernel_rfl,fun x => by kernel_rfl⟩
theorem ok_zj : io_zj.Okay pg (F_zj) := zcu zcj (zj_To) (zj_go) ⟨zj_k26,trivial⟩
theorem idx_loop (v : Int) (p0 : List Int) (hl : p0.length ≤ 9223372036854775807) : ∀ d i : Nat,i + d = p0.length →
  lo zj_b26 (v,(p0.length : Int),p0) (i : Int) = some (match (p0.drop i).findIdx? (· == v) with | some j => .ex ((i + j : Nat) : Int) | none => .rt ())
 | 0,i,h => by
  rw [zcr,zj_b26]
  simp only [RT.run]
  rw [if_neg (by simp; omega),List.drop_eq_nil_of_le (by omega)]
  rfl
 | d + 1,i,h => by
  have hi : i < p0.length := by omega
  rw [zcr,zj_b26]
  simp only [RT.run]
  rw [if_pos (by simp; omega),if_pos (zcn.2 ⟨by omega,by omega⟩),List.drop_eq_getElem_cons hi,List.findIdx?_cons,zcL hi]
  by_cases hv : v = p0[i]
  ·rw [if_pos (by simpa using hv),if_pos (by simpa using hv.symm)]
   rfl
  ·rw [if_neg (by simpa using hv),if_neg (by simpa using fun e => hv e.symm),zcm (by omega),show (i : Int) + 1 = ((i + 1 : Nat) : Int) by omega,idx_loop v p0 hl d (i + 1) (by omega)]
   cases (p0.drop (i + 1)).findIdx? (· == v) with
   | none => rfl
   | some j => simp only [Option.map_some]; congr 3; omega
def e_zj : zcq := io_zj.sp (fun (v,s) => true) (fun (v,s) => (idxI v s,s))
theorem sp_zj (h : ∀ (v : Int) (s : List Int),WfT [tI,.sl tI] (v,s) → (zj (v,s)).run (fun _ => none) = some (idxI v s,s)) : e_zj.ok pg := zcw ok_zj fun (v,s) hw hc => h v s hw
theorem e_zj_ok : e_zj.ok pg := sp_zj fun v s hw => by
 have hl : s.length ≤ 9223372036854775807 := hw.2.1
 rw [zj]
 simp only [RT.run]
 have := idx_loop v s hl s.length 0 (by omega)
 rw [show ((0 : Nat) : Int) = 0 from rfl] at this
 rw [this,List.drop_zero]
 unfold idxI
 cases s.findIdx? (· == v) with
 | none => rfl
 | some j => simp [LR.isRt,LR.getX]
def ziF : ((List Int) × Int) → (Int × (List Int)) → RT (Int × (List Int)) (List Int)
| (x28,x29),(f,r7) =>
 .rq 1 (.ite (decide (f < x29))
 (.req (inB x28 f) (.rq 4 (let t0 := inB r7 (gI x28 f);
 .req t0 (.rq 2 (.req t0 (.rq 3 (.again (w64 (f + 1),sI r7 (gI x28 f) (w64 ((gI r7 (gI x28 f)) + 1))))))))))
 (.done r7))
def zp_p31334 : zch := ⟨31334,true,[.sl (.sl tI),.sl (.sl tI),tI,tI,.sl tI,tI],[tI,.sl tI],⟨[.keep [6,7,22,23,24,28,29,30],.gc,.nilRow 7 800007 3 tI,.ren 7 700007,.ren 7 900007,.gc],[6,7,22,23,24,28,29,30],[.lf (qi 0),.lf (qr 900007),.lf (qi 1),.lf (qi 2),.lf (qi 3),.lf (qi 4),.lf (qi 5),.lf (qm 0)],[(900007,true,.arr 3 (qm 1))]⟩,[⟨4,⟨[.keep [6,7,22,23,24],.gc,.nilRow 7 800007 3 tI,.ren 7 700007,.ren 7 900007,.gc],[6,7,22,23,24],[.lf (qi 0),.lf (qr 900007),.lf (qi 1),.lf (qi 2),.lf (qi 3)],[(900007,true,.arr 3 (qm 0))]⟩,[.sl tI]⟩],(fun i => ziF (i.2.2.2.2.1,i.2.2.2.2.2))⟩
def zp_b122 : ((List (List Int)) × Int) → (Int × (List Int)) → RT (Int × (List Int)) (List Int)
| (a,p),(p_2,r7) =>
 .rq 1 (.ite (decide (p_2 < p))
 (.req (inB a p_2) (.rq 5 (.call (lo ziF (gI a p_2,((gI a p_2).length : Int)) (0,r7)) default fun v0 =>
 .rq 2 (.again (w64 (p_2 + 1),v0)))))
 (.done r7))
def zp_p122 : zch := ⟨122,true,[.sl (.sl tI),.sl (.sl tI),tI],[tI,.sl tI],⟨[.keep [6,7,22,23,24],.gc,.nilRow 7 800007 3 tI,.ren 7 700007,.ren 7 900007,.gc],[6,7,22,23,24],[.lf (qi 0),.lf (qr 900007),.lf (qi 1),.lf (qi 2),.lf (qm 0)],[(900007,true,.arr 3 (qm 1))]⟩,[⟨2,⟨[.keep [6,7],.gc,.nilRow 7 800007 3 tI,.ren 7 700007,.ren 7 900007,.gc],[6,7],[.lf (qi 0),.lf (qr 900007)],[(900007,true,.arr 3 (qm 0))]⟩,[.sl tI]⟩],(fun i => zp_b122 (i.2.1,i.2.2))⟩
def zhL : ((List Int) × Int) → (Int × (List Int)) → RT (Int × (List Int)) (List Int)
| (x61,x62),(x63,r7) =>
 .rq 1 (.ite (decide (x63 < x62))
 (.req (inB x61 x63) (.rq 4 (let t0 := inB r7 (gI x61 x63);
 .req t0 (.rq 2 (.req t0 (.rq 3 (.again (w64 (x63 + 1),sI r7 (gI x61 x63) (w64 ((gI r7 (gI x61 x63)) - 1))))))))))
 (.done r7))
def zp_p129214 : zch := ⟨129214,true,[.sl (.sl tI),.sl tI,tI,.sl tI],[tI,.sl tI],⟨[.keep [6,7,12,61,62,63],.gc,.nilRow 7 800007 3 tI,.nilRow 12 800012 3 tI,.ren 7 700007,.ren 12 700012,.ren 7 900007,.ren 12 900012,.gc],[6,7,12,61,62,63],[.lf (qi 0),.lf (qr 900007),.lf (qr 900012),.lf (qi 1),.lf (qi 2),.lf (qm 0)],[(900007,true,.arr 3 (qm 1)),(900012,true,.arr 3 (qi 3))]⟩,[⟨8,⟨[.keep [6,7,12],.gc,.nilRow 7 800007 3 tI,.nilRow 12 800012 3 tI,.ren 7 700007,.ren 12 700012,.ren 7 900007,.ren 12 900012,.gc],[6,7,12],[.lf (qi 0),.lf (qr 900007),.lf (qr 900012)],[(900007,true,.arr 3 (qm 0)),(900012,true,.arr 3 (qi 3))]⟩,[.sl tI]⟩],(fun i => zhL (i.2.1,i.2.2.1))⟩
def zp_b252 : (List (List Int)) → ((List Int) × (List Int)) → RT ((List Int) × (List Int)) (LR Unit (List Int))
| x6,(r7,r12) =>
 .rq 5 (.ite (decide ((r12.length : Int) < (x6.length : Int)))
 (.rq 5 (.ite (decide ((idxI (0 : Int) r7) < 0))
 (.rq 2 (.done (.ex ())))
 (.rq 2 (.req (inB r7 (idxI (0 : Int) r7)) (.rq 4 (let t0 := [idxI (0 : Int) r7];
 .req (zdK 8 r12 t0) (.rq 3 (.req (inB x6 (idxI (0 : Int) r7)) (.rq 3 (let t1 := gI x6 (idxI (0 : Int) r7);
 .call (lo zhL (t1,(t1.length : Int)) (0,sI r7 (idxI (0 : Int) r7) (-1))) default fun v3 =>
 .again (v3,r12 ++ t0)))))))))))
 (.done (.rt r12)))
def zp_p252 : zch := ⟨252,true,[.sl (.sl tI)],[.sl tI,.sl tI],⟨[.keep [6,7,12],.gc,.nilRow 7 800007 3 tI,.nilRow 12 800012 3 tI,.ren 7 700007,.ren 12 700012,.ren 7 900007,.ren 12 900012,.gc],[6,7,12],[.lf (qi 0),.lf (qr 900007),.lf (qr 900012)],[(900007,true,.arr 3 (qm 0)),(900012,true,.arr 3 (qm 1))]⟩,[⟨1,⟨[.keep [4,5],.gc],[4,5],[.lf (.fix (.nil)),.lf (.fix (.bool false))],[]⟩,[]⟩,⟨6,⟨[.keep [12],.gc,.nilRow 12 800012 3 tI,.ren 12 700012,.ren 12 900012,.gc],[12],[.lf (qr 900012)],[(900012,true,.arr 3 (qm 0))]⟩,[.sl tI]⟩],zp_b252⟩
def zp : (Int × (List (Int × Int))) → RT Unit (Bool × (List Int))
| (a0,l) =>
 .rq 4 (.req ((decide (l.length ≤ 1000000))) (.rq 3 (let t0 := (((hds (dm a0) l)).length : Int);
 .req (mkOK 8 t0) (.rq 4 (.call (lo zp_b122 ((hds (dm a0) l),t0) (0,zdd t0 0)) default fun v1 =>
 .rq 1 (.call (lo zp_b252 ((hds (dm a0) l)) (v1,[])) default fun v4 =>
 .ite v4.isRt
 (.rq 3 (.done (true,v4.getR)))
 (.done (false,[]))))))))
def F_zp (x : Int × (List (Int × Int))) : Option (Bool × (List Int)) := (zp x).run fun _ => none
def io_zp : Io := ⟨n_zp,[tI,.sl (.pair tI tI)],[.lf (qm 0),.lf (qm 1)],[],[[tI],[.sl (.pair tI tI)]],[tB,.sl tI],.tup [(false,[qr 0]),(false,[qm 0])],[],[(true,.arr 3 (qm 1))],false⟩
def zp_P : List zch := [zp_p31334,zp_p122,zp_p129214,zp_p252]
def zp_T : zcl := tab [e_zj,e_zaD]
theorem zp_To : zck pg zp_T := zci ⟨e_zj_ok,e_zaD_ok,trivial⟩
theorem zp_k31334 : (zp_p31334).OK pg (zp_T) (zcB 75 (zp_P)) (zcs f_zp) 75 := ⟨by kernel_rfl,fun i x => by kernel_rfl⟩
theorem zp_k122 : (zp_p122).OK pg (zp_T) (zcB 75 (zp_P)) (zcs f_zp) 75 := ⟨by kernel_rfl,fun i x => by kernel_rfl⟩
theorem zp_k129214 : (zp_p129214).OK pg (zp_T) (zcB 75 (zp_P)) (zcs f_zp) 75 := ⟨by kernel_rfl,fun i x => by kernel_rfl⟩
theorem zp_k252 : (zp_p252).OK pg (zp_T) (zcB 75 (zp_P)) (zcs f_zp) 75 := ⟨by kernel_rfl,fun i x => by kernel_rfl⟩
theorem zp_go : zcy pg (zp_T) io_zp f_zp (zp_P) [.nilRow 4 800004 3 tI,.ren 4 700004,.ren 4 900004] (zp) := ⟨by kernel_rfl,by kernel_rfl,fun x => by kernel_rfl⟩
theorem ok_zp : io_zp.Okay pg (F_zp) := zcu zcj (zp_To) (zp_go) ⟨zp_k31334,zp_k122,zp_k129214,zp_k252,trivial⟩
theorem inc_loop (to : List Int) : ∀ (d i : Nat) (r : List Int) (c : Nat),i + d = to.length → inR r.length to → zgZ c r → c + d ≤ 4611686018427387904 → to.length ≤ 4611686018427387904 →
  lo ziF (to,(to.length : Int)) ((i : Int),r) = some ((to.drop i).foldl (bump 1) r)
 | 0,i,r,c,h,_,_,_,_ => by
  rw [zcr,ziF]
  simp only [RT.run]
  rw [if_neg (by simp; omega),List.drop_eq_nil_of_le (by omega)]
  rfl
 | d + 1,i,r,c,h,hr,hw,hc,hl => by
  have hi : i < to.length := by omega
  have hk := hr _ (List.getElem_mem hi)
  have hv := hw _ hk
  rw [zcr,ziF]
  simp only [RT.run]
  rw [if_pos (by simp; omega),if_pos (zcn.2 ⟨by omega,by omega⟩),zcL hi,if_pos (zcn.2 hk),if_pos (zcn.2 hk),zcm (by omega),zcm (by omega),show (i : Int) + 1 = ((i + 1 : Nat) : Int) by omega]
  have := inc_loop to d (i + 1) (bump 1 r to[i]) (c + 1) (by omega) (by rw [zfI]; exact hr) (zjw hw hk (.inl rfl)) (by omega) hl
  unfold bump at this
  rw [this,List.drop_eq_getElem_cons hi,List.foldl_cons]
  rfl
theorem dec_loop (to : List Int) : ∀ (d i : Nat) (r : List Int) (c : Nat),i + d = to.length → inR r.length to → zgZ c r → c + d ≤ 4611686018427387904 → to.length ≤ 4611686018427387904 →
  lo zhL (to,(to.length : Int)) ((i : Int),r) = some ((to.drop i).foldl (bump (-1)) r)
 | 0,i,r,c,h,_,_,_,_ => by
  rw [zcr,zhL]
  simp only [RT.run]
  rw [if_neg (by simp; omega),List.drop_eq_nil_of_le (by omega)]
  rfl
 | d + 1,i,r,c,h,hr,hw,hc,hl => by
  have hi : i < to.length := by omega
  have hk := hr _ (List.getElem_mem hi)
  have hv := hw _ hk
  rw [zcr,zhL]
  simp only [RT.run]
  rw [if_pos (by simp; omega),if_pos (zcn.2 ⟨by omega,by omega⟩),zcL hi,if_pos (zcn.2 hk),if_pos (zcn.2 hk),zcm (by omega),zcm (by omega),show (i : Int) + 1 = ((i + 1 : Nat) : Int) by omega,show gI r to[i] - 1 = gI r to[i] + -1 by omega]
  have := dec_loop to d (i + 1) (bump (-1) r to[i]) (c + 1) (by omega) (by rw [zfI]; exact hr) (zjw hw hk (.inr rfl)) (by omega) hl
  unfold bump at this
  rw [this,List.drop_eq_getElem_cons hi,List.foldl_cons]
  rfl
theorem incs_loop (h : List (List Int)) (m : Nat) (hm : ∀ to ∈ h,inR m to) (hlen : h.length ≤ 4096) : ∀ (d i : Nat) (r : List Int) (c : Nat),i + d = h.length → r.length = m → zgZ c r → c + (h.drop i).flatten.length ≤ 4611686018427387904 →
  lo zp_b122 (h,(h.length : Int)) ((i : Int),r) = some ((h.drop i).flatten.foldl (bump 1) r)
 | 0,i,r,c,hd,_,_,_ => by
  rw [zcr,zp_b122]
  simp only [RT.run]
  rw [if_neg (by simp; omega),List.drop_eq_nil_of_le (by omega)]
  rfl
 | d + 1,i,r,c,hd,hr,hw,hc => by
  have hi : i < h.length := by omega
  have hto := hm _ (List.getElem_mem hi)
  rw [List.drop_eq_getElem_cons hi,List.flatten_cons,List.length_append] at hc
  rw [zcr,zp_b122]
  simp only [RT.run]
  rw [if_pos (by simp; omega),if_pos (zcn.2 ⟨by omega,by omega⟩),zcL hi]
  have h1 := inc_loop h[i] h[i].length 0 r c (by omega) (by rw [hr]; exact hto) hw (by omega) (by omega)
  rw [show ((0 : Nat) : Int) = 0 from rfl] at h1
  rw [h1,List.drop_zero,Option.bind_some,zcm (by omega),show (i : Int) + 1 = ((i + 1 : Nat) : Int) by omega,
   incs_loop h m hm hlen d (i + 1) _ (c + h[i].length) (by omega) (by rw [zfU,hr]) (within_bumps (.inl rfl) hw (by rw [hr]; exact hto)) (by omega),List.drop_eq_getElem_cons hi,List.flatten_cons,List.foldl_append]
theorem order_loop (m : Nat) (l : List (Int × Int)) (hm : m ≤ 4096) (hl : l.length ≤ 1000000) : ∀ (n : Nat) (out : List Int),out.length + n = m → zfV m l out →
  lo zp_b252 (hds m l) (degs m l out,out) = some (match kahn m l n out with | some o => .rt o | none => .ex ())
 | 0,out,h,_ => by
  rw [zcr,zp_b252]
  simp only [RT.run]
  rw [if_neg (by simp [zei]; omega)]
  rfl
 | n + 1,out,h,H => by
  rw [zcr,zp_b252]
  simp only [RT.run]
  rw [if_pos (by simp [zei]; omega),idx_degs]
  unfold kahn
  cases hn : nxt m l out with
  | none => rw [if_pos (by decide)]
  | some k =>
   obtain ⟨h1,h2,h3⟩ := nxt_spec hn
   have hmax : maxLen = 9223372036854775807 := by decide
   simp only
   rw [if_neg (by simp),if_pos (zcn.2 ⟨by omega,by rw [zeo]; omega⟩),if_pos (zeI.2 ⟨by simp; omega,by simp; omega⟩),if_pos (zcn.2 ⟨by omega,by rw [zei]; omega⟩)]
   have zct : gI (hds m l) (k : Int) = (hds m l).getD k [] := zfD _ _
   rw [zct]
   have hmem : (hds m l).getD k [] ∈ hds m l := by
    rw [List.getD_eq_getElem?_getD,List.getElem?_eq_getElem (by rw [zei]; exact h1)]
    exact List.getElem_mem _
   have hlen : ((hds m l).getD k []).length ≤ l.length := by
    rw [hds_get l h1,List.length_map]; exact List.length_filter_le ..
   have hsl : (sI (degs m l out) (k : Int) (-1)).length = m := by simp [sI,zeo]
   have hws : zgZ (l.length + 1) (sI (degs m l out) (k : Int) (-1)) := fun j hj => by
    rw [hsl] at hj
    obtain ⟨j,rfl⟩ := Int.eq_ofNat_of_zero_le hj.1
    have hb := within_degs m l out (j : Int) (by rw [zeo]; omega)
    have : gI (sI (degs m l out) (k : Int) (-1)) (j : Int) = if k = j then -1 else gI (degs m l out) (j : Int) := by
     rw [zcL (by rw [hsl]; omega)]
     by_cases hkj : k = j
     ·subst hkj; rw [if_pos rfl]; simp [sI]
     ·rw [if_neg hkj,zcL (by rw [zeo]; omega)]
      simp [sI,List.getElem_set_ne hkj]
    rw [this]
    split <;> omega
   have hd := dec_loop ((hds m l).getD k []) _ 0 (sI (degs m l out) (k : Int) (-1)) (l.length + 1) (Nat.zero_add _) (by rw [hsl]; exact hds_inR l _ hmem) hws (by omega) (by omega)
   rw [show ((0 : Nat) : Int) = 0 from rfl] at hd
   rw [hd,List.drop_zero,degs_step H hn,Option.bind_some]
   exact order_loop m l hm hl n (out ++ [(k : Int)]) (by simp; omega) (H.step hn)
def e_zp : zcq := io_zp.sp (fun (n,l) => (decide (l.length ≤ 1000000))) (fun (n,l) => (zdD (dm n) l))
theorem sp_zp (h : ∀ (n : Int) (l : List (Int × Int)),WfT [tI,.sl (.pair tI tI)] (n,l) → ((decide (l.length ≤ 1000000))) = true → (zp (n,l)).run (fun _ => none) = some (zdD (dm n) l)) : e_zp.ok pg := zcw ok_zp fun (n,l) hw hc => h n l hw hc
theorem e_zp_ok : e_zp.ok pg := sp_zp fun n l hw hc => by
 have hl := of_decide_eq_true hc
 have hm := dm_le n
 generalize hme : dm n = m at *
 rw [zp]
 simp only [RT.run]
 rw [hme,if_pos hc,zei,if_pos (zdF.2 ⟨by omega,by omega,by omega⟩)]
 have hw0 : zgZ 0 (List.replicate m (0 : Int)) := fun j hj => by
  rw [List.length_replicate] at hj
  obtain ⟨j,rfl⟩ := Int.eq_ofNat_of_zero_le hj.1
  have h0 : gI (List.replicate m (0 : Int)) (j : Int) = 0 := by rw [zcL (by simpa using hj.2)]; simp
  rw [h0]; simp
 have hfl : (hds m l).flatten.length ≤ 4096 * 1000000 := by
  have hb : ∀ (LL : List (List Int)) (b : Nat),(∀ x ∈ LL,x.length ≤ b) → LL.flatten.length ≤ LL.length * b := by
   intro LL b
   induction LL with
   | nil => simp
   | cons x LL ih =>
    intro h
    have h1 := h x (List.mem_cons_self ..)
    have h2 := ih fun y hy => h y (List.mem_cons_of_mem _ hy)
    rw [List.flatten_cons,List.length_append,List.length_cons,Nat.succ_mul]
    omega
  have := hb (hds m l) 1000000 fun x hx => by
   rw [← hds_upto] at hx
   exact Nat.le_trans (hsUpto_len (Nat.le_refl _) x hx) hl
  rw [zei] at this
  exact Nat.le_trans this (Nat.mul_le_mul_right _ hm)
 have h1 := incs_loop (hds m l) m (hds_inR l) (by rw [zei]; exact hm) m 0 (List.replicate m 0) 0 (by rw [zei]; omega) (by simp) hw0 (by rw [List.drop_zero]; omega)
 rw [zei,show ((0 : Nat) : Int) = 0 from rfl,List.drop_zero,degs_start] at h1
 rw [zdd,Int.toNat_natCast,h1,Option.bind_some,order_loop m l hm hl m [] (by simp) ⟨by simp,fun x hx => (by cases hx),fun a _ _ h => (by cases h)⟩,Option.bind_some]
 unfold zdD
 cases kahn m l m [] with
 | none => rfl
 | some o => rfl
def zas : (Int × (List Bool) × (List Tk) × (List Th) × (List Lk) × (List Int) × Int) → RT Unit (Bool × (List Bool) × (List Tk) × (List Th) × (List Lk) × (List Int) × Int)
| (c,a1_0,a1_1,a1_2,a1_3,a1_4,a1_5) =>
 .rq 4 (.req (inB a1_0 c) (.rq 3 (.done (!(gI a1_0 c),a1_0,a1_1,a1_2,a1_3,a1_4,a1_5))))
def F_zas (x : Int × (List Bool) × (List Tk) × (List Th) × (List Lk) × (List Int) × Int) : Option (Bool × (List Bool) × (List Tk) × (List Th) × (List Lk) × (List Int) × Int) := (zas x).run fun _ => none
def io_zas : Io := ⟨n_zas,[tI,.sl tB,.sl yK,.sl yH,.sl yL,.sl tI,tI],[.lf (qm 0),.lf (qp 0)],[.cells [qm 1,qm 2,qm 3,qm 4,qm 5,qm 6]],[[tI],[]],[tB,.sl tB,.sl yK,.sl yH,.sl yL,.sl tI,tI],.lf (qm 0),[(true,.cells [qm 1,qm 2,qm 3,qm 4,qm 5,qm 6])],[],true⟩
def zas_P : List zch := []
def zas_T : zcl := tab []
theorem zas_To : zck pg zas_T := zci trivial
theorem zas_go : zcy pg (zas_T) io_zas f_zas (zas_P) [] (zas) := ⟨by kernel_rfl,by kernel_rfl,fun x => by kernel_rfl⟩
theorem ok_zas : io_zas.Okay pg (F_zas) := zcu zcj (zas_To) (zas_go) trivial
def e_zas : zcq := io_zas.sp (fun (c,coins,tickets,threads,locks,queue,quantum) => (inB coins c)) (fun (c,coins,tickets,threads,locks,queue,quantum) => (!(gI coins c),coins,tickets,threads,locks,queue,quantum))
theorem sp_zas (h : ∀ (c : Int) (coins : List Bool) (tickets : List Tk) (threads : List Th) (locks : List Lk) (queue : List Int) (quantum : Int),WfT [tI,.sl tB,.sl yK,.sl yH,.sl yL,.sl tI,tI] (c,coins,tickets,threads,locks,queue,quantum) → ((inB coins c)) = true → (zas (c,coins,tickets,threads,locks,queue,quantum)).run (fun _ => none) = some (!(gI coins c),coins,tickets,threads,locks,queue,quantum)) : e_zas.ok pg := zcw ok_zas fun (c,coins,tickets,threads,locks,queue,quantum) hw hc => h c coins tickets threads locks queue quantum hw hc
theorem e_zas_ok : e_zas.ok pg := sp_zas fun c coins tickets threads locks queue quantum _ hc => by
 rw [zas]
 simp only [RT.run]
 rw [if_pos hc]
def zf_b26 : (Int × (List Int) × (List Bool) × (List Tk) × (List Th) × (List Lk) × (List Int) × Int) → Int → RT Int (LR Int Unit)
| (x7,p0,p1_0,p1_1,p1_2,p1_3,p1_4,p1_5),x8 =>
 .rq 1 (.ite (decide (x8 < x7))
 (.rq 5 (.req (inB p0 x8) (.rq 1 (.req ((inB p1_0 (gI p0 x8))) (.ite (!(gI p1_0 (gI p0 x8)))
 (.rq 2 (.done (.ex x8)))
 (.rq 2 (.again (w64 (x8 + 1)))))))))
 (.done (.rt ())))
def zf_p26 : zch := ⟨26,true,[tI,.sl tI,.sl tB,.sl yK,.sl yH,.sl yL,.sl tI,tI],[tI],⟨[.keep [0,1,7,8],.gc],[0,1,7,8],[.lf (qr 1048576),.lf (.fix (.fn 170 [1048577])),.lf (qi 0),.lf (qm 0)],[(1048576,true,.arr 3 (qi 1)),(1048577,true,.cells [qi 2,qi 3,qi 4,qi 5,qi 6,qi 7])]⟩,[⟨1,⟨[.keep [4],.gc],[4],[.lf (qm 0)],[(1048576,true,.arr 3 (qi 1)),(1048577,true,.cells [qi 2,qi 3,qi 4,qi 5,qi 6,qi 7])]⟩,[tI]⟩,⟨2,⟨[.keep [],.gc],[],[],[(1048576,true,.arr 3 (qi 1)),(1048577,true,.cells [qi 2,qi 3,qi 4,qi 5,qi 6,qi 7])]⟩,[]⟩],zf_b26⟩
def zf : ((List Int) × (List Bool) × (List Tk) × (List Th) × (List Lk) × (List Int) × Int) → RT Unit (Int × (List Int) × (List Bool) × (List Tk) × (List Th) × (List Lk) × (List Int) × Int)
| (s,f_1,f_2,f_3,f_4,f_5,f_6) =>
 .rq 4 (.call (lo zf_b26 ((s.length : Int),s,f_1,f_2,f_3,f_4,f_5,f_6) 0) default fun v0 =>
 .ite v0.isRt
 (.rq 1 (.done ((-1),s,f_1,f_2,f_3,f_4,f_5,f_6)))
 (.done (v0.getX,s,f_1,f_2,f_3,f_4,f_5,f_6)))
def F_zf (x : (List Int) × (List Bool) × (List Tk) × (List Th) × (List Lk) × (List Int) × Int) : Option (Int × (List Int) × (List Bool) × (List Tk) × (List Th) × (List Lk) × (List Int) × Int) := (zf x).run fun _ => none
def io_zf : Io := ⟨n_zf,[.sl tI,.sl tB,.sl yK,.sl yH,.sl yL,.sl tI,tI],[.lf (qr 0),.lf (.fix (.fn 170 [1]))],[.arr 3 (qm 0),.cells [qm 1,qm 2,qm 3,qm 4,qm 5,qm 6]],[[],[]],[tI,.sl tI,.sl tB,.sl yK,.sl yH,.sl yL,.sl tI,tI],.lf (qm 0),[(true,.arr 3 (qm 1)),(true,.cells [qm 2,qm 3,qm 4,qm 5,qm 6,qm 7])],[],true⟩
def zf_P : List zch := [zf_p26]
def zf_T : zcl := tab [e_zas]
theorem zf_To : zck pg zf_T := zci ⟨e_zas_ok,trivial⟩
theorem zf_k26 : (zf_p26).OK pg (zf_T) (zcB 19 (zf_P)) (zcs f_zf) 19 := ⟨by kernel_rfl,fun i x => by kernel_rfl⟩
theorem zf_go : zcy pg (zf_T) io_zf f_zf (zf_P) [] (zf) := ⟨by kernel_rfl,by kernel_rfl,fun x => by kernel_rfl⟩
theorem ok_zf : io_zf.Okay pg (F_zf) := zcu zcj (zf_To) (zf_go) ⟨zf_k26,trivial⟩
def idxF (p : Int → Bool) (s : List Int) : Int := match s.findIdx? p with
 | some j => (j : Int)
 | none => -1
theorem allIn_get {coins : List Bool} {s : List Int} (h : s.all (inB coins) = true) {i : Nat} (hi : i < s.length) : inB coins s[i] = true := List.all_eq_true.1 h _ (List.getElem_mem hi)
theorem idxF_loop (s : List Int) (coins : List Bool) (t : List Tk) (th : List Th) (lk : List Lk) (q : List Int) (u : Int) (hl : s.length ≤ 9223372036854775807) (hc : s.all (inB coins) = true) : ∀ d i : Nat,i + d = s.length →
  lo zf_b26 ((s.length : Int),s,coins,t,th,lk,q,u) (i : Int) = some (match (s.drop i).findIdx? (fun c => !(gI coins c)) with | some j => .ex ((i + j : Nat) : Int) | none => .rt ())
 | 0,i,h => by
  rw [zcr,zf_b26]
  simp only [RT.run]
  rw [if_neg (by simp; omega),List.drop_eq_nil_of_le (by omega)]
  rfl
 | d + 1,i,h => by
  have hi : i < s.length := by omega
  rw [zcr,zf_b26]
  simp only [RT.run]
  rw [if_pos (by simp; omega),if_pos (zcn.2 ⟨by omega,by omega⟩),List.drop_eq_getElem_cons hi,List.findIdx?_cons,zcL hi,if_pos (allIn_get hc hi)]
  by_cases hv : (!(gI coins s[i])) = true
  ·rw [if_pos hv,if_pos hv]
   rfl
  ·rw [if_neg hv,if_neg hv,zcm (by omega),show (i : Int) + 1 = ((i + 1 : Nat) : Int) by omega,idxF_loop s coins t th lk q u hl hc d (i + 1) (by omega)]
   cases (s.drop (i + 1)).findIdx? (fun c => !(gI coins c)) with
   | none => rfl
   | some j => simp only [Option.map_some]; congr 3; omega
def e_zf : zcq := io_zf.sp (fun (s,coins,tickets,threads,locks,queue,quantum) => (s.all (inB coins))) (fun (s,coins,tickets,threads,locks,queue,quantum) => (idxF (fun c => !(gI coins c)) s,s,coins,tickets,threads,locks,queue,quantum))
theorem sp_zf (h : ∀ (s : List Int) (coins : List Bool) (tickets : List Tk) (threads : List Th) (locks : List Lk) (queue : List Int) (quantum : Int),WfT [.sl tI,.sl tB,.sl yK,.sl yH,.sl yL,.sl tI,tI] (s,coins,tickets,threads,locks,queue,quantum) → ((s.all (inB coins))) = true → (zf (s,coins,tickets,threads,locks,queue,quantum)).run (fun _ => none) = some (idxF (fun c => !(gI coins c)) s,s,coins,tickets,threads,locks,queue,quantum)) : e_zf.ok pg := zcw ok_zf fun (s,coins,tickets,threads,locks,queue,quantum) hw hc => h s coins tickets threads locks queue quantum hw hc
theorem e_zf_ok : e_zf.ok pg := sp_zf fun s coins tickets threads locks queue quantum hw hc => by
 have hl : s.length ≤ 9223372036854775807 := hw.1.1
 rw [zf]
 simp only [RT.run]
 have := idxF_loop s coins tickets threads locks queue quantum hl hc s.length 0 (by omega)
 rw [show ((0 : Nat) : Int) = 0 from rfl] at this
 rw [this,List.drop_zero]
 unfold idxF
 cases s.findIdx? (fun c => !(gI coins c)) with
 | none => rfl
 | some j => simp [LR.isRt,LR.getX]
def ze_b122 : ((List Bool) × (List Tk) × (List Th) × (List Lk) × (List Int) × Int) → (Int × Int × (List Int)) → RT (Int × Int × (List Int)) (Int × (List Int))
| (p1_0,p1_1,p1_2,p1_3,p1_4,p1_5),(i,j,p0) =>
 .rq 4 (.ite (decide (j < (p0.length : Int)))
 (.rq 2 (.req (inB p0 j) (.rq 4 (.req ((inB p1_0 (gI p0 j))) (.rq 1 (let t0 := w64 (j + 1);
 .ite (!(!(gI p1_0 (gI p0 j))))
 (.rq 3 (.req (inB p0 i) (.rq 7 (.again (w64 (i + 1),t0,sI p0 i (gI p0 j))))))
 (.rq 3 (.again (i,t0,p0)))))))))
 (.done (i,p0)))
def ze_p122 : zch := ⟨122,true,[.sl tB,.sl yK,.sl yH,.sl yL,.sl tI,tI],[tI,tI,.sl tI],⟨[.keep [0,1,5,6],.gc],[0,1,5,6],[.lf (qr 1048576),.lf (.fix (.fn 170 [1048577])),.lf (qm 0),.lf (qm 1)],[(1048576,true,.arr 3 (qm 2)),(1048577,true,.cells [qi 0,qi 1,qi 2,qi 3,qi 4,qi 5])]⟩,[⟨2,⟨[.keep [0,5],.gc],[0,5],[.lf (qr 1048576),.lf (qm 0)],[(1048576,true,.arr 3 (qm 1)),(1048577,true,.cells [qi 0,qi 1,qi 2,qi 3,qi 4,qi 5])]⟩,[tI,.sl tI]⟩],ze_b122⟩
def ze : ((List Int) × (List Bool) × (List Tk) × (List Th) × (List Lk) × (List Int) × Int) → RT Unit ((List Int) × (List Bool) × (List Tk) × (List Th) × (List Lk) × (List Int) × Int)
| (s,del_1,del_2,del_3,del_4,del_5,del_6) =>
 .rq 3 (.req ((s.all (inB del_1))) (.rq 3 (let t0 := idxF (fun c => !(gI del_1 c)) s;
 .ite (t0 == (-1))
 (.rq 2 (.done (s,del_1,del_2,del_3,del_4,del_5,del_6)))
 (.rq 3 (.call (lo ze_b122 (del_1,del_2,del_3,del_4,del_5,del_6) (t0,w64 (t0 + 1),s)) default fun v0 =>
 .rq 2 (.req (dropOK v0.2 v0.1) (.rq 2 (let t1 := clrI v0.2 v0.1 0;
 .req (zgC t1 v0.1) (.rq 1 (.done (takeI t1 v0.1,del_1,del_2,del_3,del_4,del_5,del_6)))))))))))
def F_ze (x : (List Int) × (List Bool) × (List Tk) × (List Th) × (List Lk) × (List Int) × Int) : Option ((List Int) × (List Bool) × (List Tk) × (List Th) × (List Lk) × (List Int) × Int) := (ze x).run fun _ => none
def io_ze : Io := ⟨n_ze,[.sl tI,.sl tB,.sl yK,.sl yH,.sl yL,.sl tI,tI],[.lf (qr 0),.lf (.fix (.fn 170 [1]))],[.arr 3 (qm 0),.cells [qm 1,qm 2,qm 3,qm 4,qm 5,qm 6]],[[],[]],[.sl tI,.sl tB,.sl yK,.sl yH,.sl yL,.sl tI,tI],.lf (qm 0),[(false,.dead),(true,.cells [qm 1,qm 2,qm 3,qm 4,qm 5,qm 6])],[],true⟩
def ze_P : List zch := [ze_p122]
def ze_T : zcl := tab [e_zf,e_zas]
theorem ze_To : zck pg ze_T := zci ⟨e_zf_ok,e_zas_ok,trivial⟩
theorem ze_k122 : (ze_p122).OK pg (ze_T) (zcB 42 (ze_P)) (zcs f_ze) 42 := ⟨by kernel_rfl,fun i x => by kernel_rfl⟩
theorem ze_go : zcy pg (ze_T) io_ze f_ze (ze_P) [.toDat 4,.den 4 [.sl tI]] (ze) := ⟨by kernel_rfl,by kernel_rfl,fun x => by kernel_rfl⟩
theorem ok_ze : io_ze.Okay pg (F_ze) := zcu zcj (ze_To) (ze_go) ⟨ze_k122,trivial⟩
theorem del_loop (s : List Int) (coins : List Bool) (t : List Tk) (th : List Th) (lk : List Lk) (q : List Int) (u : Int) (hl : s.length ≤ 9223372036854775807) (hc : s.all (inB coins) = true) : ∀ (d i j : Nat) (p0 : List Int),j + d = s.length → i ≤ j → p0.length = s.length →
  p0.take i = (s.take j).filter (gI coins) → p0.drop j = s.drop j → ∃ (i' : Nat) (p1 : List Int),lo ze_b122 (coins,t,th,lk,q,u) ((i : Int),(j : Int),p0) = some ((i' : Int),p1) ∧ i' ≤ p1.length ∧ p1.length = s.length ∧ p1.take i' = s.filter (gI coins)
 | 0,i,j,p0,h,hij,hp,h1,_ => by
  refine ⟨i,p0,?_,by omega,hp,by rw [h1,List.take_of_length_le (by omega)]⟩
  rw [zcr,ze_b122]
  simp only [RT.run]
  rw [if_neg (by simp; omega)]
 | d + 1,i,j,p0,h,hij,hp,h1,h2 => by
  have hj : j < s.length := by omega
  have hj0 : j < p0.length := by omega
  have he : p0[j] = s[j] := by
   have := congrArg (fun l => l[0]?) h2
   simp only [List.getElem?_drop,Nat.add_zero,List.getElem?_eq_getElem hj0,List.getElem?_eq_getElem hj] at this
   exact Option.some.inj this
  have htk : (s.take (j + 1)).filter (gI coins) = (s.take j).filter (gI coins) ++ (if gI coins s[j] = true then [s[j]] else []) := by
   rw [List.take_add_one,List.getElem?_eq_getElem hj,List.filter_append]
   simp [List.filter_cons]
  rw [zcr,ze_b122]
  simp only [RT.run]
  rw [if_pos (by simp; omega),if_pos (zcn.2 ⟨by omega,by omega⟩),zcL hj0,he,if_pos (allIn_get hc hj),zcm (by omega),Bool.not_not]
  by_cases hk : gI coins s[j] = true
  ·rw [if_pos hk,if_pos (zcn.2 ⟨by omega,by omega⟩),zcm (by omega),show (i : Int) + 1 = ((i + 1 : Nat) : Int) by omega,show (j : Int) + 1 = ((j + 1 : Nat) : Int) by omega]
   refine del_loop s coins t th lk q u hl hc d (i + 1) (j + 1) _ (by omega) (by omega) (by simp [sI,hp]) ?_ ?_
   ·rw [htk,if_pos hk,← h1,sI,Int.toNat_natCast]
    rw [List.take_add_one,List.getElem?_set_self (by omega),List.take_set_of_le (Nat.le_refl _)]
    rfl
   ·rw [sI,Int.toNat_natCast,List.drop_set_of_lt (by omega)]
    have := congrArg (List.drop 1) h2
    simpa [List.drop_drop] using this
  ·rw [if_neg hk,zcm (by omega),show (j : Int) + 1 = ((j + 1 : Nat) : Int) by omega]
   refine del_loop s coins t th lk q u hl hc d i (j + 1) p0 (by omega) (by omega) hp ?_ ?_
   ·rw [htk,if_neg hk,List.append_nil,h1]
   ·have := congrArg (List.drop 1) h2
    simpa [List.drop_drop] using this
def e_ze : zcq := io_ze.sp (fun (s,coins,tickets,threads,locks,queue,quantum) => (s.all (inB coins))) (fun (s,coins,tickets,threads,locks,queue,quantum) => (s.filter (gI coins),coins,tickets,threads,locks,queue,quantum))
theorem sp_ze (h : ∀ (s : List Int) (coins : List Bool) (tickets : List Tk) (threads : List Th) (locks : List Lk) (queue : List Int) (quantum : Int),WfT [.sl tI,.sl tB,.sl yK,.sl yH,.sl yL,.sl tI,tI] (s,coins,tickets,threads,locks,queue,quantum) → ((s.all (inB coins))) = true → (ze (s,coins,tickets,threads,locks,queue,quantum)).run (fun _ => none) = some (s.filter (gI coins),coins,tickets,threads,locks,queue,quantum)) : e_ze.ok pg := zcw ok_ze fun (s,coins,tickets,threads,locks,queue,quantum) hw hc => h s coins tickets threads locks queue quantum hw hc
theorem e_ze_ok : e_ze.ok pg := sp_ze fun s coins tickets threads locks queue quantum hw hc => by
 have hl : s.length ≤ 9223372036854775807 := hw.1.1
 rw [ze]
 simp only [RT.run]
 rw [if_pos hc]
 unfold idxF
 cases hi : s.findIdx? (fun c => !(gI coins c)) with
 | none =>
  rw [if_pos (by rfl)]
  have := List.findIdx?_eq_none_iff.1 hi
  rw [List.filter_eq_self.2 fun x hx => by simpa using this x hx]
 | some j =>
  obtain ⟨hj,hk,hbef⟩ := List.findIdx?_eq_some_iff_getElem.1 hi
  have hne : ¬ (((j : Int) == -1) = true) := by simp
  simp only
  rw [if_neg hne,zcm (by omega),show (j : Int) + 1 = ((j + 1 : Nat) : Int) by omega]
  have hbf : (s.take (j + 1)).filter (gI coins) = s.take j := by
   rw [List.take_add_one,List.getElem?_eq_getElem hj,List.filter_append]
   have h1 : (s.take j).filter (gI coins) = s.take j := List.filter_eq_self.2 fun x hx => by
    obtain ⟨k,hk1,rfl⟩ := List.mem_iff_getElem.1 hx
    have hkj : k < j := by simp at hk1; omega
    have := hbef k hkj
    simp only [List.getElem_take]
    simpa using this
   have h2 : gI coins s[j] = false := by simpa using hk
   rw [h1]
   simp [h2]
  obtain ⟨i',p1,h1,h2,h3,h4⟩ := del_loop s coins tickets threads locks queue quantum hl hc (s.length - (j + 1)) j (j + 1) s (by omega) (by omega) rfl hbf.symm rfl
  rw [h1,Option.bind_some]
  have hd : dropOK p1 (i' : Int) = true := by simp [dropOK]; omega
  have hcl : (clrI p1 (i' : Int) 0).length = p1.length := by simp [clrI]; omega
  have ht : zgC (clrI p1 (i' : Int) 0) (i' : Int) = true := by simp [zgC,hcl]; omega
  simp only
  rw [if_pos hd,if_pos ht]
  have he : takeI (clrI p1 (i' : Int) 0) (i' : Int) = s.filter (gI coins) := by
   rw [← h4]
   simp only [takeI,clrI,Int.toNat_natCast]
   rw [List.take_append_of_le_length (by simp; omega),List.take_take,Nat.min_self]
  rw [he]
end
end Go.Proofs.YtlfdidaeachpoaaGreat
namespace Go.Proofs.YtlfdidaeachpoaaGreat
open Go Go.RowKit
theorem wpR_n {rd : Option Nat} {n m : Nat} {P : Program} {c : Code} {Q : Exit → Act → World → Prop} {a : Act} {w : World} (h : c.wpIn (Fw rd) n P Q a w) : c.wpIn (Fw rd) m P Q a w :=
 fun b k cs h1 h2 _ => h b k cs h1 h2 fun _ h => (by cases h)
def zdM (w : World) (b : Nat) : Prop := ∃ o : Obj,w.heap[b]? = some o ∧ o.isCells = true
theorem cellsAt_row {w : World} {e : TypeId} {size n : Nat} {v : Value} {us : List Value} (h : w.ownsRow 0 e size v n us) {g : Nat} (hg : blk v = some g) : zdM w g := by
 rcases h.2 with ⟨rfl,_⟩ | ⟨g',cap,cur,rfl,_,h1,_⟩
 ·cases hg
 ·cases hg; exact ⟨_,h1,rfl⟩
section
variable {w w' : World} {ok : Nat → Prop} {β : Nat → Option Value}
theorem zcM.norm : (t : Ty) → {vs : List Value} → {x : t.den} → zcM w ok t vs x → zcM w (fun b => ok b ∧ zdM w b) t vs x
 | .int _,_,_,h => h
 | .bool,_,_,h => h
 | .str,_,_,h => h
 | .sl t,vs,xs,h => by
  obtain ⟨A,cap,h1,h2,h3,h4,h5⟩ := h
  refine ⟨A,cap,h1,h2,h3,h4,fun i hi => ?_⟩
  obtain ⟨b,o,us,h6,h7,h8,h9,h10⟩ := h5 i hi
  refine ⟨b,o,us,h6,⟨h7,?_⟩,h8,h9,zcM.norm t h10⟩
  have hpos := t.size_pos
  have hj : us[0]? = some us[0] := List.getElem?_eq_getElem (by omega)
  exact cells_of_cell (h9 0 _ hj)
 | .pair a b,vs,x,h => by
  obtain ⟨us,us',h1,h2,h3⟩ := h
  exact ⟨us,us',h1,zcM.norm a h2,zcM.norm b h3⟩
theorem zdh.norm {v : Value} {l : zcp} (h : zdh w ok β v l) : zdh w (fun b => ok b ∧ zdM w b) β v l := by
 cases l with
 | dat t xs => exact zcM.norm (.sl t) h
 | _ => exact h
theorem zcA.norm : ∀ {vs : List Value} {ls : List zcp},zcA w ok β vs ls → zcA w (fun b => ok b ∧ zdM w b) β vs ls
 | [],[],_ => trivial
 | _ :: _,_ :: _,⟨h1,h2⟩ => ⟨h1.norm,zcA.norm h2⟩
 | [],_ :: _,h => h.elim
 | _ :: _,[],h => h.elim
theorem zcX.norm {t : Ty} {us : List Value} {xs : List t.den} (h : zcX w ok t us xs) : zcX w (fun b => ok b ∧ zdM w b) t us xs := fun i hi => (h i hi).norm
theorem zdo.norm {id : Nat} {b : EB} (h : zdo w ok β id b) : zdo w (fun b => ok b ∧ zdM w b) β id b := by
 cases b with
 | dead => trivial
 | cells ls => obtain ⟨g,cs,e,h1,h2,h3⟩ := h; exact ⟨g,cs,e,h1,h2,h3.norm⟩
 | arr e t xs => obtain ⟨v,us,h1,h2,h3⟩ := h; exact ⟨v,us,h1,h2,h3.norm⟩
 | raw e us o => obtain ⟨v,vs,h1,h2,h3⟩ := h; exact ⟨v,vs,h1,h2,h3.to fun _ _ _ _ h => h.norm⟩
theorem zdo.at {id : Nat} {e : Ent} (h : zdo w ok β id e.b) (hl : e.live = true) {v : Value} (hv : β id = some v) {g : Nat} (hg : blk v = some g) : zdM w g := by
 obtain ⟨ew,eb⟩ := e
 cases eb with
 | dead => cases hl
 | cells ls =>
  obtain ⟨g',cs,e,h1,h2,_⟩ := h
  rw [hv] at h1; cases h1; cases hg
  exact ⟨_,h2,rfl⟩
 | arr e t xs =>
  obtain ⟨v',us,h1,h2,_⟩ := h
  rw [hv] at h1; cases h1
  exact cellsAt_row h2 hg
 | raw e us o =>
  obtain ⟨v',vs,h1,h2,_⟩ := h
  rw [hv] at h1; cases h1
  exact cellsAt_row h2 hg
end
section
variable {π : Pin} {w0 : World} {own : Nat → Prop} {w w' : World} {a a' : Act} {σ σ' : St} {β β' : Nat → Option Value} {ok ok' : Nat → Prop}
def plainTV : TV → Prop
 | .rptr _ => False
 | _ => True
theorem zdN.norm : ∀ {vs : List Value} {cs : List (Bool × List zcp)},zdN w ok β vs cs → zdN w (fun b => ok b ∧ zdM w b) β vs cs
 | [],[],_ => trivial
 | v :: _,(b,ls) :: _,⟨h1,h2⟩ => by
  refine ⟨?_,zdN.norm h2⟩
  cases b with
  | true => obtain ⟨us,e,h⟩ := h1; exact ⟨us,e,h.norm⟩
  | false => exact zcA.norm (vs := [v]) h1
 | [],_ :: _,h => h.elim
 | _ :: _,[],h => h.elim
theorem zcE.norm {v : Value} {t : TV} (ht : plainTV t) (h : zcE w ok β v t) : zcE w (fun b => ok b ∧ zdM w b) β v t := by
 cases t with
 | lf l => exact zdh.norm h
 | agg cs => obtain ⟨us,e,h⟩ := h; exact ⟨us,e,h.norm⟩
 | tup cs => obtain ⟨us,e,h⟩ := h; exact ⟨us,e,h.norm⟩
 | rptr _ => exact ht.elim
 | eptr id i off sz => exact h
theorem Sim.norm (S : Sim π w0 own w a σ β ok) (hσ : ∀ t,plainTV (σ.tv t)) : Sim π w0 own w a σ β (fun b => ok b ∧ zdM w b) := by
 obtain ⟨f,k,d,e,dw,wr,ro,sep⟩ := S.inv
 refine ⟨⟨f,fun b hb => k b hb.1,d,fun id e' h => (e id e' h).norm,dw,fun id e' v g h1 h2 h3 h4 => ⟨fun h => (wr id e' v g h1 h2 h3 h4).1 h.1,(wr id e' v g h1 h2 h3 h4).2⟩,
  fun id e' v g h1 h2 h3 h4 h5 => ⟨ro id e' v g h1 h2 h3 h4 h5,(e id e' h1).at h3 h4 h5⟩,sep⟩,fun t => (S.tmps t).norm (hσ t),S.size,S.def0,S.pin,fun b hb => S.okB b hb.1⟩
theorem Sim.grown (S : Sim π w0 own w a σ β ok) (hc : ∀ b,ok b → zdM w b) {row : Option Nat} (hg : w.grownBy w' row) (hr : ∀ r,row = some r → w0.heap.size ≤ r ∧ ∃ o : Obj,w.heap[r]? = some o ∧ o.isCells = false) :
  Sim π w0 own w' a σ β ok ∧ ∀ b,ok b → zdM w' b := by
 have hk : ∀ b,zdM w b → w'.heap[b]? = w.heap[b]? := fun b ⟨o,h1,h2⟩ => grownBy_keeps_cells hg (fun r e => (hr r e).2) h1 h2
 have hcl : ∀ b,zdM w b → zdM w' b := fun b hb => by obtain ⟨o,h1,h2⟩ := hb; exact ⟨o,by rw [hk b ⟨o,h1,h2⟩]; exact h1,h2⟩
 obtain ⟨f,k,d,e,dw,wr,ro,sep⟩ := S.inv
 refine ⟨⟨⟨⟨hg.os.trans f.os,hg.tape.trans f.tape,hg.output.trans f.output,Nat.le_trans f.size hg.size,fun b hb hn => ?_⟩,fun b hb => Nat.lt_of_lt_of_le (k b hb) hg.size,d,fun id e' h => ?_,dw,wr,ro,sep⟩,
  fun t => (S.tmps t).mono (fun b hb => hk b (hc b hb)) (fun _ h => h) (fun _ _ h => h),S.size,S.def0,S.pin,S.okB⟩,fun b hb => hcl b (hc b hb)⟩
 ·rw [hg.block b (Nat.lt_of_lt_of_le hb f.size) fun h => ?_]
  ·exact f.block b hb hn
  ·have := (hr b h.symm).1; omega
 ·by_cases hl : e'.live = true
  ·exact (e id e' h).mono (fun b hb => hk b (hc b hb)) (fun _ h => h) (fun _ _ h => h) fun v g hv hg' => hk g ((e id e' h).at hl hv hg')
  ·obtain ⟨ew,eb⟩ := e'
   cases eb with
   | dead => trivial
   | _ => exact absurd rfl hl
def ownOf (β : Nat → Option Value) (h : zcJ) (b : Nat) : Prop := ∃ id e v,h id = some e ∧ e.w = true ∧ β id = some v ∧ blk v = some b
theorem Sim.rebase (S : Sim π w0 own w a σ β ok) (rd : Option Nat) (df : List Deferred) {a' : Act} (ha : a'.tmps = a.tmps) (hd : a'.defers = df) : Sim ⟨β,ok,rd,df⟩ w (ownOf β (zct σ.heap)) w a' σ β ok := by
 obtain ⟨f,k,d,e,dw,wr,ro,sep⟩ := S.inv
 exact ⟨⟨Fr.refl _ _,k,d,e,dw,fun id e' v g h1 h2 h3 h4 => ⟨(wr id e' v g h1 h2 h3 h4).1,.inl ⟨id,e',v,h1,h2,h3,h4⟩⟩,ro,sep⟩,fun t => by rw [ha]; exact S.tmps t,by rw [ha]; exact S.size,hd,fun _ _ _ h => h,fun _ h => .inl h⟩
theorem Sim.back (S : Sim π w0 own w a σ β ok) {rd : Option Nat} {df : List Deferred} (S' : Sim ⟨β,ok,rd,df⟩ w (ownOf β (zct σ.heap)) w' a' σ' β' ok') {a2 : Act} (ha : a2.tmps = a'.tmps) (hd : a2.defers = π.df) : Sim π w0 own w' a2 σ' β' ok' := by
 obtain ⟨f,k,d,e,dw,wr,ro,sep⟩ := S'.inv
 have hown : ∀ b,ownOf β (zct σ.heap) b → own b ∨ w0.heap.size ≤ b := fun b ⟨id,e,v,h1,h2,h3,h4⟩ => (S.inv.wr id e v b h1 h2 h3 h4).2
 have hle := S.inv.fr.size
 refine ⟨⟨⟨f.os.trans S.inv.fr.os,f.tape.trans S.inv.fr.tape,f.output.trans S.inv.fr.output,Nat.le_trans hle f.size,fun b hb hn => ?_⟩,k,d,e,dw,fun id e' v g h1 h2 h3 h4 => ⟨(wr id e' v g h1 h2 h3 h4).1,?_⟩,ro,sep⟩,
  fun t => by rw [ha]; exact S'.tmps t,by rw [ha]; exact S'.size,hd,fun id v h1 h2 => S.pin id v h1 (S'.pin id v h1 h2),fun b hb => ?_⟩
 ·rw [f.block b (Nat.lt_of_lt_of_le hb hle) fun h => ?_]
  ·exact S.inv.fr.block b hb hn
  ·rcases hown b h with h1 | h1
   ·exact hn h1
   ·omega
 ·rcases (wr id e' v g h1 h2 h3 h4).2 with h | h
  ·exact hown g h
  ·exact .inr (Nat.le_trans hle h)
 ·rcases S'.okB b hb with h | h | h
  ·exact S.okB b h
  ·exact .inr (hown b h)
  ·exact .inr (.inr (Nat.le_trans hle h))
end
def upE (e : Ent) : Ent := ⟨e.w,zdw (zco + ·) e.b⟩
def zdE (hp : List (Nat × Ent)) : List (Nat × Ent) := hp.map fun x => (zco + x.1,upE x.2)
def upβ (β : Nat → Option Value) (j : Nat) : Option Value := if zco ≤ j then β (j - zco) else none
theorem zhD : ∀ (hp : List (Nat × Ent)) (k : Nat),zct (zdE hp) k = if zco ≤ k then (zct hp (k - zco)).map upE else none
 | [],k => by show none = _; split <;> rfl
 | x :: hp,k => by
  show (if zco + x.1 = k then some (upE x.2) else zct (zdE hp) k) = _
  by_cases h : zco + x.1 = k
  ·subst h
   rw [if_pos rfl,if_pos (by omega)]
   simp [zct]
  ·rw [if_neg h,zhD hp k]
   by_cases h2 : zco ≤ k
   ·rw [if_pos h2,if_pos h2]
    show _ = Option.map upE (if x.1 = k - zco then some x.2 else zct hp (k - zco))
    rw [if_neg (by omega)]
   ·rw [if_neg h2,if_neg h2]
theorem zib (e : Ent) : (upE e).live = e.live := zeH (q' := e.w)
section
variable {π : Pin} {w0 : World} {own : Nat → Prop} {w w' : World} {a a' : Act} {σ σ' : St} {β β' : Nat → Option Value} {ok ok' : Nat → Prop}
theorem upβ_up (β : Nat → Option Value) (id : Nat) : upβ β (zco + id) = β id := by
 unfold upβ; rw [if_pos (by omega),Nat.add_sub_cancel_left]
theorem Inv.up {hp : List (Nat × Ent)} (I : Inv w0 own w β ok (zct hp)) : Inv w0 own w (upβ β) ok (zct (zdE hp)) := by
 have hto : ∀ k e,zct (zdE hp) k = some e → ∃ j e0,k = zco + j ∧ zct hp j = some e0 ∧ e = upE e0 := fun k e h => by
  rw [zhD] at h
  split at h
  ·rename_i hk
   obtain ⟨e0,h1,h2⟩ := Option.map_eq_some_iff.1 h
   exact ⟨k - zco,e0,by omega,h1,h2.symm⟩
  ·cases h
 have hβ : ∀ k v,upβ β k = some v → ∃ j,k = zco + j ∧ β j = some v := fun k v h => by
  unfold upβ at h
  split at h
  ·exact ⟨k - zco,by omega,h⟩
  ·cases h
 obtain ⟨f,k,d,e,dw,wr,ro,sep⟩ := I
 refine ⟨f,k,fun id v h => ?_,fun id e' h => ?_,fun id e' h hw => ?_,fun id e' v g h hw hv hg => ?_,fun id e' v g h hw hl hv hg => ?_,fun i e1 v1 j e2 v2 g hij h1 h2 hw hl hv1 hv2 hg1 hg2 => ?_⟩
 ·obtain ⟨j,rfl,hj⟩ := hβ id v h
  obtain ⟨e0,he⟩ := d j v hj
  exact ⟨upE e0,by rw [zhD,if_pos (by omega),Nat.add_sub_cancel_left,he]; rfl⟩
 ·obtain ⟨j,e0,rfl,h1,rfl⟩ := hto id e' h
  exact (e j e0 h1).ren (fun i _ u hu => (upβ_up β i).trans hu) fun u hu => (upβ_up β j).trans hu
 ·obtain ⟨j,e0,rfl,h1,rfl⟩ := hto id e' h
  rw [zib]; exact dw j e0 h1 hw
 ·obtain ⟨j,e0,rfl,h1,rfl⟩ := hto id e' h
  rw [upβ_up] at hv
  exact wr j e0 v g h1 hw hv hg
 ·obtain ⟨j,e0,rfl,h1,rfl⟩ := hto id e' h
  rw [upβ_up] at hv
  rw [zib] at hl
  exact ro j e0 v g h1 hw hl hv hg
 ·obtain ⟨i0,e3,rfl,h3,rfl⟩ := hto i e1 h1
  obtain ⟨j0,e4,rfl,h4,rfl⟩ := hto j e2 h2
  rw [upβ_up] at hv1 hv2
  rw [zib] at hl
  exact sep i0 e3 v1 j0 e4 v2 g (fun h => hij (by rw [h])) h3 h4 hw hl hv1 hv2 hg1 hg2
def downβ (β : Nat → Option Value) (j : Nat) : Option Value := if j < zco then β (zco + j) else none
def smallHp (hp : List (Nat × Ent)) : Prop := ∀ id e,zct hp id = some e → id < zco ∧ ∀ j ∈ zey e.b,j < zco
theorem renLeaf_backN (N : Nat) {l : zcp} : zdB (fun j => j - N) (zdB (fun j => N + j) l) = l := by
 cases l with
 | fn f caps =>
  simp only [zdB,List.map_map]
  have : (fun j => j - N) ∘ (fun j => N + j) = id := by funext j; simp
  rw [this,List.map_id]
 | ref id => simp [zdB]
 | ptr id off => simp [zdB]
 | _ => rfl
theorem renEB_backN (N : Nat) {b : EB} : zdw (fun j => j - N) (zdw (fun j => N + j) b) = b := by
 cases b with
 | cells ls =>
  simp only [zdw,List.map_map]
  have : zdB (fun j => j - N) ∘ zdB (fun j => N + j) = id := by funext l; exact renLeaf_backN N
  rw [this,List.map_id]
 | raw e us o =>
  rcases o with _ | ⟨i,l⟩
  ·rfl
  ·simp only [zdw,renLeaf_backN]
 | _ => rfl
theorem leafIds_ren (g : Nat → Nat) (l : zcp) : zdb (zdB g l) = (zdb l).map g := by cases l <;> rfl
theorem ebIds_ren (g : Nat → Nat) (b : EB) : zey (zdw g b) = (zey b).map g := by
 cases b with
 | cells ls =>
  simp only [zdw,zey,List.flatMap_map,List.map_flatMap]
  congr 1
  funext l
  exact leafIds_ren g l
 | raw e us o =>
  rcases o with _ | ⟨i,l⟩
  ·rfl
  ·exact leafIds_ren g l
 | _ => rfl
theorem Inv.down {hp : List (Nat × Ent)} (hs : smallHp hp) (I : Inv w0 own w β ok (zct (zdE hp))) : Inv w0 own w (downβ β) ok (zct hp) := by
 have hup : ∀ id e,zct hp id = some e → zct (zdE hp) (zco + id) = some (upE e) := fun id e h => by
  rw [zhD,if_pos (by omega),Nat.add_sub_cancel_left,h]; rfl
 have hβ : ∀ k v,downβ β k = some v → k < zco ∧ β (zco + k) = some v := fun k v h => by
  unfold downβ at h
  split at h
  ·exact ⟨by assumption,h⟩
  ·cases h
 obtain ⟨f,k,d,e,dw,wr,ro,sep⟩ := I
 refine ⟨f,k,fun id v h => ?_,fun id e' h => ?_,fun id e' h hw => ?_,fun id e' v g h hw hv hg => ?_,fun id e' v g h hw hl hv hg => ?_,fun i e1 v1 j e2 v2 g hij h1 h2 hw hl hv1 hv2 hg1 hg2 => ?_⟩
 ·obtain ⟨_,h1⟩ := hβ id v h
  obtain ⟨e0,he⟩ := d _ v h1
  rw [zhD,if_pos (by omega),Nat.add_sub_cancel_left] at he
  obtain ⟨e1,h2,_⟩ := Option.map_eq_some_iff.1 he
  exact ⟨e1,h2⟩
 ·have h1 := e _ _ (hup id e' h)
  obtain ⟨hlt,hids⟩ := hs id e' h
  have h2 := h1.ren (β2 := downβ β) (g := fun j => j - zco) (id2 := id) (fun j hj u hu => ?_) fun u hu => ?_
  ·rw [show (upE e').b = zdw (fun j => zco + j) e'.b from rfl,renEB_backN] at h2; exact h2
  ·have hj0 : j ∈ zey (zdw (zco + ·) e'.b) := hj
   rw [ebIds_ren] at hj0
   obtain ⟨j0,hm,rfl⟩ := List.mem_map.1 hj0
   have := hids j0 hm
   show downβ β (zco + j0 - zco) = some u
   rw [Nat.add_sub_cancel_left,downβ,if_pos this]; exact hu
  ·rw [downβ,if_pos hlt]; exact hu
 ·have := dw _ _ (hup id e' h) hw
  rwa [zib] at this
 ·obtain ⟨_,hv'⟩ := hβ id v hv
  exact wr _ _ v g (hup id e' h) hw hv' hg
 ·obtain ⟨_,hv'⟩ := hβ id v hv
  exact ro _ _ v g (hup id e' h) hw (by rw [zib]; exact hl) hv' hg
 ·obtain ⟨_,hv1'⟩ := hβ i v1 hv1
  obtain ⟨_,hv2'⟩ := hβ j v2 hv2
  exact sep _ _ v1 _ _ v2 g (by omega) (hup i e1 h1) (hup j e2 h2) hw (by rw [zib]; exact hl) hv1' hv2' hg1 hg2
end
section
variable {π : Pin} {w0 : World} {own : Nat → Prop} {w w' : World} {a a' : Act} {β β' : Nat → Option Value} {ok ok' : Nat → Prop}
theorem Inv.base {h h' : zcJ} (I0 : Inv w0 own w β ok h) {own1 : Nat → Prop} (I : Inv w own1 w' β' ok' h') (hown : ∀ b,own1 b → own b ∨ w0.heap.size ≤ b) : Inv w0 own w' β' ok' h' := by
 obtain ⟨f,k,d,e,dw,wr,ro,sep⟩ := I
 have hle := I0.fr.size
 refine ⟨⟨f.os.trans I0.fr.os,f.tape.trans I0.fr.tape,f.output.trans I0.fr.output,Nat.le_trans hle f.size,fun b hb hn => ?_⟩,k,d,e,dw,fun id e' v g h1 h2 h3 h4 => ⟨(wr id e' v g h1 h2 h3 h4).1,?_⟩,ro,sep⟩
 ·rw [f.block b (Nat.lt_of_lt_of_le hb hle) fun h => ?_]
  ·exact I0.fr.block b hb hn
  ·rcases hown b h with h1 | h1
   ·exact hn h1
   ·omega
 ·rcases (wr id e' v g h1 h2 h3 h4).2 with h | h
  ·exact hown g h
  ·exact .inr (Nat.le_trans hle h)
def zen (N : Nat) (pts : List (Nat × Nat)) (up : Nat) (hp : List (Nat × Ent)) : St := spSt N (pts.map (·.1)) (pts.map fun p => .lf (.ptr (up + p.2) 0)) hp
theorem lookT_pts (up : Nat) : ∀ (pts : List (Nat × Nat)) (t : Nat),zdY (pts.map (·.1)) (pts.map fun p => TV.lf (.ptr (up + p.2) 0)) t = .lf .undef ∨ ∃ p ∈ pts,p.1 = t ∧ zdY (pts.map (·.1)) (pts.map fun p => TV.lf (.ptr (up + p.2) 0)) t = .lf (.ptr (up + p.2) 0)
 | [],_ => .inl rfl
 | p :: pts,t => by
  by_cases h : p.1 = t
  ·exact .inr ⟨p,List.mem_cons_self ..,h,by simp [zdY,h]⟩
  ·rcases lookT_pts up pts t with h1 | ⟨q,h1,h2,h3⟩
   ·exact .inl (by simp only [List.map_cons,zdY,if_neg h]; exact h1)
   ·exact .inr ⟨q,List.mem_cons_of_mem _ h1,h2,by simp only [List.map_cons,zdY,if_neg h]; exact h3⟩
theorem ptSt_tv {N : Nat} {pts : List (Nat × Nat)} {up : Nat} {hp : List (Nat × Ent)} (t : Nat) : (zen N pts up hp).tv t = .lf .undef ∨ ∃ p ∈ pts,p.1 = t ∧ (zen N pts up hp).tv t = .lf (.ptr (up + p.2) 0) := by
 have h := zer (pts.map (·.1)) (pts.map fun p => TV.lf (.ptr (up + p.2) 0)) N 0 t
 have e : (zen N pts up hp).tv t = if t < N then zdY (pts.map (·.1)) (pts.map fun p => TV.lf (.ptr (up + p.2) 0)) (0 + t) else .lf .undef := h
 rw [e]
 split
 ·rw [Nat.zero_add]; exact lookT_pts up pts t
 ·exact .inl rfl
theorem ptSt_same {N : Nat} {pts : List (Nat × Nat)} {up up' : Nat} {hp hp' : List (Nat × Ent)} (t : Nat) :
  ((zen N pts up hp).tv t = .lf .undef ∧ (zen N pts up' hp').tv t = .lf .undef) ∨ ∃ p ∈ pts,p.1 = t ∧ (zen N pts up hp).tv t = .lf (.ptr (up + p.2) 0) ∧ (zen N pts up' hp').tv t = .lf (.ptr (up' + p.2) 0) := by
 have e : ∀ u h,(zen N pts u h).tv t = if t < N then zdY (pts.map (·.1)) (pts.map fun (p : Nat × Nat) => TV.lf (.ptr (u + p.2) 0)) (0 + t) else .lf .undef := fun u h => zer (pts.map (·.1)) (pts.map fun (p : Nat × Nat) => TV.lf (.ptr (u + p.2) 0)) N 0 t
 rw [e,e]
 split
 ·rw [Nat.zero_add]
  clear e
  induction pts with
  | nil => exact .inl ⟨rfl,rfl⟩
  | cons p pts ih =>
   by_cases h : p.1 = t
   ·exact .inr ⟨p,List.mem_cons_self ..,h,by simp [zdY,h],by simp [zdY,h]⟩
   ·simp only [List.map_cons,zdY,if_neg h]
    rcases ih with h1 | ⟨q,h1,h2⟩
    ·exact .inl h1
    ·exact .inr ⟨q,List.mem_cons_of_mem _ h1,h2⟩
 ·exact .inl ⟨rfl,rfl⟩
theorem range_wp {P : Program} {gf : Nat} {lb : Array Value} {g : Operand} {ps : Array Tmp} {assign body : Code} {α γ : Type} {encs : α → Array Value} {L : List α} {N : Nat} {pts : List (Nat × Nat)} {hp : γ → List (Nat × Ent)}
  {f : α → γ → γ} {R : γ → Prop} {Z : Nat → Prop} {Q : Exit → Act → World → Prop} {x0 : γ} {rst : α → γ → St} {a₁ : α → Act} {n : Nat}
  (S0 : Sim π w0 own w a (zen N pts 0 (hp x0)) β ok) (F1 : ∀ x,smallHp (hp x)) (F2 : ∀ x id e,zct (hp x) id = some e → e.live = true) (F3 : ∀ p ∈ pts,∀ x,(zct (hp x) p.2).isSome = true)
  (hg : a.eval g = .func (.func gf) #[] lb) (heg : ∀ args w,(callFunc gf args).run P w = .ok (.enter gf args) w) (hZ : ∀ b,Z b → b < w.heap.size ∧ ¬ ownOf β (zct (hp x0)) b)
  (hseq : SeqStopsK (Fw none) 1 P gf lb encs (fun A B => ∀ k,Z k → B.heap[k]? = A.heap[k]?) (fun ys => ys = L) (fun _ => True) n w) (hps : ∀ x,(encs x).size = ps.size)
  (hassign : ∀ (l : Nat) (y : α) (W : World) (K : Act → World → Prop),K (a₁ y) W → assign.wpIn (Fw (some l)) 0 P (Exit.then K (fun _ _ _ => False)) { tmps := (ps.zip (encs y)).foldl (fun t (p,v) => t.setIfInBounds p v) a.tmps,defers := [] } W)
  (ha₁ : ∀ y,(a₁ y).tmps.size = N ∧ (a₁ y).defers = []) (hrl : ∀ y x,(rst y x).tmps.length = N ∧ (rst y x).heap = zdE (hp x))
  (hin : ∀ y x W β' ok',(∀ t,zcE W ok' β' (a.tmps.getD t undef) ((zen N pts zco (zdE (hp x))).tv t)) → ∀ t,zcE W ok' β' ((a₁ y).tmps.getD t undef) ((rst y x).tv t))
  (hR0 : R x0) (hbody : ∀ y x,R x → R (f y x) ∧ ∀ l W okr βr,Sim ⟨βr,okr,some l,[]⟩ W (ownOf βr (zct (zdE (hp x)))) W (a₁ y) (rst y x) βr okr →
   body.wpIn (Fw (some l)) 0 P (zeu ⟨βr,okr,some l,[]⟩ W (ownOf βr (zct (zdE (hp x)))) (fun ev => ∃ σ,ev = .norm σ ∧ Weak σ (zen N [] 0 (zdE (hp (f y x)))))) (a₁ y) W)
  (hQ : ∀ D W β2 ok2,w.heap.size ≤ D → W.heap[D]? = some (.deferred (some [])) → Sim π w0 own W a (zen N pts 0 (hp (L.foldl (fun x y => f y x) x0))) β2 ok2 → (∀ b,ok2 b → zdM W b) →
   Q .normal { a with defers := { target := .collected D,args := #[] } :: a.defers } W) :
  (Code.rangeFunc g ps assign body).wpIn (Fw none) 2 P Q a w := by
 have hpl : ∀ pts up h t,plainTV ((zen N pts up h).tv t) := fun pts up h t => by
  rcases ptSt_tv (N := N) (pts := pts) (up := up) (hp := h) t with h1 | ⟨p,_,_,h1⟩ <;> rw [h1] <;> trivial
 have S1 := S0.norm (hpl _ _ _)
 let ok1 : Nat → Prop := fun b => ok b ∧ zdM w b
 let B : Nat → Option Value := upβ β
 let own1 : Nat → Prop := ownOf B (zct (zdE (hp x0)))
 have hown1 : ∀ b,own1 b → own b ∨ w0.heap.size ≤ b := fun b ⟨id,e,v,h1,h2,h3,h4⟩ => (S1.inv.up.wr id e v b h1 h2 h3 h4).2
 let up : γ → St := fun x => zen N pts zco (zdE (hp x))
 let fold : List α → γ := fun pre => pre.foldl (fun x y => f y x) x0
 have hRf : ∀ pre,R (fold pre) := by
  have : ∀ (pre : List α) x,R x → R (pre.foldl (fun x y => f y x) x) := by
   intro pre
   induction pre with
   | nil => exact fun x h => h
   | cons y pre ih => exact fun x h => ih _ (hbody y x h).1
  exact fun pre => this pre x0 hR0
 have F2' : ∀ x id e,zct (zdE (hp x)) id = some e → e.live = true := fun x id e h => by
  rw [zhD] at h
  split at h
  ·obtain ⟨e0,h1,rfl⟩ := Option.map_eq_some_iff.1 h
   rw [zib]; exact F2 x _ e0 h1
  ·cases h
 have hZ1 : ∀ b,Z b → b < w.heap.size ∧ ¬ own1 b := fun b hb => ⟨(hZ b hb).1,fun ⟨id,e,v,h1,h2,h3,h4⟩ => by
  rw [zhD] at h1
  split at h1
  ·rename_i hid
   obtain ⟨e0,h5,rfl⟩ := Option.map_eq_some_iff.1 h1
   have h3' : β (id - zco) = some v := by have h3 := h3; simp only [B,upβ,if_pos hid] at h3; exact h3
   exact (hZ b hb).2 ⟨_,e0,v,h5,h2,h3',h4⟩
  ·cases h1⟩
 let I : List α → World → Prop := fun pre W => ∃ β' ok',Sim ⟨B,ok1,none,[]⟩ w own1 W { a with defers := [] } (up (fold pre)) β' ok' ∧ ∀ b,ok' b → zdM W b
 have hI : OwnFrom w.heap.size I := fun pre W W' row ⟨β',ok',S,hc⟩ hg hr => by
  obtain ⟨S',hc'⟩ := S.grown hc hg hr
  exact ⟨β',ok',S',hc'⟩
 have h0 : I [] w := by
  refine ⟨B,ok1,⟨?_,fun t => ?_,?_,rfl,fun _ _ _ h => h,fun _ h => .inl h⟩,fun b hb => hb.2⟩
  ·obtain ⟨f,k,d,e,dw,wr,ro,sep⟩ := S1.inv.up
   exact ⟨Fr.refl _ _,k,d,e,dw,fun id e' v g h1 h2 h3 h4 => ⟨(wr id e' v g h1 h2 h3 h4).1,.inl ⟨id,e',v,h1,h2,h3,h4⟩⟩,ro,sep⟩
  ·have h1 := S1.tmps t
   rcases ptSt_same (N := N) (pts := pts) (up := 0) (up' := zco) (hp := hp x0) (hp' := zdE (hp x0)) t with ⟨_,h2⟩ | ⟨p,_,_,h2,h3⟩
   ·show zcE _ _ _ _ ((zen N pts zco (zdE (hp x0))).tv t)
    rw [h2]; trivial
   ·rw [h2] at h1
    show zcE _ _ _ _ ((zen N pts zco (zdE (hp x0))).tv t)
    rw [h3]
    obtain ⟨b,h4,h5⟩ := h1
    exact ⟨b,by rw [Nat.zero_add] at h4; exact (upβ_up β p.2).trans h4,h5⟩
  ·rw [show ({ a with defers := [] } : Act).tmps.size = a.tmps.size from rfl,S1.size]; exact (zcY ..).trans (zcY ..).symm
 refine wpIn_rangeFunc_ownH (F := Fw none) (n := 2) rfl (by decide) hg trivial heg hseq (fun h1 h2 k hk => (h2 k hk).trans (h1 k hk)) (fun W l o o' hl _ _ _ k hk => World.putObj_heap_other (by have := (hZ k hk).1; omega)) (Below.refl _ _) hps
  I (fun _ _ _ => False) hI (fun _ _ _ _ _ h => h.elim) h0 (fun y a' _ => a' = a₁ y) (fun y a' _ W W' row h _ _ => h) (fun l pre y W K _ hK => hassign l y W K (hK _ _ (KeepsFrom.refl _ _) (fun _ _ => rfl) ‹_› rfl)) ?_ ?_ (fun _ _ _ _ _ _ h => h.elim)
 ·-- a round
  rintro l pre y a' W _ _ ⟨β',ok',S,hc⟩ rfl _
  have hb := (hbody y (fold pre) (hRf pre)).2 l W ok' β'
  have Sr : Sim ⟨β',ok',some l,[]⟩ W (ownOf β' (zct (zdE (hp (fold pre))))) W (a₁ y) (rst y (fold pre)) β' ok' := by
   have S2 := S.rebase (some l) [] (a' := { a with defers := [] }) rfl rfl
   refine ⟨by rw [(hrl y _).2]; exact S2.inv,hin y _ W β' ok' S.tmps,by rw [(ha₁ y).1,(hrl y _).1],(ha₁ y).2,fun _ _ _ h => h,fun _ h => .inl h⟩
  refine wpR_n (wpIn_mono (hb Sr) ?_)
  rintro e a2 W' ⟨ev,β2,ok2,⟨σ,rfl,hweak⟩,rfl,S3⟩
  obtain ⟨β3,ok3,S4⟩ := hweak _ _ _ _ _ _ _ S3
  have S5 := S4.norm (hpl _ _ _)
  have hnot : ∀ k,k < W.heap.size → ¬ ownOf β' (zct (zdE (hp (fold pre)))) k → W'.heap[k]? = W.heap[k]? := fun k h1 h2 => S4.inv.fr.block k h1 h2
  refine ⟨⟨S4.inv.fr.size,fun k o _ hk ho => ?_⟩,fun k hk => ?_,?_⟩
  ·rw [hnot k (Array.getElem?_eq_some_iff.1 hk).1 fun ⟨id,e,v,h1,h2,h3,h4⟩ => ?_]
   ·exact hk
   ·obtain ⟨o',h5,h6⟩ := (S.inv.ent id e h1).at (F2' _ id e h1) h3 h4
    rw [hk] at h5; cases h5
    rw [ho] at h6; cases h6
  ·have hlt : k < W.heap.size := Nat.lt_of_lt_of_le (hZ1 k hk).1 S.inv.fr.size
   refine hnot k hlt fun ⟨id,e,v,h1,h2,h3,h4⟩ => ?_
   rcases (S.inv.wr id e v k h1 h2 h3 h4).2 with h5 | h5
   ·exact (hZ1 k hk).2 h5
   ·have := (hZ1 k hk).1; omega
  ·have hinv : Inv w own1 W' β3 (fun b => ok3 b ∧ zdM W' b) (zct (zdE (hp (f y (fold pre))))) := S.inv.base S5.inv fun b ⟨id,e,v,h1,h2,h3,h4⟩ => (S.inv.wr id e v b h1 h2 h3 h4).2
   refine ⟨β3,fun b => ok3 b ∧ zdM W' b,⟨?_,fun t => ?_,?_,rfl,?_,?_⟩,fun b hb => hb.2⟩
   ·show Inv w own1 W' β3 _ (zct (zdE (hp (fold (pre ++ [y])))))
    have : fold (pre ++ [y]) = f y (fold pre) := by simp [fold]
    rw [this]; exact hinv
   ·have h1 := S.tmps t
    have hff : fold (pre ++ [y]) = f y (fold pre) := by simp [fold]
    show zcE _ _ _ _ ((zen N pts zco (zdE (hp (fold (pre ++ [y]))))).tv t)
    rcases ptSt_same (N := N) (pts := pts) (up := zco) (up' := zco) (hp := zdE (hp (fold pre))) (hp' := zdE (hp (fold (pre ++ [y])))) t with ⟨_,h2⟩ | ⟨p,hp1,_,h2,h3⟩
    ·rw [h2]; trivial
    ·rw [show (up (fold pre)).tv t = _ from h2] at h1
     rw [h3]
     obtain ⟨b,h4,h5⟩ := h1
     refine ⟨b,?_,h5⟩
     obtain ⟨e,he⟩ := Option.isSome_iff_exists.1 (F3 p hp1 (f y (fold pre)))
     have he' : zct (zdE (hp (f y (fold pre)))) (zco + p.2) = some (upE e) := by rw [zhD,if_pos (by omega),Nat.add_sub_cancel_left,he]; rfl
     have hent := hinv.ent _ _ he'
     have hlive := F2' _ _ _ he'
     have : ∃ v,β3 (zco + p.2) = some v := by
      cases hb : (upE e).b with
      | dead => rw [Ent.live,hb] at hlive; cases hlive
      | cells ls => rw [hb] at hent; obtain ⟨g,cs,et,h6,_⟩ := hent; exact ⟨_,h6⟩
      | arr et t xs => rw [hb] at hent; obtain ⟨v,us,h6,_⟩ := hent; exact ⟨_,h6⟩
      | raw et us o => rw [hb] at hent; obtain ⟨v,us,h6,_⟩ := hent; exact ⟨_,h6⟩
     obtain ⟨v,hv⟩ := this
     have hpin := S4.pin (zco + p.2) v (by omega) hv
     rw [show β' (zco + p.2) = some v from hpin] at h4
     rw [hv,h4]
   ·exact S.size.trans ((zcY ..).trans (zcY ..).symm)
   ·exact fun id v h1 h2 => S.pin id v h1 (S4.pin id v h1 h2)
   ·intro b hb
    rcases S4.okB b hb.1 with h1 | ⟨id,e,v,h1,h2,h3,h4⟩ | h1
    ·exact S.okB b h1
    ·exact .inr (S.inv.wr id e v b h1 h2 h3 h4).2
    ·exact .inr (.inr (Nat.le_trans S.inv.fr.size h1))
 ·-- behind all
  rintro D xs W hD rfl ⟨β',ok',S,hc⟩ hdD
  refine hQ D W (downβ β') ok' hD hdD ⟨S0.inv.base (S.inv.down (F1 _)) hown1,fun t => ?_,?_,S0.def0,fun id v h1 h2 => ?_,fun b hb => ?_⟩ hc
  ·have h1 := S.tmps t
   rcases ptSt_same (N := N) (pts := pts) (up := zco) (up' := 0) (hp := zdE (hp (fold xs))) (hp' := hp (fold xs)) t with ⟨_,h2⟩ | ⟨p,hp1,_,h2,h3⟩
   ·show zcE _ _ _ _ ((zen N pts 0 (hp (fold xs))).tv t)
    rw [h2]; trivial
   ·rw [show (up (fold xs)).tv t = _ from h2] at h1
    show zcE _ _ _ _ ((zen N pts 0 (hp (fold xs))).tv t)
    rw [h3]
    obtain ⟨b,h4,h5⟩ := h1
    obtain ⟨e,he⟩ := Option.isSome_iff_exists.1 (F3 p hp1 (fold xs))
    refine ⟨b,?_,h5⟩
    rw [Nat.zero_add,downβ,if_pos (F1 _ _ _ he).1]; exact h4
  ·exact S.size.trans ((zcY ..).trans (zcY ..).symm)
  ·unfold downβ at h2
   rw [if_neg (by omega)] at h2; cases h2
  ·rcases S.okB b hb with h1 | h1 | h1
   ·exact S0.okB b h1.1
   ·exact .inr (hown1 b h1)
   ·exact .inr (.inr (Nat.le_trans S0.inv.fr.size h1))
end
theorem sp_rec {P : Program} {o : Io} {F : Nat → Tup o.A → Option (Tup o.R)} {C : Tup o.A → Bool} {V : Tup o.A → Tup o.R} (hF : ∀ n,o.Okay P (F n)) (h : ∀ x,WfT o.A x → C x = true → ∃ n,F n x = some (V x)) : (o.sp C V).ok P := zcq.data_ok fun args es r hr hv => by
 unfold Io.spAns at hr
 simp only at hr
 split at hr
 case h_2 => cases hr
 rename_i x hx
 cases hr
 have hC : C x = true := hv
 refine ⟨(hF 0).1,zeC.vc ?_⟩
 intro w vals β ok h1 h2 h3 h4 h5 h6
 have hw : WfT o.A x := by
  unfold Io.rd at hx
  split at hx
  ·rename_i ps hps
   split at hx
   ·rename_i k hg
    refine getTup_wf o.A hx (rdPs_wf hg ?_ fun l hl => by cases hl)
    exact WfPs.app hps (fun x hx => zipVs_wf hx h2) fun y hy => zipEs_wf (k := 0) hy fun j e he => by rw [Nat.zero_add]; exact (h4 j e he).2.2
   ·cases hx
  ·cases hx
 obtain ⟨n,hn⟩ := h x hw hC
 have hV := (hF n).2 x (V x) hn
 obtain ⟨e1,e2⟩ := Io.rd_as hx
 rw [e1,e2] at hV
 exact hV w vals β ok h1 h2 h3 h4 h5 h6
end Go.Proofs.YtlfdidaeachpoaaGreat
namespace Go.Proofs.YtlfdidaeachpoaaGreat
open Go Go.RowKit
set_option maxRecDepth 100000
noncomputable section
def zS : (Int × Int × Int × Int × Int) → RT Unit Bool
| (t_0,t_1,t_2,t_3,t_4) =>
 .rq 6 (.done (t_0 != 0))
def F_zS (x : Int × Int × Int × Int × Int) : Option Bool := (zS x).run fun _ => none
def io_zS : Io := ⟨n_zS,[tI,tI,tI,tI,tI],[.agg [qm 0,qm 1,qm 2,qm 3,qm 4]],[],[[tI,tI,tI,tI,tI]],[tB],.lf (qm 0),[],[],false⟩
def zS_P : List zch := []
def zS_T : zcl := tab []
theorem zS_To : zck pg zS_T := zci trivial
theorem zS_go : zcy pg (zS_T) io_zS f_zS (zS_P) [] (zS) := ⟨by kernel_rfl,by kernel_rfl,fun x => by kernel_rfl⟩
theorem ok_zS : io_zS.Okay pg (F_zS) := zcu zcj (zS_To) (zS_go) trivial
def e_zS : zcq := io_zS.sp (fun (a,b,c,d,e) => true) (fun (a,b,c,d,e) => (a != 0))
theorem sp_zS (h : ∀ (a : Int) (b : Int) (c : Int) (d : Int) (e : Int),WfT [tI,tI,tI,tI,tI] (a,b,c,d,e) → (zS (a,b,c,d,e)).run (fun _ => none) = some (a != 0)) : e_zS.ok pg := zcw ok_zS fun (a,b,c,d,e) hw hc => h a b c d e hw
theorem e_zS_ok : e_zS.ok pg := sp_zS fun a b c d e _ => by
 rw [zS]; rfl
def zaj : (Bool × Int) → RT Unit Bool
| (l_0,l_1) =>
 .rq 5 (.done l_0)
def F_zaj (x : Bool × Int) : Option Bool := (zaj x).run fun _ => none
def io_zaj : Io := ⟨n_zaj,[tB,tI],[.agg [qm 0,qm 1]],[],[[tB,tI]],[tB],.lf (qm 0),[],[],false⟩
def zaj_P : List zch := []
def zaj_T : zcl := tab []
theorem zaj_To : zck pg zaj_T := zci trivial
theorem zaj_go : zcy pg (zaj_T) io_zaj f_zaj (zaj_P) [] (zaj) := ⟨by kernel_rfl,by kernel_rfl,fun x => by kernel_rfl⟩
theorem ok_zaj : io_zaj.Okay pg (F_zaj) := zcu zcj (zaj_To) (zaj_go) trivial
def e_zaj : zcq := io_zaj.sp (fun (a,b) => true) (fun (a,b) => a)
theorem sp_zaj (h : ∀ (a : Bool) (b : Int),WfT [tB,tI] (a,b) → (zaj (a,b)).run (fun _ => none) = some a) : e_zaj.ok pg := zcw ok_zaj fun (a,b) hw hc => h a b hw
theorem e_zaj_ok : e_zaj.ok pg := sp_zaj fun a b _ => by
 rw [zaj]; rfl
def zC : ((List Th) × Int) → RT Unit (Int × Int × Int × Int × Int × Bool)
| (l,i) =>
 .rq 14 (let t0 := (decide (i < 0)) || (decide ((l.length : Int) ≤ i));
 .req ((inB l i) || (!(!t0))) (.rq 4 (.ite (t0 || (!(((gI l i).1 != 0))))
 (.rq 3 (.done (0,0,0,0,0,false)))
 (.rq 2 (.req (inB l i) (.rq 3 (.done ((gI l i).1,(gI l i).2.1,(gI l i).2.2.1,(gI l i).2.2.2.1,(gI l i).2.2.2.2,true))))))))
def F_zC (x : (List Th) × Int) : Option (Int × Int × Int × Int × Int × Bool) := (zC x).run fun _ => none
def io_zC : Io := ⟨n_zC,[.sl yH,tI],[.lf (qm 0),.lf (qm 1),.lf (.fix (.fn 136 []))],[],[[.sl yH],[tI],[]],[tI,tI,tI,tI,tI,tB],.tup [(true,[qm 0,qm 1,qm 2,qm 3,qm 4]),(false,[qm 5])],[],[],false⟩
def zC_P : List zch := []
def zC_T : zcl := tab [e_zS]
theorem zC_To : zck pg zC_T := zci ⟨e_zS_ok,trivial⟩
theorem zC_go : zcy pg (zC_T) io_zC f_zC (zC_P) [] (zC) := ⟨by kernel_rfl,by kernel_rfl,fun x => by kernel_rfl⟩
theorem ok_zC : io_zC.Okay pg (F_zC) := zcu zcj (zC_To) (zC_go) trivial
def zcN (l : List Th) (i : Int) : Int × Int × Int × Int × Int × Bool := if inB l i && ((gI l i).1 != 0) then ((gI l i).1,(gI l i).2.1,(gI l i).2.2.1,(gI l i).2.2.2.1,(gI l i).2.2.2.2,true) else (0,0,0,0,0,false)
def e_zC : zcq := io_zC.sp (fun (l,i) => true) (fun (l,i) => (zcN l i))
theorem sp_zC (h : ∀ (l : List Th) (i : Int),WfT [.sl yH,tI] (l,i) → (zC (l,i)).run (fun _ => none) = some (zcN l i)) : e_zC.ok pg := zcw ok_zC fun (l,i) hw hc => h l i hw
theorem e_zC_ok : e_zC.ok pg := sp_zC fun l i _ => by
 rw [zC]
 simp only [RT.run]
 unfold zcN
 cases h : inB l i with
 | true =>
  have hb := zcn.1 h
  have h1 : decide (i < 0) = false := by simp; omega
  have h2 : decide ((l.length : Int) ≤ i) = false := by simp; omega
  rw [h1,h2]
  cases ((gI l i).1 != 0) <;> simp
 | false =>
  have hb : (decide (i < 0) || decide ((l.length : Int) ≤ i)) = true := by
   cases hq : (decide (i < 0) || decide ((l.length : Int) ≤ i)) with
   | true => rfl
   | false =>
    simp only [Bool.or_eq_false_iff,decide_eq_false_iff_not] at hq
    rw [zcn.2 ⟨by omega,by omega⟩] at h
    cases h
  rw [hb]
  simp
def zH : ((List Lk) × Int) → RT Unit (Bool × Int × Bool)
| (l,i) =>
 .rq 14 (let t0 := (decide (i < 0)) || (decide ((l.length : Int) ≤ i));
 .req ((inB l i) || (!(!t0))) (.rq 4 (.ite (t0 || (!(gI l i).1))
 (.rq 3 (.done (false,0,false)))
 (.rq 2 (.req (inB l i) (.rq 3 (.done ((gI l i).1,(gI l i).2,true))))))))
def F_zH (x : (List Lk) × Int) : Option (Bool × Int × Bool) := (zH x).run fun _ => none
def io_zH : Io := ⟨n_zH,[.sl yL,tI],[.lf (qm 0),.lf (qm 1),.lf (.fix (.fn 200 []))],[],[[.sl yL],[tI],[]],[tB,tI,tB],.tup [(true,[qm 0,qm 1]),(false,[qm 2])],[],[],false⟩
def zH_P : List zch := []
def zH_T : zcl := tab [e_zaj]
theorem zH_To : zck pg zH_T := zci ⟨e_zaj_ok,trivial⟩
theorem zH_go : zcy pg (zH_T) io_zH f_zH (zH_P) [] (zH) := ⟨by kernel_rfl,by kernel_rfl,fun x => by kernel_rfl⟩
theorem ok_zH : io_zH.Okay pg (F_zH) := zcu zcj (zH_To) (zH_go) trivial
def zfk (l : List Lk) (i : Int) : Bool × Int × Bool := if inB l i && (gI l i).1 then ((gI l i).1,(gI l i).2,true) else (false,0,false)
def e_zH : zcq := io_zH.sp (fun (l,i) => true) (fun (l,i) => (zfk l i))
theorem sp_zH (h : ∀ (l : List Lk) (i : Int),WfT [.sl yL,tI] (l,i) → (zH (l,i)).run (fun _ => none) = some (zfk l i)) : e_zH.ok pg := zcw ok_zH fun (l,i) hw hc => h l i hw
theorem e_zH_ok : e_zH.ok pg := sp_zH fun l i _ => by
 rw [zH]
 simp only [RT.run]
 unfold zfk
 cases h : inB l i with
 | true =>
  have hb := zcn.1 h
  have h1 : decide (i < 0) = false := by simp; omega
  have h2 : decide ((l.length : Int) ≤ i) = false := by simp; omega
  rw [h1,h2]
  cases (gI l i).1 <;> simp
 | false =>
  have hb : (decide (i < 0) || decide ((l.length : Int) ≤ i)) = true := by
   cases hq : (decide (i < 0) || decide ((l.length : Int) ≤ i)) with
   | true => rfl
   | false =>
    simp only [Bool.or_eq_false_iff,decide_eq_false_iff_not] at hq
    rw [zcn.2 ⟨by omega,by omega⟩] at h
    cases h
  rw [hb]
  simp
def zae : ((List Bool) × (List Tk) × (List Th) × (List Lk) × (List Int) × Int × Int) → RT Unit (Int × Int × Int × Int × Int × Bool)
| (s_0,s_1,s_2,s_3,s_4,s_5,i) =>
 .rq 11 (.done (((zcN s_2 i)).1,((zcN s_2 i)).2.1,((zcN s_2 i)).2.2.1,((zcN s_2 i)).2.2.2.1,((zcN s_2 i)).2.2.2.2.1,((zcN s_2 i)).2.2.2.2.2))
def F_zae (x : (List Bool) × (List Tk) × (List Th) × (List Lk) × (List Int) × Int × Int) : Option (Int × Int × Int × Int × Int × Bool) := (zae x).run fun _ => none
def io_zae : Io := ⟨n_zae,[.sl tB,.sl yK,.sl yH,.sl yL,.sl tI,tI,tI],[.agg [qm 0,qm 1,qm 2,qm 3,qm 4,qm 5],.lf (qm 6)],[],[[.sl tB,.sl yK,.sl yH,.sl yL,.sl tI,tI],[tI]],[tI,tI,tI,tI,tI,tB],.tup [(true,[qm 0,qm 1,qm 2,qm 3,qm 4]),(false,[qm 5])],[],[],false⟩
def zae_P : List zch := []
def zae_T : zcl := tab [e_zC]
theorem zae_To : zck pg zae_T := zci ⟨e_zC_ok,trivial⟩
theorem zae_go : zcy pg (zae_T) io_zae f_zae (zae_P) [] (zae) := ⟨by kernel_rfl,by kernel_rfl,fun x => by kernel_rfl⟩
theorem ok_zae : io_zae.Okay pg (F_zae) := zcu zcj (zae_To) (zae_go) trivial
def e_zae : zcq := io_zae.sp (fun (a,b,c,d,e,f,i) => true) (fun (a,b,c,d,e,f,i) => (zcN c i))
theorem sp_zae (h : ∀ (a : List Bool) (b : List Tk) (c : List Th) (d : List Lk) (e : List Int) (f : Int) (i : Int),WfT [.sl tB,.sl yK,.sl yH,.sl yL,.sl tI,tI,tI] (a,b,c,d,e,f,i) → (zae (a,b,c,d,e,f,i)).run (fun _ => none) = some (zcN c i)) : e_zae.ok pg := zcw ok_zae fun (a,b,c,d,e,f,i) hw hc => h a b c d e f i hw
theorem e_zae_ok : e_zae.ok pg := sp_zae fun a b c d e f i _ => by
 rw [zae]; rfl
def zbj : ((List Bool) × (List Tk) × (List Th) × (List Lk) × (List Int) × Int × Int) → RT Unit (Bool × Int × Bool)
| (s_0,s_1,s_2,s_3,s_4,s_5,i) =>
 .rq 11 (.done (((zfk s_3 i)).1,((zfk s_3 i)).2.1,((zfk s_3 i)).2.2))
def F_zbj (x : (List Bool) × (List Tk) × (List Th) × (List Lk) × (List Int) × Int × Int) : Option (Bool × Int × Bool) := (zbj x).run fun _ => none
def io_zbj : Io := ⟨n_zbj,[.sl tB,.sl yK,.sl yH,.sl yL,.sl tI,tI,tI],[.agg [qm 0,qm 1,qm 2,qm 3,qm 4,qm 5],.lf (qm 6)],[],[[.sl tB,.sl yK,.sl yH,.sl yL,.sl tI,tI],[tI]],[tB,tI,tB],.tup [(true,[qm 0,qm 1]),(false,[qm 2])],[],[],false⟩
def zbj_P : List zch := []
def zbj_T : zcl := tab [e_zH]
theorem zbj_To : zck pg zbj_T := zci ⟨e_zH_ok,trivial⟩
theorem zbj_go : zcy pg (zbj_T) io_zbj f_zbj (zbj_P) [] (zbj) := ⟨by kernel_rfl,by kernel_rfl,fun x => by kernel_rfl⟩
theorem ok_zbj : io_zbj.Okay pg (F_zbj) := zcu zcj (zbj_To) (zbj_go) trivial
def e_zbj : zcq := io_zbj.sp (fun (a,b,c,d,e,f,i) => true) (fun (a,b,c,d,e,f,i) => (zfk d i))
theorem sp_zbj (h : ∀ (a : List Bool) (b : List Tk) (c : List Th) (d : List Lk) (e : List Int) (f : Int) (i : Int),WfT [.sl tB,.sl yK,.sl yH,.sl yL,.sl tI,tI,tI] (a,b,c,d,e,f,i) → (zbj (a,b,c,d,e,f,i)).run (fun _ => none) = some (zfk d i)) : e_zbj.ok pg := zcw ok_zbj fun (a,b,c,d,e,f,i) hw hc => h a b c d e f i hw
theorem e_zbj_ok : e_zbj.ok pg := sp_zbj fun a b c d e f i _ => by
 rw [zbj]; rfl
def zt_b26 : ((List Tk) × Int) → (Int × (List (Int × Int))) → RT (Int × (List (Int × Int))) (List (Int × Int))
| (x6,x7),(x8,r2) =>
 .rq 1 (.ite (decide (x8 < x7))
 (.req (inB x6 x8) (.rq 10 (let t0 := w64 (x8 + 1);
 .ite ((gI x6 x8).1 && ((gI x6 x8).2.2.2.1 == 2))
 (.rq 7 (let t1 := [((gI x6 x8).2.1,(gI x6 x8).2.2.2.2.1)];
 .req (zdK 16 r2 t1) (.rq 3 (.again (t0,r2 ++ t1)))))
 (.rq 2 (.again (t0,r2))))))
 (.done r2))
def zt_p26 : zch := ⟨26,true,[.sl yK,tI],[tI,.sl (.pair tI tI)],⟨[.keep [2,6,7,8],.gc,.nilRow 2 800002 215 (.pair tI tI),.ren 2 700002,.ren 2 900002,.gc],[2,6,7,8],[.lf (qr 900002),.lf (qi 0),.lf (qi 1),.lf (qm 0)],[(900002,true,.arr 215 (qm 1))]⟩,[⟨2,⟨[.keep [2],.gc,.nilRow 2 800002 215 (.pair tI tI),.ren 2 700002,.ren 2 900002,.gc],[2],[.lf (qr 900002)],[(900002,true,.arr 215 (qm 0))]⟩,[.sl (.pair tI tI)]⟩],zt_b26⟩
def zt : ((List Bool) × (List Tk) × (List Th) × (List Lk) × (List Int) × Int) → RT Unit (List (Int × Int))
| (s_0,s_1,s_2,s_3,s_4,s_5) =>
 .rq 6 (.call (lo zt_b26 (s_1,(s_1.length : Int)) (0,[])) default fun v0 =>
 .rq 2 (.done v0))
def F_zt (x : (List Bool) × (List Tk) × (List Th) × (List Lk) × (List Int) × Int) : Option (List (Int × Int)) := (zt x).run fun _ => none
def io_zt : Io := ⟨n_zt,[.sl tB,.sl yK,.sl yH,.sl yL,.sl tI,tI],[.agg [qm 0,qm 1,qm 2,qm 3,qm 4,qm 5]],[],[[.sl tB,.sl yK,.sl yH,.sl yL,.sl tI,tI]],[.sl (.pair tI tI)],.lf (qr 0),[],[(true,.arr 215 (qm 0))],false⟩
def zt_P : List zch := [zt_p26]
def zt_T : zcl := tab []
theorem zt_To : zck pg zt_T := zci trivial
theorem zt_k26 : (zt_p26).OK pg (zt_T) (zcB 29 (zt_P)) (zcs f_zt) 29 := ⟨by kernel_rfl,fun i x => by kernel_rfl⟩
theorem zt_go : zcy pg (zt_T) io_zt f_zt (zt_P) [.nilRow 2 800002 215 (.pair tI tI),.ren 2 700002,.ren 2 900002] (zt) := ⟨by kernel_rfl,by kernel_rfl,fun x => by kernel_rfl⟩
theorem ok_zt : io_zt.Okay pg (F_zt) := zcu zcj (zt_To) (zt_go) ⟨zt_k26,trivial⟩
def zdg (b : List Tk) : List (Int × Int) := (b.filter fun t => t.1 && t.2.2.2.1 == 2).map fun t => (t.2.1,t.2.2.2.2.1)
theorem coinArr_len (b : List Tk) : (zdg b).length ≤ b.length := by
 rw [zdg,List.length_map]; exact List.length_filter_le ..
theorem ziY (b : List Tk) (hl : b.length ≤ 1000000) : ∀ (d i : Nat) (r : List (Int × Int)),i + d = b.length → r.length ≤ i →
  lo zt_b26 (b,(b.length : Int)) ((i : Int),r) = some (r ++ zdg (b.drop i))
 | 0,i,r,h,_ => by
  rw [zcr,zt_b26]
  simp only [RT.run]
  rw [if_neg (by simp; omega),List.drop_eq_nil_of_le (by omega)]
  simp [zdg]
 | d + 1,i,r,h,hr => by
  have hi : i < b.length := by omega
  have hmax : maxLen = 9223372036854775807 := by decide
  rw [zcr,zt_b26]
  simp only [RT.run]
  rw [if_pos (by simp; omega),if_pos (zcn.2 ⟨by omega,by omega⟩),zcL hi,List.drop_eq_getElem_cons hi,zcm (by omega),show (i : Int) + 1 = ((i + 1 : Nat) : Int) by omega]
  unfold zdg
  rw [List.filter_cons]
  by_cases hv : (b[i].1 && b[i].2.2.2.1 == 2) = true
  ·rw [if_pos hv,if_pos (zeI.2 ⟨by simp; omega,by simp; omega⟩),ziY b hl d (i + 1) _ (by omega) (by simp; omega),if_pos hv]
   simp [zdg]
  ·rw [if_neg hv,ziY b hl d (i + 1) _ (by omega) (by omega),if_neg hv]
   rfl
def e_zt : zcq := io_zt.sp (fun (a,b,c,d,e,f) => (decide (b.length ≤ 1000000))) (fun (a,b,c,d,e,f) => (zdg b))
theorem sp_zt (h : ∀ (a : List Bool) (b : List Tk) (c : List Th) (d : List Lk) (e : List Int) (f : Int),WfT [.sl tB,.sl yK,.sl yH,.sl yL,.sl tI,tI] (a,b,c,d,e,f) → ((decide (b.length ≤ 1000000))) = true → (zt (a,b,c,d,e,f)).run (fun _ => none) = some (zdg b)) : e_zt.ok pg := zcw ok_zt fun (a,b,c,d,e,f) hw hc => h a b c d e f hw hc
theorem e_zt_ok : e_zt.ok pg := sp_zt fun a b c d e f _ hc => by
 have hl := of_decide_eq_true hc
 rw [zt]
 simp only [RT.run]
 have := ziY b hl b.length 0 [] (by omega) (by simp)
 rw [show ((0 : Nat) : Int) = 0 from rfl] at this
 rw [this]
 rfl
def zx : ((List Bool) × (List Tk) × (List Th) × (List Lk) × (List Int) × Int) → RT Unit (List Int)
| (s_0,s_1,s_2,s_3,s_4,s_5) =>
 .rq 6 (.req ((decide (s_1.length ≤ 1000000))) (let t0 := (zdg s_1);
 .req ((decide (t0.length ≤ 1000000))) (.rq 7 (.req ((((zdD (dm (s_0.length : Int)) t0)).2.all (inB s_0))) (.rq 1 (.done (((zdD (dm (s_0.length : Int)) t0)).2.filter (gI s_0))))))))
def F_zx (x : (List Bool) × (List Tk) × (List Th) × (List Lk) × (List Int) × Int) : Option (List Int) := (zx x).run fun _ => none
def io_zx : Io := ⟨n_zx,[.sl tB,.sl yK,.sl yH,.sl yL,.sl tI,tI],[.agg [qm 0,qm 1,qm 2,qm 3,qm 4,qm 5]],[],[[.sl tB,.sl yK,.sl yH,.sl yL,.sl tI,tI]],[.sl tI],.lf (qm 0),[],[],true⟩
def zx_P : List zch := []
def zx_T : zcl := tab [e_zt,e_ze,e_zp]
theorem zx_To : zck pg zx_T := zci ⟨e_zt_ok,e_ze_ok,e_zp_ok,trivial⟩
theorem zx_go : zcy pg (zx_T) io_zx f_zx (zx_P) [] (zx) := ⟨by kernel_rfl,by kernel_rfl,fun x => by kernel_rfl⟩
theorem ok_zx : io_zx.Okay pg (F_zx) := zcu zcj (zx_To) (zx_go) trivial
def zcG (a : List Bool) (b : List Tk) : List Int := (zdD a.length (zdg b)).2.filter (gI a)
def e_zx : zcq := io_zx.sp (fun (a,b,c,d,e,f) => (decide (b.length ≤ 1000000) && decide (a.length ≤ 4096))) (fun (a,b,c,d,e,f) => (zcG a b))
theorem sp_zx (h : ∀ (a : List Bool) (b : List Tk) (c : List Th) (d : List Lk) (e : List Int) (f : Int),WfT [.sl tB,.sl yK,.sl yH,.sl yL,.sl tI,tI] (a,b,c,d,e,f) → ((decide (b.length ≤ 1000000) && decide (a.length ≤ 4096))) = true → (zx (a,b,c,d,e,f)).run (fun _ => none) = some (zcG a b)) : e_zx.ok pg := zcw ok_zx fun (a,b,c,d,e,f) hw hc => h a b c d e f hw hc
theorem e_zx_ok : e_zx.ok pg := sp_zx fun a b c d e f _ hc => by
 rw [Bool.and_eq_true] at hc
 have hl := of_decide_eq_true hc.1
 have hm := of_decide_eq_true hc.2
 have hd : dm (a.length : Int) = a.length := by rw [dm_eq (by omega) (by omega)]; omega
 have hall : (zdD a.length (zdg b)).2.all (inB a) = true := List.all_eq_true.2 fun x hx => zcn.2 ((zie _ _).inr x hx)
 rw [zx]
 simp only [RT.run,hd]
 rw [if_pos hc.1,if_pos (decide_eq_true (Nat.le_trans (coinArr_len b) hl)),if_pos hall]
 rfl
def zap : (Bool × Int × Int × Int × Int × Bool × Int) → RT Unit (Bool × Int)
| (t_0,t_1,t_2,t_3,t_4,t_5,a1) =>
 .rq 7 (.done (t_1 == a1,a1))
def F_zap (x : Bool × Int × Int × Int × Int × Bool × Int) : Option (Bool × Int) := (zap x).run fun _ => none
def io_zap : Io := ⟨n_zap,[tB,tI,tI,tI,tI,tB,tI],[.agg [qm 0,qm 1,qm 2,qm 3,qm 4,qm 5],.lf (qp 0)],[.cells [qm 6]],[[tB,tI,tI,tI,tI,tB],[]],[tB,tI],.lf (qm 0),[(true,.cells [qm 1])],[],false⟩
def zap_P : List zch := []
def zap_T : zcl := tab []
theorem zap_To : zck pg zap_T := zci trivial
theorem zap_go : zcy pg (zap_T) io_zap f_zap (zap_P) [] (zap) := ⟨by kernel_rfl,by kernel_rfl,fun x => by kernel_rfl⟩
theorem ok_zap : io_zap.Okay pg (F_zap) := zcu zcj (zap_To) (zap_go) trivial
def e_zap : zcq := io_zap.sp (fun (t0,t1,t2,t3,t4,t5,c) => true) (fun (t0,t1,t2,t3,t4,t5,c) => (t1 == c,c))
theorem sp_zap (h : ∀ (t0 : Bool) (t1 : Int) (t2 : Int) (t3 : Int) (t4 : Int) (t5 : Bool) (c : Int),WfT [tB,tI,tI,tI,tI,tB,tI] (t0,t1,t2,t3,t4,t5,c) → (zap (t0,t1,t2,t3,t4,t5,c)).run (fun _ => none) = some (t1 == c,c)) : e_zap.ok pg := zcw ok_zap fun (t0,t1,t2,t3,t4,t5,c) hw hc => h t0 t1 t2 t3 t4 t5 c hw
theorem e_zap_ok : e_zap.ok pg := sp_zap fun t0 t1 t2 t3 t4 t5 c _ => by
 rw [zap]; rfl
def zG_b3378 : (Int × Bool × Int × Int × Int × Int × Bool) → RT Unit Bool
| (p0,t_0,t_1,t_2,t_3,t_4,t_5) =>
 .rq 3 (.ite t_0
 (.rq 4 (.done (t_1 == p0)))
 (.rq 1 (.done false)))
def zG_p3378 : zch := ⟨3378,false,[tI,.sl yK,tI,tI,tI,.sl tI,tB,tI,tI,tI,tI,tB],[],⟨[.keep [1,4,5,6,8,9,10],.gc],[1,4,5,6,8,9,10],[.lf (.fix (.fn 172 [1048576])),.lf (qr 900004),.lf (qi 0),.lf (qp 96),.lf (qi 1),.lf (qi 2),.lf (qi 3)],[(1048576,true,.cells [qi 4]),(900004,true,.arr 3 (qi 5)),(96,true,.cells [qi 6,qi 7,qi 8,qi 9,qi 10,qi 11])]⟩,[⟨0,⟨[.keep [1,4,5,8,9,10,21],.gc,.nilRow 4 800004 3 tI,.ren 4 700004,.ren 4 900004,.gc],[1,4,5,8,9,10,21],[.lf (.fix (.fn 172 [1048576])),.lf (qr 900004),.lf (qi 0),.lf (qi 1),.lf (qi 2),.lf (qi 3),.lf (qm 0)],[(1048576,true,.cells [qi 4]),(900004,true,.arr 3 (qi 5))]⟩,[tB]⟩],(fun i _ => zG_b3378 (i.2.2.2.2.1,i.2.2.2.2.2.2.1,i.2.2.2.2.2.2.2.1,i.2.2.2.2.2.2.2.2.1,i.2.2.2.2.2.2.2.2.2.1,i.2.2.2.2.2.2.2.2.2.2.1,i.2.2.2.2.2.2.2.2.2.2.2))⟩
def zG_b26 : ((List Tk) × Int × Int) → (Int × (List Int)) → RT (Int × (List Int)) (List Int)
| (x8,x9,p0),(x10,r4) =>
 .rq 1 (.ite (decide (x10 < x9))
 (.rq 1 (.req (inB x8 x10) (.rq 4 (.call (on zG_b3378 (p0,(gI x8 x10).1,(gI x8 x10).2.1,(gI x8 x10).2.2.1,(gI x8 x10).2.2.2.1,(gI x8 x10).2.2.2.2.1,(gI x8 x10).2.2.2.2.2)) default fun v1 =>
 let t0 := w64 (x10 + 1);
 .ite v1
 (.rq 3 (.req (zdK 8 r4 [x10]) (.rq 3 (.again (t0,r4 ++ [x10])))))
 (.rq 2 (.again (t0,r4)))))))
 (.done r4))
def zG_p26 : zch := ⟨26,true,[.sl yK,tI,tI],[tI,.sl tI],⟨[.keep [1,4,8,9,10],.gc,.nilRow 4 800004 3 tI,.ren 4 700004,.ren 4 900004,.gc],[1,4,8,9,10],[.lf (.fix (.fn 172 [1048576])),.lf (qr 900004),.lf (qi 0),.lf (qi 1),.lf (qm 0)],[(1048576,true,.cells [qi 2]),(900004,true,.arr 3 (qm 1))]⟩,[⟨2,⟨[.keep [4],.gc,.nilRow 4 800004 3 tI,.ren 4 700004,.ren 4 900004,.gc],[4],[.lf (qr 900004)],[(1048576,true,.cells [qi 2]),(900004,true,.arr 3 (qm 0))]⟩,[.sl tI]⟩],zG_b26⟩
def zG : ((List Bool) × (List Tk) × (List Th) × (List Lk) × (List Int) × Int × Int) → RT Unit (Int × (List Int))
| (s_0,s_1,s_2,s_3,s_4,s_5,is_0) =>
 .rq 6 (.call (lo zG_b26 (s_1,(s_1.length : Int),is_0) (0,[])) default fun v2 =>
 .rq 2 (.done (is_0,v2)))
def F_zG (x : (List Bool) × (List Tk) × (List Th) × (List Lk) × (List Int) × Int × Int) : Option (Int × (List Int)) := (zG x).run fun _ => none
def io_zG : Io := ⟨n_zG,[.sl tB,.sl yK,.sl yH,.sl yL,.sl tI,tI,tI],[.agg [qm 0,qm 1,qm 2,qm 3,qm 4,qm 5],.lf (.fix (.fn 172 [0]))],[.cells [qm 6]],[[.sl tB,.sl yK,.sl yH,.sl yL,.sl tI,tI],[]],[tI,.sl tI],.lf (qr 1),[(true,.cells [qm 0])],[(true,.arr 3 (qm 1))],false⟩
def zG_P : List zch := [zG_p3378,zG_p26]
def zG_T : zcl := tab [e_zap]
theorem zG_To : zck pg zG_T := zci ⟨e_zap_ok,trivial⟩
theorem zG_k3378 : (zG_p3378).OK pg (zG_T) (zcB 28 (zG_P)) (zcs f_zG) 28 := ⟨by kernel_rfl,fun i x => by kernel_rfl⟩
theorem zG_k26 : (zG_p26).OK pg (zG_T) (zcB 28 (zG_P)) (zcs f_zG) 28 := ⟨by kernel_rfl,fun i x => by kernel_rfl⟩
theorem zG_go : zcy pg (zG_T) io_zG f_zG (zG_P) [.nilRow 4 800004 3 tI,.ren 4 700004,.ren 4 900004] (zG) := ⟨by kernel_rfl,by kernel_rfl,fun x => by kernel_rfl⟩
theorem ok_zG : io_zG.Okay pg (F_zG) := zcu zcj (zG_To) (zG_go) ⟨zG_k3378,zG_k26,trivial⟩
def isTk (b : List Tk) (c : Int) (k : Nat) : Bool := (b.getD k default).1 && (b.getD k default).2.1 == c
def zcI (b : List Tk) (c : Int) : List Int := ((List.range b.length).filter (isTk b c)).map fun (k : Nat) => (k : Int)
theorem which_loop (b : List Tk) (c : Int) (hl : b.length ≤ 1000000) : ∀ (d i : Nat) (r : List Int),i + d = b.length → r.length ≤ i →
  lo zG_b26 (b,(b.length : Int),c) ((i : Int),r) = some (r ++ ((List.range' i d).filter (isTk b c)).map fun (k : Nat) => (k : Int))
 | 0,i,r,h,_ => by
  rw [zcr,zG_b26]
  simp only [RT.run]
  rw [if_neg (by simp; omega)]
  simp
 | d + 1,i,r,h,hr => by
  have hi : i < b.length := by omega
  have hmax : maxLen = 9223372036854775807 := by decide
  have hon : on zG_b3378 (c,(gI b (i : Int)).1,(gI b (i : Int)).2.1,(gI b (i : Int)).2.2.1,(gI b (i : Int)).2.2.2.1,(gI b (i : Int)).2.2.2.2.1,(gI b (i : Int)).2.2.2.2.2) = some (isTk b c i) := by
   show (zG_b3378 _).run _ = _
   rw [zG_b3378]
   simp only [RT.run]
   rw [zfD]
   unfold isTk
   cases (b.getD i default).1 <;> rfl
  rw [zcr,zG_b26]
  simp only [RT.run]
  rw [if_pos (by simp; omega),if_pos (zcn.2 ⟨by omega,by omega⟩),hon,Option.bind_some,zcm (by omega),show (i : Int) + 1 = ((i + 1 : Nat) : Int) by omega,List.range'_succ,List.filter_cons]
  by_cases hv : isTk b c i = true
  ·rw [if_pos hv,if_pos (zeI.2 ⟨by simp; omega,by simp; omega⟩),which_loop b c hl d (i + 1) _ (by omega) (by simp; omega),if_pos hv]
   simp
  ·rw [if_neg hv,which_loop b c hl d (i + 1) _ (by omega) (by omega),if_neg hv]
def e_zG : zcq := io_zG.sp (fun (a,b,c,d,e,f,x) => (decide (b.length ≤ 1000000))) (fun (a,b,c,d,e,f,x) => (x,zcI b x))
theorem sp_zG (h : ∀ (a : List Bool) (b : List Tk) (c : List Th) (d : List Lk) (e : List Int) (f : Int) (x : Int),WfT [.sl tB,.sl yK,.sl yH,.sl yL,.sl tI,tI,tI] (a,b,c,d,e,f,x) → ((decide (b.length ≤ 1000000))) = true → (zG (a,b,c,d,e,f,x)).run (fun _ => none) = some (x,zcI b x)) : e_zG.ok pg := zcw ok_zG fun (a,b,c,d,e,f,x) hw hc => h a b c d e f x hw hc
theorem e_zG_ok : e_zG.ok pg := sp_zG fun a b c d e f x _ hc => by
 have hl := of_decide_eq_true hc
 rw [zG]
 simp only [RT.run]
 have := which_loop b x hl b.length 0 [] (by omega) (by simp)
 rw [show ((0 : Nat) : Int) = 0 from rfl] at this
 rw [this,List.nil_append,← List.range_eq_range']
 rfl
def zr : ((List Bool) × (List Tk) × (List Th) × (List Lk) × (List Int) × Int × Int) → RT Unit (List Int)
| (s_0,s_1,s_2,s_3,s_4,s_5,c) =>
 .rq 5 (.req ((decide (s_1.length ≤ 1000000))) (.rq 1 (.done (zcI s_1 c))))
def F_zr (x : (List Bool) × (List Tk) × (List Th) × (List Lk) × (List Int) × Int × Int) : Option (List Int) := (zr x).run fun _ => none
def io_zr : Io := ⟨n_zr,[.sl tB,.sl yK,.sl yH,.sl yL,.sl tI,tI,tI],[.agg [qm 0,qm 1,qm 2,qm 3,qm 4,qm 5],.lf (qm 6)],[],[[.sl tB,.sl yK,.sl yH,.sl yL,.sl tI,tI],[tI]],[.sl tI],.lf (qr 0),[],[(true,.arr 3 (qm 0))],false⟩
def zr_P : List zch := []
def zr_T : zcl := tab [e_zG]
theorem zr_To : zck pg zr_T := zci ⟨e_zG_ok,trivial⟩
theorem zr_go : zcy pg (zr_T) io_zr f_zr (zr_P) [.nilRow 4 800004 3 tI,.ren 4 700004,.ren 4 900004] (zr) := ⟨by kernel_rfl,by kernel_rfl,fun x => by kernel_rfl⟩
theorem ok_zr : io_zr.Okay pg (F_zr) := zcu zcj (zr_To) (zr_go) trivial
def e_zr : zcq := io_zr.sp (fun (a,b,c,d,e,f,x) => (decide (b.length ≤ 1000000))) (fun (a,b,c,d,e,f,x) => (zcI b x))
theorem sp_zr (h : ∀ (a : List Bool) (b : List Tk) (c : List Th) (d : List Lk) (e : List Int) (f : Int) (x : Int),WfT [.sl tB,.sl yK,.sl yH,.sl yL,.sl tI,tI,tI] (a,b,c,d,e,f,x) → ((decide (b.length ≤ 1000000))) = true → (zr (a,b,c,d,e,f,x)).run (fun _ => none) = some (zcI b x)) : e_zr.ok pg := zcw ok_zr fun (a,b,c,d,e,f,x) hw hc => h a b c d e f x hw hc
theorem e_zr_ok : e_zr.ok pg := sp_zr fun a b c d e f x _ hc => by
 rw [zr]
 simp only [RT.run]
 rw [if_pos hc]
def zbk : ((List Bool) × (List Tk) × (List Th) × (List Lk) × (List Int) × Int × Int) → RT Unit Int
| (s_0,s_1,s_2,s_3,s_4,s_5,i) =>
 .rq 15 (let t0 := (zcN s_2 i);
 .ite (t0.1 == 4)
 (.rq 3 (.done t0.2.1))
 (.rq 2 (.ite (t0.1 == 6)
 (.rq 13 (.done ((zfk s_3 t0.2.1)).2.1))
 (.rq 1 (.done (-1))))))
def F_zbk (x : (List Bool) × (List Tk) × (List Th) × (List Lk) × (List Int) × Int × Int) : Option Int := (zbk x).run fun _ => none
def io_zbk : Io := ⟨n_zbk,[.sl tB,.sl yK,.sl yH,.sl yL,.sl tI,tI,tI],[.agg [qm 0,qm 1,qm 2,qm 3,qm 4,qm 5],.lf (qm 6)],[],[[.sl tB,.sl yK,.sl yH,.sl yL,.sl tI,tI],[tI]],[tI],.lf (qm 0),[],[],false⟩
def zbk_P : List zch := []
def zbk_T : zcl := tab [e_zbj,e_zae]
theorem zbk_To : zck pg zbk_T := zci ⟨e_zbj_ok,e_zae_ok,trivial⟩
theorem zbk_go : zcy pg (zbk_T) io_zbk f_zbk (zbk_P) [] (zbk) := ⟨by kernel_rfl,by kernel_rfl,fun x => by kernel_rfl⟩
theorem ok_zbk : io_zbk.Okay pg (F_zbk) := zcu zcj (zbk_To) (zbk_go) trivial
def zfq (c : List Th) (d : List Lk) (i : Int) : Int :=
 if (zcN c i).1 == 4 then (zcN c i).2.1 else if (zcN c i).1 == 6 then (zfk d (zcN c i).2.1).2.1 else -1
def e_zbk : zcq := io_zbk.sp (fun (a,b,c,d,e,f,i) => true) (fun (a,b,c,d,e,f,i) => (zfq c d i))
theorem sp_zbk (h : ∀ (a : List Bool) (b : List Tk) (c : List Th) (d : List Lk) (e : List Int) (f : Int) (i : Int),WfT [.sl tB,.sl yK,.sl yH,.sl yL,.sl tI,tI,tI] (a,b,c,d,e,f,i) → (zbk (a,b,c,d,e,f,i)).run (fun _ => none) = some (zfq c d i)) : e_zbk.ok pg := zcw ok_zbk fun (a,b,c,d,e,f,i) hw hc => h a b c d e f i hw
theorem e_zbk_ok : e_zbk.ok pg := sp_zbk fun a b c d e f i _ => by
 rw [zbk]
 simp only [RT.run]
 unfold zfq
 cases ((zcN c i).1 == 4) <;> cases ((zcN c i).1 == 6) <;> rfl
def zaa_b28 : ((List Bool) × (List Tk) × (List Th) × (List Lk) × (List Int) × Int) → (Int × (List Int)) → RT (Int × (List Int)) (List Int)
| (s_0,s_1,s_2,s_3,s_4,s_5),(i,r4) =>
 .rq 2 (.ite (i != (-1))
 (.rq 3 (.req (zdK 8 r4 [i]) (.rq 5 (.again ((zfq s_2 s_3 i),r4 ++ [i])))))
 (.done r4))
def zaa_p28 : zch := ⟨28,true,[.sl tB,.sl yK,.sl yH,.sl yL,.sl tI,tI],[tI,.sl tI],⟨[.keep [1,2,4],.gc,.nilRow 4 800004 3 tI,.ren 4 700004,.ren 4 900004,.gc],[1,2,4],[.lf (qm 0),.lf (qp 32),.lf (qr 900004)],[(32,true,.cells [qi 0,qi 1,qi 2,qi 3,qi 4,qi 5]),(900004,true,.arr 3 (qm 1))]⟩,[⟨2,⟨[.keep [4],.gc,.nilRow 4 800004 3 tI,.ren 4 700004,.ren 4 900004,.gc],[4],[.lf (qr 900004)],[(900004,true,.arr 3 (qm 0))]⟩,[.sl tI]⟩],zaa_b28⟩
def zaa : ((List Bool) × (List Tk) × (List Th) × (List Lk) × (List Int) × Int × Int) → RT Unit (List Int)
| (s_0,s_1,s_2,s_3,s_4,s_5,i) =>
 .rq 13 (.ite (!((zcN s_2 i)).2.2.2.2.2)
 (.rq 1 (.done []))
 (.call (lo zaa_b28 (s_0,s_1,s_2,s_3,s_4,s_5) (i,[])) default fun v0 =>
 .rq 2 (.done v0)))
def F_zaa (x : (List Bool) × (List Tk) × (List Th) × (List Lk) × (List Int) × Int × Int) : Option (List Int) := (zaa x).run fun _ => none
def io_zaa : Io := ⟨n_zaa,[.sl tB,.sl yK,.sl yH,.sl yL,.sl tI,tI,tI],[.agg [qm 0,qm 1,qm 2,qm 3,qm 4,qm 5],.lf (qm 6)],[],[[.sl tB,.sl yK,.sl yH,.sl yL,.sl tI,tI],[tI]],[.sl tI],.lf (qr 0),[],[(true,.arr 3 (qm 0))],false⟩
def zaa_P : List zch := [zaa_p28]
def zaa_T : zcl := tab [e_zbk,e_zae]
theorem zaa_To : zck pg zaa_T := zci ⟨e_zbk_ok,e_zae_ok,trivial⟩
theorem zaa_k28 : (zaa_p28).OK pg (zaa_T) (zcB 25 (zaa_P)) (zcs f_zaa) 25 := ⟨by kernel_rfl,fun i x => by kernel_rfl⟩
theorem zaa_go : zcy pg (zaa_T) io_zaa f_zaa (zaa_P) [.nilRow 4 800004 3 tI,.ren 4 700004,.ren 4 900004] (zaa) := ⟨by kernel_rfl,by kernel_rfl,fun x => by kernel_rfl⟩
theorem ok_zaa : io_zaa.Okay pg (F_zaa) := zcu zcj (zaa_To) (zaa_go) ⟨zaa_k28,trivial⟩
def zfj (c : List Th) (d : List Lk) : Nat → Int → Option (List Int)
 | 0,i => if i = -1 then some [] else none
 | n + 1,i => if i = -1 then some [] else (zfj c d n (zfq c d i)).map (i :: ·)
def tailOK (c : List Th) (d : List Lk) (i : Int) : Bool := !(zcN c i).2.2.2.2.2 || (zfj c d c.length i).isSome
def zeh (c : List Th) (d : List Lk) (i : Int) : List Int := if (zcN c i).2.2.2.2.2 then (zfj c d c.length i).getD [] else []
theorem tail_loop (a : List Bool) (b : List Tk) (c : List Th) (d : List Lk) (e : List Int) (f : Int) : ∀ (n : Nat) (i : Int) (r o : List Int),zfj c d n i = some o → r.length + n ≤ 1000000 →
  lo zaa_b28 (a,b,c,d,e,f) (i,r) = some (r ++ o)
 | 0,i,r,o,h,_ => by
  unfold zfj at h
  rw [zcr,zaa_b28]
  simp only [RT.run]
  split at h
  ·rename_i hi
   cases h
   rw [if_neg (by simp [hi])]
   simp
  ·cases h
 | n + 1,i,r,o,h,hr => by
  have hmax : maxLen = 9223372036854775807 := by decide
  unfold zfj at h
  rw [zcr,zaa_b28]
  simp only [RT.run]
  split at h
  ·rename_i hi
   cases h
   rw [if_neg (by simp [hi])]
   simp
  ·rename_i hi
   obtain ⟨o',h1,rfl⟩ := Option.map_eq_some_iff.1 h
   rw [if_pos (by simpa using hi),if_pos (zeI.2 ⟨by simp; omega,by simp; omega⟩),tail_loop a b c d e f n _ (r ++ [i]) o' h1 (by simp; omega)]
   simp
def e_zaa : zcq := io_zaa.sp (fun (a,b,c,d,e,f,i) => (decide (c.length ≤ 1000000) && tailOK c d i)) (fun (a,b,c,d,e,f,i) => (zeh c d i))
theorem sp_zaa (h : ∀ (a : List Bool) (b : List Tk) (c : List Th) (d : List Lk) (e : List Int) (f : Int) (i : Int),WfT [.sl tB,.sl yK,.sl yH,.sl yL,.sl tI,tI,tI] (a,b,c,d,e,f,i) → ((decide (c.length ≤ 1000000) && tailOK c d i)) = true → (zaa (a,b,c,d,e,f,i)).run (fun _ => none) = some (zeh c d i)) : e_zaa.ok pg := zcw ok_zaa fun (a,b,c,d,e,f,i) hw hc => h a b c d e f i hw hc
theorem e_zaa_ok : e_zaa.ok pg := sp_zaa fun a b c d e f i _ hc => by
 rw [Bool.and_eq_true] at hc
 have hl := of_decide_eq_true hc.1
 rw [zaa]
 simp only [RT.run]
 unfold zeh
 have h2 := hc.2
 unfold tailOK at h2
 cases hq : (zcN c i).2.2.2.2.2 with
 | false => rfl
 | true =>
  rw [hq] at h2
  obtain ⟨o,ho⟩ := Option.isSome_iff_exists.1 (by simpa using h2)
  rw [if_neg (by simp),tail_loop a b c d e f c.length i [] o ho (by simpa using hl),ho]
  rfl
theorem tailF_len {c : List Th} {d : List Lk} : ∀ {n : Nat} {i : Int} {o : List Int},zfj c d n i = some o → o.length ≤ n
 | 0,i,o,h => by
  unfold zfj at h
  split at h
  ·cases h; simp
  ·cases h
 | n + 1,i,o,h => by
  unfold zfj at h
  split at h
  ·cases h; simp
  ·obtain ⟨o',h1,rfl⟩ := Option.map_eq_some_iff.1 h
   have := tailF_len h1
   simp; omega
theorem tailV_len (c : List Th) (d : List Lk) (i : Int) : (zeh c d i).length ≤ c.length := by
 unfold zeh
 split
 ·cases h : zfj c d c.length i with
  | none => simp
  | some o => exact tailF_len h
 ·simp
def zbA : ((List Bool) × (List Tk) × (List Th) × (List Lk) × (List Int) × Int × Int) → RT Unit Int
| (s_0,s_1,s_2,s_3,s_4,s_5,i) =>
 .rq 4 (.req ((decide (s_2.length ≤ 1000000) && tailOK s_2 s_3 i)) (.rq 4 (let t0 := (zeh s_2 s_3 i);
 let t1 := (t0.length : Int);
 .ite (t1 == 0)
 (.rq 1 (.done (-1)))
 (.rq 4 (let t2 := w64 (t1 - 1);
 .req (inB t0 t2) (.rq 2 (.done (gI t0 t2))))))))
def F_zbA (x : (List Bool) × (List Tk) × (List Th) × (List Lk) × (List Int) × Int × Int) : Option Int := (zbA x).run fun _ => none
def io_zbA : Io := ⟨n_zbA,[.sl tB,.sl yK,.sl yH,.sl yL,.sl tI,tI,tI],[.agg [qm 0,qm 1,qm 2,qm 3,qm 4,qm 5],.lf (qm 6)],[],[[.sl tB,.sl yK,.sl yH,.sl yL,.sl tI,tI],[tI]],[tI],.lf (qm 0),[],[],false⟩
def zbA_P : List zch := []
def zbA_T : zcl := tab [e_zaa]
theorem zbA_To : zck pg zbA_T := zci ⟨e_zaa_ok,trivial⟩
theorem zbA_go : zcy pg (zbA_T) io_zbA f_zbA (zbA_P) [] (zbA) := ⟨by kernel_rfl,by kernel_rfl,fun x => by kernel_rfl⟩
theorem ok_zbA : io_zbA.Okay pg (F_zbA) := zcu zcj (zbA_To) (zbA_go) trivial
def endV (c : List Th) (d : List Lk) (i : Int) : Int := (zeh c d i).getLastD (-1)
def e_zbA : zcq := io_zbA.sp (fun (a,b,c,d,e,f,i) => (decide (c.length ≤ 1000000) && tailOK c d i)) (fun (a,b,c,d,e,f,i) => (endV c d i))
theorem sp_zbA (h : ∀ (a : List Bool) (b : List Tk) (c : List Th) (d : List Lk) (e : List Int) (f : Int) (i : Int),WfT [.sl tB,.sl yK,.sl yH,.sl yL,.sl tI,tI,tI] (a,b,c,d,e,f,i) → ((decide (c.length ≤ 1000000) && tailOK c d i)) = true → (zbA (a,b,c,d,e,f,i)).run (fun _ => none) = some (endV c d i)) : e_zbA.ok pg := zcw ok_zbA fun (a,b,c,d,e,f,i) hw hc => h a b c d e f i hw hc
theorem e_zbA_ok : e_zbA.ok pg := sp_zbA fun a b c d e f i _ hc => by
 have hl := of_decide_eq_true (Bool.and_eq_true _ _ ▸ hc : _ ∧ _).1
 have hlen := tailV_len c d i
 rw [zbA]
 simp only [RT.run]
 rw [if_pos hc]
 unfold endV
 generalize zeh c d i = t at *
 by_cases ht : t = []
 ·subst ht; rfl
 ·have hpos : 0 < t.length := List.length_pos_iff.2 ht
  rw [if_neg (by simp; omega),zcm (by omega),show (t.length : Int) - 1 = ((t.length - 1 : Nat) : Int) by omega,if_pos (zcn.2 ⟨by omega,by omega⟩),zcL (by omega),List.getLastD_eq_getLast?,List.getLast?_eq_getElem?,List.getElem?_eq_getElem (by omega)]
  rfl
def zaU : ((List Bool) × (List Tk) × (List Th) × (List Lk) × (List Int) × Int × Int) → RT Unit Bool
| (s_0,s_1,s_2,s_3,s_4,s_5,i) =>
 .rq 5 (.req ((decide (s_2.length ≤ 1000000) && tailOK s_2 s_3 i)) (.rq 16 (.done ((((zcN s_2 ((endV s_2 s_3 i)))).1 == 2) || (((zcN s_2 ((endV s_2 s_3 i)))).1 == 3)))))
def F_zaU (x : (List Bool) × (List Tk) × (List Th) × (List Lk) × (List Int) × Int × Int) : Option Bool := (zaU x).run fun _ => none
def io_zaU : Io := ⟨n_zaU,[.sl tB,.sl yK,.sl yH,.sl yL,.sl tI,tI,tI],[.agg [qm 0,qm 1,qm 2,qm 3,qm 4,qm 5],.lf (qm 6)],[],[[.sl tB,.sl yK,.sl yH,.sl yL,.sl tI,tI],[tI]],[tB],.lf (qm 0),[],[],false⟩
def zaU_P : List zch := []
def zaU_T : zcl := tab [e_zbA,e_zae]
theorem zaU_To : zck pg zaU_T := zci ⟨e_zbA_ok,e_zae_ok,trivial⟩
theorem zaU_go : zcy pg (zaU_T) io_zaU f_zaU (zaU_P) [] (zaU) := ⟨by kernel_rfl,by kernel_rfl,fun x => by kernel_rfl⟩
theorem ok_zaU : io_zaU.Okay pg (F_zaU) := zcu zcj (zaU_To) (zaU_go) trivial
def livesV (c : List Th) (d : List Lk) (i : Int) : Bool := (zcN c (endV c d i)).1 == 2 || (zcN c (endV c d i)).1 == 3
def e_zaU : zcq := io_zaU.sp (fun (a,b,c,d,e,f,i) => (decide (c.length ≤ 1000000) && tailOK c d i)) (fun (a,b,c,d,e,f,i) => (livesV c d i))
theorem sp_zaU (h : ∀ (a : List Bool) (b : List Tk) (c : List Th) (d : List Lk) (e : List Int) (f : Int) (i : Int),WfT [.sl tB,.sl yK,.sl yH,.sl yL,.sl tI,tI,tI] (a,b,c,d,e,f,i) → ((decide (c.length ≤ 1000000) && tailOK c d i)) = true → (zaU (a,b,c,d,e,f,i)).run (fun _ => none) = some (livesV c d i)) : e_zaU.ok pg := zcw ok_zaU fun (a,b,c,d,e,f,i) hw hc => h a b c d e f i hw hc
theorem e_zaU_ok : e_zaU.ok pg := sp_zaU fun a b c d e f i _ hc => by
 rw [zaU]
 simp only [RT.run]
 rw [if_pos hc]
 rfl
def zL_b58 : (Int × (List Bool) × (List Tk) × (List Th) × (List Lk) × (List Int) × Int) → (Int × (List Bool)) → RT (Int × (List Bool)) (List Bool)
| (x10,s_0,s_1,s_2,s_3,s_4,s_5),(x11,r3) =>
 .rq 1 (.ite (decide (x11 < x10))
 (.rq 6 (.req ((decide (s_2.length ≤ 1000000) && tailOK s_2 s_3 x11)) (.req (inB r3 x11) (.rq 3 (.again (w64 (x11 + 1),sI r3 x11 ((livesV s_2 s_3 x11))))))))
 (.done r3))
def zL_p58 : zch := ⟨58,true,[tI,.sl tB,.sl yK,.sl yH,.sl yL,.sl tI,tI],[tI,.sl tB],⟨[.keep [1,3,10,11],.gc,.nilRow 3 800003 4 tB,.ren 3 700003,.ren 3 900003,.gc],[1,3,10,11],[.lf (qp 16),.lf (qr 900003),.lf (qi 0),.lf (qm 0)],[(16,true,.cells [qi 1,qi 2,qi 3,qi 4,qi 5,qi 6]),(900003,true,.arr 4 (qm 1))]⟩,[⟨2,⟨[.keep [3],.gc,.nilRow 3 800003 4 tB,.ren 3 700003,.ren 3 900003,.gc],[3],[.lf (qr 900003)],[(900003,true,.arr 4 (qm 0))]⟩,[.sl tB]⟩],zL_b58⟩
def zL : ((List Bool) × (List Tk) × (List Th) × (List Lk) × (List Int) × Int) → RT Unit (List Bool)
| (s_0,s_1,s_2,s_3,s_4,s_5) =>
 .rq 5 (.req (mkOK 1 (s_2.length : Int)) (.rq 4 (let t0 := zdd (s_2.length : Int) false;
 .call (lo zL_b58 ((t0.length : Int),s_0,s_1,s_2,s_3,s_4,s_5) (0,t0)) default fun v0 =>
 .rq 2 (.done v0))))
def F_zL (x : (List Bool) × (List Tk) × (List Th) × (List Lk) × (List Int) × Int) : Option (List Bool) := (zL x).run fun _ => none
def io_zL : Io := ⟨n_zL,[.sl tB,.sl yK,.sl yH,.sl yL,.sl tI,tI],[.agg [qm 0,qm 1,qm 2,qm 3,qm 4,qm 5]],[],[[.sl tB,.sl yK,.sl yH,.sl yL,.sl tI,tI]],[.sl tB],.lf (qr 0),[],[(true,.arr 4 (qm 0))],false⟩
def zL_P : List zch := [zL_p58]
def zL_T : zcl := tab [e_zaU]
theorem zL_To : zck pg zL_T := zci ⟨e_zaU_ok,trivial⟩
theorem zL_k58 : (zL_p58).OK pg (zL_T) (zcB 22 (zL_P)) (zcs f_zL) 22 := ⟨by kernel_rfl,fun i x => by kernel_rfl⟩
theorem zL_go : zcy pg (zL_T) io_zL f_zL (zL_P) [.nilRow 2 800002 4 tB,.ren 2 700002,.ren 2 900002] (zL) := ⟨by kernel_rfl,by kernel_rfl,fun x => by kernel_rfl⟩
theorem ok_zL : io_zL.Okay pg (F_zL) := zcu zcj (zL_To) (zL_go) ⟨zL_k58,trivial⟩
def liveV (c : List Th) (d : List Lk) : List Bool := (List.range c.length).map fun (i : Nat) => livesV c d (i : Int)
def liveOK (c : List Th) (d : List Lk) : Bool := (List.range c.length).all fun (i : Nat) => tailOK c d (i : Int)
theorem live_loop (a : List Bool) (b : List Tk) (c : List Th) (d : List Lk) (e : List Int) (f : Int) (hl : c.length ≤ 1000000) (hok : liveOK c d = true) : ∀ (n i : Nat) (r : List Bool),i + n = c.length → r.length = c.length → r.take i = (List.range i).map (fun (k : Nat) => livesV c d (k : Int)) →
  lo zL_b58 ((c.length : Int),a,b,c,d,e,f) ((i : Int),r) = some (liveV c d)
 | 0,i,r,h,hr,ht => by
  rw [zcr,zL_b58]
  simp only [RT.run]
  rw [if_neg (by simp; omega)]
  unfold liveV
  rw [show c.length = i by omega,← ht,List.take_of_length_le (by omega)]
 | n + 1,i,r,h,hr,ht => by
  have hi : i < c.length := by omega
  have hk : tailOK c d (i : Int) = true := List.all_eq_true.1 hok i (List.mem_range.2 hi)
  rw [zcr,zL_b58]
  simp only [RT.run]
  rw [if_pos (by simp; omega),if_pos (by rw [hk,decide_eq_true hl]; rfl),if_pos (zcn.2 ⟨by omega,by omega⟩),zcm (by omega),show (i : Int) + 1 = ((i + 1 : Nat) : Int) by omega]
  refine live_loop a b c d e f hl hok n (i + 1) _ (by omega) (by simp [sI,hr]) ?_
  rw [sI,Int.toNat_natCast,List.take_add_one,List.getElem?_set_self (by omega),List.take_set_of_le (Nat.le_refl _),ht,List.range_succ,List.map_append]
  rfl
def e_zL : zcq := io_zL.sp (fun (a,b,c,d,e,f) => (decide (c.length ≤ 1000000) && liveOK c d)) (fun (a,b,c,d,e,f) => (liveV c d))
theorem sp_zL (h : ∀ (a : List Bool) (b : List Tk) (c : List Th) (d : List Lk) (e : List Int) (f : Int),WfT [.sl tB,.sl yK,.sl yH,.sl yL,.sl tI,tI] (a,b,c,d,e,f) → ((decide (c.length ≤ 1000000) && liveOK c d)) = true → (zL (a,b,c,d,e,f)).run (fun _ => none) = some (liveV c d)) : e_zL.ok pg := zcw ok_zL fun (a,b,c,d,e,f) hw hc => h a b c d e f hw hc
theorem e_zL_ok : e_zL.ok pg := sp_zL fun a b c d e f _ hc => by
 rw [Bool.and_eq_true] at hc
 have hl := of_decide_eq_true hc.1
 rw [zL]
 simp only [RT.run]
 rw [if_pos (zdF.2 ⟨by omega,by omega,by omega⟩)]
 have hrl : (zdd (c.length : Int) false).length = c.length := by simp [zdd]
 have := live_loop a b c d e f hl hc.2 c.length 0 (zdd (c.length : Int) false) (by omega) hrl (by simp)
 rw [show ((0 : Nat) : Int) = 0 from rfl] at this
 rw [hrl,this]
 rfl
def zm : (List Int) → RT Unit (List Int)
| s =>
 .rq 4 (.done s)
def F_zm (x : (List Int)) : Option (List Int) := (zm x).run fun _ => none
def io_zm : Io := ⟨n_zm,[.sl tI],[.lf (qm 0)],[],[[.sl tI]],[.sl tI],.lf (.fix (.fn 210 [0])),[],[(true,.cells [qm 0])],true⟩
def zm_P : List zch := []
def zm_T : zcl := tab []
theorem zm_To : zck pg zm_T := zci trivial
theorem zm_go : zcy pg (zm_T) io_zm f_zm (zm_P) [] (zm) := ⟨by kernel_rfl,by kernel_rfl,fun x => by kernel_rfl⟩
theorem ok_zm : io_zm.Okay pg (F_zm) := zcu zcj (zm_To) (zm_go) trivial
def e_zm : zcq := io_zm.sp (fun s => true) (fun s => s)
theorem sp_zm (h : ∀ (s : List Int),WfT [.sl tI] s → (zm s).run (fun _ => none) = some s) : e_zm.ok pg := zcw ok_zm fun s hw hc => h s hw
theorem e_zm_ok : e_zm.ok pg := sp_zm fun s _ => by
 rw [zm]; rfl
def zeN : Code := match zdk 80 (zcs f_zd) 58 with
 | some (.rangeFunc _ _ _ b) => b
 | _ => .skip
def zgW : (Int × (List Bool) × (List Bool) × Int × Bool) → RT Unit (List Bool)
| (t,p240,p337,x11_4,x11_5) =>
 .rq 5 (.ite x11_5
 (.rq 3 (.req (inB p337 x11_4) (.rq 2 (.req (inB p240 t) (.rq 1 (.done (sI p240 t (gI p337 x11_4))))))))
 (.rq 1 (.req (inB p240 t) (.rq 1 (.done (sI p240 t false))))))
def zd_r_p42602 : zch := ⟨42602,false,[tI,tI,tI,tI,.sl tB,.sl yK,.sl yH,.sl yL,.sl tI,tI,.sl tB,.sl tI,.sl tB,tB,tI,tI,tI,tI,tB,.sl tI],[],⟨[.keep [1,4,5,6,8,10,11,29,30,31],.gc],[1,4,5,6,8,10,11,29,30,31],[.lf (qp 1048592),.lf (qp 1048640),.lf (qp 1048656),.lf (qp 1048672),.lf (qi 0),.lf (qi 1),.lf (qp 176),.lf (qr 900029),.lf (qi 2),.lf (qi 3)],[(1048592,true,.cells [qi 4,qi 5,qi 6,qi 7,qi 8,qi 9]),(1048816,true,.arr 4 (qi 10)),(1048880,true,.arr 3 (qi 11)),(1048913,true,.arr 4 (qi 12)),(1048640,true,.cells [qr 1048816]),(1048656,true,.cells [qr 1048880]),(1048672,true,.cells [qr 1048913]),(176,true,.cells [qi 13,qi 14,qi 15,qi 16,qi 17,qi 18]),(900029,true,.arr 3 (qi 19))]⟩,[⟨0,⟨[.keep [1,4,5,6,8,10,11,29,30,31],.gc,.nilRow 29 800029 3 tI,.ren 29 700029,.ren 29 900029,.gc],[1,4,5,6,8,10,11,29,30,31],[.lf (qp 1048592),.lf (qp 1048640),.lf (qp 1048656),.lf (qp 1048672),.lf (qi 0),.lf (qi 1),.lf (qp 176),.lf (qr 900029),.lf (qi 2),.lf (qi 3)],[(1048592,true,.cells [qi 4,qi 5,qi 6,qi 7,qi 8,qi 9]),(1048816,true,.arr 4 (qm 0)),(1048880,true,.arr 3 (qi 11)),(1048913,true,.arr 4 (qi 12)),(1048640,true,.cells [qr 1048816]),(1048656,true,.cells [qr 1048880]),(1048672,true,.cells [qr 1048913]),(176,true,.cells [qi 13,qi 14,qi 15,qi 16,qi 17,qi 18]),(900029,true,.arr 3 (qi 19))]⟩,[.sl tB]⟩],(fun i _ => zgW (i.2.1,i.2.2.2.2.2.2.2.2.2.2.1,i.2.2.2.2.2.2.2.2.2.2.2.2.1,i.2.2.2.2.2.2.2.2.2.2.2.2.2.2.2.2.2.1,i.2.2.2.2.2.2.2.2.2.2.2.2.2.2.2.2.2.2.1))⟩
def zgr : (Int × (List Bool) × (List Int) × Int × Bool) → RT Unit (List Bool)
| (t,p240,p304,x11_4,x11_5) =>
 .rq 5 (.ite x11_5
 (.rq 3 (.req (inB p304 x11_4) (.rq 3 (.req (inB p240 t) (.rq 1 (.done (sI p240 t (decide (0 < (gI p304 x11_4))))))))))
 (.rq 1 (.req (inB p240 t) (.rq 1 (.done (sI p240 t false))))))
def zd_r_p170414 : zch := ⟨170414,false,[tI,tI,tI,tI,.sl tB,.sl yK,.sl yH,.sl yL,.sl tI,tI,.sl tB,.sl tI,.sl tB,tB,tI,tI,tI,tI,tB,.sl tI],[],⟨[.keep [1,4,5,6,8,10,11,29,30,31],.gc],[1,4,5,6,8,10,11,29,30,31],[.lf (qp 1048592),.lf (qp 1048640),.lf (qp 1048656),.lf (qp 1048672),.lf (qi 0),.lf (qi 1),.lf (qp 176),.lf (qr 900029),.lf (qi 2),.lf (qi 3)],[(1048592,true,.cells [qi 4,qi 5,qi 6,qi 7,qi 8,qi 9]),(1048816,true,.arr 4 (qi 10)),(1048880,true,.arr 3 (qi 11)),(1048913,true,.arr 4 (qi 12)),(1048640,true,.cells [qr 1048816]),(1048656,true,.cells [qr 1048880]),(1048672,true,.cells [qr 1048913]),(176,true,.cells [qi 13,qi 14,qi 15,qi 16,qi 17,qi 18]),(900029,true,.arr 3 (qi 19))]⟩,[⟨0,⟨[.keep [1,4,5,6,8,10,11,29,30,31],.gc,.nilRow 29 800029 3 tI,.ren 29 700029,.ren 29 900029,.gc],[1,4,5,6,8,10,11,29,30,31],[.lf (qp 1048592),.lf (qp 1048640),.lf (qp 1048656),.lf (qp 1048672),.lf (qi 0),.lf (qi 1),.lf (qp 176),.lf (qr 900029),.lf (qi 2),.lf (qi 3)],[(1048592,true,.cells [qi 4,qi 5,qi 6,qi 7,qi 8,qi 9]),(1048816,true,.arr 4 (qm 0)),(1048880,true,.arr 3 (qi 11)),(1048913,true,.arr 4 (qi 12)),(1048640,true,.cells [qr 1048816]),(1048656,true,.cells [qr 1048880]),(1048672,true,.cells [qr 1048913]),(176,true,.cells [qi 13,qi 14,qi 15,qi 16,qi 17,qi 18]),(900029,true,.arr 3 (qi 19))]⟩,[.sl tB]⟩],(fun i _ => zgr (i.2.1,i.2.2.2.2.2.2.2.2.2.2.1,i.2.2.2.2.2.2.2.2.2.2.2.1,i.2.2.2.2.2.2.2.2.2.2.2.2.2.2.2.2.2.1,i.2.2.2.2.2.2.2.2.2.2.2.2.2.2.2.2.2.2.1))⟩
def zhR : (Int × (List Bool) × (List Int) × (List Bool) × Int × Int × Bool) → RT Unit (List Bool)
| (t,p240,p304,p337,x11_3,x11_4,x11_5) =>
 .rq 4 (.ite (x11_3 == 1)
 (.call (on zgW (t,p240,p337,x11_4,x11_5)) default fun v2 =>
 .done v2)
 (.rq 2 (.ite (x11_3 == 2)
 (.call (on zgr (t,p240,p304,x11_4,x11_5)) default fun v3 =>
 .done v3)
 (.done p240))))
def zd_r_p2662 : zch := ⟨2662,false,[tI,tI,tI,tI,.sl tB,.sl yK,.sl yH,.sl yL,.sl tI,tI,.sl tB,.sl tI,.sl tB,tB,tI,tI,tI,tI,tB,.sl tI],[],⟨[.keep [1,4,5,6,8,10,11,29,30,31],.gc],[1,4,5,6,8,10,11,29,30,31],[.lf (qp 1048592),.lf (qp 1048640),.lf (qp 1048656),.lf (qp 1048672),.lf (qi 0),.lf (qi 1),.lf (qp 176),.lf (qr 900029),.lf (qi 2),.lf (qi 3)],[(1048592,true,.cells [qi 4,qi 5,qi 6,qi 7,qi 8,qi 9]),(1048816,true,.arr 4 (qi 10)),(1048880,true,.arr 3 (qi 11)),(1048913,true,.arr 4 (qi 12)),(1048640,true,.cells [qr 1048816]),(1048656,true,.cells [qr 1048880]),(1048672,true,.cells [qr 1048913]),(176,true,.cells [qi 13,qi 14,qi 15,qi 16,qi 17,qi 18]),(900029,true,.arr 3 (qi 19))]⟩,[⟨0,⟨[.keep [1,4,5,6,8,10,11,29,30,31],.gc,.nilRow 29 800029 3 tI,.ren 29 700029,.ren 29 900029,.gc],[1,4,5,6,8,10,11,29,30,31],[.lf (qp 1048592),.lf (qp 1048640),.lf (qp 1048656),.lf (qp 1048672),.lf (qi 0),.lf (qi 1),.lf (qp 176),.lf (qr 900029),.lf (qi 2),.lf (qi 3)],[(1048592,true,.cells [qi 4,qi 5,qi 6,qi 7,qi 8,qi 9]),(1048816,true,.arr 4 (qm 0)),(1048880,true,.arr 3 (qi 11)),(1048913,true,.arr 4 (qi 12)),(1048640,true,.cells [qr 1048816]),(1048656,true,.cells [qr 1048880]),(1048672,true,.cells [qr 1048913]),(176,true,.cells [qi 13,qi 14,qi 15,qi 16,qi 17,qi 18]),(900029,true,.arr 3 (qi 19))]⟩,[.sl tB]⟩],(fun i _ => zhR (i.2.1,i.2.2.2.2.2.2.2.2.2.2.1,i.2.2.2.2.2.2.2.2.2.2.2.1,i.2.2.2.2.2.2.2.2.2.2.2.2.1,i.2.2.2.2.2.2.2.2.2.2.2.2.2.2.2.2.1,i.2.2.2.2.2.2.2.2.2.2.2.2.2.2.2.2.2.1,i.2.2.2.2.2.2.2.2.2.2.2.2.2.2.2.2.2.2.1))⟩
def zd_r_b10 : (Int × Int × (List Tk) × (List Bool) × (List Int)) → (Int × (List Bool) × (List Int)) → RT (Int × (List Bool) × (List Int)) ((List Bool) × (List Int))
| (i,f,p16_1,p337,r29),(x31,p240,p304) =>
 .rq 1 (.ite (decide (x31 < f))
 (.req (inB r29 x31) (.rq 5 (.req (inB p16_1 (gI r29 x31)) (.rq 3 (.call (on zhR (gI r29 x31,p240,p304,p337,(gI p16_1 (gI r29 x31)).2.2.2.1,(gI p16_1 (gI r29 x31)).2.2.2.2.1,(gI p16_1 (gI r29 x31)).2.2.2.2.2)) default fun v4 =>
 .rq 2 (.req (inB v4 (gI r29 x31)) (.rq 1 (let t0 := w64 (x31 + 1);
 .ite (gI v4 (gI r29 x31))
 (.rq 2 (.req (inB p304 i) (.rq 4 (.req (inB p304 i) (.rq 3 (.again (t0,v4,sI p304 i (w64 ((gI p304 i) + (gI p16_1 (gI r29 x31)).2.2.1)))))))))
 (.rq 2 (.again (t0,v4,p304)))))))))))
 (.done (p240,p304)))
def zd_r_p10 : zch := ⟨10,true,[tI,tI,.sl tB,.sl yK,.sl yH,.sl yL,.sl tI,tI,.sl tB,.sl tI],[tI,.sl tB,.sl tI],⟨[.keep [1,4,5,6,8,29,30,31],.gc,.nilRow 29 800029 3 tI,.ren 29 700029,.ren 29 900029,.gc],[1,4,5,6,8,29,30,31],[.lf (qp 1048592),.lf (qp 1048640),.lf (qp 1048656),.lf (qp 1048672),.lf (qi 0),.lf (qr 900029),.lf (qi 1),.lf (qm 0)],[(1048592,true,.cells [qi 2,qi 3,qi 4,qi 5,qi 6,qi 7]),(1048816,true,.arr 4 (qm 1)),(1048880,true,.arr 3 (qm 2)),(1048913,true,.arr 4 (qi 8)),(1048640,true,.cells [qr 1048816]),(1048656,true,.cells [qr 1048880]),(1048672,true,.cells [qr 1048913]),(900029,true,.arr 3 (qi 9))]⟩,[⟨4,⟨[.keep [],.gc],[],[],[(1048592,true,.cells [qi 2,qi 3,qi 4,qi 5,qi 6,qi 7]),(1048816,true,.arr 4 (qm 0)),(1048880,true,.arr 3 (qm 1)),(1048913,true,.arr 4 (qi 8)),(1048640,true,.cells [qr 1048816]),(1048656,true,.cells [qr 1048880]),(1048672,true,.cells [qr 1048913])]⟩,[.sl tB,.sl tI]⟩],(fun i => zd_r_b10 (i.1,i.2.1,i.2.2.2.1,i.2.2.2.2.2.2.2.2.1,i.2.2.2.2.2.2.2.2.2))⟩
def zd_r : (Int × (List Bool) × (List Tk) × (List Th) × (List Lk) × (List Int) × Int × (List Bool) × (List Int) × (List Bool)) → RT Unit ((List Bool) × (List Int))
| (c,coins,tickets,threads,locks,queue,quantum,counts,amounts,lives) =>
 .rq 2 (.req ((decide (tickets.length ≤ 1000000))) (.rq 2 (let t0 := (zcI tickets c);
 .call (lo zd_r_b10 (c,(t0.length : Int),tickets,lives,t0) (0,counts,amounts)) default fun v5 =>
 .done (v5.1,v5.2))))
def zd_r_P : List zch := [zd_r_p42602,zd_r_p170414,zd_r_p2662,zd_r_p10]
def zd_r_T : zcl := tab [e_zr]
theorem zd_r_To : zck pg zd_r_T := zci ⟨e_zr_ok,trivial⟩
theorem zd_r_k42602 : zd_r_p42602.OK pg zd_r_T (zcB 86 zd_r_P) zeN 86 := ⟨by kernel_rfl,fun i x => by kernel_rfl⟩
theorem zd_r_k170414 : zd_r_p170414.OK pg zd_r_T (zcB 86 zd_r_P) zeN 86 := ⟨by kernel_rfl,fun i x => by kernel_rfl⟩
theorem zd_r_k2662 : zd_r_p2662.OK pg zd_r_T (zcB 86 zd_r_P) zeN 86 := ⟨by kernel_rfl,fun i x => by kernel_rfl⟩
theorem zd_r_k10 : zd_r_p10.OK pg zd_r_T (zcB 86 zd_r_P) zeN 86 := ⟨by kernel_rfl,fun i x => by kernel_rfl⟩
theorem zd_r_ks : PAll (fun (p : zch) => p.OK pg zd_r_T (zcB 86 zd_r_P) zeN 86) zd_r_P := ⟨zd_r_k42602,zd_r_k170414,zd_r_k2662,zd_r_k10,trivial⟩
abbrev SFx := (List Bool) × (List Tk) × (List Th) × (List Lk) × (List Int) × Int × (List Bool)
def zdp : SFx → (List Bool) × (List Int) → List (Nat × Ent)
 | (coins,tickets,threads,locks,queue,quantum,lives),(counts,amounts) =>
  [(16,⟨true,.cells [.dat .bool coins,.dat yK tickets,.dat yH threads,.dat yL locks,.dat tI queue,.int .i64 quantum]⟩),(240,⟨true,.arr 4 .bool counts⟩),(304,⟨true,.arr 3 tI amounts⟩),(337,⟨true,.arr 4 .bool lives⟩),
   (64,⟨true,.cells [.ref 240]⟩),(80,⟨true,.cells [.ref 304]⟩),(96,⟨true,.cells [.ref 337]⟩)]
def rkRst (fx : SFx) (c : Int) (x : (List Bool) × (List Int)) : St :=
 spSt 86 [1,4,5,6,8] [.lf (.ptr (zco + 16) 0),.lf (.ptr (zco + 64) 0),.lf (.ptr (zco + 80) 0),.lf (.ptr (zco + 96) 0),.lf (.int .i64 c)] (zdE (zdp fx x))
def rkSee : Ev → Option PE
 | .norm σ => (zgd [.keep [],.gc] [] 86 σ).map fun z => .norm z.1 z.2
 | _ => none
def rkR : SFx → Int → (List Bool) × (List Int) → RT Unit ((List Bool) × (List Int))
 | (coins,tickets,threads,locks,queue,quantum,lives),c,(counts,amounts) => zd_r (c,coins,tickets,threads,locks,queue,quantum,counts,amounts,lives)
theorem rk_body (fx : SFx) (c : Int) (x : (List Bool) × (List Int)) : (evI pg zd_r_T (zcB 86 zd_r_P) 1 zeN (rkRst fx c x)).pt rkSee =
  (rkR fx c x).pt (fun _ => .norm [] []) (fun x' => .norm [] (zdE (zdp fx x'))) := by kernel_rfl
end
end Go.Proofs.YtlfdidaeachpoaaGreat
namespace Go.Proofs
open Go.RowKit Go.Shelf
attribute [local go_sem] Oper.semAt_some
def Bw.upto {α : Type} (f : Nat → α) (k : Nat) : List α := (List.range k).map f
theorem Bw.upto_succ {α : Type} (f : Nat → α) (k : Nat) : Bw.upto f (k + 1) = Bw.upto f k ++ [f k] := by simp [Bw.upto,List.range_succ]
theorem Bw.upto_length {α : Type} (f : Nat → α) (k : Nat) : (Bw.upto f k).length = k := by simp [Bw.upto]
def Bw.Kp (Z : Nat → Prop) (A B : World) : Prop := ∀ k,Z k → B.heap[k]? = A.heap[k]?
theorem Bw.Kp.cell {Z : Nat → Prop} {A B : World} (h : Bw.Kp Z A B) {p : Addr} (hp : Z p.block) : B.cell? p = A.cell? p := World.cell?_of_block (h _ hp)
set_option maxRecDepth 100000 in
set_option maxHeartbeats 2000000 in
theorem Bw.back_in (F : Fence) (n : Nat) (h8 : F.fn 210) (hro : F.round = none) (hn : 1 ≤ n) (l Bs b off len cap : Nat) (Z : Nat → Prop) (zs : List Int) (hreach : len * 8 ≤ 140737488351232) (hb : Z b) (hBsZ : Z Bs) (p : Nat × Int → Prop) (hp : ∀ j,j < len → p (j,zs[j]?.getD 0)) (J Jx : List (Nat × Int) → World → Prop)
  (hY : ∀ pre x W,p x → J pre W → pre.length < len → YieldAt F (n - 1) Tryz.prog l #[.int .i64 (x.1 : Int),.int .i64 x.2] W fun e W' =>
   (e = .returned (.bool true) ∧ J (pre ++ [x]) W' ∧ Bw.Kp Z W W') ∨ (e = .returned (.bool false) ∧ Jx (pre ++ [x]) W'))
  (W : World) (hBs : W.cell? ⟨Bs,0,none⟩ = some (.slice (some ⟨b,off,none⟩) len cap)) (hc : ∀ j,j < len → W.cell? ⟨b,off + j,none⟩ = some (.int .i64 (zs[j]?.getD 0))) (h0 : J [] W) :
  CallsIn F n Tryz.prog 210 #[.func (.yield l) #[] #[],.pointer (some ⟨Bs,0,none⟩)] W fun e W' => (∃ v,e = .returned v) ∧
   ((∃ ys,ys = Bw.upto (fun j => (len - 1 - j,zs[len - 1 - j]?.getD 0)) len ∧ J ys W') ∨ (∃ pre,(∃ k,k ≤ len ∧ pre = Bw.upto (fun j => (len - 1 - j,zs[len - 1 - j]?.getD 0)) k) ∧ Jx pre W')) := by
 refine callsIn_of_wp Tryz.func210 rfl h8 ?_ hro
 simp only [Tryz.ntmps210,List.size_toArray,List.length_cons,List.length_nil,Nat.reduceAdd,Nat.reduceSub,Array.replicate_succ,Array.replicate_zero,List.push_toArray,List.append_toArray,List.nil_append,List.cons_append]
 gi_wp2
 gi_loopw [3] (fun i wr => ∃ k : Nat,k ≤ len ∧ i = .int .i64 ((len : Int) - 1 - k) ∧ J (Bw.upto (fun j => (len - 1 - j,zs[len - 1 - j]?.getD 0)) k) wr ∧ Bw.Kp Z W wr)
  (fun i _ => (intOf i + 1).toNat)
 case atStart => exact ⟨0,Nat.zero_le _,by simp,h0,fun _ _ => rfl⟩
 case round =>
  obtain ⟨k,hk,rfl,hJs,hnx⟩ := hrel
  have hBs' : wr.cell? ⟨Bs,0,none⟩ = some (.slice (some ⟨b,off,none⟩) len cap) := (hnx.cell (p := ⟨Bs,0,none⟩) hBsZ).trans hBs
  have hcx : k < len → wr.cell? ⟨b,off + (len - 1 - k),none⟩ = some (.int .i64 (zs[len - 1 - k]?.getD 0)) := fun h => (hnx.cell (p := ⟨b,off + (len - 1 - k),none⟩) hb).trans (hc (len - 1 - k) (by omega))
  by_cases hlt : k < len
  ·obtain ⟨fn,tmps,assign,body,hy,hR⟩ := hY _ (len - 1 - k,zs[len - 1 - k]?.getD 0) wr (hp _ (by omega)) hJs (by rw [Bw.upto_length]; exact hlt)
   dsimp only at hy
   have hcx' := hcx hlt
   obtain ⟨m,hm⟩ : ∃ m,m = len - 1 - k := ⟨_,rfl⟩
   have hmi : (len : Int) - 1 - k = (m : Int) := by omega
   rw [← hm] at hy hcx'
   rw [hmi]
   have hml : m < len := by omega
   have hm2 : m + k + 1 ≤ len ∧ len ≤ m + k + 1 := by omega
   clear hm hmi
   gi_wp2
   refine hR.mono ?_
   rintro e W3 (⟨rfl,hJ3,hk3⟩ | ⟨rfl,hJx3⟩)
   ·gi_wp2
    go_roundw
    case rel =>
     refine ⟨k + 1,by omega,?_,by rw [Bw.upto_succ]; exact hJ3,fun q hq => (hk3 q hq).trans (hnx q hq)⟩
     have e1 : (m : Int) - 1 = (len : Int) - 1 - ((k + 1 : Nat) : Int) := by omega
     rw [e1]
    case measure =>
     simp only [intOf]
     omega
   ·gi_wp2
    refine bodyPost_ret (results_none rfl _ _ _) rfl ?_
    exact ⟨⟨_,rfl⟩,.inr ⟨_,⟨k + 1,by omega,(Bw.upto_succ _ _).symm⟩,hJx3⟩⟩
  ·obtain rfl : k = len := by omega
   have hmi : (k : Int) - 1 - k = -1 := by omega
   rw [hmi]
   gi_wp2
   go_end0
   exact ⟨⟨_,rfl⟩,.inl ⟨_,rfl,hJs⟩⟩
set_option maxRecDepth 100000 in
set_option maxHeartbeats 1000000 in
theorem Bw.back_nil_in (F : Fence) (n : Nat) (h8 : F.fn 210) (hro : F.round = none) (l Bs : Nat) (A : Option Addr) (cap : Nat) (J : List (Nat × Int) → World → Prop) (W : World) (hBs : W.cell? ⟨Bs,0,none⟩ = some (.slice A 0 cap)) (h0 : J [] W) :
  CallsIn F n Tryz.prog 210 #[.func (.yield l) #[] #[],.pointer (some ⟨Bs,0,none⟩)] W fun e W' => (∃ v,e = .returned v) ∧ J [] W' := by
 refine callsIn_of_wp Tryz.func210 rfl h8 ?_ hro
 simp only [Tryz.ntmps210,List.size_toArray,List.length_cons,List.length_nil,Nat.reduceAdd,Nat.reduceSub,Array.replicate_succ,Array.replicate_zero,List.push_toArray,List.append_toArray,List.nil_append,List.cons_append]
 gi_wp2
 gi_loopw [3] (fun i wr => i = .int .i64 (-1) ∧ J [] wr) (fun _ _ => 0)
 case atStart => exact ⟨rfl,h0⟩
 case round =>
  obtain ⟨rfl,hJs⟩ := hrel
  gi_wp2
  go_end0
  exact ⟨⟨_,rfl⟩,hJs⟩
def Bw.list (zs : List Int) : List (Nat × Int) := Bw.upto (fun j => (zs.length - 1 - j,zs[zs.length - 1 - j]?.getD 0)) zs.length
theorem Bw.list_snd (zs : List Int) : (Bw.list zs).map (·.2) = zs.reverse := by
 apply List.ext_getElem
 ·simp [Bw.list,Bw.upto]
 ·intro i h1 h2
  have hi : i < zs.length := by simpa using h2
  have hj : zs.length - 1 - i < zs.length := by omega
  simp [Bw.list,Bw.upto,hj]
def Bw.Ints (Z : Nat → Prop) (W : World) (sv : Value) (zs : List Int) : Prop :=
 (∃ A cap,sv = .slice A 0 cap ∧ zs = []) ∨ ∃ b off cap,sv = .slice (some ⟨b,off,none⟩) zs.length cap ∧ Z b ∧ ∀ j,j < zs.length → W.cell? ⟨b,off + j,none⟩ = some (.int .i64 (zs[j]?.getD 0))
def Bw.listP (p : Nat × Int → Prop) (zs : List Int) (hp : ∀ j,j < zs.length → p (j,zs[j]?.getD 0)) : List { x : Nat × Int // p x } :=
 (List.finRange zs.length).map fun (j : Fin zs.length) => ⟨(zs.length - 1 - j.1,zs[zs.length - 1 - j.1]?.getD 0),hp _ (by have := j.2; omega)⟩
theorem Bw.listP_val {p : Nat × Int → Prop} {zs : List Int} {hp : ∀ j,j < zs.length → p (j,zs[j]?.getD 0)} : (Bw.listP p zs hp).map (·.1) = Bw.list zs := by
 apply List.ext_getElem
 ·simp [Bw.listP,Bw.list,Bw.upto]
 ·intro i h1 h2
  simp [Bw.listP,Bw.list,Bw.upto]
theorem Bw.stops (F : Fence) (n : Nat) (h8 : F.fn 210) (hro : F.round = none) (hn : 1 ≤ n) (Bs : Nat) (Z : Nat → Prop) (sv : Value) (zs : List Int) (hreach : zs.length * 8 ≤ 140737488351232) (w : World) (hBsZ : Z Bs) (hZ : ∀ b,Z b → b < w.heap.size)
  (hc : w.cell? ⟨Bs,0,none⟩ = some sv) (hI : Bw.Ints Z w sv zs) (p : Nat × Int → Prop) (hp : ∀ j,j < zs.length → p (j,zs[j]?.getD 0)) :
  SeqStopsK F n Tryz.prog 210 #[.pointer (some ⟨Bs,0,none⟩)] (fun x : { x : Nat × Int // p x } => #[Value.int .i64 (x.1.1 : Int),Value.int .i64 x.1.2]) (Bw.Kp Z) (fun ys => ys = Bw.listP p zs hp) (fun _ => True) zs.length w := fun l J Jx W hW _ _ hY h0 => by
 have hc' := (hW.cell (p := ⟨Bs,0,none⟩) (hZ _ hBsZ)).trans hc
 have inj : ∀ {l l' : List { x : Nat × Int // p x }},l.map (·.1) = l'.map (·.1) → l = l' := fun {l l'} h => by
  induction l generalizing l' with
  | nil => cases l' with
   | nil => rfl
   | cons => simp at h
  | cons a l ih => cases l' with
   | nil => simp at h
   | cons b l' =>
    simp only [List.map_cons,List.cons.injEq] at h
    rw [Subtype.ext h.1,ih h.2]
 rcases hI with ⟨A,cap,rfl,rfl⟩ | ⟨b,off,cap,rfl,hb,hcs⟩
 ·exact (Bw.back_nil_in F n h8 hro l Bs A cap (fun _ W => J [] W) W hc' h0).mono fun e W' ⟨he,hj⟩ => ⟨he,.inl ⟨[],rfl,hj⟩⟩
 ·refine (Bw.back_in F n h8 hro hn l Bs b off zs.length cap Z zs hreach hb hBsZ p hp (fun pre W => ∃ q : List { x : Nat × Int // p x },q.map (·.1) = pre ∧ J q W) (fun pre W => ∃ q : List { x : Nat × Int // p x },q.map (·.1) = pre ∧ Jx q W) ?_ W hc'
   (fun j hj => (hW.cell (p := ⟨b,off + j,none⟩) (hZ _ hb)).trans (hcs j hj)) ⟨[],rfl,h0⟩).mono ?_
  ·rintro pre x W1 hx ⟨q,rfl,hq⟩ hlen
   obtain ⟨fn,tmps,assign,body,hy,hR⟩ := hY q ⟨x,hx⟩ W1 hq (by simpa using hlen)
   refine ⟨fn,tmps,assign,body,hy,hR.mono ?_⟩
   rintro e W' (⟨rfl,h1,h2⟩ | ⟨rfl,h1⟩)
   ·exact .inl ⟨rfl,⟨_,by simp,h1⟩,h2⟩
   ·exact .inr ⟨rfl,_,by simp,h1⟩
  ·rintro e W' ⟨he,⟨ys,rfl,q,hq,hj⟩ | ⟨pre,⟨k,hk,rfl⟩,q,hq,hj⟩⟩
   ·refine ⟨he,.inl ⟨q,inj ?_,hj⟩⟩
    rw [hq,Bw.listP_val]; rfl
   ·exact ⟨he,.inr ⟨q,trivial,hj⟩⟩
end Go.Proofs
namespace Go.Proofs.YtlfdidaeachpoaaGreat
open Go Go.RowKit
set_option maxRecDepth 100000
noncomputable section
abbrev SD := (List Bool) × (List Tk) × (List Th) × (List Lk) × (List Int) × Int
abbrev sdLs : SD → List zcp := fun (coins,tickets,threads,locks,queue,quantum) => [.dat .bool coins,.dat yK tickets,.dat yH threads,.dat yL locks,.dat tI queue,.int .i64 quantum]
def zej : SD → List Bool → SFx := fun (coins,tickets,threads,locks,queue,quantum) lives => (coins,tickets,threads,locks,queue,quantum,lives)
def io_zd : Io := ⟨n_zd,[.sl tB,.sl yK,.sl yH,.sl yL,.sl tI,tI],[.agg [qm 0,qm 1,qm 2,qm 3,qm 4,qm 5]],[],[[.sl tB,.sl yK,.sl yH,.sl yL,.sl tI,tI]],[.sl tB,.sl tI],.tup [(false,[qr 0]),(false,[qr 1])],[],[(true,.arr 4 (qm 0)),(true,.arr 3 (qm 1))],false⟩
def rkT : zcl := tab [e_zL,e_zx,e_zm]
theorem rkTo : zck pg rkT := zci ⟨e_zL_ok,e_zx_ok,e_zm_ok,trivial⟩
def rkAt (q : Nat) : Code := (zdk 80 (zcs f_zd) q).getD .skip
def rkSeeT (ts : List Nat) : Ev → Option PE
 | .norm σ => (zgd [.keep ts] ts 86 σ).map fun z => .norm z.1 z.2
 | _ => none
abbrev rkE (q : Nat) (σ : St) : zcP := evI pg rkT (fun _ _ => none) q (rkAt q) σ
theorem rk_r0 (s : SD) : (rkE 2 (zgY (io_zd.as s) (io_zd.es s) 86)).pt (rkSeeT [1]) = .rq 3 (.leaf (.norm [.lf (.ptr 16 0)] [(16,⟨true,.cells (sdLs s)⟩)])) := by kernel_rfl
def sdLiveOK (s : SD) : Bool := decide (s.2.2.1.length ≤ 1000000) && liveOK s.2.2.1 s.2.2.2.1
def zgn (s : SD) : List Bool := liveV s.2.2.1 s.2.2.2.1
def sdOrdOK (s : SD) : Bool := decide (s.2.1.length ≤ 1000000) && decide (s.1.length ≤ 4096)
def sdOrd (s : SD) : List Int := zcG s.1 s.2.1
abbrev zfA : List (Nat × Nat) := [(1,16),(4,64),(5,80),(6,96)]
def rkX0 (s : SD) : (List Bool) × (List Int) := (zdd (s.2.1.length : Int) false,zdd (s.1.length : Int) 0)
theorem rk_r1 (s : SD) : (rkE 6 (spSt 86 [1] [.lf (.ptr 16 0)] [(16,⟨true,.cells (sdLs s)⟩)])).pt (rkSeeT [1,4,5,6]) =
  (RT.rq 3 (.req (mkOK 1 (s.2.1.length : Int)) (.rq 3 (.req (mkOK 8 (s.1.length : Int)) (.rq 1 (.req (sdLiveOK s) (.rq 6 (.done (zgn s)))))))) : RT Unit (List Bool)).pt (fun _ => .norm [] [])
   (fun v => .norm [.lf (.ptr 16 0),.lf (.ptr 64 0),.lf (.ptr 80 0),.lf (.ptr 96 0)] (zdp (zej s v) (rkX0 s))) := by kernel_rfl
theorem rk_r2 (s : SD) (v : List Bool) : (rkE 28 (zen 86 zfA 0 (zdp (zej s v) (rkX0 s)))).pt (rkSeeT [1,4,5,6,24]) =
  (RT.rq 1 (.req (sdOrdOK s) (.rq 1 (.done (sdOrd s)))) : RT Unit (List Int)).pt (fun _ => .norm [] [])
   (fun v2 => .norm [.lf (.ptr 16 0),.lf (.ptr 64 0),.lf (.ptr 80 0),.lf (.ptr 96 0),.lf (.fn 210 [385])] (zdp (zej s v) (rkX0 s) ++ [(385,⟨true,.cells [.dat tI v2]⟩)])) := by kernel_rfl
def rkSeeR : Ev → Option PE
 | .ret σ => (zgd [.keep [2,3]] [2,3] 86 σ).map fun z => .ret z.1 z.2
 | _ => none
theorem rk_t (fx : SFx) (x : (List Bool) × (List Int)) : (rkE 15 (zen 86 zfA 0 (zdp fx x))).pt rkSeeR =
  .rq 4 (.leaf (.ret [.lf (.ref 240),.lf (.ref 304)] (zdp fx x))) := by kernel_rfl
theorem rk_o (fx : SFx) (x : (List Bool) × (List Int)) : outEv pg f_zd 0 [] false (.ret (spSt 86 [2,3] [.lf (.ref 240),.lf (.ref 304)] (zdp fx x))) = some (.out (io_zd.res x)) := by kernel_rfl
def rkAsg : Code := match rkAt 58 with
 | .rangeFunc _ _ x _ => x
 | _ => .skip
theorem rk_code : zcs f_zd = .seq (rkAt 2) (.seq (rkAt 6) (.seq (.seq (rkAt 28) (.block 0 (rkAt 58))) (rkAt 15))) := by kernel_rfl
theorem rk_58 : rkAt 58 = .rangeFunc (.tmp 24) #[25,26] rkAsg zeN := by kernel_rfl
theorem rk_at2 : zdk 80 (zcs f_zd) 2 = some (rkAt 2) := by kernel_rfl
theorem rk_at6 : zdk 80 (zcs f_zd) 6 = some (rkAt 6) := by kernel_rfl
theorem rk_at28 : zdk 80 (zcs f_zd) 28 = some (rkAt 28) := by kernel_rfl
theorem rk_at15 : zdk 80 (zcs f_zd) 15 = some (rkAt 15) := by kernel_rfl
def rkOp : Oper := match rkAsg with
 | .region _ ops _ => ops.getD 0 default
 | _ => default
def rkId : Nat := match rkAsg with
 | .region i _ _ => i
 | _ => 0
theorem rk_asg : rkAsg = .region rkId #[rkOp] false := by kernel_rfl
theorem rk_op : rkOp.op = .assign (.tmp 26) ∧ rkOp.dst = some 8 ∧ rkOp.guard = none := ⟨by kernel_rfl,by kernel_rfl,by kernel_rfl⟩
section
variable {π : Pin} {w0 : World} {own : Nat → Prop} {w w' : World} {a a' : Act} {σ : St} {β β' : Nat → Option Value} {ok ok' : Nat → Prop}
theorem rk_step {q : Nat} (hq : 0 < q) (hat : zdk 80 (zcs f_zd) q = some (rkAt q)) (S : Sim π w0 own w a σ β ok) {ts : List Nat} {t : PT} (hpt : (rkE q σ).pt (rkSeeT ts) = t) {K : List TV → List (Nat × Ent) → Prop}
  (hs : t.sat fun p => ∃ vs hp,p = .norm vs hp ∧ K vs hp) {Q : Exit → Act → World → Prop} (hQ : ∀ vs hp a' w' β' ok',K vs hp → Sim π w0 own w' a' (spSt 86 ts vs hp) β' ok' → Q .normal a' w') : (rkAt q).wpIn (Fw π.rd) 0 pg Q a w := by
 refine wpIn_mono (zdZ (root := zcs f_zd) (L := fun _ _ => none) zcj rkTo (rkAt q) q 80 _ (fun e => ∃ p,rkSeeT ts e = some p ∧ ∃ vs hp,p = .norm vs hp ∧ K vs hp) a w _ ok hq hat (noCuts _ _) S
  (zcP.sat_pt (fun e p h1 h2 => ⟨p,h1,h2⟩) (hpt ▸ hs))) ?_
 rintro e a' w' ⟨ev,β',ok',⟨p,hp,vs,hp',rfl,hK⟩,hev⟩
 cases ev with
 | norm σ' =>
  obtain ⟨x,h1,h2⟩ := Option.map_eq_some_iff.1 (show (zgd _ _ _ σ').map _ = _ from hp)
  cases h2
  obtain ⟨rfl,S'⟩ := hev
  obtain ⟨β2,ok2,S2⟩ := zfz h1 _ _ _ _ _ _ _ S'
  exact hQ _ _ _ _ _ _ hK S2
 | ret σ' => cases hp
 | exit i σ' => cases hp
theorem Inv.drop {hp : List (Nat × Ent)} {k : Nat} {e : Ent} (I : Inv w0 own w β ok (zct (hp ++ [(k,e)]))) (hk : zct hp k = none) (hids : ∀ id e',zct hp id = some e' → k ∉ zey e'.b) :
  Inv w0 own w (fun j => if j = k then none else β j) ok (zct hp) := by
 have happ : ∀ (hp : List (Nat × Ent)) id,zct (hp ++ [(k,e)]) id = (match zct hp id with | some x => some x | none => if k = id then some e else none) := by
  intro hp
  induction hp with
  | nil => intro id; rfl
  | cons x hp ih =>
   intro id
   show (if x.1 = id then some x.2 else zct (hp ++ [(k,e)]) id) = (match (if x.1 = id then some x.2 else zct hp id) with | some x => some x | none => if k = id then some e else none)
   by_cases h : x.1 = id
   ·rw [if_pos h,if_pos h]
   ·rw [if_neg h,if_neg h]; exact ih id
 have hup : ∀ id e',zct hp id = some e' → zct (hp ++ [(k,e)]) id = some e' := fun id e' h => by rw [happ,h]
 have hne : ∀ id e',zct hp id = some e' → id ≠ k := fun id e' h h2 => by rw [h2,hk] at h; cases h
 have hβ : ∀ id v,(fun j => if j = k then none else β j) id = some v → id ≠ k ∧ β id = some v := fun id v h => by
  by_cases h2 : id = k
  ·simp [h2] at h
  ·simp only [if_neg h2] at h; exact ⟨h2,h⟩
 obtain ⟨f,kl,d,en,dw,wr,ro,sep⟩ := I
 refine ⟨f,kl,fun id v h => ?_,fun id e' h => ?_,fun id e' h hw => dw id e' (hup id e' h) hw,fun id e' v g h hw hv hg => wr id e' v g (hup id e' h) hw (hβ id v hv).2 hg,
  fun id e' v g h hw hl hv hg => ro id e' v g (hup id e' h) hw hl (hβ id v hv).2 hg,fun i e1 v1 j e2 v2 g hij h1 h2 hw hl hv1 hv2 hg1 hg2 => sep i e1 v1 j e2 v2 g hij (hup i e1 h1) (hup j e2 h2) hw hl (hβ i v1 hv1).2 (hβ j v2 hv2).2 hg1 hg2⟩
 ·obtain ⟨h1,h2⟩ := hβ id v h
  obtain ⟨e',he⟩ := d id v h2
  rw [happ] at he
  cases hx : zct hp id with
  | some x => exact ⟨x,rfl⟩
  | none =>
   rw [hx] at he
   have he : (if k = id then some e else none) = some e' := he
   rw [if_neg (fun h => h1 h.symm)] at he
   cases he
 ·refine (en id e' (hup id e' h)).sub (fun j hj u hu => ?_) fun u hu => ?_
  ·have : j ≠ k := fun h2 => hids id e' h (h2 ▸ hj)
   simp only [if_neg this]; exact hu
  ·simp only [if_neg (hne id e' h)]; exact hu
theorem rkHp_ids (fx : SFx) (x : (List Bool) × (List Int)) : ∀ id e,zct (zdp fx x) id = some e → id < 385 ∧ e.live = true ∧ ∀ j ∈ zey e.b,j < 385 := by
 intro id e h
 have hm := hget_mem h
 simp only [zdp,List.mem_cons,Prod.mk.injEq,List.not_mem_nil,or_false] at hm
 rcases hm with ⟨rfl,rfl⟩ | ⟨rfl,rfl⟩ | ⟨rfl,rfl⟩ | ⟨rfl,rfl⟩ | ⟨rfl,rfl⟩ | ⟨rfl,rfl⟩ | ⟨rfl,rfl⟩ <;> exact ⟨by decide,rfl,by simp [zey,zdb]⟩
def rkP (s : SD) (y : Nat × Int) : Prop := (Lit.int .i64 (y.1 : Int)).wf = true ∧ (Lit.int .i64 y.2).wf = true ∧ 0 ≤ y.2 ∧ y.2 < (s.1.length : Int)
def rkI (s : SD) (x : (List Bool) × (List Int)) : Prop := x.1.length = s.2.1.length ∧ x.2.length = s.1.length
abbrev rkA (s : SD) := { y : Nat × Int // rkP s y }
def rkAct (a : Act) (s : SD) (y : rkA s) : Act := { tmps := ((a.tmps.setIfInBounds 25 (.int .i64 (y.1.1 : Int))).setIfInBounds 26 (.int .i64 y.1.2)).setIfInBounds 8 (.int .i64 y.1.2),defers := [] }
theorem rk_assign (s : SD) (l : Nat) (y : rkA s) (W : World) (K : Act → World → Prop) (h : 86 = a.tmps.size) (hK : K (rkAct a s y) W) :
  rkAsg.wpIn (Fw (some l)) 0 pg (Exit.then K (fun _ _ _ => False)) { tmps := ((#[25,26] : Array Tmp).zip #[Value.int .i64 (y.1.1 : Int),Value.int .i64 y.1.2]).foldl (fun t (p,v) => t.setIfInBounds p v) a.tmps,defers := [] } W := by
 have htm : ((#[25,26] : Array Tmp).zip #[Value.int .i64 (y.1.1 : Int),Value.int .i64 y.1.2]).foldl (fun t (p,v) => t.setIfInBounds p v) a.tmps = (a.tmps.setIfInBounds 25 (.int .i64 (y.1.1 : Int))).setIfInBounds 26 (.int .i64 y.1.2) := by
  simp [Array.zip,Array.zipWith,Array.zipWithMAux]
 rw [htm,rk_asg]
 refine wpIn_region ?_
 show wpOpsIn _ _ _ _ _ [0] _ _
 obtain ⟨h1,h2,h3⟩ := rk_op
 simp only [wpOpsIn,List.getElem?_toArray,List.getElem?_cons_zero]
 rw [if_pos (by simp [Region.wanted,h3])]
 refine zcH.wp (R := fun v w' => v = .int .i64 y.1.2 ∧ w' = W) ⟨_,_,.inl ?_,rfl,rfl⟩ ?_ (fun c hc => by rw [h1] at hc; cases hc)
 ·rw [execOp,h1]
  simp [Act.eval,← h]
 ·rintro _ _ ⟨rfl,rfl⟩
  show K (Act.put _ rkOp.dst _) _
  rw [h2]
  exact hK
theorem rk_getD (s : SD) (y : rkA s) (h : 86 = a.tmps.size) (t : Nat) : (rkAct a s y).tmps.getD t undef = if t = 8 then .int .i64 y.1.2 else if t = 26 then .int .i64 y.1.2 else if t = 25 then .int .i64 (y.1.1 : Int) else a.tmps.getD t undef := by
 simp only [rkAct,Array.getD_eq_getD_getElem?,Array.getElem?_setIfInBounds,Array.size_setIfInBounds]
 by_cases h8 : t = 8
 ·subst h8; simp [← h]
 ·rw [if_neg (fun e => h8 e.symm),if_neg h8]
  by_cases h26 : t = 26
  ·subst h26; simp [← h]
  ·rw [if_neg (fun e => h26 e.symm),if_neg h26]
   by_cases h25 : t = 25
   ·subst h25; simp [← h]
   ·rw [if_neg (fun e => h25 e.symm),if_neg h25]
theorem rkRst_tv (fx : SFx) (c : Int) (x : (List Bool) × (List Int)) (t : Nat) : (rkRst fx c x).tv t = if t = 8 then .lf (.int .i64 c) else (zen 86 zfA zco (zdE (zdp fx x))).tv t := by
 have e1 : (rkRst fx c x).tv t = if t < 86 then zdY [1,4,5,6,8] [.lf (.ptr (zco + 16) 0),.lf (.ptr (zco + 64) 0),.lf (.ptr (zco + 80) 0),.lf (.ptr (zco + 96) 0),.lf (.int .i64 c)] (0 + t) else .lf .undef := zer _ _ 86 0 t
 have e2 : (zen 86 zfA zco (zdE (zdp fx x))).tv t = if t < 86 then zdY [1,4,5,6] [.lf (.ptr (zco + 16) 0),.lf (.ptr (zco + 64) 0),.lf (.ptr (zco + 80) 0),.lf (.ptr (zco + 96) 0)] (0 + t) else .lf .undef := zer _ _ 86 0 t
 rw [e1,e2,Nat.zero_add]
 by_cases h8 : t = 8
 ·subst h8; rfl
 ·rw [if_neg h8]
  split
  ·simp only [zdY]
   split; · rfl
   split; · rfl
   split; · rfl
   split; · rfl
   rw [if_neg (fun e => h8 e.symm)]
  ·rfl
theorem rk_round (s : SD) (lives : List Bool) (f : rkA s → (List Bool) × (List Int) → (List Bool) × (List Int)) (hf : ∀ y x,rkI s x → rkI s (f y x) ∧ (rkR (zej s lives) y.1.2 x).run (fun _ => none) = some (f y x)) (a : Act) (y : rkA s) (x : (List Bool) × (List Int)) (hx : rkI s x) :
  rkI s (f y x) ∧ ∀ l W okr βr,Sim ⟨βr,okr,some l,[]⟩ W (ownOf βr (zct (zdE (zdp (zej s lives) x)))) W (rkAct a s y) (rkRst (zej s lives) y.1.2 x) βr okr →
   zeN.wpIn (Fw (some l)) 0 pg (zeu ⟨βr,okr,some l,[]⟩ W (ownOf βr (zct (zdE (zdp (zej s lives) x)))) (fun ev => ∃ σ,ev = .norm σ ∧ Weak σ (zen 86 [] 0 (zdE (zdp (zej s lives) (f y x)))))) (rkAct a s y) W := by
 obtain ⟨h1,h2⟩ := hf y x hx
 refine ⟨h1,fun l W okr βr S => ?_⟩
 have hcuts := cuts_ok zcj zd_r_To (root := zeN) (len := 86) (ps := zd_r_P) (by kernel_rfl) zd_r_ks (maxQ zd_r_P + 1) 2 (by omega)
 have hsat := RT.sat (r := f y x) (again := fun _ => none) (f := fun _ => PE.norm [] []) (g := fun x' => PE.norm [] (zdE (zdp (zej s lives) x'))) (K := fun p => p = .norm [] (zdE (zdp (zej s lives) (f y x)))) (fun _ h => by cases h) rfl h2
 rw [← rk_body] at hsat
 refine wpIn_mono (zdZ (π := ⟨βr,okr,some l,[]⟩) (root := zeN) zcj zd_r_To zeN 1 0 _ (fun e => ∃ p,rkSee e = some p ∧ p = .norm [] (zdE (zdp (zej s lives) (f y x)))) _ W βr okr (by decide) rfl hcuts S
  (zcP.sat_pt (fun e p h1 h2 => ⟨p,h1,h2⟩) hsat)) ?_
 rintro e a' w' ⟨ev,β',ok',⟨p,hp,rfl⟩,hev⟩
 refine ⟨ev,β',ok',?_,hev⟩
 cases ev with
 | norm σ' =>
  obtain ⟨⟨z1,z2⟩,h3,h4⟩ := Option.map_eq_some_iff.1 (show (zgd _ _ _ σ').map _ = _ from hp)
  have hw := zfz h3
  cases h4
  exact ⟨σ',rfl,hw⟩
 | ret σ' => cases hp
 | exit i σ' => cases hp
def rkMk (D : Nat) : Deferred := { target := .collected D,args := #[] }
theorem rk_tail (fx : SFx) (x : (List Bool) × (List Int)) {D : Nat} {W : World} (hπ : π.rd = none) (hdf : π.df = []) (hD : w0.heap.size ≤ D) (hdD : W.heap[D]? = some (.deferred (some []))) (S : Sim π w0 own W a (zen 86 zfA 0 (zdp fx x)) β ok) (ha : a.defers = []) :
  (rkAt 15).wpIn (Fw none) 0 pg (fun e a w => MarkOK π w0 own (RetOK pg f_zd 0 [] (io_zd.res x)) e a w) { a with defers := rkMk D :: a.defers } W := by
 have S1 := S.rebase none [rkMk D] (a' := { a with defers := rkMk D :: a.defers }) rfl (by show rkMk D :: a.defers = _; rw [ha])
 have hsat : ((rkE 15 (zen 86 zfA 0 (zdp fx x))).pt rkSeeR).sat (fun p => p = .ret [.lf (.ref 240),.lf (.ref 304)] (zdp fx x)) := by
  rw [rk_t]; exact PT.rq_sat 4 rfl
 refine wpIn_mono (zdZ (π := ⟨β,ok,none,[rkMk D]⟩) (root := zcs f_zd) (L := fun _ _ => none) zcj rkTo (rkAt 15) 15 80 _ (fun e => ∃ p,rkSeeR e = some p ∧ p = .ret [.lf (.ref 240),.lf (.ref 304)] (zdp fx x)) _ W β ok (by decide) rk_at15 (noCuts _ _) S1
  (zcP.sat_pt (fun e p h1 h2 => ⟨p,h1,h2⟩) hsat)) ?_
 rintro e a' w' ⟨ev,β',ok',⟨p,hp,rfl⟩,hev⟩
 cases ev with
 | norm σ' => cases hp
 | exit i σ' => cases hp
 | ret σ' =>
  obtain ⟨⟨z1,z2⟩,h3,h4⟩ := Option.map_eq_some_iff.1 (show (zgd _ _ _ σ').map _ = _ from hp)
  have hw := zfz h3
  cases h4
  obtain ⟨rfl,S2⟩ := hev
  obtain ⟨β3,ok3,S3⟩ := hw _ _ _ _ _ _ _ S2
  have S4 : Sim π w0 own w' { a' with defers := [] } (spSt 86 [2,3] [.lf (.ref 240),.lf (.ref 304)] (zdp fx x)) β3 ok3 := S.back S3 rfl (by rw [hdf])
  have hpl : ∀ t,plainTV ((spSt 86 [2,3] [.lf (.ref 240),.lf (.ref 304)] (zdp fx x)).tv t) := fun t => by
   have e1 : (spSt 86 [2,3] [.lf (.ref 240),.lf (.ref 304)] (zdp fx x)).tv t = if t < 86 then zdY [2,3] [.lf (.ref 240),.lf (.ref 304)] (0 + t) else .lf .undef := zer _ _ 86 0 t
   rw [e1]
   split
   ·simp only [zdY]
    split; · trivial
    split <;> trivial
   ·trivial
  have S5 := S4.norm hpl
  have hlt : D < W.heap.size := (Array.getElem?_eq_some_iff.1 hdD).1
  have hD' : w'.heap[D]? = some (.deferred (some [])) := by
   rw [S3.inv.fr.block D hlt fun ⟨id,e,v,h5,h6,h7,h8⟩ => ?_]
   ·exact hdD
   ·obtain ⟨o,h9,h10⟩ := (S.inv.ent id e h5).at (rkHp_ids fx x id e h5).2.1 h7 h8
    rw [hdD] at h9; cases h9; cases h10
  obtain ⟨S6,_⟩ := S5.grown (fun b hb => hb.2) (grownBy_putObj' w' D (.deferred none)) (fun r hr => by cases hr; exact ⟨hD,_,hD',rfl⟩)
  refine ⟨rfl,D,_,_,_,?_,S3.def0,hD',S6⟩
  have ho := rk_o fx x
  obtain ⟨r',h7,h8⟩ := Option.map_eq_some_iff.1 (show ((weaken [] (spSt 86 [2,3] [.lf (.ref 240),.lf (.ref 304)] (zdp fx x))).bind (outOf pg f_zd 0 false)).map PE.out = _ from ho)
  cases h8
  obtain ⟨σ3,h9,h10⟩ := Option.bind_eq_some_iff.1 h7
  exact ⟨σ3,h9,_,h10,rfl,rfl,rfl⟩
theorem rk_callFunc (args : Array Value) (w : World) : (callFunc 210 args).run pg w = .ok (.enter 210 args) w := by
 have h1 : pg.funcs[210]? = some f_zcf := by kernel_rfl
 have h2 : f_zcf.body.isSome = true := by kernel_rfl
 have h3 : (f_zcf.name == "runtime.NumGoroutine") = false := by kernel_rfl
 have hb2 : f_zcf.body ≠ none := by intro h; rw [h] at h2; cases h2
 have hn2 : f_zcf.name ≠ "runtime.NumGoroutine" := by simpa using h3
 simp [callFunc,h1,hn2,hb2]
theorem rk_call (s : SD) (lives : List Bool) (ord : List Int) (f : rkA s → (List Bool) × (List Int) → (List Bool) × (List Int)) (hlive : sdLiveOK s = true) (hlv : lives = zgn s) (hord : sdOrdOK s = true) (hov : ord = sdOrd s)
  (hm1 : mkOK 1 (s.2.1.length : Int) = true) (hm2 : mkOK 8 (s.1.length : Int) = true) (hlen : ord.length * 8 ≤ 140737488351232) (hP : ∀ j,j < ord.length → rkP s (j,ord[j]?.getD 0)) (hR0 : rkI s (rkX0 s))
  (hf : ∀ y x,rkI s x → rkI s (f y x) ∧ (rkR (zej s lives) y.1.2 x).run (fun _ => none) = some (f y x)) :
  zeC pg n_zd (io_zd.as s) (io_zd.es s) (io_zd.res ((Bw.listP (rkP s) ord hP).foldl (fun x y => f y x) (rkX0 s))) := by
 have hfn : pg.funcs[n_zd]? = some f_zd := by kernel_rfl
 have hbody : f_zd.body = some (zcs f_zd) := by kernel_rfl
 have hnt : f_zd.ntmps = 86 := by kernel_rfl
 refine fnSoundM hfn hbody [] fun π w0 own a w β ok hrd hdf S => ?_
 rw [hnt] at S
 rw [rk_code]
 refine wpIn_seq (rk_step (by decide) rk_at2 S (rk_r0 s) (K := fun vs hp => vs = [.lf (.ptr 16 0)] ∧ hp = [(16,⟨true,.cells (sdLs s)⟩)]) (PT.rq_sat 3 ⟨_,_,rfl,rfl,rfl⟩) ?_)
 rintro _ _ a1 w1 β1 ok1 ⟨rfl,rfl⟩ S1
 refine wpIn_seq (rk_step (by decide) rk_at6 S1 (rk_r1 s) (K := fun vs hp => vs = [.lf (.ptr 16 0),.lf (.ptr 64 0),.lf (.ptr 80 0),.lf (.ptr 96 0)] ∧ hp = zdp (zej s lives) (rkX0 s)) ?_ ?_)
 ·refine RT.sat (r := lives) (again := fun _ => none) (fun _ h => by cases h) ⟨_,_,rfl,rfl,rfl⟩ ?_
  simp only [RT.run,hm1,hm2,hlive,hlv,if_true]
 rintro _ _ a2 w2 β2 ok2 ⟨rfl,rfl⟩ S2
 refine wpIn_seq (wpIn_seq (rk_step (by decide) rk_at28 (S2 : Sim π w0 own w2 a2 (zen 86 zfA 0 (zdp (zej s lives) (rkX0 s))) β2 ok2) (rk_r2 s lives)
  (K := fun vs hp => vs = [.lf (.ptr 16 0),.lf (.ptr 64 0),.lf (.ptr 80 0),.lf (.ptr 96 0),.lf (.fn 210 [385])] ∧ hp = zdp (zej s lives) (rkX0 s) ++ [(385,⟨true,.cells [.dat tI ord]⟩)]) ?_ ?_))
 ·refine RT.sat (r := ord) (again := fun _ => none) (fun _ h => by cases h) ⟨_,_,rfl,rfl,rfl⟩ ?_
  simp only [RT.run,hord,hov,if_true]
 rintro _ _ a3 w3 β3 ok3 ⟨rfl,rfl⟩ S3
 have ha3 : a3.defers = [] := S3.def0.trans hdf
 have hsz : 86 = a3.tmps.size := by rw [S3.size]; exact (zcY ..).symm
 have tv3 : ∀ t,(spSt 86 [1,4,5,6,24] [.lf (.ptr 16 0),.lf (.ptr 64 0),.lf (.ptr 80 0),.lf (.ptr 96 0),.lf (.fn 210 [385])] (zdp (zej s lives) (rkX0 s) ++ [(385,⟨true,.cells [.dat tI ord]⟩)])).tv t =
   if t = 24 then .lf (.fn 210 [385]) else (zen 86 zfA 0 (zdp (zej s lives) (rkX0 s))).tv t := fun t => by
  have e1 : (spSt 86 [1,4,5,6,24] [.lf (.ptr 16 0),.lf (.ptr 64 0),.lf (.ptr 80 0),.lf (.ptr 96 0),.lf (.fn 210 [385])] (zdp (zej s lives) (rkX0 s) ++ [(385,⟨true,.cells [.dat tI ord]⟩)])).tv t =
   if t < 86 then zdY [1,4,5,6,24] [.lf (.ptr 16 0),.lf (.ptr 64 0),.lf (.ptr 80 0),.lf (.ptr 96 0),.lf (.fn 210 [385])] (0 + t) else .lf .undef := zer _ _ 86 0 t
  have e2 : (zen 86 zfA 0 (zdp (zej s lives) (rkX0 s))).tv t = if t < 86 then zdY [1,4,5,6] [.lf (.ptr 16 0),.lf (.ptr 64 0),.lf (.ptr 80 0),.lf (.ptr 96 0)] (0 + t) else .lf .undef := zer _ _ 86 0 t
  rw [e1,e2,Nat.zero_add]
  by_cases h8 : t = 24
  ·subst h8; rfl
  ·rw [if_neg h8]
   split
   ·simp only [zdY]
    split; · rfl
    split; · rfl
    split; · rfl
    split; · rfl
    rw [if_neg (fun e => h8 e.symm)]
   ·rfl
 have hk385 : zct (zdp (zej s lives) (rkX0 s)) 385 = none := by
  cases h : zct (zdp (zej s lives) (rkX0 s)) 385 with
  | none => rfl
  | some e => exact absurd (rkHp_ids _ _ _ _ h).1 (by decide)
 have hget385 : zct (zdp (zej s lives) (rkX0 s) ++ [(385,⟨true,.cells [.dat tI ord]⟩)]) 385 = some ⟨true,.cells [.dat tI ord]⟩ := rfl
 have t24 := S3.tmps 24
 rw [tv3,if_pos rfl] at t24
 obtain ⟨vs,hv24,hcaps⟩ := t24
 obtain ⟨cv,rfl,g,hβg,hcv⟩ : ∃ cv,vs = [cv] ∧ ∃ b,β3 385 = some (.pointer (some ⟨b,0,none⟩)) ∧ cv = .pointer (some ⟨b,0,none⟩) := by
  match vs,hcaps with
  | [cv],⟨⟨b,h1,h2⟩,_⟩ => exact ⟨cv,rfl,b,h1,h2⟩
  | [],h => exact h.elim
  | _ :: _ :: _,⟨_,h⟩ => exact h.elim
 subst hcv
 obtain ⟨g',cs,et,h1,h2,h3⟩ := S3.inv.ent 385 _ hget385
 rw [hβg] at h1
 cases h1
 obtain ⟨sv,hcs,hsv⟩ : ∃ sv,cs.toList = [sv] ∧ zcM w3 ok3 (.sl tI) [sv] ord := by
  generalize cs.toList = q at h3
  match q,h3 with
  | [u],⟨h,_⟩ => exact ⟨u,rfl,h⟩
  | [],h => exact h.elim
  | _ :: _ :: _,⟨_,h⟩ => exact h.elim
 have hcell : w3.cell? ⟨g,0,none⟩ = some sv := by
  rw [show (⟨g,0,none⟩ : Addr) = ⟨g,0,none⟩ from rfl,cell_of_row w3 g 0 cs et (0,0) h2]
  have : cs.toList[0]? = some sv := by rw [hcs]; rfl
  simpa using this
 let Z : Nat → Prop := fun k => k = g ∨ (ok3 k ∧ ∃ o n c,sv = .slice (some ⟨k,o,none⟩) n c)
 have hZlt : ∀ b,Z b → b < w3.heap.size := fun b hb => by
  rcases hb with rfl | ⟨hb,_⟩
  ·exact (Array.getElem?_eq_some_iff.1 h2).1
  ·exact S3.inv.okLt b hb
 have hints : Bw.Ints Z w3 sv ord := by
  obtain ⟨A,cap,he,k1,k2,k0,k3⟩ := hsv
  cases he
  by_cases hn : ord = []
  ·exact .inl ⟨A,cap,by rw [hn]; rfl,hn⟩
  ·have hpos : 0 < ord.length := List.length_pos_iff.2 hn
   obtain ⟨b,o,us,hA,hb,_⟩ := k3 0 hpos
   subst hA
   refine .inr ⟨b,o,cap,rfl,.inr ⟨hb,_,_,_,rfl⟩,fun j hj => ?_⟩
   obtain ⟨b',o',us',hA',_,hul,hm,hd⟩ := k3 j hj
   cases hA'
   obtain ⟨hus,_⟩ := hd
   subst hus
   have := hm 0 _ rfl
   rw [List.getElem?_eq_getElem hj]
   rw [show o + j * tI.size + 0 = o + j by show o + j * 1 + 0 = o + j; omega] at this
   simpa using this
 let β0 : Nat → Option Value := fun j => if j = 385 then none else β3 j
 have I0 : Inv w0 own w3 β0 ok3 (zct (zdp (zej s lives) (rkX0 s))) := S3.inv.drop hk385 fun id e h hc => absurd ((rkHp_ids _ _ _ _ h).2.2 _ hc) (by decide)
 have S0 : Sim π w0 own w3 a3 (zen 86 zfA 0 (zdp (zej s lives) (rkX0 s))) β0 ok3 := by
  refine ⟨I0,fun t => ?_,hsz.symm.trans (zcY ..).symm,S3.def0,fun id v h4 h5 => ?_,S3.okB⟩
  ·have ht := S3.tmps t
   rw [tv3] at ht
   rcases ptSt_tv (N := 86) (pts := zfA) (up := 0) (hp := zdp (zej s lives) (rkX0 s)) t with h4 | ⟨p,hp,hpt,h4⟩
   ·rw [h4]; trivial
   ·have hne : t ≠ 24 := by
     simp only [zfA,List.mem_cons,List.not_mem_nil,or_false] at hp
     rcases hp with rfl | rfl | rfl | rfl <;> (subst hpt; decide)
    rw [if_neg hne,h4] at ht
    rw [h4]
    obtain ⟨b,h5,h6⟩ := ht
    refine ⟨b,?_,h6⟩
    have : 0 + p.2 ≠ 385 := by
     simp only [zfA,List.mem_cons,List.not_mem_nil,or_false] at hp
     rcases hp with rfl | rfl | rfl | rfl <;> decide
    show (if 0 + p.2 = 385 then none else β3 (0 + p.2)) = _
    rw [if_neg this]; exact h5
  ·have h5 : (if id = 385 then none else β3 id) = some v := h5
   split at h5
   ·cases h5
   ·exact S3.pin id v h4 h5
 rw [hrd]
 refine wpIn_block ?_
 rw [rk_58]
 refine wpR_n (n := 2) (range_wp (lb := #[.pointer (some ⟨g,0,none⟩)]) (L := Bw.listP (rkP s) ord hP) (N := 86) (pts := zfA) (hp := zdp (zej s lives)) (f := f) (R := rkI s) (Z := Z) (rst := fun y x => rkRst (zej s lives) y.1.2 x) (a₁ := rkAct a3 s) (n := ord.length)
  (encs := fun x : rkA s => #[Value.int .i64 (x.1.1 : Int),Value.int .i64 x.1.2]) S0 (fun x id e h => ?_) (fun x id e h => (rkHp_ids _ _ _ _ h).2.1) (fun p hp x => ?_) hv24 rk_callFunc (fun b hb => ⟨hZlt b hb,?_⟩)
  (Bw.stops (Fw none) 1 trivial rfl (by decide) g Z sv ord hlen w3 (.inl rfl) hZlt hcell hints (rkP s) hP) (fun _ => rfl) (fun l y W K hK => rk_assign s l y W K hsz hK) (fun y => ⟨by simp [rkAct,← hsz],rfl⟩) (fun y x => ⟨zcY ..,rfl⟩) ?_ hR0 (fun y x hx => rk_round s lives f hf a3 y x hx) ?_)
 ·obtain ⟨h4,_,h5⟩ := rkHp_ids _ _ _ _ h
  exact ⟨Nat.lt_trans h4 (by decide),fun j hj => Nat.lt_trans (h5 j hj) (by decide)⟩
 ·simp only [zfA,List.mem_cons,List.not_mem_nil,or_false] at hp
  rcases hp with rfl | rfl | rfl | rfl <;> rfl
 ·-- what is read is not what is written
  rintro ⟨id,e,v,h4,h5,h6,h7⟩
  have h6' : (if id = 385 then none else β3 id) = some v := h6
  split at h6'
  ·cases h6'
  rename_i hne
  rcases hb with rfl | ⟨hb,_⟩
  ·have hup : zct (zdp (zej s lives) (rkX0 s) ++ [(385,⟨true,.cells [.dat tI ord]⟩)]) id = some e := by
    have hm := hget_mem h4
    simp only [zdp,zej,List.mem_cons,Prod.mk.injEq,List.not_mem_nil,or_false] at hm
    rcases hm with ⟨rfl,rfl⟩ | ⟨rfl,rfl⟩ | ⟨rfl,rfl⟩ | ⟨rfl,rfl⟩ | ⟨rfl,rfl⟩ | ⟨rfl,rfl⟩ | ⟨rfl,rfl⟩ <;> rfl
   exact S3.inv.sep id e v 385 _ _ b hne hup hget385 h5 rfl h6' hβg h7 rfl
  ·exact (I0.wr id e v b h4 h5 h6 h7).1 hb
 ·-- the round's frame
  intro y x W β' ok' ht t
  have h0 := ht t
  rw [rkRst_tv,rk_getD s y hsz]
  by_cases h8 : t = 8
  ·subst h8; rw [if_pos rfl,if_pos rfl]; exact ⟨rfl,y.2.2.1⟩
  ·rw [if_neg h8,if_neg h8]
   rcases ptSt_tv (N := 86) (pts := zfA) (up := zco) (hp := zdE (zdp (zej s lives) x)) t with h4 | ⟨p,hp,hpt,h4⟩
   ·rw [h4]; trivial
   ·have hne : t ≠ 26 ∧ t ≠ 25 := by
     simp only [zfA,List.mem_cons,List.not_mem_nil,or_false] at hp
     rcases hp with rfl | rfl | rfl | rfl <;> (subst hpt; exact ⟨by decide,by decide⟩)
    rw [if_neg hne.1,if_neg hne.2]
    exact h0
 ·-- behind the loop
  intro D W β4 ok4 hD hdD S4 _
  refine wpIn_mono (rk_tail (zej s lives) _ hrd hdf (Nat.le_trans S3.inv.fr.size hD) hdD S4 ha3) fun e a' w' h => .inr h
end
end
end Go.Proofs.YtlfdidaeachpoaaGreat
namespace Go.Proofs.YtlfdidaeachpoaaGreat
open Go Go.RowKit
set_option maxRecDepth 100000
noncomputable section
def rkCnt (b : List Tk) (lives cnt : List Bool) (am : List Int) (k : Int) : List Bool :=
 if (gI b k).2.2.2.1 == 1 then sI cnt k ((gI b k).2.2.2.2.2 && gI lives (gI b k).2.2.2.2.1)
 else if (gI b k).2.2.2.1 == 2 then sI cnt k ((gI b k).2.2.2.2.2 && decide (0 < gI am (gI b k).2.2.2.2.1)) else cnt
def zdf (b : List Tk) (lives : List Bool) (c : Int) (x : (List Bool) × (List Int)) (k : Int) : (List Bool) × (List Int) :=
 (rkCnt b lives x.1 x.2 k,if gI (rkCnt b lives x.1 x.2 k) k then sI x.2 c (w64 (gI x.2 c + (gI b k).2.2.1)) else x.2)
def rkRound (b : List Tk) (lives : List Bool) (c : Int) (x : (List Bool) × (List Int)) : (List Bool) × (List Int) := (zcI b c).foldl (zdf b lives c) x
def tkOK (a b : Nat) (t : Tk) : Bool := !t.1 || ((!(t.2.2.2.1 == 1) || (decide (0 ≤ t.2.2.2.2.1) && decide (t.2.2.2.2.1 < (b : Int)))) && (!(t.2.2.2.1 == 2) || (decide (0 ≤ t.2.2.2.2.1) && decide (t.2.2.2.2.1 < (a : Int)))))
theorem zgx (b : List Tk) (lives cnt : List Bool) (am : List Int) (k : Int) : (rkCnt b lives cnt am k).length = cnt.length := by
 unfold rkCnt; split
 ·simp [sI]
 ·split <;> simp [sI]
theorem issued_mem {b : List Tk} {c k : Int} (h : k ∈ zcI b c) : 0 ≤ k ∧ k < (b.length : Int) ∧ (gI b k).1 = true ∧ (gI b k).2.1 = c := by
 obtain ⟨j,hj,rfl⟩ := List.mem_map.1 h
 obtain ⟨h1,h2⟩ := List.mem_filter.1 hj
 rw [List.mem_range] at h1
 unfold isTk at h2
 rw [zfD]
 simp only [Bool.and_eq_true,beq_iff_eq] at h2
 exact ⟨by omega,by omega,h2⟩
theorem rk_loop (b : List Tk) (lives : List Bool) (c : Int) {na nb : Nat} (hb : b.length ≤ 1000000) (hok : b.all (tkOK na nb) = true) (hlv : lives.length = nb) (hc : 0 ≤ c ∧ c < (na : Int)) (hl : (zcI b c).length ≤ 1000000) : ∀ (d i : Nat) (x : (List Bool) × (List Int)),i + d = (zcI b c).length → x.1.length = b.length → x.2.length = na →
  lo zd_r_b10 (c,((zcI b c).length : Int),b,lives,zcI b c) ((i : Int),x.1,x.2) = some (((zcI b c).drop i).foldl (zdf b lives c) x)
 | 0,i,x,h,_,_ => by
  rw [zcr,zd_r_b10]
  simp only [RT.run]
  rw [if_neg (by simp; omega),List.drop_eq_nil_of_le (by omega)]
  rfl
 | d + 1,i,x,h,h1,h2 => by
  have hi : i < (zcI b c).length := by omega
  obtain ⟨k0,k1,k2,k3⟩ := issued_mem (List.getElem_mem hi)
  generalize hk : (zcI b c)[i] = k at *
  have hkb : inB b k = true := zcn.2 ⟨k0,k1⟩
  have hkx : inB x.1 k = true := zcn.2 ⟨k0,by rw [h1]; exact k1⟩
  have hcx : inB x.2 c = true := zcn.2 ⟨hc.1,by rw [h2]; exact hc.2⟩
  have htk : tkOK na nb (gI b k) = true := by
   obtain ⟨j,rfl⟩ := Int.eq_ofNat_of_zero_le k0
   rw [zcL (by omega)]
   exact List.all_eq_true.1 hok _ (List.getElem_mem _)
  unfold tkOK at htk
  rw [k2] at htk
  simp only [Bool.not_true,Bool.false_or,Bool.and_eq_true,Bool.or_eq_true,Bool.not_eq_true',beq_eq_false_iff_ne,decide_eq_true_eq] at htk
  have hcnt : on zhR (k,x.1,x.2,lives,(gI b k).2.2.2.1,(gI b k).2.2.2.2.1,(gI b k).2.2.2.2.2) = some (rkCnt b lives x.1 x.2 k) := by
   show (zhR _).run _ = _
   rw [zhR]
   simp only [RT.run]
   unfold rkCnt
   by_cases q1 : (gI b k).2.2.2.1 = 1
   ·have q1' : ((gI b k).2.2.2.1 == 1) = true := by simpa using q1
    have hin : inB lives (gI b k).2.2.2.2.1 = true := zcn.2 (by
     rcases htk.1 with h | h
     ·exact absurd q1 h
     ·rw [hlv]; exact h)
    rw [if_pos q1',if_pos q1']
    have : on zgW (k,x.1,lives,(gI b k).2.2.2.2.1,(gI b k).2.2.2.2.2) = some (sI x.1 k ((gI b k).2.2.2.2.2 && gI lives (gI b k).2.2.2.2.1)) := by
     show (zgW _).run _ = _
     rw [zgW]
     simp only [RT.run]
     cases (gI b k).2.2.2.2.2 with
     | true => rw [if_pos rfl,if_pos hin,if_pos hkx,Bool.true_and]
     | false => rw [if_neg (by simp),if_pos hkx,Bool.false_and]
    rw [this]; rfl
   ·have q1' : ¬ ((gI b k).2.2.2.1 == 1) = true := by simpa using q1
    rw [if_neg q1',if_neg q1']
    by_cases q2 : (gI b k).2.2.2.1 = 2
    ·have q2' : ((gI b k).2.2.2.1 == 2) = true := by simpa using q2
     have hin : inB x.2 (gI b k).2.2.2.2.1 = true := zcn.2 (by
      rcases htk.2 with h | h
      ·exact absurd q2 h
      ·rw [h2]; exact h)
     rw [if_pos q2',if_pos q2']
     have : on zgr (k,x.1,x.2,(gI b k).2.2.2.2.1,(gI b k).2.2.2.2.2) = some (sI x.1 k ((gI b k).2.2.2.2.2 && decide (0 < gI x.2 (gI b k).2.2.2.2.1))) := by
      show (zgr _).run _ = _
      rw [zgr]
      simp only [RT.run]
      cases (gI b k).2.2.2.2.2 with
      | true => rw [if_pos rfl,if_pos hin,if_pos hkx,Bool.true_and]
      | false => rw [if_neg (by simp),if_pos hkx,Bool.false_and]
     rw [this]; rfl
    ·have q2' : ¬ ((gI b k).2.2.2.1 == 2) = true := by simpa using q2
     rw [if_neg q2',if_neg q2']
  have hgk : gI (zcI b c) (i : Int) = k := by rw [zcL hi,hk]
  have hin4 : inB (rkCnt b lives x.1 x.2 k) k = true := zcn.2 ⟨k0,by rw [zgx,h1]; exact k1⟩
  rw [zcr,zd_r_b10]
  simp only [RT.run]
  rw [if_pos (by simp; omega),if_pos (zcn.2 ⟨by omega,by omega⟩),hgk,if_pos hkb,hcnt,Option.bind_some,if_pos hin4,zcm (by omega),show (i : Int) + 1 = ((i + 1 : Nat) : Int) by omega,List.drop_eq_getElem_cons hi,List.foldl_cons,hk]
  by_cases hv : gI (rkCnt b lives x.1 x.2 k) k = true
  ·rw [if_pos hv,if_pos hcx,if_pos hcx]
   have := rk_loop b lives c hb hok hlv hc hl d (i + 1) (zdf b lives c x k) (by omega) (by rw [zdf,zgx,h1]) (by simp only [zdf,if_pos hv,sI,List.length_set]; exact h2)
   simp only [zdf,if_pos hv] at this ⊢
   exact this
  ·rw [if_neg hv]
   have := rk_loop b lives c hb hok hlv hc hl d (i + 1) (zdf b lives c x k) (by omega) (by rw [zdf,zgx,h1]) (by simp only [zdf,if_neg hv]; exact h2)
   simp only [zdf,if_neg hv] at this ⊢
   exact this
theorem rkFold_len {b : List Tk} {lives : List Bool} {c : Int} : ∀ (l : List Int) (x : (List Bool) × (List Int)),(l.foldl (zdf b lives c) x).1.length = x.1.length ∧ (l.foldl (zdf b lives c) x).2.length = x.2.length
 | [],_ => ⟨rfl,rfl⟩
 | k :: l,x => by
  obtain ⟨h1,h2⟩ := rkFold_len (b := b) (lives := lives) (c := c) l (zdf b lives c x k)
  rw [List.foldl_cons]
  refine ⟨h1.trans (by rw [zdf,zgx]),h2.trans ?_⟩
  simp only [zdf]
  split <;> simp [sI]
theorem kahn_len (m : Nat) (l : List (Int × Int)) : (zdD m l).2.length ≤ m := by
 unfold zdD
 cases h : kahn m l m [] with
 | none => simp
 | some o => have := ziA h; simp at this; show o.length ≤ m; omega
def zfb (s : SD) : (List Bool) × (List Int) := (sdOrd s).reverse.foldl (fun x c => rkRound s.2.1 (zgn s) c x) (rkX0 s)
def reckOK (s : SD) : Bool := sdLiveOK s && (sdOrdOK s && s.2.1.all (tkOK s.1.length s.2.2.1.length))
def e_zd : zcq := io_zd.sp reckOK zfb
theorem ziW (b : List Tk) (c : Int) : (zcI b c).length ≤ b.length := by
 unfold zcI
 rw [List.length_map]
 exact Nat.le_trans (List.length_filter_le ..) (by simp)
theorem reck_call (s : SD) (hc : reckOK s = true) : zeC pg n_zd (io_zd.as s) (io_zd.es s) (io_zd.res (zfb s)) := by
 unfold reckOK at hc
 simp only [Bool.and_eq_true] at hc
 obtain ⟨hl,ho,ht⟩ := hc
 have ho' := ho
 have hl' := hl
 simp only [sdOrdOK,sdLiveOK,Bool.and_eq_true,decide_eq_true_eq] at ho' hl'
 have hlv : (zgn s).length = s.2.2.1.length := by simp [zgn,liveV]
 have hord : (sdOrd s).length ≤ s.1.length := by
  unfold sdOrd zcG
  exact Nat.le_trans (List.length_filter_le ..) (kahn_len _ _)
 have hin : inR s.1.length (sdOrd s) := fun k hk => (zie _ _).inr k (List.mem_filter.1 hk).1
 have hP : ∀ j,j < (sdOrd s).length → rkP s (j,(sdOrd s)[j]?.getD 0) := fun j hj => by
  have hk := hin _ (List.getElem_mem hj)
  rw [List.getElem?_eq_getElem hj]
  have h1 : IntKind.i64.min = -9223372036854775808 := by decide
  have h2 : IntKind.i64.max = 9223372036854775807 := by decide
  refine ⟨wf_iff.2 (by rw [h1,h2]; simp only; omega),wf_iff.2 (by rw [h1,h2]; simp only [Option.getD_some]; omega),hk.1,hk.2⟩
 have := rk_call s (zgn s) (sdOrd s) (fun y x => rkRound s.2.1 (zgn s) y.1.2 x) hl rfl ho rfl (zdF.2 ⟨by omega,by omega,by omega⟩) (zdF.2 ⟨by omega,by omega,by omega⟩) (by omega) hP ⟨by simp [rkX0,zdd],by simp [rkX0,zdd]⟩ (fun y x hx => ?_)
 ·have hfold : (Bw.listP (rkP s) (sdOrd s) hP).foldl (fun x y => rkRound s.2.1 (zgn s) y.1.2 x) (rkX0 s) = zfb s := by
   unfold zfb
   rw [← Bw.list_snd,← Bw.listP_val (p := rkP s) (hp := hP),List.map_map,List.foldl_map]
   rfl
  exact Eq.mp (congrArg (fun z : (List Bool) × (List Int) => zeC pg n_zd (io_zd.as s) (io_zd.es s) (io_zd.res z)) hfold) this
 ·obtain ⟨h1,h2⟩ := hx
  obtain ⟨h3,h4⟩ := rkFold_len (b := s.2.1) (lives := zgn s) (c := y.1.2) (zcI s.2.1 y.1.2) x
  refine ⟨⟨h3.trans h1,h4.trans h2⟩,?_⟩
  obtain ⟨a,b,c,d,e,f⟩ := s
  obtain ⟨x1,x2⟩ := x
  show (zd_r (y.1.2,a,b,c,d,e,f,x1,x2,zgn (a,b,c,d,e,f))).run _ = _
  rw [zd_r]
  simp only [RT.run]
  have hil := ziW b y.1.2
  have := rk_loop b (zgn (a,b,c,d,e,f)) y.1.2 (na := a.length) (nb := c.length) ho'.1 ht hlv ⟨y.2.2.2.1,y.2.2.2.2⟩ (Nat.le_trans hil ho'.1) (zcI b y.1.2).length 0 (x1,x2) (by omega) h1 h2
  rw [show ((0 : Nat) : Int) = 0 from rfl] at this
  rw [if_pos (decide_eq_true ho'.1),this]
  rfl
theorem e_zd_ok : e_zd.ok pg := zcq.data_ok fun args es r h hv => by
 unfold Io.spAns at h
 simp only at h
 split at h
 case h_2 => cases h
 rename_i x hx
 cases h
 obtain ⟨h1,h2⟩ := Io.rd_as hx
 rw [← h1,← h2]
 exact ⟨⟨f_zd,by kernel_rfl,by kernel_rfl,by kernel_rfl⟩,zeC.vc (reck_call x hv)⟩
end
end Go.Proofs.YtlfdidaeachpoaaGreat
namespace Go.Proofs.YtlfdidaeachpoaaGreat
open Go Go.RowKit
set_option maxRecDepth 100000
noncomputable section
def zax : ((List Bool) × (List Tk) × (List Th) × (List Lk) × (List Int) × Int) → RT Unit (List Bool)
| (s_0,s_1,s_2,s_3,s_4,s_5) =>
 .rq 3 (.req ((reckOK (s_0,s_1,s_2,s_3,s_4,s_5))) (.rq 7 (.done ((zfb (s_0,s_1,s_2,s_3,s_4,s_5))).1)))
def F_zax (x : (List Bool) × (List Tk) × (List Th) × (List Lk) × (List Int) × Int) : Option (List Bool) := (zax x).run fun _ => none
def io_zax : Io := ⟨n_zax,[.sl tB,.sl yK,.sl yH,.sl yL,.sl tI,tI],[.agg [qm 0,qm 1,qm 2,qm 3,qm 4,qm 5]],[],[[.sl tB,.sl yK,.sl yH,.sl yL,.sl tI,tI]],[.sl tB],.lf (qr 0),[],[(true,.arr 4 (qm 0))],false⟩
def zax_P : List zch := []
def zax_T : zcl := tab [e_zd]
theorem zax_To : zck pg zax_T := zci ⟨e_zd_ok,trivial⟩
theorem zax_go : zcy pg (zax_T) io_zax f_zax (zax_P) [.nilRow 2 800002 4 tB,.ren 2 700002,.ren 2 900002] (zax) := ⟨by kernel_rfl,by kernel_rfl,fun x => by kernel_rfl⟩
theorem ok_zax : io_zax.Okay pg (F_zax) := zcu zcj (zax_To) (zax_go) trivial
def e_zax : zcq := io_zax.sp (fun (a,b,c,d,e,f) => (reckOK (a,b,c,d,e,f))) (fun (a,b,c,d,e,f) => ((zfb (a,b,c,d,e,f)).1))
theorem sp_zax (h : ∀ (a : List Bool) (b : List Tk) (c : List Th) (d : List Lk) (e : List Int) (f : Int),WfT [.sl tB,.sl yK,.sl yH,.sl yL,.sl tI,tI] (a,b,c,d,e,f) → ((reckOK (a,b,c,d,e,f))) = true → (zax (a,b,c,d,e,f)).run (fun _ => none) = some ((zfb (a,b,c,d,e,f)).1)) : e_zax.ok pg := zcw ok_zax fun (a,b,c,d,e,f) hw hc => h a b c d e f hw hc
theorem e_zax_ok : e_zax.ok pg := sp_zax fun a b c d e f _ hc => by
 rw [zax]
 simp only [RT.run]
 rw [if_pos hc]
def zaw : ((List Bool) × (List Tk) × (List Th) × (List Lk) × (List Int) × Int) → RT Unit (List Int)
| (s_0,s_1,s_2,s_3,s_4,s_5) =>
 .rq 3 (.req ((reckOK (s_0,s_1,s_2,s_3,s_4,s_5))) (.rq 7 (.done ((zfb (s_0,s_1,s_2,s_3,s_4,s_5))).2)))
def F_zaw (x : (List Bool) × (List Tk) × (List Th) × (List Lk) × (List Int) × Int) : Option (List Int) := (zaw x).run fun _ => none
def io_zaw : Io := ⟨n_zaw,[.sl tB,.sl yK,.sl yH,.sl yL,.sl tI,tI],[.agg [qm 0,qm 1,qm 2,qm 3,qm 4,qm 5]],[],[[.sl tB,.sl yK,.sl yH,.sl yL,.sl tI,tI]],[.sl tI],.lf (qr 0),[],[(true,.arr 3 (qm 0))],false⟩
def zaw_P : List zch := []
def zaw_T : zcl := tab [e_zd]
theorem zaw_To : zck pg zaw_T := zci ⟨e_zd_ok,trivial⟩
theorem zaw_go : zcy pg (zaw_T) io_zaw f_zaw (zaw_P) [.nilRow 2 800002 3 tI,.ren 2 700002,.ren 2 900002] (zaw) := ⟨by kernel_rfl,by kernel_rfl,fun x => by kernel_rfl⟩
theorem ok_zaw : io_zaw.Okay pg (F_zaw) := zcu zcj (zaw_To) (zaw_go) trivial
def e_zaw : zcq := io_zaw.sp (fun (a,b,c,d,e,f) => (reckOK (a,b,c,d,e,f))) (fun (a,b,c,d,e,f) => ((zfb (a,b,c,d,e,f)).2))
theorem sp_zaw (h : ∀ (a : List Bool) (b : List Tk) (c : List Th) (d : List Lk) (e : List Int) (f : Int),WfT [.sl tB,.sl yK,.sl yH,.sl yL,.sl tI,tI] (a,b,c,d,e,f) → ((reckOK (a,b,c,d,e,f))) = true → (zaw (a,b,c,d,e,f)).run (fun _ => none) = some ((zfb (a,b,c,d,e,f)).2)) : e_zaw.ok pg := zcw ok_zaw fun (a,b,c,d,e,f) hw hc => h a b c d e f hw hc
theorem e_zaw_ok : e_zaw.ok pg := sp_zaw fun a b c d e f _ hc => by
 rw [zaw]
 simp only [RT.run]
 rw [if_pos hc]
def zg_b122 : Int → (Int × (List ((List Int) × List Int))) → RT (Int × (List ((List Int) × List Int))) (List ((List Int) × List Int))
| x28,(x29,r2) =>
 .rq 1 (.ite (decide (x29 < x28))
 (.rq 5 (.req (inB r2 x29) (.rq 3 (.again (w64 (x29 + 1),sI r2 x29 ([],zcg B32 1))))))
 (.done r2))
def zg_p122 : zch := ⟨122,true,[tI,.sl tB,.sl yK,.sl yH,.sl yL,.sl tI,tI,.sl (.pair (.sl tV) (.sl tV)),.sl tB,.sl tI],[tI,.sl (.pair (.sl tV) (.sl tV))],⟨[.keep [1,2,3,4,5,28,29],.gc,.nilRow 2 800002 41 (.pair (.sl tV) (.sl tV)),.nilRow 3 800003 41 (.pair (.sl tV) (.sl tV)),.nilRow 4 800004 4 tB,.nilRow 5 800005 3 tI,.ren 2 700002,.ren 3 700003,.ren 4 700004,.ren 5 700005,.ren 2 900002,.ren 3 900003,.ren 4 900004,.ren 5 900005,.gc],[1,2,3,4,5,28,29],[.lf (qp 16),.lf (qr 900002),.lf (qr 900003),.lf (qr 900004),.lf (qr 900005),.lf (qi 0),.lf (qm 0)],[(16,true,.cells [qi 1,qi 2,qi 3,qi 4,qi 5,qi 6]),(900002,true,.arr 41 (qm 1)),(900003,true,.arr 41 (qi 7)),(900004,true,.arr 4 (qi 8)),(900005,true,.arr 3 (qi 9))]⟩,[⟨2,⟨[.keep [1,2,3,4,5],.gc,.nilRow 2 800002 41 (.pair (.sl tV) (.sl tV)),.nilRow 3 800003 41 (.pair (.sl tV) (.sl tV)),.nilRow 4 800004 4 tB,.nilRow 5 800005 3 tI,.ren 2 700002,.ren 3 700003,.ren 4 700004,.ren 5 700005,.ren 2 900002,.ren 3 900003,.ren 4 900004,.ren 5 900005,.gc],[1,2,3,4,5],[.lf (qp 16),.lf (qr 900002),.lf (qr 900003),.lf (qr 900004),.lf (qr 900005)],[(16,true,.cells [qi 1,qi 2,qi 3,qi 4,qi 5,qi 6]),(900002,true,.arr 41 (qm 0)),(900003,true,.arr 41 (qi 7)),(900004,true,.arr 4 (qi 8)),(900005,true,.arr 3 (qi 9))]⟩,[.sl (.pair (.sl tV) (.sl tV))]⟩],(fun i => zg_b122 i.1)⟩
def zg_b250 : Int → (Int × (List ((List Int) × List Int))) → RT (Int × (List ((List Int) × List Int))) (List ((List Int) × List Int))
| i,(t,r3) =>
 .rq 1 (.ite (decide (t < i))
 (.rq 5 (.req (inB r3 t) (.rq 3 (.again (w64 (t + 1),sI r3 t ([],zcg B32 1))))))
 (.done r3))
def zg_p250 : zch := ⟨250,true,[tI,.sl tB,.sl yK,.sl yH,.sl yL,.sl tI,tI,.sl (.pair (.sl tV) (.sl tV)),.sl tB,.sl tI],[tI,.sl (.pair (.sl tV) (.sl tV))],⟨[.keep [1,2,3,4,5,38,39],.gc,.nilRow 2 800002 41 (.pair (.sl tV) (.sl tV)),.nilRow 3 800003 41 (.pair (.sl tV) (.sl tV)),.nilRow 4 800004 4 tB,.nilRow 5 800005 3 tI,.ren 2 700002,.ren 3 700003,.ren 4 700004,.ren 5 700005,.ren 2 900002,.ren 3 900003,.ren 4 900004,.ren 5 900005,.gc],[1,2,3,4,5,38,39],[.lf (qp 16),.lf (qr 900002),.lf (qr 900003),.lf (qr 900004),.lf (qr 900005),.lf (qi 0),.lf (qm 0)],[(16,true,.cells [qi 1,qi 2,qi 3,qi 4,qi 5,qi 6]),(900002,true,.arr 41 (qi 7)),(900003,true,.arr 41 (qm 1)),(900004,true,.arr 4 (qi 8)),(900005,true,.arr 3 (qi 9))]⟩,[⟨4,⟨[.keep [1,2,3,4,5],.gc,.nilRow 2 800002 41 (.pair (.sl tV) (.sl tV)),.nilRow 3 800003 41 (.pair (.sl tV) (.sl tV)),.nilRow 4 800004 4 tB,.nilRow 5 800005 3 tI,.ren 2 700002,.ren 3 700003,.ren 4 700004,.ren 5 700005,.ren 2 900002,.ren 3 900003,.ren 4 900004,.ren 5 900005,.gc],[1,2,3,4,5],[.lf (qp 16),.lf (qr 900002),.lf (qr 900003),.lf (qr 900004),.lf (qr 900005)],[(16,true,.cells [qi 1,qi 2,qi 3,qi 4,qi 5,qi 6]),(900002,true,.arr 41 (qi 7)),(900003,true,.arr 41 (qm 0)),(900004,true,.arr 4 (qi 8)),(900005,true,.arr 3 (qi 9))]⟩,[.sl (.pair (.sl tV) (.sl tV))]⟩],(fun i => zg_b250 i.1)⟩
def zhP : (Int × Int × (List Tk) × (List Bool) × (List Int) × (List Int)) → (Int × (List ((List Int) × List Int)) × (List ((List Int) × List Int))) → RT (Int × (List ((List Int) × List Int)) × (List ((List Int) × List Int))) ((List ((List Int) × List Int)) × (List ((List Int) × List Int)))
| (s,u,l_1,r4,r5,r66),(n,r2,r3) =>
 .rq 1 (.ite (decide (n < u))
 (.req (inB r66 n) (.rq 4 (.req (inB r4 (gI r66 n)) (.rq 2 (let t0 := w64 (n + 1);
 .ite (!(gI r4 (gI r66 n)))
 (.rq 2 (.again (t0,r2,r3)))
 (.rq 3 (.req (inB l_1 (gI r66 n)) (.rq 8 (.req (inB r5 s) (.rq 14 (.req (inB r2 s) (.rq 2 (let t1 := mkR (zcx (gI l_1 (gI r66 n)).2.2.1).toNat (zcx (gI r5 s)).toNat;
 let t2 := [(t1.2.1,t1.2.2),((gI r2 s).1,(gI r2 s).2)];
 .req (okS t2) (.req (inB r3 (gI r66 n)) (.rq 4 (let t3 := rq (prodQ t2);
 let t4 := sI r3 (gI r66 n) (t3.1,t3.2);
 .ite ((gI l_1 (gI r66 n)).2.2.2.1 == 2)
 (.rq 6 (let t5 := inB r2 (gI l_1 (gI r66 n)).2.2.2.2.1;
 .req t5 (.rq 3 (.req (inB t4 (gI r66 n)) (.rq 2 (let t6 := gI r2 (gI l_1 (gI r66 n)).2.2.2.2.1;
 let t7 := gI t4 (gI r66 n);
 let t8 := [(t6.1,t6.2),(t7.1,t7.2)];
 .req (okS t8) (.req t5 (.rq 3 (let t9 := rq (sumQ t8);
 .again (t0,sI r2 (gI l_1 (gI r66 n)).2.2.2.2.1 (t9.1,t9.2),t4))))))))))
 (.rq 2 (.again (t0,r2,t4)))))))))))))))))))
 (.done (r2,r3)))
def zg_p260710 : zch := ⟨260710,true,[tI,.sl tI,tI,tI,tI,.sl tB,.sl yK,.sl yH,.sl yL,.sl tI,tI,.sl tB,.sl tI,.sl tI],[tI,.sl (.pair (.sl tV) (.sl tV)),.sl (.pair (.sl tV) (.sl tV))],⟨[.keep [1,2,3,4,5,9,58,59,60,66,67,68],.gc,.nilRow 2 800002 41 (.pair (.sl tV) (.sl tV)),.nilRow 3 800003 41 (.pair (.sl tV) (.sl tV)),.nilRow 4 800004 4 tB,.nilRow 5 800005 3 tI,.nilRow 66 800066 3 tI,.ren 2 700002,.ren 3 700003,.ren 4 700004,.ren 5 700005,.ren 66 700066,.ren 2 900002,.ren 3 900003,.ren 4 900004,.ren 5 900005,.ren 66 900066,.gc],[1,2,3,4,5,9,58,59,60,66,67,68],[.lf (qp 16),.lf (qr 900002),.lf (qr 900003),.lf (qr 900004),.lf (qr 900005),.lf (qi 0),.lf (qi 1),.lf (qi 2),.lf (qi 3),.lf (qr 900066),.lf (qi 4),.lf (qm 0)],[(16,true,.cells [qi 5,qi 6,qi 7,qi 8,qi 9,qi 10]),(900002,true,.arr 41 (qm 1)),(900003,true,.arr 41 (qm 2)),(900004,true,.arr 4 (qi 11)),(900005,true,.arr 3 (qi 12)),(900066,true,.arr 3 (qi 13))]⟩,[⟨8,⟨[.keep [1,2,3,4,5,58,59,60],.gc,.nilRow 2 800002 41 (.pair (.sl tV) (.sl tV)),.nilRow 3 800003 41 (.pair (.sl tV) (.sl tV)),.nilRow 4 800004 4 tB,.nilRow 5 800005 3 tI,.ren 2 700002,.ren 3 700003,.ren 4 700004,.ren 5 700005,.ren 2 900002,.ren 3 900003,.ren 4 900004,.ren 5 900005,.gc],[1,2,3,4,5,58,59,60],[.lf (qp 16),.lf (qr 900002),.lf (qr 900003),.lf (qr 900004),.lf (qr 900005),.lf (qi 1),.lf (qi 2),.lf (qi 3)],[(16,true,.cells [qi 5,qi 6,qi 7,qi 8,qi 9,qi 10]),(900002,true,.arr 41 (qm 0)),(900003,true,.arr 41 (qm 1)),(900004,true,.arr 4 (qi 11)),(900005,true,.arr 3 (qi 12))]⟩,[.sl (.pair (.sl tV) (.sl tV)),.sl (.pair (.sl tV) (.sl tV))]⟩],(fun i => zhP (i.1,i.2.2.2.2.1,i.2.2.2.2.2.2.1,i.2.2.2.2.2.2.2.2.2.2.2.1,i.2.2.2.2.2.2.2.2.2.2.2.2.1,i.2.2.2.2.2.2.2.2.2.2.2.2.2))⟩
def zic : ((List Int) × Int × (List Bool) × (List Tk) × (List Th) × (List Lk) × (List Int) × Int × (List Bool) × (List Int)) → (Int × (List ((List Int) × List Int)) × (List ((List Int) × List Int))) → RT (Int × (List ((List Int) × List Int)) × (List ((List Int) × List Int))) ((List ((List Int) × List Int)) × (List ((List Int) × List Int)))
| (x58,x59,l_0,l_1,l_2,l_3,l_4,l_5,r4,r5),(x60,r2,r3) =>
 .rq 1 (.ite (decide (x60 < x59))
 (.req (inB x58 x60) (.rq 4 (.req ((decide (l_1.length ≤ 1000000))) (.rq 2 (let t0 := (zcI l_1 (gI x58 x60));
 .call (lo zhP (gI x58 x60,(t0.length : Int),l_1,r4,r5,t0) (0,r2,r3)) default fun v2 =>
 .rq 2 (.again (w64 (x60 + 1),v2.1,v2.2)))))))
 (.done (r2,r3)))
def zg_p1018 : zch := ⟨1018,true,[.sl tI,tI,.sl tB,.sl yK,.sl yH,.sl yL,.sl tI,tI,.sl tB,.sl tI],[tI,.sl (.pair (.sl tV) (.sl tV)),.sl (.pair (.sl tV) (.sl tV))],⟨[.keep [1,2,3,4,5,58,59,60],.gc,.nilRow 2 800002 41 (.pair (.sl tV) (.sl tV)),.nilRow 3 800003 41 (.pair (.sl tV) (.sl tV)),.nilRow 4 800004 4 tB,.nilRow 5 800005 3 tI,.ren 2 700002,.ren 3 700003,.ren 4 700004,.ren 5 700005,.ren 2 900002,.ren 3 900003,.ren 4 900004,.ren 5 900005,.gc],[1,2,3,4,5,58,59,60],[.lf (qp 16),.lf (qr 900002),.lf (qr 900003),.lf (qr 900004),.lf (qr 900005),.lf (qi 0),.lf (qi 1),.lf (qm 0)],[(16,true,.cells [qi 2,qi 3,qi 4,qi 5,qi 6,qi 7]),(900002,true,.arr 41 (qm 1)),(900003,true,.arr 41 (qm 2)),(900004,true,.arr 4 (qi 8)),(900005,true,.arr 3 (qi 9))]⟩,[⟨6,⟨[.keep [2,3],.gc,.nilRow 2 800002 41 (.pair (.sl tV) (.sl tV)),.nilRow 3 800003 41 (.pair (.sl tV) (.sl tV)),.ren 2 700002,.ren 3 700003,.ren 2 900002,.ren 3 900003,.gc],[2,3],[.lf (qr 900002),.lf (qr 900003)],[(900002,true,.arr 41 (qm 0)),(900003,true,.arr 41 (qm 1))]⟩,[.sl (.pair (.sl tV) (.sl tV)),.sl (.pair (.sl tV) (.sl tV))]⟩],zic⟩
def zg : ((List Bool) × (List Tk) × (List Th) × (List Lk) × (List Int) × Int) → RT Unit ((List ((List Int) × List Int)) × (List ((List Int) × List Int)))
| (a0_0,a0_1,a0_2,a0_3,a0_4,a0_5) =>
 .rq 4 (let t0 := (reckOK (a0_0,a0_1,a0_2,a0_3,a0_4,a0_5));
 .req t0 (.rq 1 (.req t0 (.rq 5 (.req (mkOK 48 (a0_0.length : Int)) (.rq 3 (.req (mkOK 48 (a0_1.length : Int)) (.rq 5 (let t1 := zdd (a0_0.length : Int) ([],[]);
 .call (lo zg_b122 (t1.length : Int) (0,t1)) default fun v0 =>
 .rq 3 (let t2 := zdd (a0_1.length : Int) ([],[]);
 .call (lo zg_b250 (t2.length : Int) (0,t2)) default fun v1 =>
 .rq 2 (let t3 := ((zfb (a0_0,a0_1,a0_2,a0_3,a0_4,a0_5)).2);
 .req (inB t3 0) (.rq 6 (.req (inB v0 0) (.rq 2 (.req ((decide (a0_1.length ≤ 1000000) && decide (a0_0.length ≤ 4096))) (.rq 2 (let t4 := (zcG a0_0 a0_1);
 let t5 := mkR (zcx (gI t3 0)).toNat (1 : Int).toNat;
 .call (lo zic (t4,(t4.length : Int),a0_0,a0_1,a0_2,a0_3,a0_4,a0_5,((zfb (a0_0,a0_1,a0_2,a0_3,a0_4,a0_5)).1),t3) (0,sI v0 0 (t5.2.1,t5.2.2),v1)) default fun v3 =>
 .rq 4 (.done (v3.1,v3.2)))))))))))))))))))
def F_zg (x : (List Bool) × (List Tk) × (List Th) × (List Lk) × (List Int) × Int) : Option ((List ((List Int) × List Int)) × (List ((List Int) × List Int))) := (zg x).run fun _ => none
def io_zg : Io := ⟨n_zg,[.sl tB,.sl yK,.sl yH,.sl yL,.sl tI,tI],[.agg [qm 0,qm 1,qm 2,qm 3,qm 4,qm 5]],[],[[.sl tB,.sl yK,.sl yH,.sl yL,.sl tI,tI]],[.sl (.pair (.sl tV) (.sl tV)),.sl (.pair (.sl tV) (.sl tV))],.tup [(false,[qr 0]),(false,[qr 1])],[],[(true,.arr 41 (qm 0)),(true,.arr 41 (qm 1))],true⟩
def zg_P : List zch := [zg_p122,zg_p250,zg_p260710,zg_p1018]
def zg_T : zcl := tab [e_zaw,e_zax,e_zr,e_zx,e_zab,e_zX,e_zbF,e_zag]
theorem zg_To : zck pg zg_T := zci ⟨e_zaw_ok,e_zax_ok,e_zr_ok,e_zx_ok,e_zab_ok,e_zX_ok,e_zbF_ok,zgp,trivial⟩
theorem zg_k122 : (zg_p122).OK pg (zg_T) (zcB 126 (zg_P)) (zcs f_zg) 126 := ⟨by kernel_rfl,fun i x => by kernel_rfl⟩
theorem zg_k250 : (zg_p250).OK pg (zg_T) (zcB 126 (zg_P)) (zcs f_zg) 126 := ⟨by kernel_rfl,fun i x => by kernel_rfl⟩
theorem zg_k260710 : (zg_p260710).OK pg (zg_T) (zcB 126 (zg_P)) (zcs f_zg) 126 := ⟨by kernel_rfl,fun i x => by kernel_rfl⟩
theorem zg_k1018 : (zg_p1018).OK pg (zg_T) (zcB 126 (zg_P)) (zcs f_zg) 126 := ⟨by kernel_rfl,fun i x => by kernel_rfl⟩
theorem zg_go : zcy pg (zg_T) io_zg f_zg (zg_P) [.nilRow 2 800002 41 (.pair (.sl tV) (.sl tV)),.nilRow 3 800003 41 (.pair (.sl tV) (.sl tV)),.ren 2 700002,.ren 3 700003,.ren 2 900002,.ren 3 900003] (zg) := ⟨by kernel_rfl,by kernel_rfl,fun x => by kernel_rfl⟩
theorem ok_zg : io_zg.Okay pg (F_zg) := zcu zcj (zg_To) (zg_go) ⟨zg_k122,zg_k250,zg_k260710,zg_k1018,trivial⟩
end
end Go.Proofs.YtlfdidaeachpoaaGreat
namespace Go.Proofs.YtlfdidaeachpoaaGreat
open Go Go.RowKit
set_option maxRecDepth 100000
noncomputable section
def zbR : ((List Bool) × (List Tk) × (List Th) × (List Lk) × (List Int) × Int × Int) → RT Unit Bool
| (s_0,s_1,s_2,s_3,s_4,s_5,i) =>
 .rq 15 (let t0 := (decide (0 ≤ i)) && (decide (i < (s_0.length : Int)));
 .req ((inB s_0 i) || (!t0)) (.rq 3 (.done (t0 && (gI s_0 i)))))
def F_zbR (x : (List Bool) × (List Tk) × (List Th) × (List Lk) × (List Int) × Int × Int) : Option Bool := (zbR x).run fun _ => none
def io_zbR : Io := ⟨n_zbR,[.sl tB,.sl yK,.sl yH,.sl yL,.sl tI,tI,tI],[.agg [qm 0,qm 1,qm 2,qm 3,qm 4,qm 5],.lf (qm 6)],[],[[.sl tB,.sl yK,.sl yH,.sl yL,.sl tI,tI],[tI]],[tB],.lf (qm 0),[],[],false⟩
def zbR_P : List zch := []
def zbR_T : zcl := tab []
theorem zbR_To : zck pg zbR_T := zci trivial
theorem zbR_go : zcy pg (zbR_T) io_zbR f_zbR (zbR_P) [] (zbR) := ⟨by kernel_rfl,by kernel_rfl,fun x => by kernel_rfl⟩
theorem ok_zbR : io_zbR.Okay pg (F_zbR) := zcu zcj (zbR_To) (zbR_go) trivial
def e_zbR : zcq := io_zbR.sp (fun (a,b,c,d,e,f,i) => true) (fun (a,b,c,d,e,f,i) => (inB a i && gI a i))
theorem sp_zbR (h : ∀ (a : List Bool) (b : List Tk) (c : List Th) (d : List Lk) (e : List Int) (f : Int) (i : Int),WfT [.sl tB,.sl yK,.sl yH,.sl yL,.sl tI,tI,tI] (a,b,c,d,e,f,i) → (zbR (a,b,c,d,e,f,i)).run (fun _ => none) = some (inB a i && gI a i)) : e_zbR.ok pg := zcw ok_zbR fun (a,b,c,d,e,f,i) hw hc => h a b c d e f i hw
theorem e_zbR_ok : e_zbR.ok pg := sp_zbR fun a b c d e f i _ => by
 rw [zbR]
 simp only [RT.run]
 show (if (inB a i || !(inB a i)) = true then some (inB a i && gI a i) else none) = _
 rw [if_pos (by cases inB a i <;> rfl)]
def zam : ((List Bool) × (List Tk) × (List Th) × (List Lk) × (List Int) × Int × Int) → RT Unit Bool
| (s_0,s_1,s_2,s_3,s_4,s_5,i) =>
 .rq 15 (let t0 := (decide (0 ≤ i)) && (decide (i < (s_2.length : Int)));
 .req ((inB s_2 i) || (!t0)) (.rq 5 (.done (t0 && ((gI s_2 i).1 != 0)))))
def F_zam (x : (List Bool) × (List Tk) × (List Th) × (List Lk) × (List Int) × Int × Int) : Option Bool := (zam x).run fun _ => none
def io_zam : Io := ⟨n_zam,[.sl tB,.sl yK,.sl yH,.sl yL,.sl tI,tI,tI],[.agg [qm 0,qm 1,qm 2,qm 3,qm 4,qm 5],.lf (qm 6)],[],[[.sl tB,.sl yK,.sl yH,.sl yL,.sl tI,tI],[tI]],[tB],.lf (qm 0),[],[],false⟩
def zam_P : List zch := []
def zam_T : zcl := tab []
theorem zam_To : zck pg zam_T := zci trivial
theorem zam_go : zcy pg (zam_T) io_zam f_zam (zam_P) [] (zam) := ⟨by kernel_rfl,by kernel_rfl,fun x => by kernel_rfl⟩
theorem ok_zam : io_zam.Okay pg (F_zam) := zcu zcj (zam_To) (zam_go) trivial
def e_zam : zcq := io_zam.sp (fun (a,b,c,d,e,f,i) => true) (fun (a,b,c,d,e,f,i) => (inB c i && (gI c i).1 != 0))
theorem sp_zam (h : ∀ (a : List Bool) (b : List Tk) (c : List Th) (d : List Lk) (e : List Int) (f : Int) (i : Int),WfT [.sl tB,.sl yK,.sl yH,.sl yL,.sl tI,tI,tI] (a,b,c,d,e,f,i) → (zam (a,b,c,d,e,f,i)).run (fun _ => none) = some (inB c i && (gI c i).1 != 0)) : e_zam.ok pg := zcw ok_zam fun (a,b,c,d,e,f,i) hw hc => h a b c d e f i hw
theorem zho : e_zam.ok pg := sp_zam fun a b c d e f i _ => by
 rw [zam]
 simp only [RT.run]
 show (if (inB c i || !(inB c i)) = true then some (inB c i && (gI c i).1 != 0) else none) = _
 rw [if_pos (by cases inB c i <;> rfl)]
def zD_b58 : (List Tk) → (Int × (List (Int × Int))) → RT (Int × (List (Int × Int))) (List (Int × Int))
| s_1,(i,r3) =>
 .rq 5 (.ite (decide (i < (s_1.length : Int)))
 (.rq 3 (.req (inB s_1 i) (.rq 10 (let t0 := w64 (i + 1);
 .ite ((gI s_1 i).1 && ((gI s_1 i).2.2.2.1 == 2))
 (.rq 7 (let t1 := [((gI s_1 i).2.1,(gI s_1 i).2.2.2.2.1)];
 .req (zdK 16 r3 t1) (.rq 4 (.again (t0,r3 ++ t1)))))
 (.rq 3 (.again (t0,r3)))))))
 (.done r3))
def zD_p58 : zch := ⟨58,true,[.sl tB,.sl yK,.sl yH,.sl yL,.sl tI,tI],[tI,.sl (.pair tI tI)],⟨[.keep [1,3,4],.gc,.nilRow 3 800003 148 (.pair tI tI),.ren 3 700003,.ren 3 900003,.gc],[1,3,4],[.lf (qp 16),.lf (qr 900003),.lf (qm 0)],[(16,true,.cells [qi 0,qi 1,qi 2,qi 3,qi 4,qi 5]),(900003,true,.arr 148 (qm 1))]⟩,[⟨2,⟨[.keep [3],.gc,.nilRow 3 800003 148 (.pair tI tI),.ren 3 700003,.ren 3 900003,.gc],[3],[.lf (qr 900003)],[(900003,true,.arr 148 (qm 0))]⟩,[.sl (.pair tI tI)]⟩],(fun i => zD_b58 i.2.1)⟩
def zD : ((List Bool) × (List Tk) × (List Th) × (List Lk) × (List Int) × Int) → RT Unit (List (Int × Int))
| (s_0,s_1,s_2,s_3,s_4,s_5) =>
 .rq 4 (.call (lo zD_b58 s_1 (0,[])) default fun v0 =>
 .rq 2 (.done v0))
def F_zD (x : (List Bool) × (List Tk) × (List Th) × (List Lk) × (List Int) × Int) : Option (List (Int × Int)) := (zD x).run fun _ => none
def io_zD : Io := ⟨n_zD,[.sl tB,.sl yK,.sl yH,.sl yL,.sl tI,tI],[.agg [qm 0,qm 1,qm 2,qm 3,qm 4,qm 5]],[],[[.sl tB,.sl yK,.sl yH,.sl yL,.sl tI,tI]],[.sl (.pair tI tI)],.lf (qr 0),[],[(true,.arr 148 (qm 0))],false⟩
def zD_P : List zch := [zD_p58]
def zD_T : zcl := tab []
theorem zD_To : zck pg zD_T := zci trivial
theorem zD_k58 : (zD_p58).OK pg (zD_T) (zcB 34 (zD_P)) (zcs f_zD) 34 := ⟨by kernel_rfl,fun i x => by kernel_rfl⟩
theorem zD_go : zcy pg (zD_T) io_zD f_zD (zD_P) [.nilRow 2 800002 148 (.pair tI tI),.ren 2 700002,.ren 2 900002] (zD) := ⟨by kernel_rfl,by kernel_rfl,fun x => by kernel_rfl⟩
theorem ok_zD : io_zD.Okay pg (F_zD) := zcu zcj (zD_To) (zD_go) ⟨zD_k58,trivial⟩
theorem ziP (b : List Tk) (hl : b.length ≤ 1000000) : ∀ (d i : Nat) (r : List (Int × Int)),i + d = b.length → r.length ≤ i →
  lo zD_b58 b ((i : Int),r) = some (r ++ zdg (b.drop i))
 | 0,i,r,h,_ => by
  rw [zcr,zD_b58]
  simp only [RT.run]
  rw [if_neg (by simp; omega),List.drop_eq_nil_of_le (by omega)]
  simp [zdg]
 | d + 1,i,r,h,hr => by
  have hi : i < b.length := by omega
  have hmax : maxLen = 9223372036854775807 := by decide
  rw [zcr,zD_b58]
  simp only [RT.run]
  rw [if_pos (by simp; omega),if_pos (zcn.2 ⟨by omega,by omega⟩),zcL hi,List.drop_eq_getElem_cons hi,zcm (by omega),show (i : Int) + 1 = ((i + 1 : Nat) : Int) by omega]
  unfold zdg
  rw [List.filter_cons]
  by_cases hv : (b[i].1 && b[i].2.2.2.1 == 2) = true
  ·rw [if_pos hv,if_pos (zeI.2 ⟨by simp; omega,by simp; omega⟩),ziP b hl d (i + 1) _ (by omega) (by simp; omega),if_pos hv]
   simp [zdg]
  ·rw [if_neg hv,ziP b hl d (i + 1) _ (by omega) (by omega),if_neg hv]
   rfl
def e_zD : zcq := io_zD.sp (fun (a,b,c,d,e,f) => (decide (b.length ≤ 1000000))) (fun (a,b,c,d,e,f) => (zdg b))
theorem sp_zD (h : ∀ (a : List Bool) (b : List Tk) (c : List Th) (d : List Lk) (e : List Int) (f : Int),WfT [.sl tB,.sl yK,.sl yH,.sl yL,.sl tI,tI] (a,b,c,d,e,f) → ((decide (b.length ≤ 1000000))) = true → (zD (a,b,c,d,e,f)).run (fun _ => none) = some (zdg b)) : e_zD.ok pg := zcw ok_zD fun (a,b,c,d,e,f) hw hc => h a b c d e f hw hc
theorem e_zD_ok : e_zD.ok pg := sp_zD fun a b c d e f _ hc => by
 have hl := of_decide_eq_true hc
 rw [zD]
 simp only [RT.run]
 have := ziP b hl b.length 0 [] (by omega) (by simp)
 rw [show ((0 : Nat) : Int) = 0 from rfl] at this
 rw [this]
 rfl
def zh_b3730 : (Int × (List (Int × Int)) × Int × Int) → RT Unit (List (Int × Int))
| (i,r3,t_0,t_1) =>
 .rq 3 (.ite (t_0 == 4)
 (.rq 6 (let t0 := [(i,t_1)];
 .req (zdK 16 r3 t0) (.rq 1 (.done (r3 ++ t0)))))
 (.done r3))
def zh_p3730 : zch := ⟨3730,false,[tI,.sl tB,.sl yK,.sl yH,.sl yL,.sl tI,tI,.sl (.pair tI tI),tI,tI,tI,tI,tI],[],⟨[.keep [1,3,4,5],.gc],[1,3,4,5],[.lf (qp 16),.lf (qr 900003),.lf (qi 0),.lf (qp 80)],[(16,true,.cells [qi 1,qi 2,qi 3,qi 4,qi 5,qi 6]),(900003,true,.arr 148 (qi 7)),(80,true,.cells [qi 8,qi 9,qi 10,qi 11,qi 12])]⟩,[⟨0,⟨[.keep [1,3,4,5],.gc,.nilRow 3 800003 148 (.pair tI tI),.ren 3 700003,.ren 3 900003,.gc],[1,3,4,5],[.lf (qp 16),.lf (qr 900003),.lf (qi 0),.lf (qp 80)],[(16,true,.cells [qi 1,qi 2,qi 3,qi 4,qi 5,qi 6]),(900003,true,.arr 148 (qm 0)),(80,true,.cells [qi 8,qi 9,qi 10,qi 11,qi 12])]⟩,[.sl (.pair tI tI)]⟩],(fun i _ => zh_b3730 (i.1,i.2.2.2.2.2.2.2.1,i.2.2.2.2.2.2.2.2.1,i.2.2.2.2.2.2.2.2.2.1))⟩
def zh_b58 : ((List Th) × (List Lk)) → (Int × (List (Int × Int))) → RT (Int × (List (Int × Int))) (List (Int × Int))
| (s_2,s_3),(i,r3) =>
 .rq 5 (.ite (decide (i < (s_2.length : Int)))
 (.rq 3 (.req (inB s_2 i) (.rq 3 (.call (on zh_b3730 (i,r3,(gI s_2 i).1,(gI s_2 i).2.1)) default fun v1 =>
 .rq 3 (let t0 := w64 (i + 1);
 .ite ((gI s_2 i).1 == 6)
 (.rq 6 (.req (inB s_3 (gI s_2 i).2.1) (.rq 4 (let t1 := [(i,(gI s_3 (gI s_2 i).2.1).2)];
 .req (zdK 16 v1 t1) (.rq 4 (.again (t0,v1 ++ t1)))))))
 (.rq 3 (.again (t0,v1))))))))
 (.done r3))
def zh_p58 : zch := ⟨58,true,[.sl tB,.sl yK,.sl yH,.sl yL,.sl tI,tI],[tI,.sl (.pair tI tI)],⟨[.keep [1,3,4],.gc,.nilRow 3 800003 148 (.pair tI tI),.ren 3 700003,.ren 3 900003,.gc],[1,3,4],[.lf (qp 16),.lf (qr 900003),.lf (qm 0)],[(16,true,.cells [qi 0,qi 1,qi 2,qi 3,qi 4,qi 5]),(900003,true,.arr 148 (qm 1))]⟩,[⟨2,⟨[.keep [3],.gc,.nilRow 3 800003 148 (.pair tI tI),.ren 3 700003,.ren 3 900003,.gc],[3],[.lf (qr 900003)],[(900003,true,.arr 148 (qm 0))]⟩,[.sl (.pair tI tI)]⟩],(fun i => zh_b58 (i.2.2.1,i.2.2.2.1))⟩
def zh : ((List Bool) × (List Tk) × (List Th) × (List Lk) × (List Int) × Int) → RT Unit (List (Int × Int))
| (s_0,s_1,s_2,s_3,s_4,s_5) =>
 .rq 4 (.call (lo zh_b58 (s_2,s_3) (0,[])) default fun v2 =>
 .rq 2 (.done v2))
def F_zh (x : (List Bool) × (List Tk) × (List Th) × (List Lk) × (List Int) × Int) : Option (List (Int × Int)) := (zh x).run fun _ => none
def io_zh : Io := ⟨n_zh,[.sl tB,.sl yK,.sl yH,.sl yL,.sl tI,tI],[.agg [qm 0,qm 1,qm 2,qm 3,qm 4,qm 5]],[],[[.sl tB,.sl yK,.sl yH,.sl yL,.sl tI,tI]],[.sl (.pair tI tI)],.lf (qr 0),[],[(true,.arr 148 (qm 0))],false⟩
def zh_P : List zch := [zh_p3730,zh_p58]
def zh_T : zcl := tab []
theorem zh_To : zck pg zh_T := zci trivial
theorem zh_k3730 : (zh_p3730).OK pg (zh_T) (zcB 44 (zh_P)) (zcs f_zh) 44 := ⟨by kernel_rfl,fun i x => by kernel_rfl⟩
theorem zh_k58 : (zh_p58).OK pg (zh_T) (zcB 44 (zh_P)) (zcs f_zh) 44 := ⟨by kernel_rfl,fun i x => by kernel_rfl⟩
theorem zh_go : zcy pg (zh_T) io_zh f_zh (zh_P) [.nilRow 2 800002 148 (.pair tI tI),.ren 2 700002,.ren 2 900002] (zh) := ⟨by kernel_rfl,by kernel_rfl,fun x => by kernel_rfl⟩
theorem ok_zh : io_zh.Okay pg (F_zh) := zcu zcj (zh_To) (zh_go) ⟨zh_k3730,zh_k58,trivial⟩
def zfB (d : List Lk) (i : Int) (t : Th) : List (Int × Int) := (if t.1 == 4 then [(i,t.2.1)] else []) ++ (if t.1 == 6 then [(i,(gI d t.2.1).2)] else [])
def zcW (c : List Th) (d : List Lk) : List (Int × Int) := (List.range c.length).flatMap fun (k : Nat) => zfB d (k : Int) (c.getD k default)
def zfv (c : List Th) (d : List Lk) : Bool := c.all fun t => !(t.1 == 6) || inB d t.2.1
theorem thrOne_len (d : List Lk) (i : Int) (t : Th) : (zfB d i t).length ≤ 2 := by
 unfold zfB
 split <;> split <;> simp
theorem thr_loop (c : List Th) (d : List Lk) (hl : c.length ≤ 1000000) (hok : zfv c d = true) : ∀ (n i : Nat) (r : List (Int × Int)),i + n = c.length → r.length ≤ 2 * i →
  lo zh_b58 (c,d) ((i : Int),r) = some (r ++ (List.range' i n).flatMap fun (k : Nat) => zfB d (k : Int) (c.getD k default))
 | 0,i,r,h,_ => by
  rw [zcr,zh_b58]
  simp only [RT.run]
  rw [if_neg (by simp; omega)]
  simp
 | n + 1,i,r,h,hr => by
  have hi : i < c.length := by omega
  have hmax : maxLen = 9223372036854775807 := by decide
  have hb : on zh_b3730 ((i : Int),r,c[i].1,c[i].2.1) = some (r ++ (if c[i].1 == 4 then [((i : Int),c[i].2.1)] else [])) := by
   show (zh_b3730 _).run _ = _
   rw [zh_b3730]
   simp only [RT.run]
   by_cases h4 : (c[i].1 == 4) = true
   ·rw [if_pos h4,if_pos h4,if_pos (zeI.2 ⟨by simp; omega,by simp; omega⟩)]
   ·rw [if_neg h4,if_neg h4,List.append_nil]
  have hlen1 : (r ++ (if c[i].1 == 4 then [((i : Int),c[i].2.1)] else [])).length ≤ 2 * i + 1 := by
   rw [List.length_append]; split <;> simp <;> omega
  have hwt := List.all_eq_true.1 hok _ (List.getElem_mem hi)
  have hone : zfB d (i : Int) (c.getD i default) = (if c[i].1 == 4 then [((i : Int),c[i].2.1)] else []) ++ (if c[i].1 == 6 then [((i : Int),(gI d c[i].2.1).2)] else []) := by
   rw [List.getD_eq_getElem?_getD,List.getElem?_eq_getElem hi]; rfl
  rw [zcr,zh_b58]
  simp only [RT.run]
  rw [if_pos (by simp; omega),if_pos (zcn.2 ⟨by omega,by omega⟩),zcL hi,hb,Option.bind_some,zcm (by omega),show (i : Int) + 1 = ((i + 1 : Nat) : Int) by omega,List.range'_succ,List.flatMap_cons,hone]
  by_cases h6 : (c[i].1 == 6) = true
  ·rw [if_pos h6,if_pos (by simpa [h6] using hwt),if_pos (zeI.2 ⟨by simp only [List.length_singleton]; omega,by simp only [List.length_singleton]; omega⟩),if_pos h6,
    thr_loop c d hl hok n (i + 1) _ (by omega) (by rw [List.length_append,List.length_singleton]; omega)]
   simp
  ·rw [if_neg h6,if_neg h6,thr_loop c d hl hok n (i + 1) _ (by omega) (by omega)]
   simp
def e_zh : zcq := io_zh.sp (fun (a,b,c,d,e,f) => (decide (c.length ≤ 1000000) && zfv c d)) (fun (a,b,c,d,e,f) => (zcW c d))
theorem sp_zh (h : ∀ (a : List Bool) (b : List Tk) (c : List Th) (d : List Lk) (e : List Int) (f : Int),WfT [.sl tB,.sl yK,.sl yH,.sl yL,.sl tI,tI] (a,b,c,d,e,f) → ((decide (c.length ≤ 1000000) && zfv c d)) = true → (zh (a,b,c,d,e,f)).run (fun _ => none) = some (zcW c d)) : e_zh.ok pg := zcw ok_zh fun (a,b,c,d,e,f) hw hc => h a b c d e f hw hc
theorem e_zh_ok : e_zh.ok pg := sp_zh fun a b c d e f _ hc => by
 rw [Bool.and_eq_true] at hc
 have hl := of_decide_eq_true hc.1
 rw [zh]
 simp only [RT.run]
 have := thr_loop c d hl hc.2 c.length 0 [] (by omega) (by simp)
 rw [show ((0 : Nat) : Int) = 0 from rfl] at this
 rw [this,List.nil_append,← List.range_eq_range']
 rfl
def zaB_b58 : (Int × (List (Int × Int))) → Int → RT Int (LR Int Unit)
| (i,r5),k =>
 .rq 4 (.ite (decide (k < (r5.length : Int)))
 (.rq 2 (.req (inB r5 k) (.rq 4 (.ite ((gI r5 k).1 == i)
 (.rq 2 (.req (inB r5 k) (.rq 3 (.done (.ex (gI r5 k).2)))))
 (.rq 3 (.again (w64 (k + 1))))))))
 (.done (.rt ())))
def zaB_p58 : zch := ⟨58,true,[tI,.sl (.pair tI tI)],[tI],⟨[.keep [1,5,6],.gc,.nilRow 5 800005 148 (.pair tI tI),.ren 5 700005,.ren 5 900005,.gc],[1,5,6],[.lf (qi 0),.lf (qr 900005),.lf (qm 0)],[(900005,true,.arr 148 (qi 1))]⟩,[⟨1,⟨[.keep [4],.gc],[4],[.lf (qm 0)],[]⟩,[tI]⟩,⟨2,⟨[.keep [],.gc],[],[],[]⟩,[]⟩],zaB_b58⟩
def zaB : ((List Bool) × (List Tk) × (List Th) × (List Lk) × (List Int) × Int × Int) → RT Unit Int
| (s_0,s_1,s_2,s_3,s_4,s_5,i) =>
 .rq 3 (.req ((decide (s_2.length ≤ 1000000) && zfv s_2 s_3)) (.rq 2 (.call (lo zaB_b58 (i,(zcW s_2 s_3)) 0) default fun v0 =>
 .ite v0.isRt
 (.rq 1 (.done (-1)))
 (.done v0.getX))))
def F_zaB (x : (List Bool) × (List Tk) × (List Th) × (List Lk) × (List Int) × Int × Int) : Option Int := (zaB x).run fun _ => none
def io_zaB : Io := ⟨n_zaB,[.sl tB,.sl yK,.sl yH,.sl yL,.sl tI,tI,tI],[.agg [qm 0,qm 1,qm 2,qm 3,qm 4,qm 5],.lf (qm 6)],[],[[.sl tB,.sl yK,.sl yH,.sl yL,.sl tI,tI],[tI]],[tI],.lf (qm 0),[],[],false⟩
def zaB_P : List zch := [zaB_p58]
def zaB_T : zcl := tab [e_zh]
theorem zaB_To : zck pg zaB_T := zci ⟨e_zh_ok,trivial⟩
theorem zaB_k58 : (zaB_p58).OK pg (zaB_T) (zcB 27 (zaB_P)) (zcs f_zaB) 27 := ⟨by kernel_rfl,fun i x => by kernel_rfl⟩
theorem zaB_go : zcy pg (zaB_T) io_zaB f_zaB (zaB_P) [] (zaB) := ⟨by kernel_rfl,by kernel_rfl,fun x => by kernel_rfl⟩
theorem ok_zaB : io_zaB.Okay pg (F_zaB) := zcu zcj (zaB_To) (zaB_go) ⟨zaB_k58,trivial⟩
def nextR (l : List (Int × Int)) (i : Int) : Int := match l.find? (fun a => a.1 == i) with
 | some a => a.2
 | none => -1
theorem nextR_loop (l : List (Int × Int)) (v : Int) (hl : l.length ≤ 4000000) : ∀ d i : Nat,i + d = l.length →
  lo zaB_b58 (v,l) (i : Int) = some (match (l.drop i).find? (fun a => a.1 == v) with | some a => .ex a.2 | none => .rt ())
 | 0,i,h => by
  rw [zcr,zaB_b58]
  simp only [RT.run]
  rw [if_neg (by simp; omega),List.drop_eq_nil_of_le (by omega)]
  rfl
 | d + 1,i,h => by
  have hi : i < l.length := by omega
  have hin : inB l (i : Int) = true := zcn.2 ⟨by omega,by omega⟩
  rw [zcr,zaB_b58]
  simp only [RT.run]
  rw [if_pos (by simp; omega),if_pos hin,List.drop_eq_getElem_cons hi,List.find?_cons,zcL hi]
  by_cases hv : (l[i].1 == v) = true
  ·rw [if_pos hv,if_pos hin,hv]
  ·have hv' : (l[i].1 == v) = false := by simpa using hv
   rw [if_neg hv,hv',zcm (by omega),show (i : Int) + 1 = ((i + 1 : Nat) : Int) by omega,nextR_loop l v hl d (i + 1) (by omega)]
theorem thrArr_len (c : List Th) (d : List Lk) : (zcW c d).length ≤ 2 * c.length := by
 unfold zcW
 have : ∀ (l : List Nat),(l.flatMap fun (k : Nat) => zfB d (k : Int) (c.getD k default)).length ≤ 2 * l.length := by
  intro l
  induction l with
  | nil => simp
  | cons x l ih =>
   have := thrOne_len d (x : Int) (c.getD x default)
   rw [List.flatMap_cons,List.length_append,List.length_cons]
   omega
 have := this (List.range c.length)
 rwa [List.length_range] at this
def e_zaB : zcq := io_zaB.sp (fun (a,b,c,d,e,f,i) => (decide (c.length ≤ 1000000) && zfv c d)) (fun (a,b,c,d,e,f,i) => (nextR (zcW c d) i))
theorem sp_zaB (h : ∀ (a : List Bool) (b : List Tk) (c : List Th) (d : List Lk) (e : List Int) (f : Int) (i : Int),WfT [.sl tB,.sl yK,.sl yH,.sl yL,.sl tI,tI,tI] (a,b,c,d,e,f,i) → ((decide (c.length ≤ 1000000) && zfv c d)) = true → (zaB (a,b,c,d,e,f,i)).run (fun _ => none) = some (nextR (zcW c d) i)) : e_zaB.ok pg := zcw ok_zaB fun (a,b,c,d,e,f,i) hw hc => h a b c d e f i hw hc
theorem e_zaB_ok : e_zaB.ok pg := sp_zaB fun a b c d e f i _ hc => by
 have hc' := hc
 rw [Bool.and_eq_true] at hc'
 have hl := of_decide_eq_true hc'.1
 have hlen := thrArr_len c d
 rw [zaB]
 simp only [RT.run]
 have := nextR_loop (zcW c d) i (by omega) (zcW c d).length 0 (by omega)
 rw [show ((0 : Nat) : Int) = 0 from rfl,List.drop_zero] at this
 rw [if_pos hc,this]
 unfold nextR
 cases (zcW c d).find? (fun a => a.1 == i) with
 | none => rfl
 | some a => rfl
def io_zaG : Io := ⟨n_zaG,[.sl tB,.sl yK,.sl yH,.sl yL,.sl tI,tI,tI],[.agg [qm 0,qm 1,qm 2,qm 3,qm 4,qm 5],.lf (qm 6)],[],[[.sl tB,.sl yK,.sl yH,.sl yL,.sl tI,tI],[tI]],[.sl tI],.lf (qm 0),[],[],true⟩
def zaG (self : ((List Bool) × (List Tk) × (List Th) × (List Lk) × (List Int) × Int × Int) → Option (List Int)) : ((List Bool) × (List Tk) × (List Th) × (List Lk) × (List Int) × Int × Int) → RT Unit (List Int)
| (s_0,s_1,s_2,s_3,s_4,s_5,i) =>
 .rq 6 (.ite (!((inB s_2 i && (gI s_2 i).1 != 0)))
 (.rq 1 (.done []))
 (.rq 2 (.req ((decide (s_2.length ≤ 1000000) && zfv s_2 s_3)) (.rq 3 (let t0 := (nextR (zcW s_2 s_3) i);
 .ite (decide (t0 < 0))
 (.rq 3 (.done [i]))
 (.rq 4 (.call (self (s_0,s_1,s_2,s_3,s_4,s_5,t0)) default fun v0 =>
 .req (zdK 8 [i] v0) (.rq 1 (.done ([i] ++ v0))))))))))
def F_zaG (self : ((List Bool) × (List Tk) × (List Th) × (List Lk) × (List Int) × Int × Int) → Option (List Int)) (x : (List Bool) × (List Tk) × (List Th) × (List Lk) × (List Int) × Int × Int) : Option (List Int) := (zaG self x).run fun _ => none
def zaG_P (self : ((List Bool) × (List Tk) × (List Th) × (List Lk) × (List Int) × Int × Int) → Option (List Int)) : List zch := []
def zaG_T (self : ((List Bool) × (List Tk) × (List Th) × (List Lk) × (List Int) × Int × Int) → Option (List Int)) : zcl := tab [io_zaG.en self,e_zaB,e_zam]
theorem zaG_To (self : ((List Bool) × (List Tk) × (List Th) × (List Lk) × (List Int) × Int × Int) → Option (List Int)) (hs : io_zaG.Okay pg self) : zck pg (zaG_T self) := zci ⟨zeS hs,e_zaB_ok,zho,trivial⟩
theorem zaG_go (self : ((List Bool) × (List Tk) × (List Th) × (List Lk) × (List Int) × Int × Int) → Option (List Int)) : zcy pg (zaG_T self) io_zaG f_zaG (zaG_P self) [.toDat 4,.den 4 [.sl tI]] (zaG self) := ⟨by kernel_rfl,by kernel_rfl,fun x => by kernel_rfl⟩
theorem ok_zaG (self : ((List Bool) × (List Tk) × (List Th) × (List Lk) × (List Int) × Int × Int) → Option (List Int)) (hs : io_zaG.Okay pg self) : io_zaG.Okay pg (F_zaG self) := zcu zcj (zaG_To self hs) (zaG_go self) trivial
def R_zaG : Nat → ((List Bool) × (List Tk) × (List Th) × (List Lk) × (List Int) × Int × Int) → Option (List Int)
 | 0 => fun _ => none
 | n + 1 => F_zaG (R_zaG n)
theorem okR_zaG : ∀ n,io_zaG.Okay pg (R_zaG n)
 | 0 => ⟨⟨f_zaG,by kernel_rfl,by kernel_rfl,by kernel_rfl⟩,fun _ _ h => by cases h⟩
 | n + 1 => ok_zaG _ (okR_zaG n)
def tailR (c : List Th) (d : List Lk) : Nat → Int → Option (List Int)
 | 0,_ => none
 | n + 1,i => if (!(inB c i && (gI c i).1 != 0)) = true then some [] else if nextR (zcW c d) i < 0 then some [i] else (tailR c d n (nextR (zcW c d) i)).map (i :: ·)
theorem tailR_len {c : List Th} {d : List Lk} : ∀ {n : Nat} {i : Int} {o : List Int},tailR c d n i = some o → o.length ≤ n
 | 0,i,o,h => by cases h
 | n + 1,i,o,h => by
  unfold tailR at h
  split at h
  ·cases h; simp
  ·split at h
   ·cases h; simp
   ·obtain ⟨o',h1,rfl⟩ := Option.map_eq_some_iff.1 h
    have := tailR_len h1
    simp; omega
theorem tailR_run (a : List Bool) (b : List Tk) (c : List Th) (d : List Lk) (e : List Int) (f : Int) (hc : (decide (c.length ≤ 1000000) && zfv c d) = true) : ∀ (n : Nat) (i : Int) (o : List Int),n ≤ 1000001 → tailR c d n i = some o → R_zaG n (a,b,c,d,e,f,i) = some o
 | 0,i,o,_,h => by cases h
 | n + 1,i,o,hn,h => by
  have hmax : maxLen = 9223372036854775807 := by decide
  show (zaG (R_zaG n) (a,b,c,d,e,f,i)).run _ = _
  rw [zaG]
  simp only [RT.run]
  unfold tailR at h
  split at h
  ·rename_i h1
   cases h
   rw [if_pos h1]
  ·rename_i h1
   rw [if_neg h1,if_pos hc]
   split at h
   ·rename_i h2
    cases h
    rw [if_pos (decide_eq_true h2)]
   ·rename_i h2
    obtain ⟨o',h3,rfl⟩ := Option.map_eq_some_iff.1 h
    have hlen := tailR_len h3
    rw [if_neg (by simpa using h2),tailR_run a b c d e f hc n _ o' (by omega) h3,Option.bind_some,if_pos (zeI.2 ⟨by simp only [List.length_singleton]; omega,by simp only [List.length_singleton]; omega⟩)]
    rfl
def zfN (c : List Th) (d : List Lk) (i : Int) : Bool := (decide (c.length ≤ 1000000) && zfv c d) && (tailR c d (c.length + 1) i).isSome
def zeO (c : List Th) (d : List Lk) (i : Int) : List Int := (tailR c d (c.length + 1) i).getD []
def e_zaG : zcq := io_zaG.sp (fun (a,b,c,d,e,f,i) => (zfN c d i)) (fun (a,b,c,d,e,f,i) => (zeO c d i))
theorem sp_zaG (h : ∀ (a : List Bool) (b : List Tk) (c : List Th) (d : List Lk) (e : List Int) (f : Int) (i : Int),WfT [.sl tB,.sl yK,.sl yH,.sl yL,.sl tI,tI,tI] (a,b,c,d,e,f,i) → ((zfN c d i)) = true → ∃ n,R_zaG n (a,b,c,d,e,f,i) = some (zeO c d i)) : e_zaG.ok pg := sp_rec okR_zaG fun (a,b,c,d,e,f,i) hw hc => h a b c d e f i hw hc
theorem e_zaG_ok : e_zaG.ok pg := sp_zaG fun a b c d e f i _ hc => by
 unfold zfN at hc
 rw [Bool.and_eq_true] at hc
 obtain ⟨o,ho⟩ := Option.isSome_iff_exists.1 hc.2
 have h1 := hc.1
 rw [Bool.and_eq_true] at h1
 have hl := of_decide_eq_true h1.1
 refine ⟨c.length + 1,?_⟩
 rw [tailR_run a b c d e f hc.1 _ i o (by omega) ho,zeO,ho]
 rfl
def zca : ((List Bool) × (List Tk) × (List Th) × (List Lk) × (List Int) × Int × Int) → RT Unit Int
| (s_0,s_1,s_2,s_3,s_4,s_5,i) =>
 .rq 4 (.req ((zfN s_2 s_3 i)) (.rq 4 (let t0 := (zeO s_2 s_3 i);
 let t1 := (t0.length : Int);
 .ite (t1 == 0)
 (.rq 1 (.done (-1)))
 (.rq 4 (let t2 := w64 (t1 - 1);
 .req (inB t0 t2) (.rq 2 (.done (gI t0 t2))))))))
def F_zca (x : (List Bool) × (List Tk) × (List Th) × (List Lk) × (List Int) × Int × Int) : Option Int := (zca x).run fun _ => none
def io_zca : Io := ⟨n_zca,[.sl tB,.sl yK,.sl yH,.sl yL,.sl tI,tI,tI],[.agg [qm 0,qm 1,qm 2,qm 3,qm 4,qm 5],.lf (qm 6)],[],[[.sl tB,.sl yK,.sl yH,.sl yL,.sl tI,tI],[tI]],[tI],.lf (qm 0),[],[],false⟩
def zca_P : List zch := []
def zca_T : zcl := tab [e_zaG]
theorem zca_To : zck pg zca_T := zci ⟨e_zaG_ok,trivial⟩
theorem zca_go : zcy pg (zca_T) io_zca f_zca (zca_P) [] (zca) := ⟨by kernel_rfl,by kernel_rfl,fun x => by kernel_rfl⟩
theorem ok_zca : io_zca.Okay pg (F_zca) := zcu zcj (zca_To) (zca_go) trivial
def e_zca : zcq := io_zca.sp (fun (a,b,c,d,e,f,i) => (zfN c d i)) (fun (a,b,c,d,e,f,i) => ((zeO c d i).getLastD (-1)))
theorem sp_zca (h : ∀ (a : List Bool) (b : List Tk) (c : List Th) (d : List Lk) (e : List Int) (f : Int) (i : Int),WfT [.sl tB,.sl yK,.sl yH,.sl yL,.sl tI,tI,tI] (a,b,c,d,e,f,i) → ((zfN c d i)) = true → (zca (a,b,c,d,e,f,i)).run (fun _ => none) = some ((zeO c d i).getLastD (-1))) : e_zca.ok pg := zcw ok_zca fun (a,b,c,d,e,f,i) hw hc => h a b c d e f i hw hc
theorem e_zca_ok : e_zca.ok pg := sp_zca fun a b c d e f i _ hc => by
 have hc' := hc
 unfold zfN at hc'
 simp only [Bool.and_eq_true,decide_eq_true_eq] at hc'
 have hl := hc'.1.1
 have hlen : (zeO c d i).length ≤ c.length + 1 := by
  unfold zeO
  cases h : tailR c d (c.length + 1) i with
  | none => simp
  | some o => exact tailR_len h
 rw [zca]
 simp only [RT.run]
 rw [if_pos hc]
 generalize zeO c d i = t at *
 by_cases ht : t = []
 ·subst ht; rfl
 ·have hpos : 0 < t.length := List.length_pos_iff.2 ht
  rw [if_neg (by simp; omega),zcm (by omega),show (t.length : Int) - 1 = ((t.length - 1 : Nat) : Int) by omega,if_pos (zcn.2 ⟨by omega,by omega⟩),zcL (by omega),List.getLastD_eq_getLast?,List.getLast?_eq_getElem?,List.getElem?_eq_getElem (by omega)]
  rfl
def zbE : ((List Bool) × (List Tk) × (List Th) × (List Lk) × (List Int) × Int × Int) → RT Unit Bool
| (s_0,s_1,s_2,s_3,s_4,s_5,i) =>
 .rq 4 (.req ((zfN s_2 s_3 i)) (.rq 7 (let t0 := ((zeO s_2 s_3 i).getLastD (-1));
 let t1 := inB s_2 t0;
 let t2 := decide (0 ≤ t0);
 .req (t1 || (!t2)) (.rq 7 (let t3 := (gI s_2 t0).1 == 2;
 .req (t1 || (!((!t3) && t2))) (.rq 6 (.done (t2 && (t3 || ((gI s_2 t0).1 == 3))))))))))
def F_zbE (x : (List Bool) × (List Tk) × (List Th) × (List Lk) × (List Int) × Int × Int) : Option Bool := (zbE x).run fun _ => none
def io_zbE : Io := ⟨n_zbE,[.sl tB,.sl yK,.sl yH,.sl yL,.sl tI,tI,tI],[.agg [qm 0,qm 1,qm 2,qm 3,qm 4,qm 5],.lf (qm 6)],[],[[.sl tB,.sl yK,.sl yH,.sl yL,.sl tI,tI],[tI]],[tB],.lf (qm 0),[],[],false⟩
def zbE_P : List zch := []
def zbE_T : zcl := tab [e_zca]
theorem zbE_To : zck pg zbE_T := zci ⟨e_zca_ok,trivial⟩
theorem zbE_go : zcy pg (zbE_T) io_zbE f_zbE (zbE_P) [] (zbE) := ⟨by kernel_rfl,by kernel_rfl,fun x => by kernel_rfl⟩
theorem ok_zbE : io_zbE.Okay pg (F_zbE) := zcu zcj (zbE_To) (zbE_go) trivial
def endRV (c : List Th) (d : List Lk) (i : Int) : Int := (zeO c d i).getLastD (-1)
def livesR (c : List Th) (d : List Lk) (i : Int) : Bool := decide (0 ≤ endRV c d i) && ((gI c (endRV c d i)).1 == 2 || (gI c (endRV c d i)).1 == 3)
def ziw (c : List Th) (d : List Lk) (i : Int) : Bool := zfN c d i && (inB c (endRV c d i) || !(decide (0 ≤ endRV c d i)))
def e_zbE : zcq := io_zbE.sp (fun (a,b,c,d,e,f,i) => (ziw c d i)) (fun (a,b,c,d,e,f,i) => (livesR c d i))
theorem sp_zbE (h : ∀ (a : List Bool) (b : List Tk) (c : List Th) (d : List Lk) (e : List Int) (f : Int) (i : Int),WfT [.sl tB,.sl yK,.sl yH,.sl yL,.sl tI,tI,tI] (a,b,c,d,e,f,i) → ((ziw c d i)) = true → (zbE (a,b,c,d,e,f,i)).run (fun _ => none) = some (livesR c d i)) : e_zbE.ok pg := zcw ok_zbE fun (a,b,c,d,e,f,i) hw hc => h a b c d e f i hw hc
theorem e_zbE_ok : e_zbE.ok pg := sp_zbE fun a b c d e f i _ hc => by
 unfold ziw at hc
 rw [Bool.and_eq_true] at hc
 rw [zbE]
 simp only [RT.run]
 have h2 : (inB c ((zeO c d i).getLastD (-1)) || !(decide (0 ≤ (zeO c d i).getLastD (-1)))) = true := hc.2
 rw [if_pos hc.1,if_pos h2,if_pos]
 ·rfl
 ·cases hin : inB c ((zeO c d i).getLastD (-1)) with
  | true => simp
  | false =>
   rw [hin] at h2
   have : decide (0 ≤ (zeO c d i).getLastD (-1)) = false := by simpa using h2
   rw [this]; simp
def io_zz : Io := ⟨n_zz,[.sl tB,.sl yK,.sl yH,.sl yL,.sl tI,tI,tI],[.agg [qm 0,qm 1,qm 2,qm 3,qm 4,qm 5],.lf (qm 6)],[],[[.sl tB,.sl yK,.sl yH,.sl yL,.sl tI,tI],[tI]],[tI],.lf (qm 0),[],[],false⟩
def zai (self : ((List Bool) × (List Tk) × (List Th) × (List Lk) × (List Int) × Int × Int) → Option Int) : ((List Bool) × (List Tk) × (List Th) × (List Lk) × (List Int) × Int × Int) → RT Unit Bool
| (s_0,s_1,s_2,s_3,s_4,s_5,k) =>
 .rq 5 (.req (inB s_1 k) (.rq 11 (.ite ((!(gI s_1 k).1) || (!(gI s_1 k).2.2.2.2.2))
 (.rq 1 (.done false))
 (.rq 3 (.ite ((gI s_1 k).2.2.2.1 == 1)
 (.rq 3 (.req ((ziw s_2 s_3 (gI s_1 k).2.2.2.2.1)) (.rq 1 (.done ((livesR s_2 s_3 (gI s_1 k).2.2.2.2.1))))))
 (.rq 7 (let t0 := (gI s_1 k).2.2.2.1 == 2;
 let t1 := self (s_0,s_1,s_2,s_3,s_4,s_5,(gI s_1 k).2.2.2.2.1);
 .req (t1.isSome || (!t0)) (.rq 3 (.done (t0 && (decide (0 < (Option.getD t1 default)))))))))))))
def F_zai (self : ((List Bool) × (List Tk) × (List Th) × (List Lk) × (List Int) × Int × Int) → Option Int) (x : (List Bool) × (List Tk) × (List Th) × (List Lk) × (List Int) × Int × Int) : Option Bool := (zai self x).run fun _ => none
def io_zai : Io := ⟨n_zai,[.sl tB,.sl yK,.sl yH,.sl yL,.sl tI,tI,tI],[.agg [qm 0,qm 1,qm 2,qm 3,qm 4,qm 5],.lf (qm 6)],[],[[.sl tB,.sl yK,.sl yH,.sl yL,.sl tI,tI],[tI]],[tB],.lf (qm 0),[],[],false⟩
def zai_P (self : ((List Bool) × (List Tk) × (List Th) × (List Lk) × (List Int) × Int × Int) → Option Int) : List zch := []
def zai_T (self : ((List Bool) × (List Tk) × (List Th) × (List Lk) × (List Int) × Int × Int) → Option Int) : zcl := tab [io_zz.en self,e_zbE]
theorem zai_To (self : ((List Bool) × (List Tk) × (List Th) × (List Lk) × (List Int) × Int × Int) → Option Int) (hs : io_zz.Okay pg self) : zck pg (zai_T self) := zci ⟨zeS hs,e_zbE_ok,trivial⟩
theorem zai_go (self : ((List Bool) × (List Tk) × (List Th) × (List Lk) × (List Int) × Int × Int) → Option Int) : zcy pg (zai_T self) io_zai f_zai (zai_P self) [] (zai self) := ⟨by kernel_rfl,by kernel_rfl,fun x => by kernel_rfl⟩
theorem ok_zai (self : ((List Bool) × (List Tk) × (List Th) × (List Lk) × (List Int) × Int × Int) → Option Int) (hs : io_zz.Okay pg self) : io_zai.Okay pg (F_zai self) := zcu zcj (zai_To self hs) (zai_go self) trivial
def zz_b58 (self : ((List Bool) × (List Tk) × (List Th) × (List Lk) × (List Int) × Int × Int) → Option Bool) : (Int × (List Bool) × (List Tk) × (List Th) × (List Lk) × (List Int) × Int) → (Int × Int) → RT (Int × Int) Int
| (c,s_0,s_1,s_2,s_3,s_4,s_5),(n,k) =>
 .rq 5 (.ite (decide (k < (s_1.length : Int)))
 (.rq 3 (.req (inB s_1 k) (.rq 7 (let t0 := (gI s_1 k).2.1 == c;
 let t1 := self (s_0,s_1,s_2,s_3,s_4,s_5,k);
 .req (t1.isSome || (!t0)) (.rq 1 (let t2 := w64 (k + 1);
 .ite (t0 && (Option.getD t1 default))
 (.rq 4 (.req (inB s_1 k) (.rq 7 (.again (w64 (n + (gI s_1 k).2.2.1),t2)))))
 (.rq 3 (.again (n,t2)))))))))
 (.done n))
def zz_p58 (self : ((List Bool) × (List Tk) × (List Th) × (List Lk) × (List Int) × Int × Int) → Option Bool) : zch := ⟨58,true,[tI,.sl tB,.sl yK,.sl yH,.sl yL,.sl tI,tI],[tI,tI],⟨[.keep [1,2,5,6],.gc],[1,2,5,6],[.lf (qi 0),.lf (qp 32),.lf (qm 0),.lf (qm 1)],[(32,true,.cells [qi 1,qi 2,qi 3,qi 4,qi 5,qi 6])]⟩,[⟨2,⟨[.keep [5],.gc],[5],[.lf (qm 0)],[]⟩,[tI]⟩],(zz_b58 self)⟩
def zz (self : ((List Bool) × (List Tk) × (List Th) × (List Lk) × (List Int) × Int × Int) → Option Bool) : ((List Bool) × (List Tk) × (List Th) × (List Lk) × (List Int) × Int × Int) → RT Unit Int
| (s_0,s_1,s_2,s_3,s_4,s_5,c) =>
 .rq 4 (.call (lo (zz_b58 self) (c,s_0,s_1,s_2,s_3,s_4,s_5) (0,0)) default fun v0 =>
 .rq 2 (.done v0))
def F_zz (self : ((List Bool) × (List Tk) × (List Th) × (List Lk) × (List Int) × Int × Int) → Option Bool) (x : (List Bool) × (List Tk) × (List Th) × (List Lk) × (List Int) × Int × Int) : Option Int := (zz self x).run fun _ => none
def zz_P (self : ((List Bool) × (List Tk) × (List Th) × (List Lk) × (List Int) × Int × Int) → Option Bool) : List zch := [zz_p58 self]
def zz_T (self : ((List Bool) × (List Tk) × (List Th) × (List Lk) × (List Int) × Int × Int) → Option Bool) : zcl := tab [io_zai.en self]
theorem zz_To (self : ((List Bool) × (List Tk) × (List Th) × (List Lk) × (List Int) × Int × Int) → Option Bool) (hs : io_zai.Okay pg self) : zck pg (zz_T self) := zci ⟨zeS hs,trivial⟩
theorem zz_k58 (self : ((List Bool) × (List Tk) × (List Th) × (List Lk) × (List Int) × Int × Int) → Option Bool) : (zz_p58 self).OK pg (zz_T self) (zcB 36 (zz_P self)) (zcs f_zz) 36 := ⟨by kernel_rfl,fun i x => by kernel_rfl⟩
theorem zz_go (self : ((List Bool) × (List Tk) × (List Th) × (List Lk) × (List Int) × Int × Int) → Option Bool) : zcy pg (zz_T self) io_zz f_zz (zz_P self) [] (zz self) := ⟨by kernel_rfl,by kernel_rfl,fun x => by kernel_rfl⟩
theorem ok_zz (self : ((List Bool) × (List Tk) × (List Th) × (List Lk) × (List Int) × Int × Int) → Option Bool) (hs : io_zai.Okay pg self) : io_zz.Okay pg (F_zz self) := zcu zcj (zz_To self hs) (zz_go self) ⟨zz_k58 self,trivial⟩
def R_zz : Nat → ((List Bool) × (List Tk) × (List Th) × (List Lk) × (List Int) × Int × Int) → Option Int
 | 0 => fun _ => none
 | n + 1 => F_zz (F_zai (R_zz n))
theorem okR_zz : ∀ n,io_zz.Okay pg (R_zz n)
 | 0 => ⟨⟨f_zz,by kernel_rfl,by kernel_rfl,by kernel_rfl⟩,fun _ _ h => by cases h⟩
 | n + 1 => ok_zz _ (ok_zai _ (okR_zz n))
def R_zai (n : Nat) : ((List Bool) × (List Tk) × (List Th) × (List Lk) × (List Int) × Int × Int) → Option Bool := F_zai (R_zz n)
theorem okR_zai (n : Nat) : io_zai.Okay pg (R_zai n) := ok_zai _ (okR_zz n)
end
end Go.Proofs.YtlfdidaeachpoaaGreat
namespace Go.Proofs.YtlfdidaeachpoaaGreat
theorem nodup_lt : ∀ (m : Nat) (l : List Nat),l.Nodup → (∀ x ∈ l,x < m) → l.length ≤ m
 | 0,l,_,h => by
  cases l with
  | nil => simp
  | cons x l => exact absurd (h x (List.mem_cons_self ..)) (Nat.not_lt_zero x)
 | m + 1,l,hn,h => by
  have h1 := nodup_lt m (l.erase m) (hn.erase m) fun x hx => by
   have := hn.mem_erase_iff.1 hx
   have := h x this.2
   omega
  rw [List.length_erase] at h1
  split at h1 <;> omega
def Arr (m : Nat) (l : List (Int × Int)) (i j : Nat) : Prop := ∃ a ∈ l,zda m a = true ∧ a.1 = (i : Int) ∧ a.2 = (j : Int)
inductive Way (m : Nat) (l : List (Int × Int)) : Nat → Nat → Prop
 | one {i j : Nat} (h : Arr m l i j) : Way m l i j
 | more {i j k : Nat} (h : Arr m l i j) (h' : Way m l j k) : Way m l i k
theorem Way.trans {m : Nat} {l : List (Int × Int)} {i j k : Nat} (h : Way m l i j) (h' : Way m l j k) : Way m l i k := by
 induction h with
 | one h => exact .more h h'
 | more h _ ih => exact .more h (ih h')
theorem nxt_none {m : Nat} {l : List (Int × Int)} {out : List Int} (h : nxt m l out = none) {k : Nat} (hk : k < m) (ho : (k : Int) ∉ out) : ∃ j,j < m ∧ (j : Int) ∉ out ∧ Arr m l j k := by
 have h1 := List.findIdx?_eq_none_iff.1 h k (List.mem_range.2 hk)
 have hc : out.contains (k : Int) = false := by
  cases hc : out.contains (k : Int) with
  | false => rfl
  | true => exact absurd (List.contains_iff_mem.1 hc) ho
 rw [hc] at h1
 have h2 : zfL m l out (k : Int) ≠ 0 := by simpa using h1
 have h3 : 0 < (l.filter fun a => zda m a && a.2 == (k : Int) && !(out.contains a.1)).length := Nat.pos_of_ne_zero h2
 obtain ⟨a,ha⟩ := List.exists_mem_of_length_pos h3
 obtain ⟨h4,h5⟩ := List.mem_filter.1 ha
 simp only [Bool.and_eq_true,beq_iff_eq,Bool.not_eq_true'] at h5
 obtain ⟨⟨hok,h6⟩,h7⟩ := h5
 have hv := hok
 simp only [zda,Bool.and_eq_true,decide_eq_true_eq] at hv
 refine ⟨a.1.toNat,by omega,?_,a,h4,hok,by omega,h6⟩
 rw [show ((a.1.toNat : Nat) : Int) = a.1 by omega]
 intro hm
 rw [List.contains_iff_mem.2 hm] at h7
 cases h7
theorem walk_back {m : Nat} {l : List (Int × Int)} {out : List Int} (h : nxt m l out = none) (hr : ∀ i,¬ Way m l i i) {k : Nat} (hk : k < m) (ho : (k : Int) ∉ out) : ∀ n,∃ (j : Nat) (p : List Nat),p.length = n ∧ (j :: p).Nodup ∧ (∀ x ∈ j :: p,x < m) ∧ (j : Int) ∉ out ∧ ∀ x ∈ p,Way m l j x
 | 0 => ⟨k,[],rfl,by simp,by simpa using hk,ho,by simp⟩
 | n + 1 => by
  obtain ⟨j,p,h1,h2,h3,h4,h5⟩ := walk_back h hr hk ho n
  obtain ⟨i,h6,h7,h8⟩ := nxt_none h (h3 j (List.mem_cons_self ..)) h4
  have hway : ∀ x ∈ j :: p,Way m l i x := fun x hx => by
   rcases List.mem_cons.1 hx with rfl | hx
   ·exact .one h8
   ·exact .more h8 (h5 x hx)
  refine ⟨i,j :: p,by simp [h1],?_,?_,h7,hway⟩
  ·rw [List.nodup_cons]
   exact ⟨fun hm => hr i (hway i hm),h2⟩
  ·intro x hx
   rcases List.mem_cons.1 hx with rfl | hx
   ·exact h6
   ·exact h3 x hx
theorem not_out {m : Nat} {l : List (Int × Int)} {out : List Int} (H : zfV m l out) (h : out.length < m) : ∃ k : Nat,k < m ∧ (k : Int) ∉ out := by
 refine Classical.byContradiction fun hno => ?_
 have hall : ∀ k : Nat,k < m → (k : Int) ∈ out := fun k hk => Classical.byContradiction fun hn => hno ⟨k,hk,hn⟩
 have : ∀ (n : Nat) (o : List Int),(∀ k : Nat,k < n → (k : Int) ∈ o) → n ≤ o.length := by
  intro n
  induction n with
  | zero => intro o _; omega
  | succ n ih =>
   intro o ho
   have h1 := ho n (by omega)
   have h2 := ih (o.erase (n : Int)) fun k hk => (List.mem_erase_of_ne (by omega)).2 (ho k (by omega))
   rw [List.length_erase_of_mem h1] at h2
   have := List.length_pos_of_mem h1
   omega
 have := this m out hall
 omega
theorem kahn_some {m : Nat} {l : List (Int × Int)} (hr : ∀ i,¬ Way m l i i) : ∀ (n : Nat) (out : List Int),zfV m l out → out.length + n = m → ∃ o,kahn m l n out = some o
 | 0,out,_,_ => ⟨out,rfl⟩
 | n + 1,out,H,h => by
  unfold kahn
  cases hn : nxt m l out with
  | some k => exact kahn_some hr n _ (H.step hn) (by simp; omega)
  | none =>
   exfalso
   obtain ⟨k,hk,ho⟩ := not_out H (by omega)
   obtain ⟨j,p,h1,h2,h3,_⟩ := walk_back hn hr hk ho m
   have := nodup_lt m (j :: p) h2 h3
   rw [List.length_cons] at this
   omega
theorem ordV_ok {m : Nat} {l : List (Int × Int)} (hr : ∀ i,¬ Way m l i i) : (zdD m l).1 = true ∧ (zdD m l).2.length = m := by
 obtain ⟨o,ho⟩ := kahn_some hr m [] (zfV.nil m l) (by simp)
 unfold zdD
 rw [ho]
 refine ⟨rfl,?_⟩
 have := ziA ho
 simpa using this
theorem kahn_prefix {m : Nat} {l : List (Int × Int)} : ∀ {n : Nat} {out o : List Int},kahn m l n out = some o → ∃ r,o = out ++ r
 | 0,out,o,h => by cases h; exact ⟨[],by simp⟩
 | n + 1,out,o,h => by
  unfold kahn at h
  split at h
  ·cases h
  ·obtain ⟨r,hr⟩ := kahn_prefix h
   exact ⟨_,by rw [hr,List.append_assoc]⟩
theorem nxt_from {m : Nat} {l : List (Int × Int)} {out : List Int} {k : Nat} (h : nxt m l out = some k) {a : Int × Int} (ha : a ∈ l) (hok : zda m a = true) (h2 : a.2 = (k : Int)) : a.1 ∈ out := by
 obtain ⟨_,_,h3⟩ := nxt_spec h
 refine Classical.byContradiction fun hn => ?_
 have hc : out.contains a.1 = false := by
  cases hc : out.contains a.1 with
  | false => rfl
  | true => exact absurd (List.contains_iff_mem.1 hc) hn
 have : a ∈ l.filter fun a => zda m a && a.2 == (k : Int) && !(out.contains a.1) := by
  rw [List.mem_filter]
  refine ⟨ha,?_⟩
  rw [hok,h2,hc]
  simp
 have hpos := List.length_pos_of_mem this
 unfold zfL at h3
 omega
theorem kahn_split {m : Nat} {l : List (Int × Int)} : ∀ {n : Nat} {out o : List Int},kahn m l n out = some o → ∀ p k q,o = p ++ k :: q → out.length ≤ p.length → ∀ a ∈ l,zda m a = true → a.2 = k → a.1 ∈ p
 | 0,out,o,h,p,k,q,ho,hl,a,ha,hok,h2 => by
  cases h
  have := congrArg List.length ho
  simp at this
  omega
 | n + 1,out,o,h,p,k,q,ho,hl,a,ha,hok,h2 => by
  unfold kahn at h
  split at h
  ·cases h
  ·rename_i k0 hk0
   by_cases hp : p.length = out.length
   ·obtain ⟨r,hr⟩ := kahn_prefix h
    have he : p ++ k :: q = out ++ ((k0 : Int) :: r) := by rw [← ho,hr,List.append_assoc]; rfl
    obtain ⟨h3,h4⟩ := List.append_inj he hp
    cases h4
    rw [h3]
    exact nxt_from hk0 ha hok h2
   ·exact kahn_split h p k q ho (by simp; omega) a ha hok h2
theorem ordV_split {m : Nat} {l : List (Int × Int)} {p q : List Int} {k : Int} (ho : (zdD m l).2 = p ++ k :: q) {a : Int × Int} (ha : a ∈ l) (hok : zda m a = true) (h2 : a.2 = k) : a.1 ∈ p := by
 unfold zdD at ho
 cases h : kahn m l m [] with
 | none => rw [h] at ho; simp at ho
 | some o => rw [h] at ho; exact kahn_split h p k q ho (by simp) a ha hok h2
theorem ordV_all {m : Nat} {l : List (Int × Int)} (h : (zdD m l).2.length = m) {k : Nat} (hk : k < m) : (k : Int) ∈ (zdD m l).2 := by
 refine Classical.byContradiction fun hn => ?_
 have H := zie m l
 have h1 : ((k : Int) :: (zdD m l).2).Nodup := List.nodup_cons.2 ⟨hn,H.nodup⟩
 have h2 := nodup_lt m (((k : Int) :: (zdD m l).2).map Int.toNat) ?_ ?_
 ·rw [List.length_map,List.length_cons] at h2; omega
 ·rw [List.nodup_iff_pairwise_ne,List.pairwise_map]
  have h3 := List.nodup_iff_pairwise_ne.1 h1
  refine List.Pairwise.imp_of_mem ?_ h3
  intro x y hx hy hxy
  have hb : ∀ z ∈ (k : Int) :: (zdD m l).2,0 ≤ z := fun z hz => by
   rcases List.mem_cons.1 hz with rfl | hz
   ·omega
   ·exact (H.inr z hz).1
  have := hb x hx
  have := hb y hy
  omega
 ·intro x hx
  obtain ⟨z,hz,rfl⟩ := List.mem_map.1 hx
  rcases List.mem_cons.1 hz with rfl | hz
  ·omega
  ·have := H.inr z hz; omega
def zed (m : Nat) (i : Int) (x : Bool × List Bool) (a : Int × Int) : Bool × List Bool :=
 if (!(zda m a) || gI x.2 a.2) = true then x else if (a.1 == i || gI x.2 a.1) = true then (true,sI x.2 a.2 true) else x
theorem gI_sI {r : List Bool} {k j : Int} (hk : 0 ≤ k ∧ k < (r.length : Int)) (hj : 0 ≤ j) : gI (sI r k true) j = if k = j then true else gI r j := by
 obtain ⟨k,rfl⟩ := Int.eq_ofNat_of_zero_le hk.1
 obtain ⟨j,rfl⟩ := Int.eq_ofNat_of_zero_le hj
 simp only [gI,sI,Int.toNat_natCast,List.getD_eq_getElem?_getD]
 by_cases h : k = j
 ·subst h
  rw [List.getElem?_set_self (by omega),if_pos rfl]; rfl
 ·rw [List.getElem?_set_ne h,if_neg (by omega)]
structure Pass (m : Nat) (l : List (Int × Int)) (i : Nat) (r r' : List Bool) (ch : Bool) : Prop where
 len : r'.length = r.length
 mono : ∀ j : Int,0 ≤ j → gI r j = true → gI r' j = true
 sound : (∀ j : Nat,j < m → gI r (j : Int) = true → Way m l i j) → ∀ j : Nat,j < m → gI r' (j : Int) = true → Way m l i j
 more : ch = true → r.count true < r'.count true
 le : r.count true ≤ r'.count true
 same : ch = false → r' = r
theorem count_set {r : List Bool} : ∀ {k : Nat},k < r.length → r.getD k default = false → (r.set k true).count true = r.count true + 1 := by
 induction r with
 | nil => intro k h; exact absurd h (Nat.not_lt_zero k)
 | cons x r ih =>
  intro k h hf
  cases k with
  | zero =>
   have hx : x = false := by simpa using hf
   subst hx
   simp
  | succ k =>
   have := ih (k := k) (by simpa using h) (by simpa using hf)
   simp only [List.set_cons_succ,List.count_cons,this]
   omega
theorem pass_fold {m : Nat} {l0 : List (Int × Int)} {i : Nat} (hi : i < m) : ∀ (l : List (Int × Int)) (ch : Bool) (r r0 : List Bool),(∀ a ∈ l,a ∈ l0) → r.length = m → Pass m l0 i r0 r ch → Pass m l0 i r0 (l.foldl (zed m (i : Int)) (ch,r)).2 (l.foldl (zed m (i : Int)) (ch,r)).1
 | [],_,_,_,_,_,H => H
 | a :: l,ch,r,r0,hsub,hr,H => by
  have hsub' : ∀ x ∈ l,x ∈ l0 := fun x hx => hsub x (List.mem_cons_of_mem _ hx)
  rw [List.foldl_cons]
  unfold zed
  by_cases h1 : (!(zda m a) || gI r a.2) = true
  ·simp only [if_pos h1]; exact pass_fold hi l ch r r0 hsub' hr H
  ·simp only [if_neg h1]
   by_cases h2 : (a.1 == (i : Int) || gI r a.1) = true
   ·simp only [if_pos h2]
    have h1' : zda m a = true ∧ gI r a.2 = false := by
     cases h : zda m a <;> cases h' : gI r a.2 <;> simp_all
    obtain ⟨hok,hf⟩ := h1'
    have hv := hok
    simp only [zda,Bool.and_eq_true,decide_eq_true_eq] at hv
    have hk : 0 ≤ a.2 ∧ a.2 < (r.length : Int) := by rw [hr]; omega
    have hcount : (sI r a.2 true).count true = r.count true + 1 := count_set (by omega) hf
    refine pass_fold hi l true _ r0 hsub' (by simp [sI,hr]) ⟨by simp [sI,H.len],fun j hj h => ?_,fun hs j hj h => ?_,fun _ => ?_,?_,fun h => by cases h⟩
    ·rw [gI_sI hk hj]
     split
     ·rfl
     ·exact H.mono j hj h
    ·rw [gI_sI hk (by omega)] at h
     split at h
     ·rename_i he
      have ha := hsub a (List.mem_cons_self ..)
      rw [Bool.or_eq_true] at h2
      rcases h2 with h3 | h3
      ·exact .one ⟨a,ha,hok,by simpa using h3,he⟩
      ·have hw := H.sound hs a.1.toNat (by omega) (by rw [show ((a.1.toNat : Nat) : Int) = a.1 by omega]; exact h3)
       exact hw.trans (.one ⟨a,ha,hok,by omega,he⟩)
     ·exact H.sound hs j hj h
    ·rw [hcount]; have := H.le; omega
    ·rw [hcount]; have := H.le; omega
   ·simp only [if_neg h2]; exact pass_fold hi l ch r r0 hsub' hr H
theorem rch_true {m : Nat} {i : Int} : ∀ (l : List (Int × Int)) (r : List Bool),(l.foldl (zed m i) (true,r)).1 = true
 | [],_ => rfl
 | a :: l,r => by
  rw [List.foldl_cons]
  unfold zed
  split
  ·exact rch_true l r
  ·split
   ·exact rch_true l _
   ·exact rch_true l r
theorem rch_closed {m : Nat} {i : Int} : ∀ (l : List (Int × Int)) (r : List Bool),(l.foldl (zed m i) (false,r)).1 = false → (l.foldl (zed m i) (false,r)).2 = r ∧ ∀ a ∈ l,zda m a = true → (a.1 = i ∨ gI r a.1 = true) → gI r a.2 = true
 | [],_,_ => ⟨rfl,fun a h => by cases h⟩
 | a :: l,r,h => by
  rw [List.foldl_cons] at h ⊢
  have hst : zed m i (false,r) a = (false,r) ∧ (zda m a = true → (a.1 = i ∨ gI r a.1 = true) → gI r a.2 = true) := by
   by_cases h1 : (!(zda m a) || gI r a.2) = true
   ·refine ⟨by unfold zed; rw [if_pos h1],fun hok _ => ?_⟩
    rw [hok] at h1
    simpa using h1
   ·by_cases h2 : (a.1 == i || gI r a.1) = true
    ·have he : zed m i (false,r) a = (true,sI r a.2 true) := by unfold zed; rw [if_neg h1,if_pos h2]
     rw [he,rch_true] at h
     cases h
    ·refine ⟨by unfold zed; rw [if_neg h1,if_neg h2],fun _ hh => absurd ?_ h2⟩
     rcases hh with hh | hh
     ·simp [hh]
     ·simp [hh]
  rw [hst.1] at h ⊢
  obtain ⟨h1,h2⟩ := rch_closed l r h
  refine ⟨h1,fun x hx => ?_⟩
  rcases List.mem_cons.1 hx with rfl | hx
  ·exact hst.2
  ·exact h2 x hx
open Classical in
noncomputable def zfa (m : Nat) (l : List (Int × Int)) (i : Nat) : List Bool := (List.range m).map fun (j : Nat) => decide (Way m l i j)
open Classical in
theorem reach_eq {m : Nat} {l : List (Int × Int)} {i : Nat} {r : List Bool} (hr : r.length = m) (hs : ∀ j : Nat,j < m → gI r (j : Int) = true → Way m l i j) (hc : ∀ a ∈ l,zda m a = true → (a.1 = (i : Int) ∨ gI r a.1 = true) → gI r a.2 = true) : r = zfa m l i := by
 have hall : ∀ {k j : Nat},Way m l k j → (k = i ∨ gI r (k : Int) = true) → gI r (j : Int) = true := by
  intro k j hw
  induction hw with
  | one h =>
   intro hk
   obtain ⟨a,ha,hok,e1,e2⟩ := h
   rw [← e2]
   refine hc a ha hok ?_
   rcases hk with rfl | hk
   ·exact .inl e1
   ·exact .inr (by rw [e1]; exact hk)
  | more h _ ih =>
   intro hk
   obtain ⟨a,ha,hok,e1,e2⟩ := h
   refine ih (.inr ?_)
   rw [← e2]
   refine hc a ha hok ?_
   rcases hk with rfl | hk
   ·exact .inl e1
   ·exact .inr (by rw [e1]; exact hk)
 apply List.ext_getElem
 ·simp [zfa,hr]
 ·intro j h1 h2
  have hj : j < m := by rw [← hr]; exact h1
  have hg : gI r (j : Int) = r[j] := zcL h1
  simp only [zfa,List.getElem_map,List.getElem_range]
  cases h : r[j] with
  | true => rw [h] at hg; exact (decide_eq_true (hs j hj hg)).symm
  | false =>
   rw [h] at hg
   symm
   refine decide_eq_false fun hw => ?_
   rw [hall hw (.inl rfl)] at hg
   cases hg
theorem ord_lt {m : Nat} {l : List (Int × Int)} (h : (zdD m l).2.length = m) {i j : Nat} (ha : Arr m l i j) : (zdD m l).2.idxOf (i : Int) < (zdD m l).2.idxOf (j : Int) := by
 obtain ⟨x,hx,hok,e1,e2⟩ := ha
 have hj : j < m := by
  simp only [zda,Bool.and_eq_true,decide_eq_true_eq] at hok
  omega
 have hm := ordV_all h hj
 have hn := (zie m l).nodup
 obtain ⟨p,q,ho⟩ := List.append_of_mem hm
 have hp := ordV_split ho hx hok e2
 rw [ho] at hn ⊢
 rw [e1] at hp
 have hjp : (j : Int) ∉ p := fun h => (List.nodup_append.1 hn).2.2 _ h _ (List.mem_cons_self ..) rfl
 rw [List.idxOf_append,if_pos hp,List.idxOf_append,if_neg hjp]
 have := List.idxOf_lt_length_of_mem hp
 omega
theorem way_lt {m : Nat} {l : List (Int × Int)} (h : (zdD m l).2.length = m) {i j : Nat} (hw : Way m l i j) : (zdD m l).2.idxOf (i : Int) < (zdD m l).2.idxOf (j : Int) := by
 induction hw with
 | one h1 => exact ord_lt h h1
 | more h1 _ ih => exact Nat.lt_trans (ord_lt h h1) ih
def zeT (m : Nat) (l : List (Int × Int)) : Bool := !(zdD m l).1
theorem ordV_len {m : Nat} {l : List (Int × Int)} (h : (zdD m l).1 = true) : (zdD m l).2.length = m := by
 unfold zdD at h ⊢
 cases hk : kahn m l m [] with
 | none => rw [hk] at h; cases h
 | some o => have := ziA hk; simp at this; exact this
theorem ringV_iff {m : Nat} {l : List (Int × Int)} : zeT m l = true ↔ ∃ i : Nat,i < m ∧ Way m l i i := by
 unfold zeT
 constructor
 ·intro h
  refine Classical.byContradiction fun hn => ?_
  have := (ordV_ok (m := m) (l := l) fun i hw => hn ⟨i,?_,hw⟩).1
  ·rw [this] at h; cases h
  ·cases hw with
   | one h =>
    obtain ⟨x,_,hok,e1,_⟩ := h
    simp only [zda,Bool.and_eq_true,decide_eq_true_eq] at hok
    omega
   | more h _ =>
    obtain ⟨x,_,hok,e1,_⟩ := h
    simp only [zda,Bool.and_eq_true,decide_eq_true_eq] at hok
    omega
 ·rintro ⟨i,_,hw⟩
  cases ho : (zdD m l).1 with
  | false => rfl
  | true => exact absurd (way_lt (ordV_len ho) hw) (Nat.lt_irrefl _)
end Go.Proofs.YtlfdidaeachpoaaGreat
namespace Go.Proofs.YtlfdidaeachpoaaGreat
open Go Go.RowKit
set_option maxRecDepth 100000
noncomputable section
def zK_b3862 : (Int × (List (Int × Int)) × Int) → (Bool × Int × (List Bool)) → RT (Bool × Int × (List Bool)) (Bool × (List Bool))
| (x0,l,i),(i_2,s,r7) =>
 .rq 4 (.ite (decide (s < (l.length : Int)))
 (.rq 2 (.req (inB l s) (.rq 27 (let t0 := inB r7 (gI l s).2;
 let t1 := (((decide ((gI l s).1 < 0)) || (decide (x0 ≤ (gI l s).1))) || (decide ((gI l s).2 < 0))) || (decide (x0 ≤ (gI l s).2));
 .req (t0 || (!(!t1))) (.rq 2 (let t2 := w64 (s + 1);
 let t3 := (i_2,t2,r7);
 .ite (t1 || (gI r7 (gI l s).2))
 (.rq 3 (.again t3))
 (.rq 8 (let t4 := (gI l s).1 == i;
 .req ((inB r7 (gI l s).1) || (!(!t4))) (.rq 2 (.ite (t4 || (gI r7 (gI l s).1))
 (.rq 3 (.req t0 (.rq 5 (.again (true,t2,sI r7 (gI l s).2 true)))))
 (.rq 3 (.again t3))))))))))))
 (.done (i_2,r7)))
def zK_p3862 : zch := ⟨3862,true,[tI,.sl (.pair tI tI),tI],[tB,tI,.sl tB],⟨[.keep [0,1,2,7,8,9],.gc,.nilRow 7 800007 4 tB,.ren 7 700007,.ren 7 900007,.gc],[0,1,2,7,8,9],[.lf (qi 0),.lf (qi 1),.lf (qi 2),.lf (qr 900007),.lf (qm 0),.lf (qm 1)],[(900007,true,.arr 4 (qm 2))]⟩,[⟨4,⟨[.keep [0,1,2,7,8],.gc,.nilRow 7 800007 4 tB,.ren 7 700007,.ren 7 900007,.gc],[0,1,2,7,8],[.lf (qi 0),.lf (qi 1),.lf (qi 2),.lf (qr 900007),.lf (qm 0)],[(900007,true,.arr 4 (qm 1))]⟩,[tB,.sl tB]⟩],zK_b3862⟩
def zK_b60 : (Int × (List (Int × Int)) × Int) → (Bool × (List Bool)) → RT (Bool × (List Bool)) (List Bool)
| (x0,l,i),(i_2,r7) =>
 .rq 1 (.ite i_2
 (.rq 2 (.call (lo zK_b3862 (x0,l,i) (false,0,r7)) default fun v0 =>
 .again (v0.1,v0.2)))
 (.done r7))
def zK_p60 : zch := ⟨60,true,[tI,.sl (.pair tI tI),tI],[tB,.sl tB],⟨[.keep [0,1,2,7,8],.gc,.nilRow 7 800007 4 tB,.ren 7 700007,.ren 7 900007,.gc],[0,1,2,7,8],[.lf (qi 0),.lf (qi 1),.lf (qi 2),.lf (qr 900007),.lf (qm 0)],[(900007,true,.arr 4 (qm 1))]⟩,[⟨2,⟨[.keep [7],.gc,.nilRow 7 800007 4 tB,.ren 7 700007,.ren 7 900007,.gc],[7],[.lf (qr 900007)],[(900007,true,.arr 4 (qm 0))]⟩,[.sl tB]⟩],zK_b60⟩
def zK : (Int × (List (Int × Int)) × Int) → RT Unit (List Bool)
| (a0,l,i) =>
 .rq 2 (.req (mkOK 1 a0) (.rq 2 (.call (lo zK_b60 (a0,l,i) (true,zdd a0 false)) default fun v1 =>
 .rq 2 (.done v1))))
def F_zK (x : Int × (List (Int × Int)) × Int) : Option (List Bool) := (zK x).run fun _ => none
def io_zK : Io := ⟨n_zK,[tI,.sl (.pair tI tI),tI],[.lf (qm 0),.lf (qm 1),.lf (qm 2)],[],[[tI],[.sl (.pair tI tI)],[tI]],[.sl tB],.lf (qr 0),[],[(true,.arr 4 (qm 0))],false⟩
def zK_P : List zch := [zK_p3862,zK_p60]
def zK_T : zcl := tab []
theorem zK_To : zck pg zK_T := zci trivial
theorem zK_k3862 : (zK_p3862).OK pg (zK_T) (zcB 67 (zK_P)) (zcs f_zK) 67 := ⟨by kernel_rfl,fun i x => by kernel_rfl⟩
theorem zK_k60 : (zK_p60).OK pg (zK_T) (zcB 67 (zK_P)) (zcs f_zK) 67 := ⟨by kernel_rfl,fun i x => by kernel_rfl⟩
theorem zK_go : zcy pg (zK_T) io_zK f_zK (zK_P) [.nilRow 6 800006 4 tB,.ren 6 700006,.ren 6 900006] (zK) := ⟨by kernel_rfl,by kernel_rfl,fun x => by kernel_rfl⟩
theorem ok_zK : io_zK.Okay pg (F_zK) := zcu zcj (zK_To) (zK_go) ⟨zK_k3862,zK_k60,trivial⟩
theorem hsOk_not (m : Nat) (a : Int × Int) : (((decide (a.1 < 0) || decide ((m : Int) ≤ a.1)) || decide (a.2 < 0)) || decide ((m : Int) ≤ a.2)) = !(zda m a) := by
 unfold zda
 by_cases h1 : a.1 < 0 <;> by_cases h2 : (m : Int) ≤ a.1 <;> by_cases h3 : a.2 < 0 <;> by_cases h4 : (m : Int) ≤ a.2 <;> simp [h1,h2,h3,h4] <;> omega
theorem rch_loop (m : Nat) (l : List (Int × Int)) (i : Int) (hl : l.length ≤ 4000000) (hi : 0 ≤ i ∧ i < (m : Int)) : ∀ (d s : Nat) (ch : Bool) (r : List Bool),s + d = l.length → r.length = m →
  lo zK_b3862 ((m : Int),l,i) (ch,(s : Int),r) = some ((l.drop s).foldl (zed m i) (ch,r))
 | 0,s,ch,r,h,_ => by
  rw [zcr,zK_b3862]
  simp only [RT.run]
  rw [if_neg (by simp; omega),List.drop_eq_nil_of_le (by omega)]
  rfl
 | d + 1,s,ch,r,h,hr => by
  have hs : s < l.length := by omega
  have hv : zda m l[s] = true → (inB r l[s].1 = true ∧ inB r l[s].2 = true) := fun hok => by
   simp only [zda,Bool.and_eq_true,decide_eq_true_eq] at hok
   exact ⟨zcn.2 (by rw [hr]; omega),zcn.2 (by rw [hr]; omega)⟩
  rw [zcr,zK_b3862]
  simp only [RT.run]
  rw [if_pos (by simp; omega),if_pos (zcn.2 ⟨by omega,by omega⟩),zcL hs,hsOk_not,zcm (by omega),show (s : Int) + 1 = ((s + 1 : Nat) : Int) by omega,List.drop_eq_getElem_cons hs,List.foldl_cons]
  cases hok : zda m l[s] with
  | false =>
   rw [if_pos (by simp),if_pos (by simp),rch_loop m l i hl hi d (s + 1) ch r (by omega) hr]
   simp [zed,hok]
  | true =>
   obtain ⟨h1,h2⟩ := hv hok
   rw [if_pos (by rw [h2]; rfl)]
   by_cases hg : gI r l[s].2 = true
   ·rw [if_pos (by rw [hg]; rfl),rch_loop m l i hl hi d (s + 1) ch r (by omega) hr]
    simp [zed,hg]
   ·have hg' : gI r l[s].2 = false := by simpa using hg
    rw [if_neg (by rw [hg']; simp),if_pos (by rw [h1]; rfl)]
    by_cases ha : (l[s].1 == i || gI r l[s].1) = true
    ·rw [if_pos ha,if_pos h2,rch_loop m l i hl hi d (s + 1) true _ (by omega) (by simp [sI,hr])]
     simp only [zed,hok,hg',Bool.not_true,Bool.or_self,Bool.false_eq_true,if_false,ha,if_true]
    ·rw [if_neg ha,rch_loop m l i hl hi d (s + 1) ch r (by omega) hr]
     simp only [zed,hok,hg',Bool.not_true,Bool.or_self,Bool.false_eq_true,if_false,ha]
theorem rch_outer (m : Nat) (l : List (Int × Int)) (i : Nat) (hl : l.length ≤ 4000000) (hi : i < m) : ∀ (n : Nat) (r : List Bool),r.length = m → m - r.count true ≤ n → (∀ j : Nat,j < m → gI r (j : Int) = true → Way m l i j) →
  lo zK_b60 ((m : Int),l,(i : Int)) (true,r) = some (zfa m l i)
 | n,r,hr,hn,hs => by
  have h1 := rch_loop m l (i : Int) hl (by omega) l.length 0 false r (by omega) hr
  rw [show ((0 : Nat) : Int) = 0 from rfl,List.drop_zero] at h1
  have hp := pass_fold (l0 := l) hi l false r r (fun _ h => h) hr ⟨rfl,fun _ _ h => h,fun h => h,(fun h => by cases h),Nat.le_refl _,fun _ => rfl⟩
  have hcl := rch_closed (m := m) (i := (i : Int)) l r
  rw [zcr,zK_b60]
  simp only [RT.run]
  rw [if_pos trivial,h1,Option.bind_some]
  generalize hx : l.foldl (zed m (i : Int)) (false,r) = x at *
  obtain ⟨ch,r'⟩ := x
  cases ch with
  | false =>
   obtain ⟨h2,h3⟩ := hcl rfl
   have h2 : r' = r := h2
   subst h2
   show lo zK_b60 _ (false,r') = _
   rw [zcr,zK_b60]
   simp only [RT.run]
   rw [if_neg (by simp),reach_eq hr hs h3]
  | true =>
   have hm := hp.more rfl
   have hlt : r'.count true ≤ r'.length := List.count_le_length
   have hlen : r'.length = m := hp.len.trans hr
   match n,hn with
   | 0,hn => exfalso; have hm : r.count true < r'.count true := hm; omega
   | n + 1,hn => exact rch_outer m l i hl hi n r' hlen (by have hm : r.count true < r'.count true := hm; omega) (hp.sound hs)
def e_zK : zcq := io_zK.sp (fun (n,l,i) => (decide (l.length ≤ 4000000) && (decide (0 ≤ n) && decide (n ≤ 1000000)) && (decide (0 ≤ i) && decide (i < n)))) (fun (n,l,i) => (zfa n.toNat l i.toNat))
theorem sp_zK (h : ∀ (n : Int) (l : List (Int × Int)) (i : Int),WfT [tI,.sl (.pair tI tI),tI] (n,l,i) → ((decide (l.length ≤ 4000000) && (decide (0 ≤ n) && decide (n ≤ 1000000)) && (decide (0 ≤ i) && decide (i < n)))) = true → (zK (n,l,i)).run (fun _ => none) = some (zfa n.toNat l i.toNat)) : e_zK.ok pg := zcw ok_zK fun (n,l,i) hw hc => h n l i hw hc
theorem e_zK_ok : e_zK.ok pg := sp_zK fun n l i _ hc => by
 simp only [Bool.and_eq_true,decide_eq_true_eq] at hc
 obtain ⟨⟨hl,h0,hn⟩,hi0,hi⟩ := hc
 obtain ⟨m,rfl⟩ := Int.eq_ofNat_of_zero_le h0
 obtain ⟨j,rfl⟩ := Int.eq_ofNat_of_zero_le hi0
 rw [zK]
 simp only [RT.run,Int.toNat_natCast]
 rw [if_pos (zdF.2 ⟨by omega,by omega,by omega⟩),zdd,Int.toNat_natCast,rch_outer m l j hl (by omega) m (List.replicate m false) (by simp) (by omega) fun k hk h => ?_]
 ·rfl
 ·rw [zcL (by simpa using hk)] at h; simp at h
def zaR_b26 : (Int × (List (Int × Int))) → Int → RT Int (LR Unit Unit)
| (n,l),i =>
 .rq 3 (.ite (decide (i < n))
 (.rq 3 (.req ((decide (l.length ≤ 4000000) && (decide (0 ≤ n) && decide (n ≤ 1000000)) && (decide (0 ≤ i) && decide (i < n)))) (.rq 1 (let t0 := (zfa n.toNat l i.toNat);
 .req (inB t0 i) (.rq 1 (.ite (gI t0 i)
 (.rq 1 (.done (.ex ())))
 (.rq 3 (.again (w64 (i + 1))))))))))
 (.done (.rt ())))
def zaR_p26 : zch := ⟨26,true,[tI,.sl (.pair tI tI)],[tI],⟨[.keep [0,1,5],.gc],[0,1,5],[.lf (qi 0),.lf (qi 1),.lf (qm 0)],[]⟩,[⟨1,⟨[.keep [4],.gc],[4],[.lf (.fix (.bool true))],[]⟩,[]⟩,⟨2,⟨[.keep [],.gc],[],[],[]⟩,[]⟩],zaR_b26⟩
def zaR : (Int × (List (Int × Int))) → RT Unit Bool
| (n,l) =>
 .rq 2 (.call (lo zaR_b26 (n,l) 0) default fun v0 =>
 .ite v0.isRt
 (.rq 1 (.done false))
 (.done true))
def F_zaR (x : Int × (List (Int × Int))) : Option Bool := (zaR x).run fun _ => none
def io_zaR : Io := ⟨n_zaR,[tI,.sl (.pair tI tI)],[.lf (qm 0),.lf (qm 1)],[],[[tI],[.sl (.pair tI tI)]],[tB],.lf (qm 0),[],[],false⟩
def zaR_P : List zch := [zaR_p26]
def zaR_T : zcl := tab [e_zK]
theorem zaR_To : zck pg zaR_T := zci ⟨e_zK_ok,trivial⟩
theorem zaR_k26 : (zaR_p26).OK pg (zaR_T) (zcB 18 (zaR_P)) (zcs f_zaR) 18 := ⟨by kernel_rfl,fun i x => by kernel_rfl⟩
theorem zaR_go : zcy pg (zaR_T) io_zaR f_zaR (zaR_P) [] (zaR) := ⟨by kernel_rfl,by kernel_rfl,fun x => by kernel_rfl⟩
theorem ok_zaR : io_zaR.Okay pg (F_zaR) := zcu zcj (zaR_To) (zaR_go) ⟨zaR_k26,trivial⟩
open Classical in
theorem ring_loop (m : Nat) (l : List (Int × Int)) (hl : l.length ≤ 4000000) (hm : m ≤ 1000000) : ∀ (d i : Nat),i + d = m → (∀ k : Nat,k < i → ¬ Way m l k k) →
  lo zaR_b26 ((m : Int),l) (i : Int) = some (if zeT m l = true then .ex () else .rt ())
 | 0,i,h,hno => by
  rw [zcr,zaR_b26]
  simp only [RT.run]
  have hr : zeT m l = false := Bool.eq_false_iff.2 fun h => by
   obtain ⟨k,hk,hw⟩ := ringV_iff.1 h
   exact hno k (by omega) hw
  rw [if_neg (by simp; omega),hr,if_neg (by decide)]
 | d + 1,i,h,hno => by
  have hi : i < m := by omega
  have hlen : (zfa m l i).length = m := by simp [zfa]
  have zct : gI (zfa m l i) (i : Int) = decide (Way m l i i) := by
   rw [zcL (by rw [hlen]; exact hi)]
   simp [zfa]
  rw [zcr,zaR_b26]
  simp only [RT.run,Int.toNat_natCast]
  rw [if_pos (by simp; omega),if_pos (by simp only [Bool.and_eq_true,decide_eq_true_eq]; omega),if_pos (zcn.2 ⟨by omega,by rw [hlen]; omega⟩)]
  by_cases hw : Way m l i i
  ·have hr : zeT m l = true := ringV_iff.2 ⟨i,hi,hw⟩
   rw [if_pos (zct.trans (decide_eq_true hw)),hr,if_pos rfl]
  ·rw [if_neg (by rw [zct]; simpa using hw),zcm (by omega),show (i : Int) + 1 = ((i + 1 : Nat) : Int) by omega]
   refine ring_loop m l hl hm d (i + 1) (by omega) fun k hk => ?_
   by_cases hki : k = i
   ·subst hki; exact hw
   ·exact hno k (by omega)
def e_zaR : zcq := io_zaR.sp (fun (n,l) => (decide (l.length ≤ 4000000) && (decide (0 ≤ n) && decide (n ≤ 1000000)))) (fun (n,l) => (zeT n.toNat l))
theorem sp_zaR (h : ∀ (n : Int) (l : List (Int × Int)),WfT [tI,.sl (.pair tI tI)] (n,l) → ((decide (l.length ≤ 4000000) && (decide (0 ≤ n) && decide (n ≤ 1000000)))) = true → (zaR (n,l)).run (fun _ => none) = some (zeT n.toNat l)) : e_zaR.ok pg := zcw ok_zaR fun (n,l) hw hc => h n l hw hc
theorem e_zaR_ok : e_zaR.ok pg := sp_zaR fun n l _ hc => by
 simp only [Bool.and_eq_true,decide_eq_true_eq] at hc
 obtain ⟨hl,h0,hn⟩ := hc
 obtain ⟨m,rfl⟩ := Int.eq_ofNat_of_zero_le h0
 rw [zaR]
 simp only [RT.run,Int.toNat_natCast]
 have := ring_loop m l hl (by omega) m 0 (by omega) fun k hk => absurd hk (Nat.not_lt_zero k)
 rw [show ((0 : Nat) : Int) = 0 from rfl] at this
 rw [this]
 cases zeT m l <;> rfl
theorem ring_order {m : Nat} {l : List (Int × Int)} (h : zeT m l = false) : (zdD m l).1 = true ∧ (zdD m l).2.length = m := by
 have h1 : (zdD m l).1 = true := by unfold zeT at h; simpa using h
 exact ⟨h1,ordV_len h1⟩
end
end Go.Proofs.YtlfdidaeachpoaaGreat
