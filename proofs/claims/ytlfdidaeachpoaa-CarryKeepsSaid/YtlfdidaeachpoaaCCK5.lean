/- Part 5 of the walk and of the plain law. -/
import Derived.Test.YtlfdidaeachpoaaCCK4
import Derived.Test.YtlfdidaeachpoaaCCK2
import Derived.Below
import Derived.ChangeArms
import Derived.DataReads
set_option linter.unusedSimpArgs false
set_option linter.unusedVariables false
namespace Go.Proofs.Ytlfdidaeachpoaa
open Go Go.RowKit
set_option maxRecDepth 100000
def zbx (l : List Rat) : Rat := l.foldr (· + ·) 0
theorem zbG (x : Rat) (l : List Rat) : zbx (x :: l) = x + zbx l := rfl
theorem zhb : ∀ (l m : List Rat), zbx (l ++ m) = zbx l + zbx m
 | [], m => (Rat.zero_add _).symm
 | x :: l, m => by rw [List.cons_append, zbG, zhb l m, zbG, Rat.add_assoc]
theorem rsum_perm {l m : List Rat} (h : l.Perm m) : zbx l = zbx m := by
 unfold zbx
 exact h.foldr_eq' (fun x _ y _ z => by grind) 0
theorem rsum_nonneg {l : List Rat} (h : ∀ x ∈ l, 0 ≤ x) : 0 ≤ zbx l := by
 induction l with
 | nil => decide
 | cons x l ih => exact Rat.add_nonneg (h x (List.mem_cons_self ..)) (ih fun y hy => h y (List.mem_cons_of_mem _ hy))
theorem zgR {α : Type} {l : List α} {g : α → Rat} {p : α → Bool} (h : ∀ x ∈ l, p x = false → g x = 0) : zbx ((l.filter p).map g) = zbx (l.map g) := by
 induction l with
 | nil => rfl
 | cons x l ih =>
  have ih := ih fun y hy => h y (List.mem_cons_of_mem _ hy)
  rw [List.filter_cons]
  cases hp : p x with
  | true => rw [if_pos rfl, List.map_cons, List.map_cons, zbG, zbG, ih]
  | false => rw [if_neg (by decide), ih, List.map_cons, zbG, h x (List.mem_cons_self ..) hp, Rat.zero_add]
def zcX (b : List Tk) (am : List Int) (k : Int) : Rat := mkRat (gI b k).2.2.1 (gI am (gI b k).2.1).toNat
def zce (b : List Tk) (cnt : List Bool) (am : List Int) (x : List Rat × List Rat) (k : Int) : List Rat × List Rat :=
 if gI cnt k = true then
  (if (gI b k).2.2.2.1 = 2 then sI x.1 (gI b k).2.2.2.2.1 (gI x.1 (gI b k).2.2.2.2.1 + zcX b am k * gI x.1 (gI b k).2.1) else x.1, sI x.2 k (zcX b am k * gI x.1 (gI b k).2.1))
 else x
def w0 (a : List Bool) (b : List Tk) (am : List Int) : List Rat × List Rat := (sI (zbV (a.length : Int) 0) 0 ((gI am 0 : Int) : Rat), zbV (b.length : Int) 0)
def zcd (a : List Bool) (b : List Tk) : List Int := (zbs a b).flatMap (zbq b)
def zbv (a : List Bool) (b : List Tk) (c : List Th) (d : List Lk) (e : List Int) (f : Int) : List Rat × List Rat := (zcd a b).foldl (zce b (zbP a b c d e f) (amV a b c d e f)) (w0 a b (amV a b c d e f))
def zdE (b : List Tk) (cnt : List Bool) (c k : Int) (v : Rat) : Rat := if gI cnt k = true ∧ (gI b k).2.2.2.1 = 2 ∧ (gI b k).2.2.2.2.1 = c then v else 0
theorem wStep_len (b : List Tk) (cnt : List Bool) (am : List Int) (x : List Rat × List Rat) (k : Int) : (zce b cnt am x k).1.length = x.1.length ∧ (zce b cnt am x k).2.length = x.2.length := by
 unfold zce
 split
 ·simp only
  split <;> simp [sI]
 ·exact ⟨rfl, rfl⟩
theorem w_fold {b : List Tk} {cnt : List Bool} {am : List Int} {na nb : Nat} : ∀ (l : List Int) (x : List Rat × List Rat), x.1.length = na → x.2.length = nb → l.Nodup →
  (∀ k ∈ l, (0 ≤ k ∧ k < (nb : Int)) ∧ (0 ≤ (gI b k).2.1 ∧ (gI b k).2.1 < (na : Int)) ∧ ((gI b k).2.2.2.1 = 2 → (0 ≤ (gI b k).2.2.2.2.1 ∧ (gI b k).2.2.2.2.1 < (na : Int)) ∧ (gI b k).2.2.2.2.1 ≠ (gI b k).2.1)) →
  l.Pairwise (fun k j => (gI b j).2.2.2.1 = 2 → (gI b j).2.2.2.2.1 ≠ (gI b k).2.1) →
  (∀ j : Int, 0 ≤ j → j ∉ l → gI (l.foldl (zce b cnt am) x).2 j = gI x.2 j) ∧
  (∀ c : Int, 0 ≤ c → (∀ k ∈ l, (gI b k).2.2.2.1 = 2 → (gI b k).2.2.2.2.1 ≠ c) → gI (l.foldl (zce b cnt am) x).1 c = gI x.1 c) ∧
  (∀ c : Int, 0 ≤ c → gI (l.foldl (zce b cnt am) x).1 c = gI x.1 c + zbx (l.map fun k => zdE b cnt c k (gI (l.foldl (zce b cnt am) x).2 k))) ∧
  (∀ k ∈ l, gI (l.foldl (zce b cnt am) x).2 k = if gI cnt k = true then zcX b am k * gI (l.foldl (zce b cnt am) x).1 (gI b k).2.1 else gI x.2 k)
 | [], x, _, _, _, _, _ => ⟨fun _ _ _ => rfl, fun _ _ _ => rfl, fun _ _ => (Rat.add_zero _).symm, fun k hk => (by cases hk)⟩
 | k :: l, x, hx1, hx2, hn, hl, hp => by
  obtain ⟨k1, k2, k3⟩ := hl k (List.mem_cons_self ..)
  obtain ⟨hkn, hn'⟩ := List.nodup_cons.1 hn
  obtain ⟨hpk, hp'⟩ := List.pairwise_cons.1 hp
  obtain ⟨q1, q2⟩ := wStep_len b cnt am x k
  obtain ⟨ia, ib, ic, id⟩ := w_fold (b := b) (cnt := cnt) (am := am) l (zce b cnt am x k) (q1.trans hx1) (q2.trans hx2) hn' (fun j hj => hl j (List.mem_cons_of_mem _ hj)) hp'
  have eK : ∀ j : Int, 0 ≤ j → gI (zce b cnt am x k).2 j = if k = j ∧ gI cnt k = true then zcX b am k * gI x.1 (gI b k).2.1 else gI x.2 j := fun j hj => by
   unfold zce
   by_cases hc : gI cnt k = true
   ·rw [if_pos hc]
    simp only
    rw [gI_set (by rw [hx2]; exact k1) hj]
    by_cases h : k = j
    ·rw [if_pos h, if_pos ⟨h, hc⟩]
    ·rw [if_neg h, if_neg (fun h' => h h'.1)]
   ·rw [if_neg hc, if_neg (fun h' => hc h'.2)]
  have eC : ∀ c : Int, 0 ≤ c → gI (zce b cnt am x k).1 c = gI x.1 c + zdE b cnt c k (zcX b am k * gI x.1 (gI b k).2.1) := fun c hc0 => by
   unfold zce zdE
   by_cases hc : gI cnt k = true
   ·rw [if_pos hc]
    simp only
    by_cases h2 : (gI b k).2.2.2.1 = 2
    ·rw [if_pos h2, gI_set (by rw [hx1]; exact (k3 h2).1) hc0]
     by_cases h : (gI b k).2.2.2.2.1 = c
     ·rw [if_pos h, if_pos ⟨hc, h2, h⟩, h]
     ·rw [if_neg h, if_neg (fun h' => h h'.2.2), Rat.add_zero]
    ·rw [if_neg h2, if_neg (fun h' => h2 h'.2.1), Rat.add_zero]
   ·rw [if_neg hc, if_neg (fun h' => hc h'.1), Rat.add_zero]
  have brings_no : ∀ c v, ((gI b k).2.2.2.1 = 2 → (gI b k).2.2.2.2.1 ≠ c) → zdE b cnt c k v = 0 := fun c v h => by
   unfold zdE
   rw [if_neg (fun h' => h h'.2.1 h'.2.2)]
  rw [List.foldl_cons]
  have hself : gI (l.foldl (zce b cnt am) (zce b cnt am x k)).2 k = if gI cnt k = true then zcX b am k * gI x.1 (gI b k).2.1 else gI x.2 k := by
   rw [ia k k1.1 hkn, eK k k1.1]
   by_cases hc : gI cnt k = true
   ·rw [if_pos ⟨rfl, hc⟩, if_pos hc]
   ·rw [if_neg (fun h => hc h.2), if_neg hc]
  refine ⟨fun j hj hjl => ?_, fun c hc hno => ?_, fun c hc => ?_, fun j hj => ?_⟩
  ·have hj' : j ≠ k ∧ j ∉ l := by simpa using hjl
   rw [ia j hj hj'.2, eK j hj, if_neg (fun h => hj'.1 h.1.symm)]
  ·rw [ib c hc fun j hj => hno j (List.mem_cons_of_mem _ hj), eC c hc, brings_no c _ (hno k (List.mem_cons_self ..)), Rat.add_zero]
  ·rw [ic c hc, eC c hc, List.map_cons, zbG, hself, Rat.add_assoc]
   congr 2
   unfold zdE
   by_cases hc : gI cnt k = true
   ·rw [if_pos hc]
   ·rw [if_neg (fun h => hc h.1), if_neg (fun h => hc h.1)]
  ·rcases List.mem_cons.1 hj with rfl | hj
   ·rw [hself, ib _ k2.1 fun i hi => hpk i hi, eC _ k2.1, brings_no _ _ fun h => (k3 h).2, Rat.add_zero]
   ·rw [id j hj, eK j (hl j (List.mem_cons_of_mem _ hj)).1.1, if_neg (show ¬ (k = j ∧ gI cnt k = true) from fun h => hkn (by rw [h.1]; exact hj))]
section
variable {a : List Bool} {b : List Tk} {c : List Th} {d : List Lk} {e : List Int} {f : Int}
theorem zbe.tkOrd_suf (H : zbe a b c d e f) : ∀ (q p : List Int), zbs a b = p ++ q → (q.flatMap (zbq b)).Nodup ∧ (q.flatMap (zbq b)).Pairwise (fun k j => (gI b j).2.2.2.1 = 2 → (gI b j).2.2.2.2.1 ≠ (gI b k).2.1) ∧
  ∀ k, k ∈ q.flatMap (zbq b) ↔ (0 ≤ k ∧ k < (b.length : Int)) ∧ (gI b k).1 = true ∧ (gI b k).2.1 ∈ q
 | [], _, _ => ⟨List.nodup_nil, List.Pairwise.nil, fun k => by simp⟩
 | x :: q, p, ho => by
  obtain ⟨i1, i2, i3⟩ := H.tkOrd_suf q (p ++ [x]) (by rw [ho]; simp)
  have hn := H.ord_nodup
  rw [ho] at hn
  have hxq : x ∉ q := (List.nodup_cons.1 (List.nodup_append.1 hn).2.1).1
  have hto : ∀ j : Int, (0 ≤ j ∧ j < (b.length : Int)) → (gI b j).1 = true → (gI b j).2.1 ∈ x :: q → (gI b j).2.2.2.1 = 2 → (gI b j).2.2.2.2.1 ≠ x := fun j hj hu hc h2 => (H.ord_to ho hj hu h2 hc).2
  rw [List.flatMap_cons]
  refine ⟨List.nodup_append.2 ⟨issued_nodup, i1, fun k hk j hj h => ?_⟩, List.pairwise_append.2 ⟨?_, i2, fun k hk j hj h2 => ?_⟩, fun k => ?_⟩
  ·subst h
   exact hxq ((zbQ.1 hk).2.2 ▸ ((i3 k).1 hj).2.2)
  ·refine List.Pairwise.imp_of_mem (R := fun _ _ => True) (fun {k j} hk hj _ h2 => ?_) (List.pairwise_of_forall fun _ _ => trivial)
   obtain ⟨_, _, k3⟩ := zbQ.1 hk
   obtain ⟨j1, j2, j3⟩ := zbQ.1 hj
   rw [k3]
   exact hto j j1 j2 (by rw [j3]; exact List.mem_cons_self ..) h2
  ·obtain ⟨_, _, k3⟩ := zbQ.1 hk
   obtain ⟨j1, j2, j3⟩ := (i3 j).1 hj
   rw [k3]
   exact hto j j1 j2 (List.mem_cons_of_mem _ j3) h2
  ·rw [List.mem_append, zbQ, i3, List.mem_cons]
   constructor
   ·rintro (⟨h1, h2, h3⟩ | ⟨h1, h2, h3⟩)
    ·exact ⟨h1, h2, .inl h3⟩
    ·exact ⟨h1, h2, .inr h3⟩
   ·rintro ⟨h1, h2, h3 | h3⟩
    ·exact .inl ⟨h1, h2, h3⟩
    ·exact .inr ⟨h1, h2, h3⟩
theorem zbe.tkOrd_mem (H : zbe a b c d e f) {k : Int} : k ∈ zcd a b ↔ (0 ≤ k ∧ k < (b.length : Int)) ∧ (gI b k).1 = true := by
 have h := (H.tkOrd_suf (zbs a b) [] rfl).2.2 k
 unfold zcd
 rw [h]
 exact ⟨fun h => ⟨h.1, h.2.1⟩, fun h => ⟨h.1, h.2, H.ord_mem.2 (H.tk h.1 h.2).coin⟩⟩
theorem zbe.tkOrd_nodup (H : zbe a b c d e f) : (zcd a b).Nodup := (H.tkOrd_suf (zbs a b) [] rfl).1
theorem zbe.tkOrd_hyp (H : zbe a b c d e f) : ∀ k ∈ zcd a b, (0 ≤ k ∧ k < (b.length : Int)) ∧ (0 ≤ (gI b k).2.1 ∧ (gI b k).2.1 < (a.length : Int)) ∧ ((gI b k).2.2.2.1 = 2 → (0 ≤ (gI b k).2.2.2.2.1 ∧ (gI b k).2.2.2.2.1 < (a.length : Int)) ∧ (gI b k).2.2.2.2.1 ≠ (gI b k).2.1) := fun k hk => by
 obtain ⟨k1, k2⟩ := H.tkOrd_mem.1 hk
 have ht := H.tk k1 k2
 refine ⟨k1, zcN ht.coin, fun h2 => ?_⟩
 have h4 : usC a (gI b k).2.2.2.2.1 = true := by
  rcases ht.to with h | h | h
  ·omega
  ·omega
  ·exact h.2.2
 refine ⟨zcN h4, ?_⟩
 obtain ⟨p, q, ho⟩ := List.append_of_mem (H.ord_mem.2 ht.coin)
 exact (H.ord_to ho k1 k2 h2 (List.mem_cons_self ..)).2
theorem w0_len : (w0 a b (amV a b c d e f)).1.length = a.length ∧ (w0 a b (amV a b c d e f)).2.length = b.length := by simp [w0, sI, zbV]
theorem zbe.worth (H : zbe a b c d e f) :
  (∀ c', 0 ≤ c' ∧ c' < (a.length : Int) → gI (zbv a b c d e f).1 c' = (if c' = 0 then ((gI (amV a b c d e f) 0 : Int) : Rat) else 0) + zbx ((zcd a b).map fun k => zdE b (zbP a b c d e f) c' k (gI (zbv a b c d e f).2 k))) ∧
  (∀ k, 0 ≤ k ∧ k < (b.length : Int) → gI (zbv a b c d e f).2 k = if gI (zbP a b c d e f) k = true then zcX b (amV a b c d e f) k * gI (zbv a b c d e f).1 (gI b k).2.1 else 0) := by
 obtain ⟨q1, q2⟩ := w0_len (a := a) (b := b) (c := c) (d := d) (e := e) (f := f)
 obtain ⟨ia, ib, ic, id⟩ := w_fold (b := b) (cnt := zbP a b c d e f) (am := amV a b c d e f) (zcd a b) (w0 a b (amV a b c d e f)) q1 q2 H.tkOrd_nodup H.tkOrd_hyp (H.tkOrd_suf (zbs a b) [] rfl).2.1
 have hc := H.coins
 refine ⟨fun c' hc' => ?_, fun k hk => ?_⟩
 ·unfold zbv
  rw [ic c' hc'.1]
  congr 1
  unfold w0
  simp only
  rw [gI_set (by simp [zbV]; omega) hc'.1, gI_rep hc']
  by_cases h : c' = 0
  ·rw [if_pos h.symm, if_pos h]
  ·rw [if_neg (fun h' => h h'.symm), if_neg h]
 ·have h0 : gI (w0 a b (amV a b c d e f)).2 k = 0 := by
   unfold w0
   exact gI_rep hk
  unfold zbv
  by_cases hu : (gI b k).1 = true
  ·rw [id k (H.tkOrd_mem.2 ⟨hk, hu⟩), h0]
  ·rw [ia k hk.1 (fun h => hu (H.tkOrd_mem.1 h).2), h0, if_neg (fun h => hu (H.cnt_used hk h))]
theorem wFold_len {cnt : List Bool} {am : List Int} : ∀ (l : List Int) (x : List Rat × List Rat), (l.foldl (zce b cnt am) x).1.length = x.1.length ∧ (l.foldl (zce b cnt am) x).2.length = x.2.length
 | [], _ => ⟨rfl, rfl⟩
 | k :: l, x => by
  obtain ⟨h1, h2⟩ := wStep_len b cnt am x k
  obtain ⟨h3, h4⟩ := wFold_len (cnt := cnt) (am := am) l (zce b cnt am x k)
  exact ⟨h3.trans h1, h4.trans h2⟩
theorem worthV_len : (zbv a b c d e f).1.length = a.length ∧ (zbv a b c d e f).2.length = b.length := by
 obtain ⟨q1, q2⟩ := w0_len (a := a) (b := b) (c := c) (d := d) (e := e) (f := f)
 obtain ⟨h1, h2⟩ := wFold_len (b := b) (cnt := zbP a b c d e f) (am := amV a b c d e f) (zcd a b) (w0 a b (amV a b c d e f))
 exact ⟨h1.trans q1, h2.trans q2⟩
theorem zbe.worthC (H : zbe a b c d e f) {c' : Int} (hc' : 0 ≤ c' ∧ c' < (a.length : Int)) (h0 : c' ≠ 0) : gI (zbv a b c d e f).1 c' = zbx ((tksOf b 1 c').map fun k => gI (zbv a b c d e f).2 k) := by
 have hz : ∀ k, 0 ≤ k ∧ k < (b.length : Int) → gI (zbP a b c d e f) k = false → gI (zbv a b c d e f).2 k = 0 := fun k hk h => by rw [H.worth.2 k hk, h]; rfl
 rw [H.worth.1 c' hc', if_neg h0, Rat.zero_add]
 have h1 : (zcd a b).map (fun k => zdE b (zbP a b c d e f) c' k (gI (zbv a b c d e f).2 k)) = (zcd a b).map fun k => if isOf b 1 c' k = true then gI (zbv a b c d e f).2 k else 0 := by
  refine List.map_congr_left fun k hk => ?_
  obtain ⟨k1, k2⟩ := H.tkOrd_mem.1 hk
  unfold zdE isOf
  rw [k2]
  by_cases hc : gI (zbP a b c d e f) k = true
  ·by_cases h2 : (gI b k).2.2.2.1 = 2
   ·by_cases h3 : (gI b k).2.2.2.2.1 = c'
    ·rw [if_pos ⟨hc, h2, h3⟩, if_pos (by simp [h2, h3])]
    ·rw [if_neg (fun h => h3 h.2.2), if_neg (by simp [h3])]
   ·rw [if_neg (fun h => h2 h.2.1), if_neg (by simp [h2])]
  ·rw [if_neg (fun h => hc h.1), hz k k1 (Bool.eq_false_iff.2 hc)]
   split <;> rfl
 have h2 : zbx ((zcd a b).map fun k => if isOf b 1 c' k = true then gI (zbv a b c d e f).2 k else 0) = zbx (((zcd a b).filter (isOf b 1 c')).map fun k => gI (zbv a b c d e f).2 k) := by
  rw [← zgR (l := zcd a b) (p := isOf b 1 c') (g := fun k => if isOf b 1 c' k = true then gI (zbv a b c d e f).2 k else 0) (fun k _ h => by rw [if_neg (by rw [h]; decide)])]
  congr 1
  refine List.map_congr_left fun k hk => ?_
  rw [if_pos (List.mem_filter.1 hk).2]
 rw [h1, h2]
 refine rsum_perm (List.Perm.map _ ?_)
 refine (List.perm_ext_iff_of_nodup (H.tkOrd_nodup.sublist List.filter_sublist) ((zdA List.nodup_range).sublist List.filter_sublist)).2 fun k => ?_
 rw [List.mem_filter, List.mem_filter, H.tkOrd_mem, List.mem_map]
 constructor
 ·rintro ⟨⟨h3, h4⟩, h5⟩
  obtain ⟨j, rfl⟩ := Int.eq_ofNat_of_zero_le h3.1
  exact ⟨⟨j, List.mem_range.2 (by omega), rfl⟩, h5⟩
 ·rintro ⟨⟨j, h3, rfl⟩, h5⟩
  refine ⟨⟨by have := List.mem_range.1 h3; omega, ?_⟩, h5⟩
  unfold isOf at h5
  rw [Bool.and_eq_true] at h5
  exact h5.1
theorem zbe.worth0 (H : zbe a b c d e f) : gI (zbv a b c d e f).1 0 = ((gI (amV a b c d e f) 0 : Int) : Rat) := by
 have hc := H.coins
 rw [H.worth.1 0 (by omega), if_pos rfl]
 have : (zcd a b).map (fun k => zdE b (zbP a b c d e f) 0 k (gI (zbv a b c d e f).2 k)) = (zcd a b).map fun _ => (0 : Rat) := by
  refine List.map_congr_left fun k hk => ?_
  obtain ⟨k1, k2⟩ := H.tkOrd_mem.1 hk
  unfold zdE
  rw [if_neg]
  rintro ⟨_, h2, h3⟩
  rcases (H.tk k1 k2).to with h | h | h
  ·omega
  ·omega
  ·exact h.2.1 h3
 rw [this]
 have : ∀ l : List Int, zbx (l.map fun _ => (0 : Rat)) = 0 := fun l => by
  induction l with
  | nil => rfl
  | cons x l ih => rw [List.map_cons, zbG, ih]; exact Rat.add_zero 0
 rw [this, Rat.add_zero]
end
def nb (b : List Tk) : List Int → Nat → Nat
 | [], n => n
 | k :: l, n => nb b l (if (gI b k).2.2.2.1 = 2 then 2 * n + 29 else n)
theorem nb_le (b : List Tk) : ∀ (l : List Int) (n : Nat), n ≤ nb b l n
 | [], _ => Nat.le_refl _
 | k :: l, n => by
  unfold nb
  have := nb_le b l (if (gI b k).2.2.2.1 = 2 then 2 * n + 29 else n)
  split at this <;> split <;> omega
theorem nb_eq (b : List Tk) : ∀ (l : List Int) (n : Nat), nb b l n + 29 = (n + 29) * 2 ^ (l.filter fun k => (gI b k).2.2.2.1 == 2).length
 | [], _ => by simp [nb]
 | k :: l, n => by
  unfold nb
  rw [nb_eq b l, List.filter_cons]
  by_cases h : (gI b k).2.2.2.1 = 2
  ·rw [if_pos h, if_pos (by simpa using h), List.length_cons, Nat.pow_succ]
   have : 2 * n + 29 + 29 = (n + 29) * 2 := by omega
   rw [this, Nat.mul_assoc, Nat.mul_comm 2]
  ·rw [if_neg h, if_neg (by simpa using h)]
theorem nb_append (b : List Tk) : ∀ (l m : List Int) (n : Nat), nb b (l ++ m) n = nb b m (nb b l n)
 | [], _, _ => rfl
 | k :: l, m, n => by
  show nb b (l ++ m) (if (gI b k).2.2.2.1 = 2 then 2 * n + 29 else n) = nb b m (nb b l (if (gI b k).2.2.2.1 = 2 then 2 * n + 29 else n))
  exact nb_append b l m _
theorem cnt2_eq (b : List Tk) : cnt2 b = (((List.range b.length).map fun (k : Nat) => (k : Int)).filter fun k => (gI b k).2.2.2.1 == 2).length := by
 unfold cnt2
 have : b = ((List.range b.length).map fun (k : Nat) => (k : Int)).map (gI b) := by
  apply List.ext_getElem
  ·simp
  ·intro i h1 h2
   simp only [List.getElem_map, List.getElem_range]
   rw [zbD h1]
 conv => lhs; rw [this, List.filter_map]
 rw [List.length_map]
 rfl
theorem zbe.nb_ord {a : List Bool} {b : List Tk} {c : List Th} {d : List Lk} {e : List Int} {f : Int} (H : zbe a b c d e f) (h8 : cnt2 b ≤ 8) {n : Nat} (hn : n ≤ 71) : nb b (zcd a b) n ≤ 25600 := by
 have h1 := nb_eq b (zcd a b) n
 have h2 : ((zcd a b).filter fun k => (gI b k).2.2.2.1 == 2).length ≤ cnt2 b := by
  rw [cnt2_eq]
  refine List.Nodup.length_le_of_subset (H.tkOrd_nodup.sublist List.filter_sublist) fun k hk => ?_
  obtain ⟨h3, h4⟩ := List.mem_filter.1 hk
  obtain ⟨h5, _⟩ := H.tkOrd_mem.1 h3
  obtain ⟨j, rfl⟩ := Int.eq_ofNat_of_zero_le h5.1
  exact List.mem_filter.2 ⟨List.mem_map.2 ⟨j, List.mem_range.2 (by omega), rfl⟩, h4⟩
 have h3 : 2 ^ ((zcd a b).filter fun k => (gI b k).2.2.2.1 == 2).length ≤ 2 ^ 8 := Nat.pow_le_pow_right (by decide) (Nat.le_trans h2 h8)
 have h4 := Nat.mul_le_mul (show n + 29 ≤ 100 by omega) h3
 omega
structure WB (n : Nat) (x : List Rat × List Rat) : Prop where
 c : ∀ q ∈ x.1, 0 ≤ q ∧ sm n q
 k : ∀ q ∈ x.2, 0 ≤ q ∧ sm (n + 28) q
theorem mem_sI {α : Type} {xs : List α} {i : Int} {y z : α} (h : z ∈ sI xs i y) : z = y ∨ z ∈ xs := by
 unfold sI at h
 exact (List.mem_or_eq_of_mem_set h).symm
theorem share_sm {a : List Bool} {b : List Tk} {c : List Th} {d : List Lk} {e : List Int} {f : Int} (H : zbe a b c d e f) {k : Int} (hk : 0 ≤ k ∧ k < (b.length : Int)) (h : gI (zbP a b c d e f) k = true) :
  0 ≤ zcX b (amV a b c d e f) k ∧ sm 28 (zcX b (amV a b c d e f) k) ∧ (gI (amV a b c d e f) (gI b k).2.1).toNat ≠ 0 := by
 have hu := H.cnt_used hk h
 have ht := H.tk hk hu
 have hw := H.awake hk h
 have hb := H.am_bound (zcN ht.coin)
 have ha := ht.amt
 have hd : (gI (amV a b c d e f) (gI b k).2.1).toNat ≠ 0 := by omega
 unfold zcX
 obtain ⟨m, hm⟩ := Int.eq_ofNat_of_zero_le (show 0 ≤ (gI b k).2.2.1 by omega)
 rw [hm]
 exact ⟨zgG _ _, sm_mkRat hd (by omega) (by omega), hd⟩
theorem wb_step {a : List Bool} {b : List Tk} {c : List Th} {d : List Lk} {e : List Int} {f : Int} (H : zbe a b c d e f) {k : Int} (hk : 0 ≤ k ∧ k < (b.length : Int)) (hu : (gI b k).1 = true) {n : Nat} {x : List Rat × List Rat} (hx : x.1.length = a.length) (W : WB n x) :
  WB (if (gI b k).2.2.2.1 = 2 then 2 * n + 29 else n) (zce b (zbP a b c d e f) (amV a b c d e f) x k) := by
 have W' : WB (if (gI b k).2.2.2.1 = 2 then 2 * n + 29 else n) x := by
  split
  ·exact ⟨fun q hq => ⟨(W.c q hq).1, zea (by omega) (W.c q hq).2⟩, fun q hq => ⟨(W.k q hq).1, zea (by omega) (W.k q hq).2⟩⟩
  ·exact W
 unfold zce
 by_cases hc : gI (zbP a b c d e f) k = true
 ·rw [if_pos hc]
  obtain ⟨s1, s2, _⟩ := share_sm H hk hc
  have ht := H.tk hk hu
  have hcm := W.c _ (gI_mem (xs := x.1) (k := (gI b k).2.1) (by rw [hx]; exact zcN ht.coin))
  have v0 := Rat.mul_nonneg s1 hcm.1
  have v1 := sm_mul s1 hcm.1 s2 hcm.2
  refine ⟨fun q hq => ?_, fun q hq => ?_⟩
  ·simp only at hq
   split at hq
   ·rename_i h2
    rw [if_pos h2]
    have h4 : usC a (gI b k).2.2.2.2.1 = true := by
     rcases ht.to with h | h | h
     ·omega
     ·omega
     ·exact h.2.2
    have hct := W.c _ (gI_mem (xs := x.1) (k := (gI b k).2.2.2.2.1) (by rw [hx]; exact zcN h4))
    rcases mem_sI hq with rfl | hq
    ·exact ⟨Rat.add_nonneg hct.1 v0, zea (by omega) (sm_add hct.1 v0 hct.2 v1)⟩
    ·exact ⟨(W.c q hq).1, zea (by omega) (W.c q hq).2⟩
   ·exact W'.c q hq
  ·rcases mem_sI hq with rfl | hq
   ·refine ⟨v0, zea ?_ v1⟩
    split <;> omega
   ·exact W'.k q hq
 ·rw [if_neg hc]; exact W'
theorem wb_fold {a : List Bool} {b : List Tk} {c : List Th} {d : List Lk} {e : List Int} {f : Int} (H : zbe a b c d e f) : ∀ (l : List Int) (n : Nat) (x : List Rat × List Rat), (∀ k ∈ l, (0 ≤ k ∧ k < (b.length : Int)) ∧ (gI b k).1 = true) → x.1.length = a.length → WB n x →
  WB (nb b l n) (l.foldl (zce b (zbP a b c d e f) (amV a b c d e f)) x)
 | [], _, _, _, _, W => W
 | k :: l, n, x, hl, hx, W => by
  obtain ⟨k1, k2⟩ := hl k (List.mem_cons_self ..)
  exact wb_fold H l _ _ (fun j hj => hl j (List.mem_cons_of_mem _ hj)) ((wStep_len ..).1.trans hx) (wb_step H k1 k2 hx W)
theorem sm_zero (n : Nat) (h : 1 ≤ n) : sm n 0 := by
 have : 2 ^ 1 ≤ 2 ^ n := Nat.pow_le_pow_right (by decide) h
 exact ⟨by simp; omega, by simp; omega⟩
theorem sm_int {m : Int} (h : 0 ≤ m ∧ m < 268435456) : 0 ≤ (m : Rat) ∧ sm 28 (m : Rat) := by
 obtain ⟨j, rfl⟩ := Int.eq_ofNat_of_zero_le h.1
 refine ⟨?_, ?_, ?_⟩
 ·rw [← Rat.num_nonneg]
  simp
 ·simp; omega
 ·simp
theorem zbe.wb0 {a : List Bool} {b : List Tk} {c : List Th} {d : List Lk} {e : List Int} {f : Int} (H : zbe a b c d e f) : WB 71 (w0 a b (amV a b c d e f)) := by
 have hc := H.coins
 have hb := H.am_bound (x := 0) (by omega)
 obtain ⟨h1, h2⟩ := sm_int (m := gI (amV a b c d e f) 0) (by omega)
 refine ⟨fun q hq => ?_, fun q hq => ?_⟩
 ·rcases mem_sI hq with rfl | hq
  ·exact ⟨h1, zea (by decide) h2⟩
  ·rw [(List.mem_replicate.1 hq).2]
   exact ⟨by decide, sm_zero _ (by decide)⟩
 ·rw [(List.mem_replicate.1 hq).2]
  exact ⟨by decide, sm_zero _ (by decide)⟩
theorem zbe.wb {a : List Bool} {b : List Tk} {c : List Th} {d : List Lk} {e : List Int} {f : Int} (H : zbe a b c d e f) (h8 : cnt2 b ≤ 8) : WB 25600 (zbv a b c d e f) := by
 have h := wb_fold H (zcd a b) 71 (w0 a b (amV a b c d e f)) (fun k hk => H.tkOrd_mem.1 hk) w0_len.1 H.wb0
 have hn := H.nb_ord h8 (n := 71) (by decide)
 exact ⟨fun q hq => ⟨(h.c q hq).1, zea hn (h.c q hq).2⟩, fun q hq => ⟨(h.k q hq).1, zea (by omega) (h.k q hq).2⟩⟩
end Go.Proofs.Ytlfdidaeachpoaa
namespace Go.Proofs.Ytlfdidaeachpoaa
open Go Go.RowKit
set_option maxRecDepth 100000
noncomputable section
theorem pe {α β : Type} (p : α × β) : (p.1, p.2) = p := rfl
theorem zdF {α β : Type} [Inhabited α] [Inhabited β] (g : α → β) {xs : List α} {i : Int} (h : 0 ≤ i ∧ i < (xs.length : Int)) : gI (xs.map g) i = g (gI xs i) := by
 obtain ⟨j, rfl⟩ := Int.eq_ofNat_of_zero_le h.1
 have hj : j < xs.length := by omega
 rw [zbD (by simpa using hj), zbD hj, List.getElem_map]
theorem sI_map {α β : Type} (g : α → β) (xs : List α) (i : Int) (y : α) : sI (xs.map g) i (g y) = (sI xs i y).map g := by
 unfold sI; rw [List.map_set]
theorem rep_set {α : Type} (i n : Nat) (z z0 : α) : (List.replicate i z ++ List.replicate (n + 1) z0).set i z = List.replicate (i + 1) z ++ List.replicate n z0 := by
 rw [List.set_append, if_neg (by simp), List.length_replicate, Nat.sub_self, List.replicate_succ, List.set_cons_zero, List.replicate_succ', List.append_assoc]
 rfl
theorem zero_a (m : Nat) (hm : m ≤ 1000000) : ∀ (n i : Nat), i + n = m → lo zg_b122 (m : Int) ((i : Int), List.replicate i (rq 0) ++ List.replicate n ([], [])) = some (List.replicate m (rq 0))
 | 0, i, h => by
  rw [zbi, zg_b122]
  simp only [RT.run]
  rw [if_neg (by simp; omega), show i = m by omega]
  simp
 | n + 1, i, h => by
  rw [zbi, zg_b122]
  simp only [RT.run]
  rw [if_pos (by simp; omega), if_pos (zbc.2 ⟨by omega, by simp; omega⟩), zbg (by omega), show (i : Int) + 1 = ((i + 1 : Nat) : Int) by omega, ← rq_zero, sI, Int.toNat_natCast, rep_set, zero_a m hm n (i + 1) (by omega)]
theorem zero_b (m : Nat) (hm : m ≤ 1000000) : ∀ (n i : Nat), i + n = m → lo zg_b250 (m : Int) ((i : Int), List.replicate i (rq 0) ++ List.replicate n ([], [])) = some (List.replicate m (rq 0))
 | 0, i, h => by
  rw [zbi, zg_b250]
  simp only [RT.run]
  rw [if_neg (by simp; omega), show i = m by omega]
  simp
 | n + 1, i, h => by
  rw [zbi, zg_b250]
  simp only [RT.run]
  rw [if_pos (by simp; omega), if_pos (zbc.2 ⟨by omega, by simp; omega⟩), zbg (by omega), show (i : Int) + 1 = ((i + 1 : Nat) : Int) by omega, ← rq_zero, sI, Int.toNat_natCast, rep_set, zero_b m hm n (i + 1) (by omega)]
theorem rq_len {q : Rat} {n : Nat} (h : sm n q) : (rq q).1.length ≤ n ∧ (rq q).2.length ≤ n := ⟨zfu (by decide) h.1, zfu (by decide) h.2⟩
theorem okS2 {p q : Rat} {n m : Nat} (hp : sm n p) (hq : sm m q) (hn : n ≤ 4000000) (hm : m ≤ 4000000) : okS [rq p, rq q] = true := by
 obtain ⟨p1, p2⟩ := rq_len hp
 obtain ⟨q1, q2⟩ := rq_len hq
 rw [okS_iff]
 refine ⟨by simp, fun x hx => ?_, by simp [szS]; omega⟩
 simp only [List.mem_cons, List.not_mem_nil, or_false] at hx
 rcases hx with rfl | rfl
 ·exact okr_rq hp (by omega)
 ·exact okr_rq hq (by omega)
theorem prodQ2 {p q : Rat} (hp : 0 ≤ p) (hq : 0 ≤ q) : prodQ [rq p, rq q] = p * q := by
 simp only [prodQ, List.foldl_cons, List.foldl_nil, toQ_rq hp, toQ_rq hq, Rat.one_mul]
theorem sumQ2 {p q : Rat} (hp : 0 ≤ p) (hq : 0 ≤ q) : sumQ [rq p, rq q] = p + q := by
 simp only [sumQ, List.foldl_cons, List.foldl_nil, toQ_rq hp, toQ_rq hq, Rat.zero_add]
theorem mkR_rq {n d : Nat} (hd : d ≠ 0) : mkR n d = (true, rq (mkRat (n : Int) d)) := by unfold mkR; rw [if_neg hd]
section
variable {a : List Bool} {b : List Tk} {c : List Th} {d : List Lk} {e : List Int} {f : Int}
theorem w_inner (H : zbe a b c d e f) {x0 : Int} (hx0 : usC a x0 = true) : ∀ (m i n : Nat) (x : List Rat × List Rat), i + m = (zbq b x0).length → x.1.length = a.length → x.2.length = b.length → WB n x → nb b ((zbq b x0).drop i) n ≤ 25600 →
  lo zfE (x0, ((zbq b x0).length : Int), b, zbP a b c d e f, amV a b c d e f, zbq b x0) ((i : Int), x.1.map rq, x.2.map rq) =
   some ((((zbq b x0).drop i).foldl (zce b (zbP a b c d e f) (amV a b c d e f)) x).1.map rq, (((zbq b x0).drop i).foldl (zce b (zbP a b c d e f) (amV a b c d e f)) x).2.map rq)
 | 0, i, n, x, h, _, _, _, _ => by
  rw [zbi, zfE]
  simp only [RT.run]
  rw [if_neg (by simp; omega), List.drop_eq_nil_of_le (by omega)]
  rfl
 | m + 1, i, n, x, h, h1, h2, W, hb => by
  have hlb := H.lenB
  have hil := zgw b x0
  have hi : i < (zbq b x0).length := by omega
  obtain ⟨k1, k2, k3⟩ := zbQ.1 (List.getElem_mem hi)
  have hgk : gI (zbq b x0) (i : Int) = (zbq b x0)[i] := zbD hi
  rw [List.drop_eq_getElem_cons hi] at hb
  rw [List.drop_eq_getElem_cons hi, List.foldl_cons]
  generalize (zbq b x0)[i] = k at *
  obtain ⟨l1, l2⟩ := H.len
  have ht := H.tk k1 k2
  have hcn : inB (zbP a b c d e f) k = true := zbc.2 (by rw [l1]; exact k1)
  have hxc := zcN hx0
  have ham : inB (amV a b c d e f) x0 = true := zbc.2 (by rw [l2]; exact hxc)
  have hb' := nb_le b ((zbq b x0).drop (i + 1)) (if (gI b k).2.2.2.1 = 2 then 2 * n + 29 else n)
  have hb2 : nb b ((zbq b x0).drop (i + 1)) (if (gI b k).2.2.2.1 = 2 then 2 * n + 29 else n) ≤ 25600 := hb
  have hn : n ≤ 25600 := by
   split at hb' <;> split at hb2 <;> omega
  obtain ⟨s1, s2⟩ := wStep_len b (zbP a b c d e f) (amV a b c d e f) x k
  have ih := w_inner H hx0 m (i + 1) _ (zce b (zbP a b c d e f) (amV a b c d e f) x k) (by omega) (s1.trans h1) (s2.trans h2) (wb_step H k1 k2 h1 W) hb
  rw [zbi, zfE]
  simp only [RT.run, hgk]
  rw [if_pos (by simp; omega), if_pos (zbc.2 ⟨by omega, by omega⟩), if_pos hcn, zbg (by omega), show (i : Int) + 1 = ((i + 1 : Nat) : Int) by omega]
  cases hc : gI (zbP a b c d e f) k with
  | false =>
   rw [if_pos (by decide)]
   have hw : zce b (zbP a b c d e f) (amV a b c d e f) x k = x := by unfold zce; rw [if_neg (by rw [hc]; decide)]
   rw [hw] at ih
   rw [hw, ih]
  | true =>
   obtain ⟨v0, v1, v2⟩ := share_sm H k1 hc
   rw [k3] at v2
   have hcx := W.c _ (gI_mem (xs := x.1) (k := x0) (by rw [h1]; exact hxc))
   have hamt := ht.amt
   have hab := H.am_bound hxc
   have e1 : mkR (zbr (gI b k).2.2.1).toNat (zbr (gI (amV a b c d e f) x0)).toNat = (true, rq (zcX b (amV a b c d e f) k)) := by
    rw [zby (by omega), zby (by omega), mkR_rq v2]
    unfold zcX
    rw [k3, Int.toNat_of_nonneg (by omega)]
   have e2 : gI (x.1.map rq) x0 = rq (gI x.1 x0) := zdF rq (by rw [h1]; exact hxc)
   have in1 : inB (x.1.map rq) x0 = true := zbc.2 (by simp only [List.length_map]; rw [h1]; exact hxc)
   have in2 : inB (x.2.map rq) k = true := zbc.2 (by simp only [List.length_map]; rw [h2]; exact k1)
   have vv0 := Rat.mul_nonneg v0 hcx.1
   have vv1 := sm_mul v0 hcx.1 v1 hcx.2
   rw [if_neg (by decide), if_pos (zbc.2 k1), if_pos ham, if_pos in1]
   simp only [e1, e2, pe]
   rw [okS2 v1 hcx.2 (by omega) (by omega), prodQ2 v0 hcx.1, if_pos rfl, if_pos in2, sI_map]
   have hw : zce b (zbP a b c d e f) (amV a b c d e f) x k = (if (gI b k).2.2.2.1 = 2 then sI x.1 (gI b k).2.2.2.2.1 (gI x.1 (gI b k).2.2.2.2.1 + zcX b (amV a b c d e f) k * gI x.1 x0) else x.1, sI x.2 k (zcX b (amV a b c d e f) k * gI x.1 x0)) := by
    unfold zce
    rw [if_pos hc, k3]
   by_cases h2k : (gI b k).2.2.2.1 = 2
   ·have h4 : usC a (gI b k).2.2.2.2.1 = true := by
     rcases ht.to with h | h | h
     ·omega
     ·omega
     ·exact h.2.2
    have hto := zcN h4
    have in3 : inB (x.1.map rq) (gI b k).2.2.2.2.1 = true := zbc.2 (by simp only [List.length_map]; rw [h1]; exact hto)
    have in4 : inB ((sI x.2 k (zcX b (amV a b c d e f) k * gI x.1 x0)).map rq) k = true := zbc.2 (by simp only [List.length_map, sI_len]; rw [h2]; exact k1)
    have e3 : gI (x.1.map rq) (gI b k).2.2.2.2.1 = rq (gI x.1 (gI b k).2.2.2.2.1) := zdF rq (by rw [h1]; exact hto)
    have e4 : gI ((sI x.2 k (zcX b (amV a b c d e f) k * gI x.1 x0)).map rq) k = rq (zcX b (amV a b c d e f) k * gI x.1 x0) := by
     rw [zdF rq (by rw [sI_len, h2]; exact k1), gI_set (by rw [h2]; exact k1) k1.1, if_pos rfl]
    have hct := W.c _ (gI_mem (xs := x.1) (k := (gI b k).2.2.2.2.1) (by rw [h1]; exact hto))
    rw [if_pos (by simpa using h2k), if_pos in3, if_pos in4]
    simp only [e3, e4, pe]
    rw [okS2 hct.2 vv1 (by omega) (by omega), sumQ2 hct.1 vv0, if_pos rfl, if_pos in3, sI_map]
    rw [hw, if_pos h2k] at ih
    rw [hw, if_pos h2k]
    exact ih
   ·rw [if_neg (by simpa using h2k)]
    rw [hw, if_neg h2k] at ih
    rw [hw, if_neg h2k]
    exact ih
theorem w_outer (H : zbe a b c d e f) : ∀ (m i n : Nat) (x : List Rat × List Rat), i + m = (zbs a b).length → x.1.length = a.length → x.2.length = b.length → WB n x → nb b (((zbs a b).drop i).flatMap (zbq b)) n ≤ 25600 →
  lo zfS (zbs a b, ((zbs a b).length : Int), a, b, c, d, e, f, zbP a b c d e f, amV a b c d e f) ((i : Int), x.1.map rq, x.2.map rq) =
   some (((((zbs a b).drop i).flatMap (zbq b)).foldl (zce b (zbP a b c d e f) (amV a b c d e f)) x).1.map rq, ((((zbs a b).drop i).flatMap (zbq b)).foldl (zce b (zbP a b c d e f) (amV a b c d e f)) x).2.map rq)
 | 0, i, n, x, h, _, _, _, _ => by
  rw [zbi, zfS]
  simp only [RT.run]
  rw [if_neg (by simp; omega), List.drop_eq_nil_of_le (by omega)]
  rfl
 | m + 1, i, n, x, h, h1, h2, W, hb => by
  have hlb := H.lenB
  have hi : i < (zbs a b).length := by omega
  have hol : (zbs a b).length ≤ 16 := by
   have := kahn_len a.length (zbM b)
   have h3 : (zbs a b).length ≤ (zcj a.length (zbM b)).2.length := List.length_filter_le ..
   have := H.coins
   omega
  have hus := H.ord_mem.1 (List.getElem_mem hi)
  have hgk : gI (zbs a b) (i : Int) = (zbs a b)[i] := zbD hi
  rw [List.drop_eq_getElem_cons hi, List.flatMap_cons, nb_append] at hb
  rw [List.drop_eq_getElem_cons hi, List.flatMap_cons, List.foldl_append]
  generalize (zbs a b)[i] = x0 at *
  obtain ⟨s1, s2⟩ := wFold_len (b := b) (cnt := zbP a b c d e f) (am := amV a b c d e f) (zbq b x0) x
  have hin := w_inner H hus (zbq b x0).length 0 n x (by omega) h1 h2 W (by rw [List.drop_zero]; exact Nat.le_trans (nb_le b _ _) hb)
  rw [List.drop_zero, show ((0 : Nat) : Int) = 0 from rfl] at hin
  have ih := w_outer H m (i + 1) _ _ (by omega) (s1.trans h1) (s2.trans h2) (wb_fold H (zbq b x0) n x (fun k hk => by
   obtain ⟨k1, k2, _⟩ := zbQ.1 hk
   exact ⟨k1, k2⟩) h1 W) hb
  rw [zbi, zfS]
  simp only [RT.run, hgk]
  rw [if_pos (by simp; omega), if_pos (zbc.2 ⟨by omega, by omega⟩), if_pos (decide_eq_true (by omega)), hin, Option.bind_some, zbg (by omega), show (i : Int) + 1 = ((i + 1 : Nat) : Int) by omega]
  exact ih
end
def wOK (a : List Bool) (b : List Tk) (c : List Th) (d : List Lk) (e : List Int) (f : Int) : Bool := fineV a b c d e f && decide (cnt2 b ≤ 8)
theorem zfW {a : List Bool} {b : List Tk} {c : List Th} {d : List Lk} {e : List Int} {f : Int} (h : wOK a b c d e f = true) : zbe a b c d e f ∧ cnt2 b ≤ 8 := by
 unfold wOK at h
 rw [Bool.and_eq_true, decide_eq_true_eq] at h
 exact ⟨fine0 h.1, h.2⟩
def e_zg : zbj := io_zg.sp (fun (a, b, c, d, e, f) => (wOK a b c d e f)) (fun (a, b, c, d, e, f) => ((zbv a b c d e f).1.map rq, (zbv a b c d e f).2.map rq))
theorem sp_zg (h : ∀ (a : List Bool) (b : List Tk) (c : List Th) (d : List Lk) (e : List Int) (f : Int), WfT [.sl tB, .sl yK, .sl yH, .sl yL, .sl tI, tI] (a, b, c, d, e, f) → ((wOK a b c d e f)) = true → (zg (a, b, c, d, e, f)).run (fun _ => none) = some ((zbv a b c d e f).1.map rq, (zbv a b c d e f).2.map rq)) : e_zg.ok pg := zbo ok_zg fun (a, b, c, d, e, f) hw hc => h a b c d e f hw hc
theorem e_zg_ok : e_zg.ok pg := sp_zg fun a b c d e f _ hc => by
 obtain ⟨H, h8⟩ := zfW hc
 have hlb := H.lenB
 have hca := H.coins
 obtain ⟨l1, l2⟩ := H.len
 have za := zero_a a.length (by omega) a.length 0 (by omega)
 have zb := zero_b b.length (by omega) b.length 0 (by omega)
 rw [List.replicate_zero, List.nil_append, show ((0 : Nat) : Int) = 0 from rfl] at za zb
 have ab := H.am_bound (x := 0) (by omega)
 rw [zg]
 simp only [RT.run]
 have hra : ∀ n : Nat, (zbV (n : Int) (([] : List Int), ([] : List Int))) = List.replicate n ([], []) := fun n => by unfold zbV; rw [Int.toNat_natCast]
 rw [if_pos H.reckOK, if_pos H.reckOK, if_pos (zcK.2 ⟨by omega, by omega, by omega⟩), if_pos (zcK.2 ⟨by omega, by omega, by omega⟩), hra, hra, List.length_replicate, List.length_replicate, za, Option.bind_some, zb, Option.bind_some]
 show (if inB (amV a b c d e f) 0 = true then _ else none) = _
 have e1 : mkR (zbr (gI (zdu (a, b, c, d, e, f)).2 0)).toNat (1 : Int).toNat = (true, rq ((gI (amV a b c d e f) 0 : Int) : Rat)) := by
  show mkR (zbr (gI (amV a b c d e f) 0)).toNat (1 : Int).toNat = _
  rw [zby (by omega), mkR_rq (by decide), show (1 : Int).toNat = 1 from rfl, Rat.mkRat_one, Int.toNat_of_nonneg ab.1]
 rw [if_pos (zbc.2 (by rw [l2]; omega)), if_pos (zbc.2 (by simp; omega)), if_pos (by rw [decide_eq_true (show b.length ≤ 1000000 by omega), decide_eq_true (show a.length ≤ 4096 by omega)]; rfl)]
 have hw := w_outer H (zbs a b).length 0 71 (w0 a b (amV a b c d e f)) (by omega) w0_len.1 w0_len.2 H.wb0 (by rw [List.drop_zero]; exact H.nb_ord h8 (by decide))
 rw [List.drop_zero, show ((0 : Nat) : Int) = 0 from rfl] at hw
 have hs : sI (List.replicate a.length (rq 0)) 0 (rq ((gI (amV a b c d e f) 0 : Int) : Rat)) = (w0 a b (amV a b c d e f)).1.map rq := by
  show _ = (sI (List.replicate a.length 0) 0 ((gI (amV a b c d e f) 0 : Int) : Rat)).map rq
  rw [← sI_map, List.map_replicate]
 have hk : List.replicate b.length (rq 0) = (w0 a b (amV a b c d e f)).2.map rq := by
  show _ = (List.replicate b.length 0).map rq
  rw [List.map_replicate]
 rw [e1]
 simp only [pe]
 rw [hs, hk]
 have hw' : lo zfS (zbs a b, ((zbs a b).length : Int), a, b, c, d, e, f, (zdu (a, b, c, d, e, f)).1, (zdu (a, b, c, d, e, f)).2) (0, (w0 a b (amV a b c d e f)).1.map rq, (w0 a b (amV a b c d e f)).2.map rq) = _ := hw
 rw [hw']
 rfl
def zX : ((List Bool) × (List Tk) × (List Th) × (List Lk) × (List Int) × Int) → RT Unit (List ((List Int) × List Int))
| (s_0, s_1, s_2, s_3, s_4, s_5) =>
 .rq 3 (.req ((wOK s_0 s_1 s_2 s_3 s_4 s_5)) (.rq 7 (.done ((zbv s_0 s_1 s_2 s_3 s_4 s_5).2.map rq))))
def F_zX (x : (List Bool) × (List Tk) × (List Th) × (List Lk) × (List Int) × Int) : Option (List ((List Int) × List Int)) := (zX x).run fun _ => none
def io_zX : Io := ⟨n_zX, [.sl tB, .sl yK, .sl yH, .sl yL, .sl tI, tI], [.agg [qm 0, qm 1, qm 2, qm 3, qm 4, qm 5]], [], [[.sl tB, .sl yK, .sl yH, .sl yL, .sl tI, tI]], [.sl (.pair (.sl tV) (.sl tV))], .lf (qr 0), [], [(true, .arr 43 (qm 0))], true⟩
def zX_P : List zaV := []
def zX_T : zbf := tab [e_zg]
theorem zX_To : zbd pg zX_T := zaX ⟨e_zg_ok, trivial⟩
theorem zX_go : zbt pg (zX_T) io_zX f_zX (zX_P) [.nilRow 2 800002 43 (.pair (.sl tV) (.sl tV)), .ren 2 700002, .ren 2 900002] (zX) := ⟨by kernel_rfl, by kernel_rfl, fun x => by kernel_rfl⟩
theorem ok_zX : io_zX.Okay pg (F_zX) := zbl zaZ (zX_To) (zX_go) trivial
def e_zX : zbj := io_zX.sp (fun (a, b, c, d, e, f) => (wOK a b c d e f)) (fun (a, b, c, d, e, f) => ((zbv a b c d e f).2.map rq))
theorem sp_zX (h : ∀ (a : List Bool) (b : List Tk) (c : List Th) (d : List Lk) (e : List Int) (f : Int), WfT [.sl tB, .sl yK, .sl yH, .sl yL, .sl tI, tI] (a, b, c, d, e, f) → ((wOK a b c d e f)) = true → (zX (a, b, c, d, e, f)).run (fun _ => none) = some ((zbv a b c d e f).2.map rq)) : e_zX.ok pg := zbo ok_zX fun (a, b, c, d, e, f) hw hc => h a b c d e f hw hc
theorem e_zX_ok : e_zX.ok pg := sp_zX fun a b c d e f _ hc => by
 rw [zX]
 simp only [RT.run]
 rw [if_pos hc]
def zq_b122 : Int → (Int × (List ((List Int) × List Int))) → RT (Int × (List ((List Int) × List Int))) (List ((List Int) × List Int))
| x15, (x16, r4) =>
 .rq 1 (.ite (decide (x16 < x15))
 (.rq 5 (.req (inB r4 x16) (.rq 3 (.again (w64 (x16 + 1), sI r4 x16 ([], zbb B32 1))))))
 (.done r4))
def zq_p122 : zaV := ⟨122, true, [tI, .sl tB, .sl yK, .sl yH, .sl yL, .sl tI, tI, .sl (.pair (.sl tV) (.sl tV))], [tI, .sl (.pair (.sl tV) (.sl tV))], ⟨[.keep [1, 3, 4, 15, 16], .gc, .nilRow 3 800003 43 (.pair (.sl tV) (.sl tV)), .nilRow 4 800004 43 (.pair (.sl tV) (.sl tV)), .ren 3 700003, .ren 4 700004, .ren 3 900003, .ren 4 900004, .gc], [1, 3, 4, 15, 16], [.lf (qp 16), .lf (qr 900003), .lf (qr 900004), .lf (qi 0), .lf (qm 0)], [(16, true, .cells [qi 1, qi 2, qi 3, qi 4, qi 5, qi 6]), (900003, true, .arr 43 (qi 7)), (900004, true, .arr 43 (qm 1))]⟩, [⟨2, ⟨[.keep [1, 3, 4], .gc, .nilRow 3 800003 43 (.pair (.sl tV) (.sl tV)), .nilRow 4 800004 43 (.pair (.sl tV) (.sl tV)), .ren 3 700003, .ren 4 700004, .ren 3 900003, .ren 4 900004, .gc], [1, 3, 4], [.lf (qp 16), .lf (qr 900003), .lf (qr 900004)], [(16, true, .cells [qi 1, qi 2, qi 3, qi 4, qi 5, qi 6]), (900003, true, .arr 43 (qi 7)), (900004, true, .arr 43 (qm 0))]⟩, [.sl (.pair (.sl tV) (.sl tV))]⟩], (fun i => zq_b122 i.1)⟩
def zq_b250 : ((List Tk) × Int × (List ((List Int) × List Int))) → (Int × (List ((List Int) × List Int))) → RT (Int × (List ((List Int) × List Int))) (List ((List Int) × List Int))
| (x25, x26, r3), (x27, r4) =>
 .rq 1 (.ite (decide (x27 < x26))
 (.rq 1 (.req (inB x25 x27) (.rq 11 (let t0 := w64 (x27 + 1);
 .ite ((gI x25 x27).1 && ((gI x25 x27).2.2.2.1 == 1))
 (.rq 6 (let t1 := inB r4 (gI x25 x27).2.2.2.2.1;
 .req t1 (.rq 3 (.req (inB r3 x27) (.rq 2 (let t2 := gI r4 (gI x25 x27).2.2.2.2.1;
 let t3 := [(t2.1, t2.2), ((gI r3 x27).1, (gI r3 x27).2)];
 .req (okS t3) (.req t1 (.rq 3 (let t4 := rq (sumQ t3);
 .again (t0, sI r4 (gI x25 x27).2.2.2.2.1 (t4.1, t4.2)))))))))))
 (.rq 2 (.again (t0, r4)))))))
 (.done r4))
def zq_p250 : zaV := ⟨250, true, [.sl yK, tI, .sl (.pair (.sl tV) (.sl tV))], [tI, .sl (.pair (.sl tV) (.sl tV))], ⟨[.keep [3, 4, 25, 26, 27], .gc, .nilRow 3 800003 43 (.pair (.sl tV) (.sl tV)), .nilRow 4 800004 43 (.pair (.sl tV) (.sl tV)), .ren 3 700003, .ren 4 700004, .ren 3 900003, .ren 4 900004, .gc], [3, 4, 25, 26, 27], [.lf (qr 900003), .lf (qr 900004), .lf (qi 0), .lf (qi 1), .lf (qm 0)], [(900003, true, .arr 43 (qi 2)), (900004, true, .arr 43 (qm 1))]⟩, [⟨4, ⟨[.keep [4], .gc, .nilRow 4 800004 43 (.pair (.sl tV) (.sl tV)), .ren 4 700004, .ren 4 900004, .gc], [4], [.lf (qr 900004)], [(900004, true, .arr 43 (qm 0))]⟩, [.sl (.pair (.sl tV) (.sl tV))]⟩], zq_b250⟩
def zq : ((List Bool) × (List Tk) × (List Th) × (List Lk) × (List Int) × Int) → RT Unit (List ((List Int) × List Int))
| (s_0, s_1, s_2, s_3, s_4, s_5) =>
 .rq 3 (.req ((wOK s_0 s_1 s_2 s_3 s_4 s_5)) (.rq 4 (.req (mkOK 48 (s_2.length : Int)) (.rq 4 (let t0 := zbV (s_2.length : Int) ([], []);
 .call (lo zq_b122 (t0.length : Int) (0, t0)) default fun v0 =>
 .rq 4 (.call (lo zq_b250 (s_1, (s_1.length : Int), ((zbv s_0 s_1 s_2 s_3 s_4 s_5).2.map rq)) (0, v0)) default fun v1 =>
 .rq 2 (.done v1)))))))
def F_zq (x : (List Bool) × (List Tk) × (List Th) × (List Lk) × (List Int) × Int) : Option (List ((List Int) × List Int)) := (zq x).run fun _ => none
def io_zq : Io := ⟨n_zq, [.sl tB, .sl yK, .sl yH, .sl yL, .sl tI, tI], [.agg [qm 0, qm 1, qm 2, qm 3, qm 4, qm 5]], [], [[.sl tB, .sl yK, .sl yH, .sl yL, .sl tI, tI]], [.sl (.pair (.sl tV) (.sl tV))], .lf (qr 0), [], [(true, .arr 43 (qm 0))], true⟩
def zq_P : List zaV := [zq_p122, zq_p250]
def zq_T : zbf := tab [e_zX, e_zP, e_zY]
theorem zq_To : zbd pg zq_T := zaX ⟨e_zX_ok, e_zP_ok, e_zY_ok, trivial⟩
theorem zq_k122 : (zq_p122).OK pg (zq_T) (zbu 56 (zq_P)) (zbh f_zq) 56 := ⟨by kernel_rfl, fun i x => by kernel_rfl⟩
theorem zq_k250 : (zq_p250).OK pg (zq_T) (zbu 56 (zq_P)) (zbh f_zq) 56 := ⟨by kernel_rfl, fun i x => by kernel_rfl⟩
theorem zq_go : zbt pg (zq_T) io_zq f_zq (zq_P) [.nilRow 2 800002 43 (.pair (.sl tV) (.sl tV)), .ren 2 700002, .ren 2 900002] (zq) := ⟨by kernel_rfl, by kernel_rfl, fun x => by kernel_rfl⟩
theorem ok_zq : io_zq.Okay pg (F_zq) := zbl zaZ (zq_To) (zq_go) ⟨zq_k122, zq_k250, trivial⟩
theorem rsum_sm {l : List Rat} {n : Nat} (h : ∀ x ∈ l, 0 ≤ x ∧ sm n x) : 0 ≤ zbx l ∧ sm ((n + 1) * l.length + 1) (zbx l) := by
 induction l with
 | nil => exact ⟨by decide, sm_zero _ (by simp)⟩
 | cons x l ih =>
  obtain ⟨h1, h2⟩ := h x (List.mem_cons_self ..)
  obtain ⟨h3, h4⟩ := ih fun y hy => h y (List.mem_cons_of_mem _ hy)
  refine ⟨Rat.add_nonneg h1 h3, zea ?_ (sm_add h1 h3 h2 h4)⟩
  rw [List.length_cons, Nat.mul_add, Nat.mul_one]
  omega
def zct (K : List Rat) (p : Int → Bool) (l : List Int) : Rat := zbx ((l.filter p).map (gI K))
def zbF (n : Nat) : List Int := (List.range n).map fun (k : Nat) => (k : Int)
theorem zcM (n : Nat) : (zbF n).length = n := by simp [zbF]
theorem ints_succ (n : Nat) : zbF (n + 1) = zbF n ++ [(n : Int)] := by unfold zbF; rw [List.range_succ, List.map_append]; rfl
theorem zcz {n : Nat} {k : Int} : k ∈ zbF n ↔ 0 ≤ k ∧ k < (n : Int) := by
 unfold zbF
 rw [List.mem_map]
 constructor
 ·rintro ⟨j, h, rfl⟩
  have := List.mem_range.1 h
  omega
 ·rintro ⟨h1, h2⟩
  obtain ⟨j, rfl⟩ := Int.eq_ofNat_of_zero_le h1
  exact ⟨j, List.mem_range.2 (by omega), rfl⟩
theorem sumOf_succ (K : List Rat) (p : Int → Bool) (n : Nat) : zct K p (zbF (n + 1)) = zct K p (zbF n) + (if p (n : Int) = true then gI K (n : Int) else 0) := by
 unfold zct
 rw [ints_succ, List.filter_append, List.map_append, zhb]
 congr 1
 rw [List.filter_cons]
 split
 ·rw [List.filter_nil, List.map_cons, zbG]; exact Rat.add_zero _
 ·rfl
theorem sumOf_sm {K : List Rat} {n : Nat} (h : ∀ x ∈ K, 0 ≤ x ∧ sm n x) (p : Int → Bool) {l : List Int} (hl : ∀ k ∈ l, 0 ≤ k ∧ k < (K.length : Int)) : 0 ≤ zct K p l ∧ sm ((n + 1) * l.length + 1) (zct K p l) := by
 obtain ⟨h1, h2⟩ := rsum_sm (l := (l.filter p).map (gI K)) (n := n) fun x hx => by
  obtain ⟨k, hk, rfl⟩ := List.mem_map.1 hx
  exact h _ (gI_mem (hl k (List.mem_filter.1 hk).1))
 refine ⟨h1, zea ?_ h2⟩
 rw [List.length_map]
 have := List.length_filter_le p l
 have := Nat.mul_le_mul_left (n + 1) this
 omega
def thW (a : List Bool) (b : List Tk) (c : List Th) (d : List Lk) (e : List Int) (f : Int) : List Rat := (zbF c.length).map fun i => zct (zbv a b c d e f).2 (isOf b 2 i) (zbF b.length)
section
variable {a : List Bool} {b : List Tk} {c : List Th} {d : List Lk} {e : List Int} {f : Int}
def zeh (b : List Tk) (K : List Rat) (n m : Nat) : List Rat := (zbF n).map fun i => zct K (isOf b 2 i) (zbF m)
theorem zel {b : List Tk} {K : List Rat} {n m : Nat} {i : Int} (h : 0 ≤ i ∧ i < (n : Int)) : gI (zeh b K n m) i = zct K (isOf b 2 i) (zbF m) := by
 unfold zeh
 rw [zdF (α := Int) _ (by rw [zcM]; exact h)]
 congr 1
 obtain ⟨j, rfl⟩ := Int.eq_ofNat_of_zero_le h.1
 have hj : j < n := by omega
 rw [zbD (by rw [zcM]; exact hj)]
 simp [zbF]
theorem zdi {b : List Tk} {K : List Rat} {n m : Nat} : (zeh b K n m).length = n := by simp [zeh, zbF]
theorem zeR {x y : List Rat} (hl : x.length = y.length) (h : ∀ i : Int, 0 ≤ i ∧ i < (x.length : Int) → gI x i = gI y i) : x = y := by
 refine List.ext_getElem hl fun i h1 h2 => ?_
 have := h (i : Int) (by omega)
 rwa [zbD h1, zbD h2] at this
theorem zero_t (m : Nat) (hm : m ≤ 1000000) : ∀ (n i : Nat), i + n = m → lo zq_b122 (m : Int) ((i : Int), List.replicate i (rq 0) ++ List.replicate n ([], [])) = some (List.replicate m (rq 0))
 | 0, i, h => by
  rw [zbi, zq_b122]
  simp only [RT.run]
  rw [if_neg (by simp; omega), show i = m by omega]
  simp
 | n + 1, i, h => by
  rw [zbi, zq_b122]
  simp only [RT.run]
  rw [if_pos (by simp; omega), if_pos (zbc.2 ⟨by omega, by simp; omega⟩), zbg (by omega), show (i : Int) + 1 = ((i + 1 : Nat) : Int) by omega, ← rq_zero, sI, Int.toNat_natCast, rep_set, zero_t m hm n (i + 1) (by omega)]
theorem th_loop (H : zbe a b c d e f) {K : List Rat} (hK : K.length = b.length) (hs : ∀ x ∈ K, 0 ≤ x ∧ sm 25628 x) : ∀ (n i : Nat), i + n = b.length →
  lo zq_b250 (b, (b.length : Int), K.map rq) ((i : Int), (zeh b K c.length i).map rq) = some ((zeh b K c.length b.length).map rq)
 | 0, i, h => by
  rw [zbi, zq_b250]
  simp only [RT.run]
  rw [if_neg (by simp; omega), show i = b.length by omega]
 | n + 1, i, h => by
  have hlb := H.lenB
  have hi : 0 ≤ (i : Int) ∧ (i : Int) < (b.length : Int) := by omega
  have ih := th_loop H hK hs n (i + 1) (by omega)
  have sz : ∀ p, 0 ≤ zct K p (zbF i) ∧ sm 2500000 (zct K p (zbF i)) := fun p => by
   obtain ⟨h1, h2⟩ := sumOf_sm (n := 25628) hs p (l := zbF i) (fun k hk => by have := zcz.1 hk; omega)
   exact ⟨h1, zea (by rw [zcM]; omega) h2⟩
  rw [zbi, zq_b250]
  simp only [RT.run]
  rw [if_pos (by simp; omega), if_pos (zbc.2 hi), zbg (by omega), show (i : Int) + 1 = ((i + 1 : Nat) : Int) by omega]
  have hnx : ∀ j, isOf b 2 j (i : Int) = ((gI b (i : Int)).1 && (((gI b (i : Int)).2.2.2.1 == 1) && ((gI b (i : Int)).2.2.2.2.1 == j))) := fun j => by unfold isOf; simp
  by_cases hc : ((gI b (i : Int)).1 && ((gI b (i : Int)).2.2.2.1 == 1)) = true
  ·rw [if_pos hc]
   rw [Bool.and_eq_true, beq_iff_eq] at hc
   have ht := H.tk hi hc.1
   have hut : usT c (gI b (i : Int)).2.2.2.2.1 = true := by
    rcases ht.to with h | h | h
    ·omega
    ·exact h.2
    ·omega
   have hto := zcg hut
   have in1 : inB ((zeh b K c.length i).map rq) (gI b (i : Int)).2.2.2.2.1 = true := zbc.2 (by rw [List.length_map, zdi]; exact hto)
   have in2 : inB (K.map rq) (i : Int) = true := zbc.2 (by rw [List.length_map, hK]; exact hi)
   have e1 : gI ((zeh b K c.length i).map rq) (gI b (i : Int)).2.2.2.2.1 = rq (zct K (isOf b 2 (gI b (i : Int)).2.2.2.2.1) (zbF i)) := by rw [zdF rq (by rw [zdi]; exact hto), zel hto]
   have e2 : gI (K.map rq) (i : Int) = rq (gI K (i : Int)) := zdF rq (by rw [hK]; exact hi)
   obtain ⟨s1, s2⟩ := sz (isOf b 2 (gI b (i : Int)).2.2.2.2.1)
   obtain ⟨s3, s4⟩ := hs _ (gI_mem (xs := K) (k := (i : Int)) (by rw [hK]; exact hi))
   simp only [e1, e2, pe]
   rw [if_pos in1, if_pos in2, okS2 s2 s4 (by decide) (by decide), sumQ2 s1 s3, if_pos rfl, if_pos in1, sI_map]
   have : sI (zeh b K c.length i) (gI b (i : Int)).2.2.2.2.1 (zct K (isOf b 2 (gI b (i : Int)).2.2.2.2.1) (zbF i) + gI K (i : Int)) = zeh b K c.length (i + 1) := by
    refine zeR (by rw [sI_len, zdi, zdi]) fun j hj => ?_
    rw [sI_len, zdi] at hj
    rw [gI_set (by rw [zdi]; exact hto) hj.1, zel hj, zel hj, sumOf_succ, hnx j, hc.1, hc.2]
    by_cases hjt : (gI b (i : Int)).2.2.2.2.1 = j
    ·rw [if_pos hjt, hjt]; simp
    ·rw [if_neg hjt, if_neg (by simp [hjt]), Rat.add_zero]
   rw [this]
   exact ih
  ·rw [if_neg hc]
   have : zeh b K c.length i = zeh b K c.length (i + 1) := by
    refine zeR (by rw [zdi, zdi]) fun j hj => ?_
    rw [zdi] at hj
    rw [zel hj, zel hj, sumOf_succ, hnx j, ← Bool.and_assoc, Bool.eq_false_iff.2 hc, Bool.false_and, if_neg (by decide), Rat.add_zero]
   rw [this]
   exact ih
end
def e_zq : zbj := io_zq.sp (fun (a, b, c, d, e, f) => (wOK a b c d e f)) (fun (a, b, c, d, e, f) => ((thW a b c d e f).map rq))
theorem sp_zq (h : ∀ (a : List Bool) (b : List Tk) (c : List Th) (d : List Lk) (e : List Int) (f : Int), WfT [.sl tB, .sl yK, .sl yH, .sl yL, .sl tI, tI] (a, b, c, d, e, f) → ((wOK a b c d e f)) = true → (zq (a, b, c, d, e, f)).run (fun _ => none) = some ((thW a b c d e f).map rq)) : e_zq.ok pg := zbo ok_zq fun (a, b, c, d, e, f) hw hc => h a b c d e f hw hc
theorem e_zq_ok : e_zq.ok pg := sp_zq fun a b c d e f _ hc => by
 obtain ⟨H, h8⟩ := zfW hc
 have hlc := H.lenC
 have W := H.wb h8
 have za := zero_t c.length (by omega) c.length 0 (by omega)
 rw [List.replicate_zero, List.nil_append, show ((0 : Nat) : Int) = 0 from rfl] at za
 have hra : ∀ n : Nat, (zbV (n : Int) (([] : List Int), ([] : List Int))) = List.replicate n ([], []) := fun n => by unfold zbV; rw [Int.toNat_natCast]
 have hl := th_loop H (worthV_len (a := a) (b := b) (c := c) (d := d) (e := e) (f := f)).2 W.k b.length 0 (by omega)
 rw [zq]
 simp only [RT.run]
 rw [if_pos hc, if_pos (zcK.2 ⟨by omega, by omega, by omega⟩), hra, List.length_replicate, za, Option.bind_some]
 have h0 : List.replicate c.length (rq 0) = (zeh b (zbv a b c d e f).2 c.length 0).map rq := by
  rw [show List.replicate c.length (rq 0) = (List.replicate c.length 0).map rq from by rw [List.map_replicate]]
  congr 1
  refine zeR (by rw [zdi, List.length_replicate]) fun j hj => ?_
  rw [List.length_replicate] at hj
  rw [zel hj]
  have := gI_rep (α := Rat) (n := c.length) (z := 0) (k := j) hj
  unfold zbV at this
  rw [Int.toNat_natCast] at this
  rw [this]; rfl
 rw [h0]
 rw [show ((0 : Nat) : Int) = 0 from rfl] at hl
 rw [hl]
 rfl
end
end Go.Proofs.Ytlfdidaeachpoaa
namespace Go.Proofs.Ytlfdidaeachpoaa
open Go Go.RowKit
set_option maxRecDepth 100000
noncomputable section
theorem okq_rQ {q : Rat} {n : Nat} (h : sm n q) (hn : n ≤ 1073741824) : okq (rQ q).1 (rQ q).2 = true := by
 rw [okq_iff]
 have a := zfu (b := B16) (by decide) h.1
 have b := zfu (b := B16) (by decide) h.2
 refine ⟨isM_digs (Nat.le_trans a hn), isM_digs (Nat.le_trans b hn), ?_⟩
 have := rQ_den (q := q)
 rw [show val B16 (rQ q).2 = q.den from this]
 exact q.den_nz
section
variable {a : List Bool} {b : List Tk} {c : List Th} {d : List Lk} {e : List Int} {f : Int}
theorem cast_nat {m : Int} (h : 0 ≤ m) : ((m.toNat : Nat) : Rat) = (m : Rat) := by
 obtain ⟨j, rfl⟩ := Int.eq_ofNat_of_zero_le h
 rw [Int.toNat_natCast, Rat.intCast_natCast]
theorem mem_tksOf {w x k : Int} : k ∈ tksOf b w x ↔ (0 ≤ k ∧ k < (b.length : Int)) ∧ isOf b w x k = true := by
 unfold tksOf
 rw [List.mem_filter]
 exact and_congr (zcz (n := b.length)) Iff.rfl
end
def toB (y : List Int × List Int) : List Int × List Int := (zbb B32 (val B16 y.1), zbb B32 (val B16 y.2))
theorem toB_rQ (q : Rat) : toB (rQ q) = rq q := by
 unfold toB rq
 rw [show val B16 (rQ q).1 = q.num.toNat from rQ_num, show val B16 (rQ q).2 = q.den from rQ_den]
end
end Go.Proofs.Ytlfdidaeachpoaa
namespace Go.Proofs.Ytlfdidaeachpoaa
open Go Go.RowKit
set_option maxRecDepth 100000
noncomputable section
theorem isM_rQ {q : Rat} {n : Nat} (h : sm n q) (hn : n ≤ 1073741824) : isM 38 (rQ q).1 = true ∧ isM 38 (rQ q).2 = true := by
 have := okq_rQ h hn
 rw [okq_iff] at this
 exact ⟨isM_up (by decide) this.1, isM_up (by decide) this.2.1⟩
theorem ap_small {α : Type} {k : Nat} {xs ys : List α} (hk : k ≤ 1000) (h : xs.length + ys.length ≤ 1000000) : apOK k xs ys = true := by
 rw [zds]
 refine ⟨?_, by rw [maxLen_eq]; omega⟩
 exact Nat.le_trans (Nat.mul_le_mul h hk) (by decide)
theorem thW_len {a : List Bool} {b : List Tk} {c : List Th} {d : List Lk} {e : List Int} {f : Int} : (thW a b c d e f).length = c.length := by simp [thW, zbF]
theorem thW_get {a : List Bool} {b : List Tk} {c : List Th} {d : List Lk} {e : List Int} {f : Int} {i : Int} (h : 0 ≤ i ∧ i < (c.length : Int)) : gI (thW a b c d e f) i = zct (zbv a b c d e f).2 (isOf b 2 i) (zbF b.length) := zel h
section
variable {a : List Bool} {b : List Tk} {c : List Th} {d : List Lk} {e : List Int} {f : Int}
end
end
end Go.Proofs.Ytlfdidaeachpoaa
namespace Go.Proofs.Ytlfdidaeachpoaa
open Go Go.RowKit
set_option maxRecDepth 100000
theorem zdj {α : Type} {l : List α} {g : α → Rat} (h : ∀ x ∈ l, g x = 0) : zbx (l.map g) = 0 := by
 induction l with
 | nil => rfl
 | cons x l ih => rw [List.map_cons, zbG, h x (List.mem_cons_self ..), ih fun y hy => h y (List.mem_cons_of_mem _ hy), Rat.zero_add]
theorem rsum_add {α : Type} (l : List α) (g h : α → Rat) : zbx (l.map fun x => g x + h x) = zbx (l.map g) + zbx (l.map h) := by
 induction l with
 | nil => exact (Rat.zero_add 0).symm
 | cons x l ih => rw [List.map_cons, List.map_cons, List.map_cons, zbG, zbG, zbG, ih]; grind
theorem rsum_mul {α : Type} (l : List α) (g : α → Rat) (q : Rat) : zbx (l.map fun x => g x * q) = zbx (l.map g) * q := by
 induction l with
 | nil => exact (Rat.zero_mul q).symm
 | cons x l ih => rw [List.map_cons, List.map_cons, zbG, zbG, ih, Rat.add_mul]
theorem rsum_comm {α β : Type} (l : List α) (m : List β) (g : α → β → Rat) : zbx (l.map fun x => zbx (m.map (g x))) = zbx (m.map fun y => zbx (l.map fun x => g x y)) := by
 induction l with
 | nil => exact (zdj (l := m) (g := fun _ => zbx []) fun _ _ => rfl).symm
 | cons x l ih =>
  rw [List.map_cons, zbG, ih, ← rsum_add]
  rfl
theorem rsum_flat {α β : Type} (l : List α) (f : α → List β) (g : β → Rat) : zbx ((l.flatMap f).map g) = zbx (l.map fun x => zbx ((f x).map g)) := by
 induction l with
 | nil => rfl
 | cons x l ih => rw [List.flatMap_cons, List.map_append, zhb, ih, List.map_cons, zbG]
theorem rsum_one {l : List Int} (hn : l.Nodup) {c : Int} (hc : c ∈ l) (v : Rat) : zbx (l.map fun x => if c = x then v else 0) = v := by
 induction l with
 | nil => cases hc
 | cons x l ih =>
  obtain ⟨h1, h2⟩ := List.nodup_cons.1 hn
  rw [List.map_cons, zbG]
  rcases List.mem_cons.1 hc with rfl | hc
  ·rw [if_pos rfl, zdj fun y hy => if_neg (fun h => h1 (by rw [h]; exact hy)), Rat.add_zero]
  ·rw [if_neg (fun h => h1 (by rw [← h]; exact hc)), ih h2 hc, Rat.zero_add]
theorem rsum_int (l : List Int) : ((l.sum : Int) : Rat) = zbx (l.map fun (x : Int) => (x : Rat)) := by
 induction l with
 | nil => rfl
 | cons x l ih => rw [List.sum_cons, Rat.intCast_add, ih, List.map_cons, zbG]
theorem zcm {α : Type} {l : List α} {g h : α → Rat} (e : ∀ x ∈ l, g x = h x) : zbx (l.map g) = zbx (l.map h) := by rw [List.map_congr_left e]
section
variable {a : List Bool} {b : List Tk} {c : List Th} {d : List Lk} {e : List Int} {f : Int}
theorem zbe.keep1 (H : zbe a b c d e f) {x : Int} (hx : usC a x = true) : zbx ((zbq b x).map (gI (zbv a b c d e f).2)) = gI (zbv a b c d e f).1 x := by
 have hin := zcN hx
 by_cases hz : gI (amV a b c d e f) x = 0
 ·-- asleep
  have h0 : ∀ k ∈ zbq b x, gI (zbv a b c d e f).2 k = 0 := fun k hk => by
   obtain ⟨k1, k2, k3⟩ := zbQ.1 hk
   rw [H.worth.2 k k1, if_neg]
   intro hc
   have := H.awake k1 hc
   rw [k3] at this
   omega
  rw [zdj h0]
  by_cases hx0 : x = 0
  ·rw [hx0, H.worth0, ← hx0, hz]; rfl
  ·rw [H.worthC hin hx0, zdj fun k hk => ?_]
   obtain ⟨k1, k2⟩ := mem_tksOf.1 hk
   unfold isOf at k2
   simp at k2
   rw [H.worth.2 k k1, if_neg]
   intro hc
   rw [H.cnt k1, if_pos k2.1] at hc
   unfold good at hc
   rw [k2.2.1, k2.2.2, hz] at hc
   simp at hc
 ·have hb := H.am_bound hin
  have hd : ((gI (amV a b c d e f) x : Int) : Rat) ≠ 0 := fun h => hz (by simpa using h)
  have h1 : ∀ k ∈ zbq b x, gI (zbv a b c d e f).2 k = ((zcE b (gI (zbP a b c d e f) k) k : Int) : Rat) * (((gI (amV a b c d e f) x : Int) : Rat)⁻¹ * gI (zbv a b c d e f).1 x) := fun k hk => by
   obtain ⟨k1, k2, k3⟩ := zbQ.1 hk
   rw [H.worth.2 k k1]
   unfold zcE
   by_cases hc : gI (zbP a b c d e f) k = true
   ·rw [if_pos hc, if_pos hc]
    unfold zcX
    rw [k3, Rat.mkRat_eq_div, cast_nat hb.1, Rat.div_def, Rat.mul_assoc]
   ·rw [if_neg hc, if_neg hc, show ((0 : Int) : Rat) = 0 from rfl, Rat.zero_mul]
  rw [zcm h1, rsum_mul, show ((zbq b x).map fun k => ((zcE b (gI (zbP a b c d e f) k) k : Int) : Rat)) = ((zbq b x).map fun k => zcE b (gI (zbP a b c d e f) k) k).map (fun (z : Int) => (z : Rat)) from by rw [List.map_map]; rfl,
   ← rsum_int, ← H.amt hin, ← Rat.mul_assoc, Rat.mul_inv_cancel _ hd, Rat.one_mul]
theorem zbe.perm_ord (H : zbe a b c d e f) : (zcd a b).Perm ((zbF b.length).filter fun k => (gI b k).1) := by
 refine (List.perm_ext_iff_of_nodup H.tkOrd_nodup ((zdA List.nodup_range).sublist List.filter_sublist)).2 fun k => ?_
 rw [H.tkOrd_mem, List.mem_filter]
 exact and_congr (zcz (n := b.length)).symm Iff.rfl
theorem zbe.keep (H : zbe a b c d e f) : zbx (thW a b c d e f) = ((gI (amV a b c d e f) 0 : Int) : Rat) := by
 have hz : ∀ k, 0 ≤ k ∧ k < (b.length : Int) → gI (zbP a b c d e f) k = false → gI (zbv a b c d e f).2 k = 0 := fun k hk h => by rw [H.worth.2 k hk, h]; exact if_neg (by decide)
 have hA : zbx ((zbs a b).map (gI (zbv a b c d e f).1)) = zbx ((zcd a b).map (gI (zbv a b c d e f).2)) := by
  unfold zcd
  rw [rsum_flat]
  exact zcm fun x hx => (H.keep1 (H.ord_mem.1 hx)).symm
 have hca := H.coins
 have h0 : (0 : Int) ∈ zbs a b := H.ord_mem.2 (by unfold usC; rw [hca.2.2, zbc.2 (by omega)]; rfl)
 have hB : zbx ((zbs a b).map (gI (zbv a b c d e f).1)) = ((gI (amV a b c d e f) 0 : Int) : Rat) + zbx ((zcd a b).map fun k => if (gI b k).2.2.2.1 = 2 then gI (zbv a b c d e f).2 k else 0) := by
  rw [zcm fun x hx => H.worth.1 x (zcN (H.ord_mem.1 hx)), rsum_add, rsum_comm]
  congr 1
  ·rw [zcm (h := fun x => if (0 : Int) = x then ((gI (amV a b c d e f) 0 : Int) : Rat) else 0) fun x _ => by
    by_cases h : x = 0
    ·rw [if_pos h, if_pos h.symm]
    ·rw [if_neg h, if_neg (fun h' => h h'.symm)]]
   exact rsum_one H.ord_nodup h0 _
  ·refine zcm fun k hk => ?_
   obtain ⟨k1, k2⟩ := H.tkOrd_mem.1 hk
   by_cases h2 : (gI b k).2.2.2.1 = 2
   ·rw [if_pos h2]
    by_cases hc : gI (zbP a b c d e f) k = true
    ·have ht : usC a (gI b k).2.2.2.2.1 = true := by
      rcases (H.tk k1 k2).to with h | h | h
      ·omega
      ·omega
      ·exact h.2.2
     rw [zcm (h := fun x => if (gI b k).2.2.2.2.1 = x then gI (zbv a b c d e f).2 k else 0) fun x _ => by
      unfold zdE
      by_cases h : (gI b k).2.2.2.2.1 = x
      ·rw [if_pos ⟨hc, h2, h⟩, if_pos h]
      ·rw [if_neg (fun h' => h h'.2.2), if_neg h]]
     exact rsum_one H.ord_nodup (H.ord_mem.2 ht) _
    ·rw [hz k k1 (Bool.eq_false_iff.2 hc)]
     refine zdj fun x _ => ?_
     unfold zdE
     rw [if_neg (fun h' => hc h'.1)]
   ·rw [if_neg h2]
    refine zdj fun x _ => ?_
    unfold zdE
    rw [if_neg (fun h' => h2 h'.2.1)]
 have hC : zbx ((zcd a b).map (gI (zbv a b c d e f).2)) = zbx ((zcd a b).map fun k => if (gI b k).2.2.2.1 = 2 then gI (zbv a b c d e f).2 k else 0) + zbx ((zcd a b).map fun k => if (gI b k).2.2.2.1 = 1 then gI (zbv a b c d e f).2 k else 0) := by
  rw [← rsum_add]
  refine zcm fun k hk => ?_
  obtain ⟨k1, k2⟩ := H.tkOrd_mem.1 hk
  by_cases h2 : (gI b k).2.2.2.1 = 2
  ·rw [if_pos h2, if_neg (by omega), Rat.add_zero]
  ·rw [if_neg h2, Rat.zero_add]
   by_cases h1 : (gI b k).2.2.2.1 = 1
   ·rw [if_pos h1]
   ·rw [if_neg h1]
    refine hz k k1 ?_
    rw [H.cnt k1, if_pos k2]
    unfold good
    have e1 : ((gI b k).2.2.2.1 == 1) = false := by simpa using h1
    have e2 : ((gI b k).2.2.2.1 == 2) = false := by simpa using h2
    rw [e1, e2]; simp
 have hD : zbx ((zcd a b).map fun k => if (gI b k).2.2.2.1 = 1 then gI (zbv a b c d e f).2 k else 0) = ((gI (amV a b c d e f) 0 : Int) : Rat) := by
  have := hA.symm.trans hB
  rw [hC] at this
  generalize zbx ((zcd a b).map fun k => if (gI b k).2.2.2.1 = 2 then gI (zbv a b c d e f).2 k else 0) = u at this
  generalize zbx ((zcd a b).map fun k => if (gI b k).2.2.2.1 = 1 then gI (zbv a b c d e f).2 k else 0) = v at this ⊢
  grind
 rw [← hD]
 unfold thW zct
 have hE : ∀ i : Int, zbx (((zbF b.length).filter (isOf b 2 i)).map (gI (zbv a b c d e f).2)) = zbx ((zcd a b).map fun k => if (gI b k).2.2.2.1 = 1 ∧ (gI b k).2.2.2.2.1 = i then gI (zbv a b c d e f).2 k else 0) := fun i => by
  rw [rsum_perm (H.perm_ord.map _)]
  have e1 : (zbF b.length).filter (isOf b 2 i) = ((zbF b.length).filter fun k => (gI b k).1).filter (fun k => (gI b k).2.2.2.1 == 1 && (gI b k).2.2.2.2.1 == i) := by
   rw [List.filter_filter]
   refine List.filter_congr fun k _ => ?_
   unfold isOf
   cases (gI b k).1 <;> simp
  rw [e1, ← zgR (l := (zbF b.length).filter fun k => (gI b k).1) (p := fun k => (gI b k).2.2.2.1 == 1 && (gI b k).2.2.2.2.1 == i) (g := fun k => if (gI b k).2.2.2.1 = 1 ∧ (gI b k).2.2.2.2.1 = i then gI (zbv a b c d e f).2 k else 0) (fun k _ h => by
   rw [if_neg]
   rintro ⟨h1, h2⟩
   rw [h1, h2] at h
   simp at h)]
  refine zcm fun k hk => ?_
  have := (List.mem_filter.1 hk).2
  simp at this
  rw [if_pos this]
 rw [show ((zbF c.length).map fun i => zbx (((zbF b.length).filter (isOf b 2 i)).map (gI (zbv a b c d e f).2))) = (zbF c.length).map fun i => zbx ((zcd a b).map fun k => if (gI b k).2.2.2.1 = 1 ∧ (gI b k).2.2.2.2.1 = i then gI (zbv a b c d e f).2 k else 0) from List.map_congr_left fun i _ => hE i, rsum_comm]
 refine zcm fun k hk => ?_
 obtain ⟨k1, k2⟩ := H.tkOrd_mem.1 hk
 by_cases h1 : (gI b k).2.2.2.1 = 1
 ·have ht : usT c (gI b k).2.2.2.2.1 = true := by
   rcases (H.tk k1 k2).to with h | h | h
   ·omega
   ·exact h.2
   ·omega
  rw [if_pos h1, zcm (h := fun x => if (gI b k).2.2.2.2.1 = x then gI (zbv a b c d e f).2 k else 0) fun x _ => by
   by_cases h : (gI b k).2.2.2.2.1 = x
   ·rw [if_pos ⟨h1, h⟩, if_pos h]
   ·rw [if_neg (fun h' => h h'.2), if_neg h]]
  exact rsum_one (zdA List.nodup_range) (zcz.2 (zcg ht)) _
 ·rw [if_neg h1]
  exact zdj fun x _ => if_neg (fun h => h1 h.1)
end
end Go.Proofs.Ytlfdidaeachpoaa
namespace Go.Proofs.Ytlfdidaeachpoaa
open Go Go.RowKit
set_option maxRecDepth 100000
noncomputable section
end
end Go.Proofs.Ytlfdidaeachpoaa
namespace Go.Proofs.Ytlfdidaeachpoaa
open Go Go.RowKit
set_option maxRecDepth 100000
def FRz (D : Nat) (q : Rat) : Prop := ∃ z : Nat, q * (D : Rat) = (z : Rat)
theorem frz_zero (D : Nat) : FRz D 0 := ⟨0, by rw [Rat.zero_mul]; rfl⟩
theorem frz_add {D : Nat} {p q : Rat} (hp : FRz D p) (hq : FRz D q) : FRz D (p + q) := by
 obtain ⟨z, hz⟩ := hp
 obtain ⟨w, hw⟩ := hq
 exact ⟨z + w, by rw [Rat.add_mul, hz, hw, Rat.natCast_add]⟩
theorem frz_sum {α : Type} {D : Nat} {l : List α} {g : α → Rat} (h : ∀ x ∈ l, FRz D (g x)) : FRz D (zbx (l.map g)) := by
 induction l with
 | nil => exact frz_zero D
 | cons x l ih =>
  rw [List.map_cons, zbG]
  exact frz_add (h x (List.mem_cons_self ..)) (ih fun y hy => h y (List.mem_cons_of_mem _ hy))
theorem frz_mul {D E : Nat} {q : Rat} (h : FRz D q) : FRz (D * E) q := by
 obtain ⟨z, hz⟩ := h
 exact ⟨z * E, by rw [Rat.natCast_mul, ← Rat.mul_assoc, hz, Rat.natCast_mul]⟩
theorem frz_int {D : Nat} {m : Int} (h : 0 ≤ m) : FRz D (m : Rat) := by
 obtain ⟨j, rfl⟩ := Int.eq_ofNat_of_zero_le h
 exact ⟨j * D, by rw [Rat.intCast_natCast, Rat.natCast_mul]⟩
theorem frz_share {D m : Nat} {n : Nat} (hm : m ≠ 0) {q : Rat} (h : FRz D q) : FRz (D * m) (mkRat (n : Int) m * q) := by
 obtain ⟨z, hz⟩ := h
 have hm' : (m : Rat) ≠ 0 := by
  intro h
  exact hm (by exact_mod_cast h)
 refine ⟨n * z, ?_⟩
 rw [Rat.mkRat_eq_div, Rat.intCast_natCast, Rat.natCast_mul, Rat.natCast_mul, ← hz, Rat.div_def]
 have := Rat.inv_mul_cancel _ hm'
 grind
theorem nat_le_rat {m n : Nat} (h : (m : Rat) ≤ (n : Rat)) : m ≤ n := by exact_mod_cast h
theorem frz_sm {D M k : Nat} (hD : D ≠ 0) {q : Rat} (h : FRz D q) (hq : q ≤ (M : Rat)) (h1 : M * D < 2 ^ k) (h2 : D < 2 ^ k) : sm k q := by
 obtain ⟨z, hz⟩ := h
 have hD' : (D : Rat) ≠ 0 := by
  intro h
  exact hD (by exact_mod_cast h)
 have h0 : (0 : Rat) ≤ (D : Rat) := by exact_mod_cast Nat.zero_le D
 have e : q = mkRat (z : Int) D := by
  rw [Rat.mkRat_eq_div, Rat.intCast_natCast, ← hz, Rat.div_def, Rat.mul_assoc, Rat.mul_inv_cancel _ hD', Rat.mul_one]
 have hle : z ≤ M * D := by
  apply nat_le_rat
  rw [← hz, Rat.natCast_mul]
  exact Rat.mul_le_mul_of_nonneg_right hq h0
 rw [e]
 exact sm_mkRat hD (by omega) h2
theorem rsum_filter_le {α : Type} {l : List α} {g : α → Rat} (h : ∀ x ∈ l, 0 ≤ g x) (p : α → Bool) : zbx ((l.filter p).map g) ≤ zbx (l.map g) := by
 induction l with
 | nil => exact Rat.le_refl
 | cons x l ih =>
  have h1 := h x (List.mem_cons_self ..)
  have h2 := ih fun y hy => h y (List.mem_cons_of_mem _ hy)
  rw [List.filter_cons]
  split
  ·rw [List.map_cons, List.map_cons, zbG, zbG]
   exact Rat.add_le_add_left.2 h2
  ·rw [List.map_cons, zbG]
   grind
theorem rsum_sub_le {l m : List Int} {g : Int → Rat} (h : ∀ x ∈ m, 0 ≤ g x) (hl : l.Nodup) (hm : m.Nodup) (hs : ∀ x ∈ l, x ∈ m) : zbx (l.map g) ≤ zbx (m.map g) := by
 have hp : l.Perm (m.filter fun x => l.contains x) := (List.perm_ext_iff_of_nodup hl (hm.sublist List.filter_sublist)).2 fun x => by
  rw [List.mem_filter, List.contains_iff_mem]
  exact ⟨fun hx => ⟨hs x hx, hx⟩, fun hx => hx.2⟩
 rw [rsum_perm (hp.map g)]
 exact rsum_filter_le h _
theorem rsum_le {α : Type} {l : List α} {g h : α → Rat} (e : ∀ x ∈ l, g x ≤ h x) : zbx (l.map g) ≤ zbx (l.map h) := by
 induction l with
 | nil => exact Rat.le_refl
 | cons x l ih =>
  have h1 := e x (List.mem_cons_self ..)
  have h2 := ih fun y hy => e y (List.mem_cons_of_mem _ hy)
  rw [List.map_cons, List.map_cons, zbG, zbG]
  grind
section
variable {a : List Bool} {b : List Tk} {c : List Th} {d : List Lk} {e : List Int} {f : Int}
def amF (am : List Int) (n : Nat) (c : Int) : Nat := n * max 1 (gI am c).toNat
def dpV (am : List Int) (l : List Int) : Nat := l.foldl (amF am) 1
theorem dpV_le {am : List Int} {k : Nat} : ∀ (l : List Int) (n : Nat), (∀ x ∈ l, (gI am x).toNat ≤ 2 ^ k) → 1 ≤ n → 1 ≤ l.foldl (amF am) n ∧ l.foldl (amF am) n ≤ n * 2 ^ (k * l.length)
 | [], n, _, hn => ⟨hn, by simp⟩
 | x :: l, n, h, hn => by
  have h1 := h x (List.mem_cons_self ..)
  have h2 : 1 ≤ 2 ^ k := Nat.one_le_two_pow
  have h3 : max 1 (gI am x).toNat ≤ 2 ^ k := by omega
  have h4 : 1 ≤ n * max 1 (gI am x).toNat := Nat.mul_pos hn (by omega)
  obtain ⟨i1, i2⟩ := dpV_le (am := am) (k := k) l (amF am n x) (fun y hy => h y (List.mem_cons_of_mem _ hy)) h4
  refine ⟨i1, Nat.le_trans i2 ?_⟩
  have h5 : amF am n x ≤ n * 2 ^ k := Nat.mul_le_mul_left n h3
  have h6 := Nat.mul_le_mul_right (2 ^ (k * l.length)) h5
  refine Nat.le_trans h6 (Nat.le_of_eq ?_)
  rw [List.length_cons, Nat.mul_add, Nat.mul_one, Nat.pow_add, Nat.mul_assoc, Nat.mul_comm (2 ^ k)]
theorem zbe.frz_ord (H : zbe a b c d e f) : ∀ n, (∀ x ∈ (zbs a b).take n, FRz (dpV (amV a b c d e f) ((zbs a b).take n)) (gI (zbv a b c d e f).1 x)) ∧
  (∀ k, 0 ≤ k ∧ k < (b.length : Int) → (gI b k).1 = true → (gI b k).2.1 ∈ (zbs a b).take n → FRz (dpV (amV a b c d e f) ((zbs a b).take n)) (gI (zbv a b c d e f).2 k))
 | 0 => ⟨fun x hx => by simp at hx, fun k _ _ hk => by simp at hk⟩
 | n + 1 => by
  obtain ⟨i1, i2⟩ := H.frz_ord n
  by_cases hn : n < (zbs a b).length
  ·have hd : dpV (amV a b c d e f) ((zbs a b).take (n + 1)) = dpV (amV a b c d e f) ((zbs a b).take n) * max 1 (gI (amV a b c d e f) (zbs a b)[n]).toNat := by
    unfold dpV
    rw [List.take_add_one, List.getElem?_eq_getElem hn, List.foldl_append]
    rfl
   have hus := H.ord_mem.1 (List.getElem_mem hn)
   have hin := zcN hus
   have ho : zbs a b = (zbs a b).take n ++ (zbs a b)[n] :: (zbs a b).drop (n + 1) := by
    conv => lhs; rw [← List.take_append_drop n (zbs a b)]
    rw [List.drop_eq_getElem_cons hn]
   have hx : FRz (dpV (amV a b c d e f) ((zbs a b).take n)) (gI (zbv a b c d e f).1 (zbs a b)[n]) := by
    by_cases h0 : (zbs a b)[n] = 0
    ·rw [h0, H.worth0]
     have hca := H.coins
     exact frz_int (H.am_bound (x := 0) (by omega)).1
    ·rw [H.worthC hin h0]
     refine frz_sum fun k hk => ?_
     obtain ⟨k1, k2⟩ := mem_tksOf.1 hk
     unfold isOf at k2
     simp at k2
     exact i2 k k1 k2.1 (H.ord_split ho k1 k2.1 k2.2.1 k2.2.2)
   have hsplit : ∀ x, x ∈ (zbs a b).take (n + 1) → x ∈ (zbs a b).take n ∨ x = (zbs a b)[n] := fun x hx => by
    rw [List.take_add_one, List.getElem?_eq_getElem hn, List.mem_append] at hx
    rcases hx with hx | hx
    ·exact .inl hx
    ·exact .inr (by simpa using hx)
   rw [hd]
   refine ⟨fun x hx' => ?_, fun k hk hu hc => ?_⟩
   ·rcases hsplit x hx' with h | rfl
    ·exact frz_mul (i1 x h)
    ·exact frz_mul hx
   ·rcases hsplit _ hc with h | h
    ·exact frz_mul (i2 k hk hu h)
    ·rw [H.worth.2 k hk]
     by_cases hcn : gI (zbP a b c d e f) k = true
     ·rw [if_pos hcn]
      unfold zcX
      have ha := H.awake hk hcn
      have hamt := (H.tk hk hu).amt
      rw [h] at ha ⊢
      obtain ⟨m, hm⟩ := Int.eq_ofNat_of_zero_le (show 0 ≤ (gI b k).2.2.1 by omega)
      rw [hm, show max 1 (gI (amV a b c d e f) (zbs a b)[n]).toNat = (gI (amV a b c d e f) (zbs a b)[n]).toNat by omega]
      exact frz_share (by omega) hx
     ·rw [if_neg hcn]
      exact frz_zero _
  ·rw [List.take_of_length_le (by omega)] at i1 i2 ⊢
   exact ⟨i1, i2⟩
def xD : Nat := 432
def xE : Nat := 500
def DV (a : List Bool) (b : List Tk) (c : List Th) (d : List Lk) (e : List Int) (f : Int) : Nat := dpV (amV a b c d e f) (zbs a b)
theorem zbe.DV_le (H : zbe a b c d e f) : 1 ≤ DV a b c d e f ∧ DV a b c d e f ≤ 2 ^ xD := by
 have hol : (zbs a b).length ≤ 16 := by
  have := kahn_len a.length (zbM b)
  have h3 : (zbs a b).length ≤ (zcj a.length (zbM b)).2.length := List.length_filter_le ..
  have := H.coins
  omega
 obtain ⟨h1, h2⟩ := dpV_le (am := amV a b c d e f) (k := 27) (zbs a b) 1 (fun x hx => by
  have := H.am_bound (zcN (H.ord_mem.1 hx))
  omega) (Nat.le_refl 1)
 refine ⟨h1, Nat.le_trans h2 ?_⟩
 rw [Nat.one_mul]
 exact Nat.pow_le_pow_right (by decide) (by unfold xD; omega)
theorem zbe.frz_tk (H : zbe a b c d e f) {k : Int} (hk : 0 ≤ k ∧ k < (b.length : Int)) : FRz (DV a b c d e f) (gI (zbv a b c d e f).2 k) := by
 by_cases hu : (gI b k).1 = true
 ·have := (H.frz_ord (zbs a b).length).2 k hk hu (by rw [List.take_length]; exact H.ord_mem.2 (H.tk hk hu).coin)
  rwa [List.take_length] at this
 ·rw [H.worth.2 k hk, if_neg (fun h => hu (H.cnt_used hk h))]
  exact frz_zero _
theorem zbe.frz_th (H : zbe a b c d e f) {i : Int} (hi : 0 ≤ i ∧ i < (c.length : Int)) : FRz (DV a b c d e f) (gI (thW a b c d e f) i) := by
 rw [thW_get hi]
 unfold zct
 exact frz_sum fun k hk => H.frz_tk (zcz.1 (List.mem_filter.1 hk).1)
theorem th_nonneg (H : zbe a b c d e f) {i : Int} (hi : 0 ≤ i ∧ i < (c.length : Int)) : 0 ≤ gI (thW a b c d e f) i := by
 rw [thW_get hi]
 unfold zct
 refine rsum_nonneg fun x hx => ?_
 obtain ⟨k, hk, rfl⟩ := List.mem_map.1 hx
 have h := H.frz_tk (zcz.1 (List.mem_filter.1 hk).1)
 obtain ⟨z, hz⟩ := h
 have hD := H.DV_le.1
 have hD' : (DV a b c d e f : Rat) ≠ 0 := by
  intro h
  have : DV a b c d e f = 0 := by exact_mod_cast h
  omega
 have e : gI (zbv a b c d e f).2 k = mkRat (z : Int) (DV a b c d e f) := by
  rw [Rat.mkRat_eq_div, Rat.intCast_natCast, ← hz, Rat.div_def, Rat.mul_assoc, Rat.mul_inv_cancel _ hD', Rat.mul_one]
 rw [e]
 exact zgG _ _
theorem zbe.sub_sm (H : zbe a b c d e f) {l : List Int} (hn : l.Nodup) (hl : ∀ i ∈ l, 0 ≤ i ∧ i < (c.length : Int)) : 0 ≤ zbx (l.map (gI (thW a b c d e f))) ∧ sm 500 (zbx (l.map (gI (thW a b c d e f)))) ∧ FRz (DV a b c d e f) (zbx (l.map (gI (thW a b c d e f)))) := by
 have hf : FRz (DV a b c d e f) (zbx (l.map (gI (thW a b c d e f)))) := frz_sum fun i hi => H.frz_th (hl i hi)
 refine ⟨rsum_nonneg fun x hx => ?_, ?_, hf⟩
 ·obtain ⟨i, hi, rfl⟩ := List.mem_map.1 hx
  exact th_nonneg H (hl i hi)
 ·have hca := H.coins
  have hab := H.am_bound (x := 0) (by omega)
  have hle : zbx (l.map (gI (thW a b c d e f))) ≤ ((gI (amV a b c d e f) 0).toNat : Rat) := by
   rw [cast_nat hab.1, ← H.keep]
   have e1 : thW a b c d e f = (zbF c.length).map (gI (thW a b c d e f)) := by
    refine zeR (by rw [thW_len, List.length_map, zcM]) fun i hi => ?_
    rw [thW_len] at hi
    rw [zdF (α := Int) _ (by rw [zcM]; exact hi)]
    congr 1
    obtain ⟨j, rfl⟩ := Int.eq_ofNat_of_zero_le hi.1
    have hj : j < c.length := by omega
    rw [zbD (by rw [zcM]; exact hj)]
    simp [zbF]
   conv => rhs; rw [e1]
   exact rsum_sub_le (fun i hi => th_nonneg H (zcz.1 hi)) hn (zdA List.nodup_range) fun i hi => zcz.2 (hl i hi)
  obtain ⟨d1, d2⟩ := H.DV_le
  refine frz_sm (k := xE) (by omega) hf hle ?_ (Nat.lt_of_le_of_lt d2 (Nat.pow_lt_pow_right (by decide) (by decide)))
  have h3 : (gI (amV a b c d e f) 0).toNat ≤ 2 ^ 27 := by omega
  have := Nat.mul_le_mul h3 d2
  rw [← Nat.pow_add] at this
  exact Nat.lt_of_le_of_lt this (Nat.pow_lt_pow_right (by decide) (by decide))
theorem arr_next {i y : Nat} (h : Arr c.length (zbI c d) i y) : i < c.length ∧ usT c (i : Int) = true ∧ nextR (zbI c d) (i : Int) = (y : Int) := by
 obtain ⟨x, hx, hok, e1, e2⟩ := h
 have hi : i < c.length := by
  simp only [zbK, Bool.and_eq_true, decide_eq_true_eq] at hok
  omega
 unfold zbI at hx
 obtain ⟨k, hk, hx⟩ := List.mem_flatMap.1 hx
 have hki : k = i ∧ (((gI c (i : Int)).1 = 4 ∧ (gI c (i : Int)).2.1 = (y : Int)) ∨ ((gI c (i : Int)).1 = 6 ∧ (gI d (gI c (i : Int)).2.1).2 = (y : Int))) := by
  unfold zdJ at hx
  rcases List.mem_append.1 hx with hx | hx
  ·split at hx
   ·rename_i h4
    rw [List.mem_singleton] at hx
    subst hx
    have : k = i := Int.ofNat_inj.1 (by simpa using e1)
    subst this
    rw [zed]
    exact ⟨rfl, .inl ⟨by simpa using h4, e2⟩⟩
   ·cases hx
  ·split at hx
   ·rename_i h6
    rw [List.mem_singleton] at hx
    subst hx
    have : k = i := Int.ofNat_inj.1 (by simpa using e1)
    subst this
    rw [zed]
    exact ⟨rfl, .inr ⟨by simpa using h6, e2⟩⟩
   ·cases hx
 refine ⟨hi, ?_, ?_⟩
 ·unfold usT
  rw [zbc.2 (by omega)]
  rcases hki.2 with h | h <;> rw [h.1] <;> rfl
 ·rw [nextR_at hi]
  rcases hki.2 with h | h
  ·rw [h.1, h.2]; rfl
  ·rw [h.1, h.2]; rfl
theorem zbe.way_next (H : zbe a b c d e f) {i : Int} (hu : usT c i = true) {x : Nat} : Way c.length (zbI c d) i.toNat x ↔ (usT c (zdb c d i) = true ∧ ((x : Int) = zdb c d i ∨ Way c.length (zbI c d) (zdb c d i).toNat x)) := by
 obtain ⟨hR, hN⟩ := H.next hu
 have hin := zcg hu
 have key : ∀ y, Arr c.length (zbI c d) i.toNat y → zdb c d i = (y : Int) ∧ usT c (zdb c d i) = true := fun y h => by
  have h1 := (arr_next h).2.2
  rw [Int.toNat_of_nonneg hin.1, hR] at h1
  refine ⟨h1, ?_⟩
  rcases hN with h2 | h2
  ·rw [h1] at h2; omega
  ·exact h2.1
 constructor
 ·intro hw
  cases hw with
  | one h =>
   obtain ⟨h1, h2⟩ := key _ h
   exact ⟨h2, .inl h1.symm⟩
  | more h h' =>
   obtain ⟨h1, h2⟩ := key _ h
   refine ⟨h2, .inr ?_⟩
   rw [h1]
   simpa using h'
 ·rintro ⟨h1, h2⟩
  rcases hN with h3 | ⟨_, h4⟩
  ·have := zcg h1
   omega
  ·rcases h2 with h2 | h2
   ·have : x = (zdb c d i).toNat := by omega
    rw [this]
    exact .one h4
   ·exact .more h4 h2
theorem zbe.tailF_way (H : zbe a b c d e f) : ∀ (n : Nat) (i : Int) (o : List Int), usT c i = true → zcP c d n i = some o → o.Nodup ∧ (∀ x ∈ o, usT c x = true) ∧ ∀ x : Int, 0 ≤ x → (x ∈ o ↔ x = i ∨ Way c.length (zbI c d) i.toNat x.toNat)
 | 0, i, o, hu, h => by
  have := zcg hu
  unfold zcP at h
  rw [if_neg (by omega)] at h
  cases h
 | n + 1, i, o, hu, h => by
  have hin := zcg hu
  unfold zcP at h
  rw [if_neg (by omega)] at h
  obtain ⟨o', h1, rfl⟩ := Option.map_eq_some_iff.1 h
  obtain ⟨hR, hN⟩ := H.next hu
  rcases hN with hN | ⟨hN, hA⟩
  ·rw [hN] at h1
   have h0 : o' = [] := by
    cases n <;> (unfold zcP at h1; rw [if_pos rfl] at h1; cases h1; rfl)
   subst h0
   refine ⟨by simp, fun x hx => by rw [List.mem_singleton.1 hx]; exact hu, fun x hx => ?_⟩
   rw [List.mem_singleton]
   refine ⟨.inl, fun h => ?_⟩
   rcases h with h | h
   ·exact h
   ·rw [H.way_next hu, hN] at h
    have := zcg h.1
    omega
  ·obtain ⟨i1, i2, i3⟩ := H.tailF_way n _ o' hN h1
   refine ⟨List.nodup_cons.2 ⟨fun hm => ?_, i1⟩, fun x hx => ?_, fun x hx => ?_⟩
   ·have := (i3 i hin.1).1 hm
    refine no_way H.noT i.toNat ((H.way_next hu).2 ⟨hN, ?_⟩)
    rw [Int.toNat_of_nonneg hin.1]
    exact this
   ·rcases List.mem_cons.1 hx with rfl | hx
    ·exact hu
    ·exact i2 x hx
   ·rw [List.mem_cons, i3 x hx, H.way_next hu]
    rw [Int.toNat_of_nonneg hx]
    constructor
    ·rintro (h | h)
     ·exact .inl h
     ·exact .inr ⟨hN, h⟩
    ·rintro (h | ⟨_, h⟩)
     ·exact .inl h
     ·exact .inr h
def onT (c : List Th) (d : List Lk) (i j : Int) : Bool := (zch c d j).contains i
theorem zbe.tail_facts (H : zbe a b c d e f) (j : Int) : (zch c d j).Nodup ∧ (∀ x ∈ zch c d j, usT c x = true) ∧ (usT c j = true → ∀ x : Int, 0 ≤ x → (x ∈ zch c d j ↔ x = j ∨ Way c.length (zbI c d) j.toNat x.toNat)) ∧ (usT c j = false → zch c d j = []) := by
 cases hu : usT c j with
 | false =>
  have : zch c d j = [] := by unfold zch; rw [zgH hu]; rfl
  rw [this]
  exact ⟨List.nodup_nil, fun x hx => (by cases hx), fun h => (by cases h), fun _ => rfl⟩
 | true =>
  obtain ⟨o, h1, _⟩ := H.tail0 hu
  have ht : zch c d j = o := by unfold zch; rw [zdn hu, h1]; rfl
  obtain ⟨i1, i2, i3⟩ := H.tailF_way _ j o hu h1
  rw [ht]
  exact ⟨i1, i2, fun _ => i3, fun h => (by cases h)⟩
end
end Go.Proofs.Ytlfdidaeachpoaa
namespace Go.Proofs.Ytlfdidaeachpoaa
open Go Go.RowKit
set_option maxRecDepth 100000
noncomputable section
def caV (a : List Bool) (b : List Tk) (c : List Th) (d : List Lk) (e : List Int) (f : Int) : List Rat := (zbF c.length).map fun i => zct (thW a b c d e f) (onT c d i) (zbF c.length)
def gPart (K : List Rat) (p : Int → Int → Bool) (n m : Nat) : List Rat := (zbF n).map fun i => zct K (p i) (zbF m)
theorem zdy {g : Int → Rat} {n : Nat} {i : Int} (h : 0 ≤ i ∧ i < (n : Int)) : gI ((zbF n).map g) i = g i := by
 rw [zdF (α := Int) _ (by rw [zcM]; exact h)]
 congr 1
 obtain ⟨j, rfl⟩ := Int.eq_ofNat_of_zero_le h.1
 have hj : j < n := by omega
 rw [zbD (by rw [zcM]; exact hj)]
 simp [zbF]
section
variable {a : List Bool} {b : List Tk} {c : List Th} {d : List Lk} {e : List Int} {f : Int}
theorem zeQ : (caV a b c d e f).length = c.length := by simp [caV, zbF]
theorem caV_get {i : Int} (h : 0 ≤ i ∧ i < (c.length : Int)) : gI (caV a b c d e f) i = zct (thW a b c d e f) (onT c d i) (zbF c.length) := zdy h
theorem ints_nodup {n : Nat} : (zbF n).Nodup := zdA List.nodup_range
theorem zbe.part_sm (H : zbe a b c d e f) (p : Int → Bool) {m : Nat} (hm : m ≤ c.length) : 0 ≤ zct (thW a b c d e f) p (zbF m) ∧ sm 500 (zct (thW a b c d e f) p (zbF m)) ∧ FRz (DV a b c d e f) (zct (thW a b c d e f) p (zbF m)) :=
 H.sub_sm (l := (zbF m).filter p) (ints_nodup.sublist List.filter_sublist) fun i hi => by
  have := zcz.1 (List.mem_filter.1 hi).1
  omega
theorem zbe.th_sm (H : zbe a b c d e f) {i : Int} (h : 0 ≤ i ∧ i < (c.length : Int)) : 0 ≤ gI (thW a b c d e f) i ∧ sm 500 (gI (thW a b c d e f) i) := by
 obtain ⟨h1, h2, _⟩ := H.sub_sm (l := [i]) (by simp) (fun j hj => by rw [List.mem_singleton.1 hj]; exact h)
 have e1 : zbx ([i].map (gI (thW a b c d e f))) = gI (thW a b c d e f) i := Rat.add_zero _
 rw [e1] at h1 h2
 exact ⟨h1, h2⟩
theorem zbe.ca_sm (H : zbe a b c d e f) {i : Int} (h : 0 ≤ i ∧ i < (c.length : Int)) : 0 ≤ gI (caV a b c d e f) i ∧ sm 500 (gI (caV a b c d e f) i) ∧ FRz (DV a b c d e f) (gI (caV a b c d e f) i) := by
 rw [caV_get h]
 exact H.part_sm _ (Nat.le_refl _)
theorem zbe.th_zero (H : zbe a b c d e f) {i : Int} (h : 0 ≤ i ∧ i < (c.length : Int)) (hu : usT c i = false) : gI (thW a b c d e f) i = 0 := by
 rw [thW_get h]
 unfold zct
 refine zdj fun k hk => ?_
 obtain ⟨h1, h2⟩ := List.mem_filter.1 hk
 have h1 := zcz.1 h1
 unfold isOf at h2
 simp at h2
 exfalso
 rcases (H.tk h1 h2.1).to with h | h | h
 ·omega
 ·rw [← h2.2.2, h.2] at hu; cases hu
 ·omega
theorem zbe.ca_zero (H : zbe a b c d e f) {i : Int} (h : 0 ≤ i ∧ i < (c.length : Int)) (hu : usT c i = false) : gI (caV a b c d e f) i = 0 := by
 rw [caV_get h]
 unfold zct
 refine zdj fun k hk => ?_
 obtain ⟨_, h2⟩ := List.mem_filter.1 hk
 unfold onT at h2
 rw [List.contains_iff_mem] at h2
 rw [(H.tail_facts k).2.1 i h2] at hu
 cases hu
end
def zu_b122 : Int → (Int × (List ((List Int) × List Int))) → RT (Int × (List ((List Int) × List Int))) (List ((List Int) × List Int))
| x15, (x16, r4) =>
 .rq 1 (.ite (decide (x16 < x15))
 (.rq 5 (.req (inB r4 x16) (.rq 3 (.again (w64 (x16 + 1), sI r4 x16 ([], zbb B32 1))))))
 (.done r4))
def zu_p122 : zaV := ⟨122, true, [tI, .sl tB, .sl yK, .sl yH, .sl yL, .sl tI, tI, .sl (.pair (.sl tV) (.sl tV))], [tI, .sl (.pair (.sl tV) (.sl tV))], ⟨[.keep [1, 3, 4, 15, 16], .gc, .nilRow 3 800003 43 (.pair (.sl tV) (.sl tV)), .nilRow 4 800004 43 (.pair (.sl tV) (.sl tV)), .ren 3 700003, .ren 4 700004, .ren 3 900003, .ren 4 900004, .gc], [1, 3, 4, 15, 16], [.lf (qp 16), .lf (qr 900003), .lf (qr 900004), .lf (qi 0), .lf (qm 0)], [(16, true, .cells [qi 1, qi 2, qi 3, qi 4, qi 5, qi 6]), (900003, true, .arr 43 (qi 7)), (900004, true, .arr 43 (qm 1))]⟩, [⟨2, ⟨[.keep [1, 3, 4], .gc, .nilRow 3 800003 43 (.pair (.sl tV) (.sl tV)), .nilRow 4 800004 43 (.pair (.sl tV) (.sl tV)), .ren 3 700003, .ren 4 700004, .ren 3 900003, .ren 4 900004, .gc], [1, 3, 4], [.lf (qp 16), .lf (qr 900003), .lf (qr 900004)], [(16, true, .cells [qi 1, qi 2, qi 3, qi 4, qi 5, qi 6]), (900003, true, .arr 43 (qi 7)), (900004, true, .arr 43 (qm 0))]⟩, [.sl (.pair (.sl tV) (.sl tV))]⟩], (fun i => zu_b122 i.1)⟩
def zgf : (Int × Int × (List ((List Int) × List Int)) × (List Int)) → (Int × (List ((List Int) × List Int))) → RT (Int × (List ((List Int) × List Int))) (List ((List Int) × List Int))
| (i, x32, r3, r31), (x33, r4) =>
 .rq 1 (.ite (decide (x33 < x32))
 (.req (inB r31 x33) (.rq 6 (let t0 := inB r4 (gI r31 x33);
 .req t0 (.rq 3 (.req (inB r3 i) (.rq 2 (let t1 := gI r4 (gI r31 x33);
 let t2 := [(t1.1, t1.2), ((gI r3 i).1, (gI r3 i).2)];
 .req (okS t2) (.req t0 (.rq 3 (let t3 := rq (sumQ t2);
 .again (w64 (x33 + 1), sI r4 (gI r31 x33) (t3.1, t3.2))))))))))))
 (.done r4))
def zu_p64102 : zaV := ⟨64102, true, [tI, tI, tI, tI, .sl tB, .sl yK, .sl yH, .sl yL, .sl tI, tI, .sl (.pair (.sl tV) (.sl tV)), .sl tI], [tI, .sl (.pair (.sl tV) (.sl tV))], ⟨[.keep [1, 3, 4, 6, 25, 26, 31, 32, 33], .gc, .nilRow 3 800003 43 (.pair (.sl tV) (.sl tV)), .nilRow 4 800004 43 (.pair (.sl tV) (.sl tV)), .nilRow 31 800031 3 tI, .ren 3 700003, .ren 4 700004, .ren 31 700031, .ren 3 900003, .ren 4 900004, .ren 31 900031, .gc], [1, 3, 4, 6, 25, 26, 31, 32, 33], [.lf (qp 16), .lf (qr 900003), .lf (qr 900004), .lf (qi 0), .lf (qi 1), .lf (qi 2), .lf (qr 900031), .lf (qi 3), .lf (qm 0)], [(16, true, .cells [qi 4, qi 5, qi 6, qi 7, qi 8, qi 9]), (900003, true, .arr 43 (qi 10)), (900004, true, .arr 43 (qm 1)), (900031, true, .arr 3 (qi 11))]⟩, [⟨6, ⟨[.keep [1, 3, 4, 25, 26], .gc, .nilRow 3 800003 43 (.pair (.sl tV) (.sl tV)), .nilRow 4 800004 43 (.pair (.sl tV) (.sl tV)), .ren 3 700003, .ren 4 700004, .ren 3 900003, .ren 4 900004, .gc], [1, 3, 4, 25, 26], [.lf (qp 16), .lf (qr 900003), .lf (qr 900004), .lf (qi 1), .lf (qi 2)], [(16, true, .cells [qi 4, qi 5, qi 6, qi 7, qi 8, qi 9]), (900003, true, .arr 43 (qi 10)), (900004, true, .arr 43 (qm 0))]⟩, [.sl (.pair (.sl tV) (.sl tV))]⟩], (fun i => zgf (i.1, i.2.2.2.1, i.2.2.2.2.2.2.2.2.2.2.1, i.2.2.2.2.2.2.2.2.2.2.2))⟩
def zu_b250 : (Int × (List Bool) × (List Tk) × (List Th) × (List Lk) × (List Int) × Int × (List ((List Int) × List Int))) → (Int × (List ((List Int) × List Int))) → RT (Int × (List ((List Int) × List Int))) (List ((List Int) × List Int))
| (x25, s_0, s_1, s_2, s_3, s_4, s_5, r3), (x26, r4) =>
 .rq 1 (.ite (decide (x26 < x25))
 (.rq 4 (.req ((decide (s_2.length ≤ 1000000) && tailOK s_2 s_3 x26)) (.rq 2 (let t0 := (zch s_2 s_3 x26);
 .call (lo zgf (x26, (t0.length : Int), r3, t0) (0, r4)) default fun v1 =>
 .rq 2 (.again (w64 (x26 + 1), v1))))))
 (.done r4))
def zu_p250 : zaV := ⟨250, true, [tI, .sl tB, .sl yK, .sl yH, .sl yL, .sl tI, tI, .sl (.pair (.sl tV) (.sl tV))], [tI, .sl (.pair (.sl tV) (.sl tV))], ⟨[.keep [1, 3, 4, 25, 26], .gc, .nilRow 3 800003 43 (.pair (.sl tV) (.sl tV)), .nilRow 4 800004 43 (.pair (.sl tV) (.sl tV)), .ren 3 700003, .ren 4 700004, .ren 3 900003, .ren 4 900004, .gc], [1, 3, 4, 25, 26], [.lf (qp 16), .lf (qr 900003), .lf (qr 900004), .lf (qi 0), .lf (qm 0)], [(16, true, .cells [qi 1, qi 2, qi 3, qi 4, qi 5, qi 6]), (900003, true, .arr 43 (qi 7)), (900004, true, .arr 43 (qm 1))]⟩, [⟨4, ⟨[.keep [4], .gc, .nilRow 4 800004 43 (.pair (.sl tV) (.sl tV)), .ren 4 700004, .ren 4 900004, .gc], [4], [.lf (qr 900004)], [(900004, true, .arr 43 (qm 0))]⟩, [.sl (.pair (.sl tV) (.sl tV))]⟩], zu_b250⟩
def zu : ((List Bool) × (List Tk) × (List Th) × (List Lk) × (List Int) × Int) → RT Unit (List ((List Int) × List Int))
| (s_0, s_1, s_2, s_3, s_4, s_5) =>
 .rq 3 (.req ((wOK s_0 s_1 s_2 s_3 s_4 s_5)) (.rq 3 (let t0 := ((thW s_0 s_1 s_2 s_3 s_4 s_5).map rq);
 let t1 := (t0.length : Int);
 .req (mkOK 48 t1) (.rq 4 (let t2 := zbV t1 ([], []);
 .call (lo zu_b122 (t2.length : Int) (0, t2)) default fun v0 =>
 .rq 3 (.call (lo zu_b250 (t1, s_0, s_1, s_2, s_3, s_4, s_5, t0) (0, v0)) default fun v2 =>
 .rq 2 (.done v2)))))))
def F_zu (x : (List Bool) × (List Tk) × (List Th) × (List Lk) × (List Int) × Int) : Option (List ((List Int) × List Int)) := (zu x).run fun _ => none
def io_zu : Io := ⟨n_zu, [.sl tB, .sl yK, .sl yH, .sl yL, .sl tI, tI], [.agg [qm 0, qm 1, qm 2, qm 3, qm 4, qm 5]], [], [[.sl tB, .sl yK, .sl yH, .sl yL, .sl tI, tI]], [.sl (.pair (.sl tV) (.sl tV))], .lf (qr 0), [], [(true, .arr 43 (qm 0))], true⟩
def zu_P : List zaV := [zu_p122, zu_p64102, zu_p250]
def zu_T : zbf := tab [e_zq, e_zQ, e_zP, e_zY]
theorem zu_To : zbd pg zu_T := zaX ⟨e_zq_ok, e_zQ_ok, e_zP_ok, e_zY_ok, trivial⟩
theorem zu_k122 : (zu_p122).OK pg (zu_T) (zbu 53 (zu_P)) (zbh f_zu) 53 := ⟨by kernel_rfl, fun i x => by kernel_rfl⟩
theorem zu_k64102 : (zu_p64102).OK pg (zu_T) (zbu 53 (zu_P)) (zbh f_zu) 53 := ⟨by kernel_rfl, fun i x => by kernel_rfl⟩
theorem zu_k250 : (zu_p250).OK pg (zu_T) (zbu 53 (zu_P)) (zbh f_zu) 53 := ⟨by kernel_rfl, fun i x => by kernel_rfl⟩
theorem zu_go : zbt pg (zu_T) io_zu f_zu (zu_P) [.nilRow 2 800002 43 (.pair (.sl tV) (.sl tV)), .ren 2 700002, .ren 2 900002] (zu) := ⟨by kernel_rfl, by kernel_rfl, fun x => by kernel_rfl⟩
theorem ok_zu : io_zu.Okay pg (F_zu) := zbl zaZ (zu_To) (zu_go) ⟨zu_k122, zu_k64102, zu_k250, trivial⟩
theorem zero_c (m : Nat) (hm : m ≤ 1000000) : ∀ (n i : Nat), i + n = m → lo zu_b122 (m : Int) ((i : Int), List.replicate i (rq 0) ++ List.replicate n ([], [])) = some (List.replicate m (rq 0))
 | 0, i, h => by
  rw [zbi, zu_b122]
  simp only [RT.run]
  rw [if_neg (by simp; omega), show i = m by omega]
  simp
 | n + 1, i, h => by
  rw [zbi, zu_b122]
  simp only [RT.run]
  rw [if_pos (by simp; omega), if_pos (zbc.2 ⟨by omega, by simp; omega⟩), zbg (by omega), show (i : Int) + 1 = ((i + 1 : Nat) : Int) by omega, ← rq_zero, sI, Int.toNat_natCast, rep_set, zero_c m hm n (i + 1) (by omega)]
theorem ca_inner (K X : List Rat) (j : Int) (l : List Int) (n : Nat) (hX : X.length = n) (hj : 0 ≤ j ∧ j < (K.length : Int)) (hl : l.Nodup) (hr : ∀ x ∈ l, 0 ≤ x ∧ x < (n : Int)) (hll : l.length ≤ 1000) (hK : 0 ≤ gI K j ∧ sm 500 (gI K j)) (hs : ∀ x ∈ l, 0 ≤ gI X x ∧ sm 500 (gI X x)) : ∀ (m t : Nat), t + m = l.length →
  lo zgf (j, (l.length : Int), K.map rq, l) ((t : Int), ((zbF n).map fun i => gI X i + (if (l.take t).contains i = true then gI K j else 0)).map rq) = some (((zbF n).map fun i => gI X i + (if l.contains i = true then gI K j else 0)).map rq)
 | 0, t, h => by
  rw [zbi, zgf]
  simp only [RT.run]
  rw [if_neg (by simp; omega), List.take_of_length_le (by omega)]
 | m + 1, t, h => by
  have ht : t < l.length := by omega
  have hk := hr _ (List.getElem_mem ht)
  obtain ⟨s1, s2⟩ := hs _ (List.getElem_mem ht)
  have hno : (l.take t).contains l[t] = false := by
   rw [← Bool.not_eq_true, List.contains_iff_mem]
   intro hm
   obtain ⟨i, hi, he⟩ := List.mem_iff_getElem.1 hm
   rw [List.getElem_take] at he
   have := (List.nodup_iff_pairwise_ne.1 hl)
   have := (List.pairwise_iff_getElem.1 this) i t (by simp at hi; omega) ht (by simp at hi; omega)
   exact this he
  generalize hY : ((zbF n).map fun i => gI X i + (if (l.take t).contains i = true then gI K j else 0)) = Y
  have hYl : Y.length = n := by rw [← hY, List.length_map, zcM]
  have hYk : gI Y l[t] = gI X l[t] := by rw [← hY, zdy hk, hno, if_neg (by decide), Rat.add_zero]
  have in1 : inB (Y.map rq) l[t] = true := zbc.2 (by rw [List.length_map, hYl]; exact hk)
  have e1 : gI (Y.map rq) l[t] = rq (gI X l[t]) := by rw [zdF rq (by rw [hYl]; exact hk), hYk]
  have e2 : gI (K.map rq) j = rq (gI K j) := zdF rq hj
  rw [zbi, zgf]
  simp only [RT.run, zbD ht, e1, e2, pe]
  rw [if_pos (by simp; omega), if_pos (zbc.2 ⟨by omega, by omega⟩), if_pos in1, if_pos (zbc.2 (by rw [List.length_map]; exact hj)), okS2 s2 hK.2 (by decide) (by decide), sumQ2 s1 hK.1, if_pos rfl, if_pos in1, sI_map, zbg (by omega), show (t : Int) + 1 = ((t + 1 : Nat) : Int) by omega]
  have : sI Y l[t] (gI X l[t] + gI K j) = (zbF n).map fun i => gI X i + (if (l.take (t + 1)).contains i = true then gI K j else 0) := by
   refine zeR (by rw [sI_len, hYl, List.length_map, zcM]) fun i hi => ?_
   rw [sI_len, hYl] at hi
   rw [gI_set (by rw [hYl]; exact hk) hi.1, zdy hi]
   by_cases hi' : l[t] = i
   ·rw [if_pos hi', if_pos (show (l.take (t + 1)).contains i = true by rw [List.contains_iff_mem, List.take_add_one, List.getElem?_eq_getElem ht]; simp [hi']), hi']
   ·have e3 : (l.take (t + 1)).contains i = (l.take t).contains i := by
     rw [List.take_add_one, List.getElem?_eq_getElem ht, Bool.eq_iff_iff, List.contains_iff_mem, List.contains_iff_mem, List.mem_append]
     simp [show ¬ i = l[t] from fun h => hi' h.symm]
    rw [if_neg hi', ← hY, zdy hi, e3]
  rw [this]
  exact ca_inner K X j l n hX hj hl hr hll hK hs m (t + 1) (by omega)
theorem ca_outer {a : List Bool} {b : List Tk} {c : List Th} {d : List Lk} {e : List Int} {f : Int} (H : zbe a b c d e f) : ∀ (m j : Nat), j + m = c.length →
  lo zu_b250 ((c.length : Int), a, b, c, d, e, f, (thW a b c d e f).map rq) ((j : Int), (gPart (thW a b c d e f) (onT c d) c.length j).map rq) = some ((caV a b c d e f).map rq)
 | 0, j, h => by
  rw [zbi, zu_b250]
  simp only [RT.run]
  rw [if_neg (by simp; omega), show j = c.length by omega]
  rfl
 | m + 1, j, h => by
  have hlc := H.lenC
  have hj : 0 ≤ (j : Int) ∧ (j : Int) < (c.length : Int) := by omega
  obtain ⟨t1, t2, _, _⟩ := H.tail_facts (j : Int)
  have htl := tailV_len c d (j : Int)
  have hr : ∀ x ∈ zch c d (j : Int), 0 ≤ x ∧ x < (c.length : Int) := fun x hx => zcg (t2 x hx)
  have hin := ca_inner (thW a b c d e f) (gPart (thW a b c d e f) (onT c d) c.length j) (j : Int) (zch c d (j : Int)) c.length (by simp [gPart, zbF]) (by rw [thW_len]; exact hj) t1 hr (by omega) (H.th_sm hj) (fun x hx => by
   unfold gPart
   rw [zdy (hr x hx)]
   obtain ⟨h1, h2, _⟩ := H.part_sm (onT c d x) (m := j) (by omega)
   exact ⟨h1, h2⟩) (zch c d (j : Int)).length 0 (by omega)
  have h0 : (zbF c.length).map (fun i => gI (gPart (thW a b c d e f) (onT c d) c.length j) i + (if ((zch c d (j : Int)).take 0).contains i = true then gI (thW a b c d e f) (j : Int) else 0)) = gPart (thW a b c d e f) (onT c d) c.length j := by
   refine zeR (by simp [gPart]) fun i hi => ?_
   rw [List.length_map, zcM] at hi
   rw [zdy hi, List.take_zero, if_neg (by simp), Rat.add_zero]
  have h1 : (zbF c.length).map (fun i => gI (gPart (thW a b c d e f) (onT c d) c.length j) i + (if (zch c d (j : Int)).contains i = true then gI (thW a b c d e f) (j : Int) else 0)) = gPart (thW a b c d e f) (onT c d) c.length (j + 1) := by
   refine zeR (by simp [gPart]) fun i hi => ?_
   rw [List.length_map, zcM] at hi
   rw [zdy hi]
   unfold gPart
   rw [zdy hi, zdy hi, sumOf_succ]
   rfl
  rw [h0, h1, show ((0 : Nat) : Int) = 0 from rfl] at hin
  rw [zbi, zu_b250]
  simp only [RT.run]
  rw [if_pos (by simp; omega), if_pos (by rw [H.tailOK, decide_eq_true (by omega)]; rfl), hin, Option.bind_some, zbg (by omega), show (j : Int) + 1 = ((j + 1 : Nat) : Int) by omega, ca_outer H m (j + 1) (by omega)]
def e_zu : zbj := io_zu.sp (fun (a, b, c, d, e, f) => (wOK a b c d e f)) (fun (a, b, c, d, e, f) => ((caV a b c d e f).map rq))
theorem sp_zu (h : ∀ (a : List Bool) (b : List Tk) (c : List Th) (d : List Lk) (e : List Int) (f : Int), WfT [.sl tB, .sl yK, .sl yH, .sl yL, .sl tI, tI] (a, b, c, d, e, f) → ((wOK a b c d e f)) = true → (zu (a, b, c, d, e, f)).run (fun _ => none) = some ((caV a b c d e f).map rq)) : e_zu.ok pg := zbo ok_zu fun (a, b, c, d, e, f) hw hc => h a b c d e f hw hc
theorem e_zu_ok : e_zu.ok pg := sp_zu fun a b c d e f _ hc => by
 obtain ⟨H, h8⟩ := zfW hc
 have hlc := H.lenC
 have za := zero_c c.length (by omega) c.length 0 (by omega)
 rw [List.replicate_zero, List.nil_append, show ((0 : Nat) : Int) = 0 from rfl] at za
 have hra : ∀ n : Nat, (zbV (n : Int) (([] : List Int), ([] : List Int))) = List.replicate n ([], []) := fun n => by unfold zbV; rw [Int.toNat_natCast]
 have hl := ca_outer H c.length 0 (by omega)
 rw [show ((0 : Nat) : Int) = 0 from rfl] at hl
 rw [zu]
 simp only [RT.run]
 rw [if_pos hc, List.length_map, thW_len, if_pos (zcK.2 ⟨by omega, by omega, by omega⟩), hra, List.length_replicate, za, Option.bind_some]
 have h0 : List.replicate c.length (rq 0) = (gPart (thW a b c d e f) (onT c d) c.length 0).map rq := by
  rw [show List.replicate c.length (rq 0) = (List.replicate c.length 0).map rq from by rw [List.map_replicate]]
  congr 1
  refine zeR (by simp [gPart, zbF]) fun j hj => ?_
  rw [List.length_replicate] at hj
  unfold gPart
  rw [zdy hj]
  have := gI_rep (α := Rat) (n := c.length) (z := 0) (k := j) hj
  unfold zbV at this
  rw [Int.toNat_natCast] at this
  rw [this]; rfl
 rw [h0, hl]
 rfl
def zaL : ((List Bool) × (List Tk) × (List Th) × (List Lk) × (List Int) × Int × Int) → RT Unit ((List Int) × (List Int))
| (s_0, s_1, s_2, s_3, s_4, s_5, i) =>
 .rq 13 (.ite (!((zbz s_2 i)).2.2.2.2.2)
 (.rq 2 (.done ([], zbb B32 1)))
 (.rq 1 (.req ((wOK s_0 s_1 s_2 s_3 s_4 s_5)) (.rq 1 (let t0 := ((caV s_0 s_1 s_2 s_3 s_4 s_5).map rq);
 .req (inB t0 i) (.rq 2 (let t1 := gI t0 i;
 .done (t1.1, t1.2))))))))
def F_zaL (x : (List Bool) × (List Tk) × (List Th) × (List Lk) × (List Int) × Int × Int) : Option ((List Int) × (List Int)) := (zaL x).run fun _ => none
def io_zaL : Io := ⟨n_zaL, [.sl tB, .sl yK, .sl yH, .sl yL, .sl tI, tI, tI], [.agg [qm 0, qm 1, qm 2, qm 3, qm 4, qm 5], .lf (qm 6)], [], [[.sl tB, .sl yK, .sl yH, .sl yL, .sl tI, tI], [tI]], [.sl tV, .sl tV], .agg [qm 0, qm 1], [], [], true⟩
def zaL_P : List zaV := []
def zaL_T : zbf := tab [e_zu, e_zS, e_zY]
theorem zaL_To : zbd pg zaL_T := zaX ⟨e_zu_ok, e_zS_ok, e_zY_ok, trivial⟩
theorem zaL_go : zbt pg (zaL_T) io_zaL f_zaL (zaL_P) [.cellDat 64, .cellDen 64 [.sl tV, .sl tV]] (zaL) := ⟨by kernel_rfl, by kernel_rfl, fun x => by kernel_rfl⟩
theorem ok_zaL : io_zaL.Okay pg (F_zaL) := zbl zaZ (zaL_To) (zaL_go) trivial
def caAt (a : List Bool) (b : List Tk) (c : List Th) (d : List Lk) (e : List Int) (f : Int) (i : Int) : Rat := if inB c i = true then gI (caV a b c d e f) i else 0
def e_zaL : zbj := io_zaL.sp (fun (a, b, c, d, e, f, i) => (wOK a b c d e f)) (fun (a, b, c, d, e, f, i) => (rq (caAt a b c d e f i)))
theorem sp_zaL (h : ∀ (a : List Bool) (b : List Tk) (c : List Th) (d : List Lk) (e : List Int) (f : Int) (i : Int), WfT [.sl tB, .sl yK, .sl yH, .sl yL, .sl tI, tI, tI] (a, b, c, d, e, f, i) → ((wOK a b c d e f)) = true → (zaL (a, b, c, d, e, f, i)).run (fun _ => none) = some (rq (caAt a b c d e f i))) : e_zaL.ok pg := zbo ok_zaL fun (a, b, c, d, e, f, i) hw hc => h a b c d e f i hw hc
theorem e_zaL_ok : e_zaL.ok pg := sp_zaL fun a b c d e f i _ hc => by
 obtain ⟨H, h8⟩ := zfW hc
 rw [zaL]
 simp only [RT.run]
 unfold caAt
 cases hu : usT c i with
 | false =>
  rw [zgH hu, if_pos (by decide)]
  cases hin : inB c i with
  | false => rfl
  | true =>
   rw [if_pos rfl, H.ca_zero (zbc.1 hin) hu]
   rfl
 | true =>
  have hin := zcg hu
  rw [zdn hu, if_neg (by simp), if_pos hc, if_pos (zbc.2 (by rw [List.length_map, zeQ]; exact hin)), if_pos (zbc.2 hin), zdF rq (by rw [zeQ]; exact hin)]
def zT_b26 : ((List Th) × Int) → (Int × (List Int)) → RT (Int × (List Int)) (List Int)
| (x6, x7), (x8, r2) =>
 .rq 1 (.ite (decide (x8 < x7))
 (.rq 1 (.req (inB x6 x8) (.rq 12 (let t0 := w64 (x8 + 1);
 .ite (((gI x6 x8).1 == 2) || ((gI x6 x8).1 == 3))
 (.rq 3 (.req (apOK 8 r2 [x8]) (.rq 3 (.again (t0, r2 ++ [x8])))))
 (.rq 2 (.again (t0, r2)))))))
 (.done r2))
def zT_p26 : zaV := ⟨26, true, [.sl yH, tI], [tI, .sl tI], ⟨[.keep [2, 6, 7, 8], .gc, .nilRow 2 800002 3 tI, .ren 2 700002, .ren 2 900002, .gc], [2, 6, 7, 8], [.lf (qr 900002), .lf (qi 0), .lf (qi 1), .lf (qm 0)], [(900002, true, .arr 3 (qm 1))]⟩, [⟨2, ⟨[.keep [2], .gc, .nilRow 2 800002 3 tI, .ren 2 700002, .ren 2 900002, .gc], [2], [.lf (qr 900002)], [(900002, true, .arr 3 (qm 0))]⟩, [.sl tI]⟩], zT_b26⟩
def zT : ((List Bool) × (List Tk) × (List Th) × (List Lk) × (List Int) × Int) → RT Unit (List Int)
| (s_0, s_1, s_2, s_3, s_4, s_5) =>
 .rq 6 (.call (lo zT_b26 (s_2, (s_2.length : Int)) (0, [])) default fun v0 =>
 .rq 2 (.done v0))
def F_zT (x : (List Bool) × (List Tk) × (List Th) × (List Lk) × (List Int) × Int) : Option (List Int) := (zT x).run fun _ => none
def io_zT : Io := ⟨n_zT, [.sl tB, .sl yK, .sl yH, .sl yL, .sl tI, tI], [.agg [qm 0, qm 1, qm 2, qm 3, qm 4, qm 5]], [], [[.sl tB, .sl yK, .sl yH, .sl yL, .sl tI, tI]], [.sl tI], .lf (qr 0), [], [(true, .arr 3 (qm 0))], false⟩
def zT_P : List zaV := [zT_p26]
def zT_T : zbf := tab []
theorem zT_To : zbd pg zT_T := zaX trivial
theorem zT_k26 : (zT_p26).OK pg (zT_T) (zbu 27 (zT_P)) (zbh f_zT) 27 := ⟨by kernel_rfl, fun i x => by kernel_rfl⟩
theorem zT_go : zbt pg (zT_T) io_zT f_zT (zT_P) [.nilRow 2 800002 3 tI, .ren 2 700002, .ren 2 900002] (zT) := ⟨by kernel_rfl, by kernel_rfl, fun x => by kernel_rfl⟩
theorem ok_zT : io_zT.Okay pg (F_zT) := zbl zaZ (zT_To) (zT_go) ⟨zT_k26, trivial⟩
def stE (c : List Th) (i : Int) : Bool := (gI c i).1 == 2 || (gI c i).1 == 3
def zdH (c : List Th) : List Int := (zbF c.length).filter (stE c)
theorem range'_cons (i n : Nat) : (List.range' i (n + 1)).map (fun (k : Nat) => (k : Int)) = (i : Int) :: (List.range' (i + 1) n).map (fun (k : Nat) => (k : Int)) := by rw [List.range'_succ, List.map_cons]
theorem ends_loop (c : List Th) (hl : c.length ≤ 1000000) : ∀ (n i : Nat) (r : List Int), i + n = c.length → r.length ≤ i →
  lo zT_b26 (c, (c.length : Int)) ((i : Int), r) = some (r ++ ((List.range' i n).map fun (k : Nat) => (k : Int)).filter (stE c))
 | 0, i, r, h, _ => by
  rw [zbi, zT_b26]
  simp only [RT.run]
  rw [if_neg (by simp; omega)]
  simp
 | n + 1, i, r, h, hr => by
  rw [zbi, zT_b26]
  simp only [RT.run]
  rw [if_pos (by simp; omega), if_pos (zbc.2 ⟨by omega, by omega⟩), zbg (by omega), show (i : Int) + 1 = ((i + 1 : Nat) : Int) by omega, range'_cons, List.filter_cons]
  by_cases hv : stE c (i : Int) = true
  ·have hv' := hv
   unfold stE at hv'
   rw [if_pos hv', if_pos (ap_small (by decide) (by simp; omega)), ends_loop c hl n (i + 1) _ (by omega) (by simp; omega), if_pos hv]
   simp
  ·have hv' := hv
   unfold stE at hv'
   rw [if_neg hv', ends_loop c hl n (i + 1) _ (by omega) (by omega), if_neg hv]
def e_zT : zbj := io_zT.sp (fun (a, b, c, d, e, f) => (decide (c.length ≤ 1000000))) (fun (a, b, c, d, e, f) => (zdH c))
theorem sp_zT (h : ∀ (a : List Bool) (b : List Tk) (c : List Th) (d : List Lk) (e : List Int) (f : Int), WfT [.sl tB, .sl yK, .sl yH, .sl yL, .sl tI, tI] (a, b, c, d, e, f) → ((decide (c.length ≤ 1000000))) = true → (zT (a, b, c, d, e, f)).run (fun _ => none) = some (zdH c)) : e_zT.ok pg := zbo ok_zT fun (a, b, c, d, e, f) hw hc => h a b c d e f hw hc
theorem e_zT_ok : e_zT.ok pg := sp_zT fun a b c d e f _ hc => by
 have hl := of_decide_eq_true hc
 rw [zT]
 simp only [RT.run]
 have := ends_loop c hl c.length 0 [] (by omega) (by simp)
 rw [show ((0 : Nat) : Int) = 0 from rfl, ← List.range_eq_range', List.nil_append] at this
 rw [this]
 rfl
def zat : (Int × Int) → RT Unit (Bool × Int × Int × Int × Int × Bool)
| (amount, to) =>
 .rq 5 (.done (true, 0, amount, 1, to, true))
def F_zat (x : Int × Int) : Option (Bool × Int × Int × Int × Int × Bool) := (zat x).run fun _ => none
def io_zat : Io := ⟨n_zat, [tI, tI], [.lf (qm 0), .lf (qm 1)], [], [[tI], [tI]], [tB, tI, tI, tI, tI, tB], .agg [qm 0, qm 1, qm 2, qm 3, qm 4, qm 5], [], [], false⟩
def zat_P : List zaV := []
def zat_T : zbf := tab []
theorem zat_To : zbd pg zat_T := zaX trivial
theorem zat_go : zbt pg (zat_T) io_zat f_zat (zat_P) [] (zat) := ⟨by kernel_rfl, by kernel_rfl, fun x => by kernel_rfl⟩
theorem ok_zat : io_zat.Okay pg (F_zat) := zbl zaZ (zat_To) (zat_go) trivial
def e_zat : zbj := io_zat.sp (fun (a, b) => true) (fun (a, b) => ((true, 0, a, 1, b, true)))
theorem sp_zat (h : ∀ (a : Int) (b : Int), WfT [tI, tI] (a, b) → (zat (a, b)).run (fun _ => none) = some ((true, 0, a, 1, b, true))) : e_zat.ok pg := zbo ok_zat fun (a, b) hw hc => h a b hw
theorem e_zat_ok : e_zat.ok pg := sp_zat fun a b _ => by
 rw [zat]; rfl
def zG_b58 : (Int × (List ((List Int) × List Int)) × (List Int)) → (Int × (List Int) × (List Int)) → RT (Int × (List Int) × (List Int)) ((List Int) × (List Int))
| (x12, r3, r11), (x13, r64, r65) =>
 .rq 1 (.ite (decide (x13 < x12))
 (.req (inB r11 x13) (.rq 5 (.req (inB r3 (gI r11 x13)) (.rq 2 (let t0 := gI r3 (gI r11 x13);
 let t1 := [(r64, r65), (t0.1, t0.2)];
 .req (okS t1) (.rq 3 (let t2 := rq (sumQ t1);
 .again (w64 (x13 + 1), t2.1, t2.2))))))))
 (.done (r64, r65)))
def zG_p58 : zaV := ⟨58, true, [tI, .sl (.pair (.sl tV) (.sl tV)), .sl tI], [tI, .sl tV, .sl tV], ⟨[.keep [2, 3, 4, 11, 12, 13], .gc, .nilRow 3 800003 43 (.pair (.sl tV) (.sl tV)), .nilRow 11 800011 3 tI, .ren 3 700003, .ren 11 700011, .ren 3 900003, .ren 11 900011, .cellRow 64 0 600064 90 tV, .cellRow 64 1 600065 90 tV, .cellRen 64 0 600064, .cellRen 64 1 600065, .gc], [2, 3, 4, 11, 12, 13], [.lf (qp 32), .lf (qr 900003), .lf (qp 64), .lf (qr 900011), .lf (qi 0), .lf (qm 0)], [(32, true, .cells [.fix (.nil), .fix (.nil)]), (900003, true, .arr 43 (qi 1)), (64, true, .cells [qr 600064, qr 600065]), (900011, true, .arr 3 (qi 2)), (600064, true, .arr 90 (qm 1)), (600065, true, .arr 90 (qm 2))]⟩, [⟨2, ⟨[.keep [2, 4], .gc, .cellRow 64 0 600064 90 tV, .cellRow 64 1 600065 90 tV, .cellRen 64 0 600064, .cellRen 64 1 600065, .gc], [2, 4], [.lf (qp 32), .lf (qp 64)], [(32, true, .cells [.fix (.nil), .fix (.nil)]), (64, true, .cells [qr 600064, qr 600065]), (600064, true, .arr 90 (qm 0)), (600065, true, .arr 90 (qm 1))]⟩, [.sl tV, .sl tV]⟩], zG_b58⟩
def zG : ((List Bool) × (List Tk) × (List Th) × (List Lk) × (List Int) × Int) → RT Unit ((List Int) × (List Int))
| (s_0, s_1, s_2, s_3, s_4, s_5) =>
 .rq 3 (.req ((wOK s_0 s_1 s_2 s_3 s_4 s_5)) (.rq 5 (.req ((decide (s_2.length ≤ 1000000))) (.rq 2 (let t0 := (zdH s_2);
 .call (lo zG_b58 ((t0.length : Int), ((caV s_0 s_1 s_2 s_3 s_4 s_5).map rq), t0) (0, [], zbb B32 1)) default fun v0 =>
 .rq 2 (.done (v0.1, v0.2)))))))
def F_zG (x : (List Bool) × (List Tk) × (List Th) × (List Lk) × (List Int) × Int) : Option ((List Int) × (List Int)) := (zG x).run fun _ => none
def io_zG : Io := ⟨n_zG, [.sl tB, .sl yK, .sl yH, .sl yL, .sl tI, tI], [.agg [qm 0, qm 1, qm 2, qm 3, qm 4, qm 5]], [], [[.sl tB, .sl yK, .sl yH, .sl yL, .sl tI, tI]], [.sl tV, .sl tV], .agg [qr 0, qr 1], [], [(true, .arr 90 (qm 0)), (true, .arr 90 (qm 1))], false⟩
def zG_P : List zaV := [zG_p58]
def zG_T : zbf := tab [e_zT, e_zu, e_zP, e_zY]
theorem zG_To : zbd pg zG_T := zaX ⟨e_zT_ok, e_zu_ok, e_zP_ok, e_zY_ok, trivial⟩
theorem zG_k58 : (zG_p58).OK pg (zG_T) (zbu 26 (zG_P)) (zbh f_zG) 26 := ⟨by kernel_rfl, fun i x => by kernel_rfl⟩
theorem zG_go : zbt pg (zG_T) io_zG f_zG (zG_P) [.cellRow 32 0 600032 90 tV, .cellRow 32 1 600033 90 tV, .cellRen 32 0 600032, .cellRen 32 1 600033] (zG) := ⟨by kernel_rfl, by kernel_rfl, fun x => by kernel_rfl⟩
theorem ok_zG : io_zG.Okay pg (F_zG) := zbl zaZ (zG_To) (zG_go) ⟨zG_k58, trivial⟩
theorem tot_loop (X : List Rat) (l : List Int) (hl : l.length ≤ 1000) (hs : ∀ k ∈ l, (0 ≤ k ∧ k < (X.length : Int)) ∧ 0 ≤ gI X k ∧ sm 500 (gI X k)) : ∀ (n i m : Nat) (q : Rat), i + n = l.length → 0 ≤ q → sm m q → m + 501 * n ≤ 1000000 →
  lo zG_b58 ((l.length : Int), X.map rq, l) ((i : Int), (rq q).1, (rq q).2) = some (rq (q + zbx ((l.drop i).map (gI X))))
 | 0, i, m, q, h, _, _, _ => by
  rw [zbi, zG_b58]
  simp only [RT.run]
  rw [if_neg (by simp; omega), List.drop_eq_nil_of_le (by omega)]
  show some (rq q) = some (rq (q + 0))
  rw [Rat.add_zero]
 | n + 1, i, m, q, h, h0, hm, hb => by
  have hi : i < l.length := by omega
  obtain ⟨hk, s2, s3⟩ := hs _ (List.getElem_mem hi)
  have ih := tot_loop X l hl hs n (i + 1) _ (q + gI X l[i]) (by omega) (Rat.add_nonneg h0 s2) (sm_add h0 s2 hm s3) (by omega)
  rw [zbi, zG_b58]
  simp only [RT.run, zbD hi, zdF rq hk, pe]
  rw [if_pos (by simp; omega), if_pos (zbc.2 ⟨by omega, by omega⟩), if_pos (zbc.2 (by rw [List.length_map]; exact hk)), okS2 hm s3 (by omega) (by decide), if_pos rfl, sumQ2 h0 s2, zbg (by omega), show (i : Int) + 1 = ((i + 1 : Nat) : Int) by omega]
  show lo zG_b58 _ (_, (rq (q + gI X l[i])).1, (rq (q + gI X l[i])).2) = _
  rw [ih, List.drop_eq_getElem_cons hi, List.map_cons, zbG, Rat.add_assoc]
def e_zG : zbj := io_zG.sp (fun (a, b, c, d, e, f) => (wOK a b c d e f)) (fun (a, b, c, d, e, f) => (rq (zbx ((zdH c).map (gI (caV a b c d e f))))))
theorem sp_zG (h : ∀ (a : List Bool) (b : List Tk) (c : List Th) (d : List Lk) (e : List Int) (f : Int), WfT [.sl tB, .sl yK, .sl yH, .sl yL, .sl tI, tI] (a, b, c, d, e, f) → ((wOK a b c d e f)) = true → (zG (a, b, c, d, e, f)).run (fun _ => none) = some (rq (zbx ((zdH c).map (gI (caV a b c d e f)))))) : e_zG.ok pg := zbo ok_zG fun (a, b, c, d, e, f) hw hc => h a b c d e f hw hc
theorem e_zG_ok : e_zG.ok pg := sp_zG fun a b c d e f _ hc => by
 obtain ⟨H, h8⟩ := zfW hc
 have hlc := H.lenC
 have hel : (zdH c).length ≤ c.length := by
  have := List.length_filter_le (stE c) (zbF c.length)
  rwa [zcM] at this
 have hl := tot_loop (caV a b c d e f) (zdH c) (by omega) (fun k hk => by
  have hk' := zcz.1 (List.mem_filter.1 hk).1
  have := H.ca_sm hk'
  exact ⟨by rw [zeQ]; exact hk', this.1, this.2.1⟩) (zdH c).length 0 1 0 (by omega) (by decide) (sm_zero _ (by decide)) (by omega)
 rw [show ((0 : Nat) : Int) = 0 from rfl, List.drop_zero, Rat.zero_add] at hl
 rw [zG]
 simp only [RT.run]
 rw [if_pos hc, if_pos (decide_eq_true (by omega))]
 show (lo zG_b58 _ (0, (rq 0).1, (rq 0).2)).bind _ = _
 rw [hl]
 rfl
def zR_b126 : (Int × (List ((List Int) × List Int)) × (List Bool) × (List Tk) × (List Th)) → RT Unit Bool
| (s_5, x16, x7, x10, x13) =>
 .rq 4 (let t0 := (wOK x7 x10 x13 [] [] s_5);
 let t1 := (rq (zbx ((zdH x13).map (gI (caV x7 x10 x13 [] [] s_5)))));
 let t2 := (wOK x7 x10 x13 [] [] s_5);
 let t3 := (rq (caAt x7 x10 x13 [] [] s_5 (5 : Int)));
 let t4 := isM 38 (rQ (((4 : Int).toNat : Nat) : Rat)).1 && isM 38 (rQ (((4 : Int).toNat : Nat) : Rat)).2;
 let t5 := decide ((gI x16 1).1 = zbb B32 (val B16 (rQ (((4 : Int).toNat : Nat) : Rat)).1)) && decide ((gI x16 1).2 = zbb B32 (val B16 (rQ (((4 : Int).toNat : Nat) : Rat)).2));
 let t6 := isM 38 (rQ (((7 : Int).toNat : Nat) : Rat)).1 && isM 38 (rQ (((7 : Int).toNat : Nat) : Rat)).2;
 let t7 := decide (t1.1 = zbb B32 (val B16 (rQ (((7 : Int).toNat : Nat) : Rat)).1)) && decide (t1.2 = zbb B32 (val B16 (rQ (((7 : Int).toNat : Nat) : Rat)).2));
 let t8 := isM 38 (rQ (((0 : Int).toNat : Nat) : Rat)).1 && isM 38 (rQ (((0 : Int).toNat : Nat) : Rat)).2;
 let t9 := decide (t3.1 = zbb B32 (val B16 (rQ (((0 : Int).toNat : Nat) : Rat)).1)) && decide (t3.2 = zbb B32 (val B16 (rQ (((0 : Int).toNat : Nat) : Rat)).2));
 let q0 : RT Unit Bool := (.rq 1 (.req t0 (.rq 1 (.req t6 (.rq 2 (.ite t7
 (.rq 1 (.req t2 (.rq 1 (.req t8 (.rq 2 (.done t9))))))
 (.rq 2 (.done false))))))));
 let q1 : RT Unit Bool := (.rq 2 (.ite false
 (.rq 1 (.req t2 (.rq 1 (.req t8 (.rq 2 (.done t9))))))
 (.rq 2 (.done false))));
 .ite ((x16.length : Int) == 2)
 (.rq 1 (.req (inB x16 0) (.rq 2 (.req (isM 38 (rQ (((7 : Int).toNat : Nat) : Rat)).1 && isM 38 (rQ (((7 : Int).toNat : Nat) : Rat)).2) (.rq 2 (.ite (decide ((gI x16 0).1 = zbb B32 (val B16 (rQ (((7 : Int).toNat : Nat) : Rat)).1)) && decide ((gI x16 0).2 = zbb B32 (val B16 (rQ (((7 : Int).toNat : Nat) : Rat)).2)))
 (.rq 1 (.req (inB x16 1) (.rq 2 (.req t4 (.rq 2 (.ite t5
 q0
 q1))))))
 (.rq 2 (.ite false
 q0
 q1))))))))
 (.rq 2 (.ite false
 (.rq 1 (.req (inB x16 1) (.rq 2 (.req t4 (.rq 2 (.ite t5
 q0
 q1))))))
 (.rq 2 (.ite false
 q0
 q1)))))
def zR_p126 : zaV := ⟨126, false, [tI, .sl (.pair (.sl tV) (.sl tV)), .sl tB, .sl yK, .sl yH], [], ⟨[.keep [3, 4], .gc], [3, 4], [.lf (qp 48), .lf (qr 257)], [(48, true, .cells [qr 112, qr 160, qr 208, .fix (.nil), .fix (.nil), qi 0]), (257, true, .arr 43 (qi 1)), (112, false, .arr 4 (qi 2)), (160, false, .arr 103 (qi 3)), (208, false, .arr 108 (qi 4))]⟩, [⟨0, ⟨[.keep [0], .gc], [0], [.lf (qm 0)], []⟩, [tB]⟩], (fun i _ => zR_b126 i)⟩
def zR : Unit → RT Unit Bool
| _ =>
 .rq 18 (let t0 := [(2, (-1), 1, 1, 1), (4, 0, (-1), 1, 1)];
 let t1 := [((((true, 0, (3 : Int), 1, (0 : Int), true))).1, (((true, 0, (3 : Int), 1, (0 : Int), true))).2.1, (((true, 0, (3 : Int), 1, (0 : Int), true))).2.2.1, (((true, 0, (3 : Int), 1, (0 : Int), true))).2.2.2.1, (((true, 0, (3 : Int), 1, (0 : Int), true))).2.2.2.2.1, (((true, 0, (3 : Int), 1, (0 : Int), true))).2.2.2.2.2), ((((true, 0, (4 : Int), 1, (1 : Int), true))).1, (((true, 0, (4 : Int), 1, (1 : Int), true))).2.1, (((true, 0, (4 : Int), 1, (1 : Int), true))).2.2.1, (((true, 0, (4 : Int), 1, (1 : Int), true))).2.2.2.1, (((true, 0, (4 : Int), 1, (1 : Int), true))).2.2.2.2.1, (((true, 0, (4 : Int), 1, (1 : Int), true))).2.2.2.2.2)];
 .req ((wOK [true] t1 t0 [] [] (5 : Int))) (.rq 1 (.call (on zR_b126 (5, ((caV [true] t1 t0 [] [] (5 : Int)).map rq), [true], t1, t0)) default fun v0 =>
 .done v0)))
def F_zR (x : Unit) : Option Bool := (zR x).run fun _ => none
def io_zR : Io := ⟨n_zR, [], [], [], [], [tB], .lf (qm 0), [], [], false⟩
def zR_P : List zaV := [zR_p126]
def zR_T : zbf := tab [e_zG, e_zat, e_zaL, e_zu, e_zao, e_zaQ]
theorem zR_To : zbd pg zR_T := zaX ⟨e_zG_ok, e_zat_ok, e_zaL_ok, e_zu_ok, e_zao_ok, e_zaQ_ok, trivial⟩
theorem zR_k126 : (zR_p126).OK pg (zR_T) (zbu 46 (zR_P)) (zbh f_zR) 46 := ⟨by kernel_rfl, fun i x => by kernel_rfl⟩
theorem zR_go : zbt pg (zR_T) io_zR f_zR (zR_P) [] (zR) := ⟨by kernel_rfl, by kernel_rfl, fun x => by kernel_rfl⟩
theorem ok_zR : io_zR.Okay pg (F_zR) := zbl zaZ (zR_To) (zR_go) ⟨zR_k126, trivial⟩
def e_zR : zbj := io_zR.sp (fun _ => true) (fun _ => true)
theorem sp_zR (h : (zR ()).run (fun _ => none) = some true) : e_zR.ok pg := zbo ok_zR fun _ _ hc => h
theorem e_zR_ok : e_zR.ok pg := sp_zR (by kernel_rfl)
end
end Go.Proofs.Ytlfdidaeachpoaa
namespace Go.Proofs.Ytlfdidaeachpoaa
open Go Go.RowKit
set_option maxRecDepth 100000
noncomputable section
section
variable {a : List Bool} {b : List Tk} {c : List Th} {d : List Lk} {e : List Int} {f : Int}
theorem next_state {i : Int} (hu : usT c i = true) (h : zdb c d i ≠ -1) : (gI c i).1 = 4 ∨ (gI c i).1 = 6 := by
 unfold zdb at h
 rw [zdn hu] at h
 simp only at h
 by_cases h4 : (gI c i).1 = 4
 ·exact .inl h4
 ·rw [if_neg (by simpa using h4)] at h
  by_cases h6 : (gI c i).1 = 6
  ·exact .inr h6
  ·rw [if_neg (by simpa using h6)] at h
   exact absurd rfl h
theorem zbe.tail_mid (H : zbe a b c d e f) : ∀ (n : Nat) (i : Int) (o : List Int), usT c i = true → zcP c d n i = some o → ∀ x ∈ o, x ≠ o.getLastD (-1) → (gI c x).1 = 4 ∨ (gI c x).1 = 6
 | 0, i, o, hu, h => by
  have := zcg hu
  unfold zcP at h
  rw [if_neg (by omega)] at h
  cases h
 | n + 1, i, o, hu, h => by
  have hin := zcg hu
  unfold zcP at h
  rw [if_neg (by omega)] at h
  obtain ⟨o', h1, rfl⟩ := Option.map_eq_some_iff.1 h
  obtain ⟨hR, hN⟩ := H.next hu
  rcases hN with hN | ⟨hN, hA⟩
  ·rw [hN] at h1
   have h0 : o' = [] := by
    cases n <;> (unfold zcP at h1; rw [if_pos rfl] at h1; cases h1; rfl)
   subst h0
   intro x hx hne
   rw [List.mem_singleton.1 hx] at hne
   exact absurd rfl hne
  ·have hnx := zcg hN
   intro x hx hne
   have ho' : o' ≠ [] := by
    intro h0
    subst h0
    cases n with
    | zero => unfold zcP at h1; rw [if_neg (by omega)] at h1; cases h1
    | succ m =>
     unfold zcP at h1
     rw [if_neg (by omega)] at h1
     obtain ⟨o2, _, h3⟩ := Option.map_eq_some_iff.1 h1
     cases h3
   have hlast : (i :: o').getLastD (-1) = o'.getLastD (-1) := by
    cases o' with
    | nil => exact absurd rfl ho'
    | cons y l => simp [List.getLastD_eq_getLast?]
   rw [hlast] at hne
   rcases List.mem_cons.1 hx with rfl | hx
   ·exact next_state hu (fun h9 => absurd hnx.1 (by rw [h9]; decide))
   ·exact H.tail_mid n _ o' hN h1 x hx hne
theorem zbe.own_lives (H : zbe a b c d e f) {j : Int} (hj : 0 ≤ j ∧ j < (c.length : Int)) (h : gI (thW a b c d e f) j ≠ 0) : usT c j = true ∧ zeq c d j = true := by
 have hu : usT c j = true := by
  cases hq : usT c j with
  | true => rfl
  | false => exact absurd (H.th_zero hj hq) h
 refine ⟨hu, ?_⟩
 cases hl : zeq c d j with
 | true => rfl
 | false =>
  refine absurd ?_ h
  rw [thW_get hj]
  unfold zct
  refine zdj fun k hk => ?_
  obtain ⟨h1, h2⟩ := List.mem_filter.1 hk
  have h1 := zcz.1 h1
  unfold isOf at h2
  simp at h2
  rw [H.worth.2 k h1, if_neg]
  intro hc
  rw [H.cnt h1, if_pos h2.1] at hc
  unfold good at hc
  rw [h2.2.1, h2.2.2, live_get hj, hl] at hc
  simp at hc
theorem zbe.one_end (H : zbe a b c d e f) {j : Int} (hu : usT c j = true) (hl : zeq c d j = true) : endV c d j ∈ zdH c ∧ endV c d j ∈ zch c d j ∧ ∀ x ∈ zdH c, x ∈ zch c d j → x = endV c d j := by
 obtain ⟨o, h1, h2, h3, h4⟩ := H.tail0 hu
 have ht : zch c d j = o := by unfold zch; rw [zdn hu, h1]; rfl
 have he : endV c d j = o.getLastD (-1) := by unfold endV; rw [ht]
 have hm : o.getLastD (-1) ∈ o := by
  rw [List.getLastD_eq_getLast?, List.getLast?_eq_some_getLast h3]
  exact List.getLast_mem h3
 have hue := h4 _ hm
 have hin := zcg hue
 unfold zeq at hl
 rw [he, zdn hue] at hl
 rw [he, ht]
 refine ⟨?_, hm, fun x hx hxo => ?_⟩
 ·unfold zdH
  exact List.mem_filter.2 ⟨zcz.2 hin, hl⟩
 ·refine Classical.byContradiction fun hne => ?_
  have := H.tail_mid _ j o hu h1 x hxo hne
  unfold zdH at hx
  have hs := (List.mem_filter.1 hx).2
  unfold stE at hs
  rcases this with h | h <;> rw [h] at hs <;> simp at hs
theorem sumOf_if (K : List Rat) (p : Int → Bool) (l : List Int) : zct K p l = zbx (l.map fun j => if p j = true then gI K j else 0) := by
 unfold zct
 rw [← zgR (l := l) (p := p) (g := fun j => if p j = true then gI K j else 0) (fun x _ h => by rw [h]; exact if_neg (by decide))]
 refine zcm fun x hx => ?_
 rw [if_pos (List.mem_filter.1 hx).2]
theorem th_list : (zbF c.length).map (gI (thW a b c d e f)) = thW a b c d e f := by
 refine zeR (by rw [thW_len, List.length_map, zcM]) fun i hi => ?_
 rw [List.length_map, zcM] at hi
 rw [zdy hi]
theorem zbe.keepC (H : zbe a b c d e f) : zbx ((zdH c).map (gI (caV a b c d e f))) = ((gI (amV a b c d e f) 0 : Int) : Rat) := by
 rw [← H.keep]
 have h1 : zbx ((zdH c).map (gI (caV a b c d e f))) = zbx ((zdH c).map fun x => zbx ((zbF c.length).map fun j => if onT c d x j = true then gI (thW a b c d e f) j else 0)) := zcm fun x hx => by
  rw [caV_get (zcz.1 (List.mem_filter.1 hx).1), sumOf_if]
 rw [h1, rsum_comm]
 conv => rhs; rw [← th_list]
 refine zcm fun j hj => ?_
 have hj := zcz.1 hj
 by_cases h0 : gI (thW a b c d e f) j = 0
 ·rw [h0]
  exact zdj fun x _ => by split <;> rfl
 ·obtain ⟨hu, hl⟩ := H.own_lives hj h0
  obtain ⟨e1, e2, e3⟩ := H.one_end hu hl
  rw [zcm (h := fun x => if endV c d j = x then gI (thW a b c d e f) j else 0) fun x hx => by
   unfold onT
   by_cases h : endV c d j = x
   ·rw [if_pos h, if_pos (by rw [List.contains_iff_mem, ← h]; exact e2)]
   ·rw [if_neg h, if_neg (fun h' => h (e3 x hx (List.contains_iff_mem.1 h')).symm)]]
  exact rsum_one (ints_nodup.sublist List.filter_sublist) e1 _
theorem zbe.mono (H : zbe a b c d e f) {i : Int} (hu : usT c i = true) (hn : usT c (zdb c d i) = true) : gI (caV a b c d e f) i ≤ gI (caV a b c d e f) (zdb c d i) := by
 have hi := zcg hu
 have hk := zcg hn
 rw [caV_get hi, caV_get hk, sumOf_if, sumOf_if]
 refine rsum_le fun j hj => ?_
 have hj := zcz.1 hj
 have h0 := th_nonneg H hj
 unfold onT
 by_cases h : (zch c d j).contains i = true
 ·rw [if_pos h, if_pos]
  ·exact Rat.le_refl
  ·rw [List.contains_iff_mem] at h ⊢
   obtain ⟨_, _, f3, f4⟩ := H.tail_facts j
   cases huj : usT c j with
   | false => rw [f4 huj] at h; cases h
   | true =>
    rw [f3 huj _ hi.1] at h
    rw [f3 huj _ hk.1]
    have hw : Way c.length (zbI c d) i.toNat (zdb c d i).toNat := (H.way_next hu).2 ⟨hn, .inl (Int.toNat_of_nonneg hk.1)⟩
    rcases h with h | h
    ·rw [← h]; exact .inr hw
    ·exact .inr (h.trans hw)
 ·rw [if_neg h]
  split
  ·exact h0
  ·exact Rat.le_refl
end
theorem den_ne' (q : Rat) : (q.den : Rat) ≠ 0 := by
 intro h
 exact q.den_nz (by exact_mod_cast h)
theorem num_eq' (q : Rat) : (q.num : Rat) = q * (q.den : Rat) := by
 have h1 := Rat.mkRat_self q
 rw [Rat.mkRat_eq_div] at h1
 have h2 := Rat.div_mul_cancel (a := (q.num : Rat)) (den_ne' q)
 rw [h1] at h2
 exact h2.symm
theorem cross_le {p q : Rat} (hp : 0 ≤ p) (hq : 0 ≤ q) (h : p ≤ q) : p.num.toNat * q.den ≤ q.num.toNat * p.den := by
 apply nat_le_rat
 rw [Rat.natCast_mul, Rat.natCast_mul, cast_nat (Rat.num_nonneg.2 hp), cast_nat (Rat.num_nonneg.2 hq), num_eq' p, num_eq' q]
 have d1 : (0 : Rat) ≤ (p.den : Rat) := by exact_mod_cast Nat.zero_le _
 have d2 : (0 : Rat) ≤ (q.den : Rat) := by exact_mod_cast Nat.zero_le _
 have h1 := Rat.mul_le_mul_of_nonneg_right h (Rat.mul_nonneg d1 d2)
 have e1 : p * (p.den : Rat) * (q.den : Rat) = p * ((p.den : Rat) * (q.den : Rat)) := Rat.mul_assoc ..
 have e2 : q * (q.den : Rat) * (p.den : Rat) = q * ((p.den : Rat) * (q.den : Rat)) := by grind
 rw [e1, e2]
 exact h1
def zft : (Int × Int × (List ((List Int) × List Int))) → RT Unit Bool
| (i, k, r3) =>
 .rq 3 (.ite (decide (0 ≤ k))
 (.rq 2 (.req (inB r3 i) (.rq 3 (.req (inB r3 k) (.rq 1 (.req (okr (gI r3 i).1 (gI r3 i).2 && okr (gI r3 k).1 (gI r3 k).2) (.rq 2 (.done (decide (0 < (cmpI ((val B32 (gI r3 i).1 * val B32 (gI r3 k).2 : Nat) : Int) ((val B32 (gI r3 k).1 * val B32 (gI r3 i).2 : Nat) : Int))))))))))))
 (.rq 1 (.done false)))
def zn_p16018 : zaV := ⟨16018, false, [tI, tI, .sl tB, .sl yK, .sl yH, .sl yL, .sl tI, tI, .sl (.pair (.sl tV) (.sl tV))], [], ⟨[.keep [1, 3, 4, 5], .gc], [1, 3, 4, 5], [.lf (qp 16), .lf (qr 900003), .lf (qi 0), .lf (qi 1)], [(16, true, .cells [qi 2, qi 3, qi 4, qi 5, qi 6, qi 7]), (900003, true, .arr 43 (qi 8))]⟩, [⟨0, ⟨[.keep [1, 3, 4, 52], .gc, .nilRow 3 800003 43 (.pair (.sl tV) (.sl tV)), .ren 3 700003, .ren 3 900003, .gc], [1, 3, 4, 52], [.lf (qp 16), .lf (qr 900003), .lf (qi 0), .lf (qm 0)], [(16, true, .cells [qi 2, qi 3, qi 4, qi 5, qi 6, qi 7]), (900003, true, .arr 43 (qi 8))]⟩, [tB]⟩], (fun i _ => zft (i.1, i.2.1, i.2.2.2.2.2.2.2.2))⟩
def zn_b250 : ((List Bool) × (List Tk) × (List Th) × (List Lk) × (List Int) × Int × (List ((List Int) × List Int))) → Int → RT Int (LR Unit Unit)
| (s_0, s_1, s_2, s_3, s_4, s_5, r3), i =>
 .rq 4 (.ite (decide (i < (r3.length : Int)))
 (.rq 2 (.req ((decide (s_2.length ≤ 1000000) && thrOK s_2 s_3)) (.rq 1 (.call (on zft (i, (nextR (zbI s_2 s_3) i), r3)) default fun v0 =>
 .ite v0
 (.rq 1 (.done (.ex ())))
 (.rq 3 (.again (w64 (i + 1))))))))
 (.done (.rt ())))
def zn_p250 : zaV := ⟨250, true, [.sl tB, .sl yK, .sl yH, .sl yL, .sl tI, tI, .sl (.pair (.sl tV) (.sl tV))], [tI], ⟨[.keep [1, 3, 4], .gc, .nilRow 3 800003 43 (.pair (.sl tV) (.sl tV)), .ren 3 700003, .ren 3 900003, .gc], [1, 3, 4], [.lf (qp 16), .lf (qr 900003), .lf (qm 0)], [(16, true, .cells [qi 0, qi 1, qi 2, qi 3, qi 4, qi 5]), (900003, true, .arr 43 (qi 6))]⟩, [⟨1, ⟨[.keep [2], .gc], [2], [.lf (.fix (.bool false))], []⟩, []⟩, ⟨2, ⟨[.keep [1, 3], .gc, .nilRow 3 800003 43 (.pair (.sl tV) (.sl tV)), .ren 3 700003, .ren 3 900003, .gc], [1, 3], [.lf (qp 16), .lf (qr 900003)], [(16, true, .cells [qi 0, qi 1, qi 2, qi 3, qi 4, qi 5]), (900003, true, .arr 43 (qi 6))]⟩, []⟩], zn_b250⟩
def zn : ((List Bool) × (List Tk) × (List Th) × (List Lk) × (List Int) × Int) → RT Unit Bool
| (s_0, s_1, s_2, s_3, s_4, s_5) =>
 .rq 7 (let t0 := (smallV s_0 s_1 s_2 s_3 s_4);
 let t1 := !t0;
 .req (((decide (s_1.length ≤ 1000000))) || (!(!t1))) (.rq 4 (let t2 := t1 || (!((decide (s_1.length ≤ 30) && decide (cnt2 s_1 ≤ 8))));
 .req (t0 || (!(!t2))) (.rq 2 (.ite (t2 || (!((fineV s_0 s_1 s_2 s_3 s_4 s_5))))
 (.rq 2 (.done (true)))
 (.rq 1 (let t3 := (wOK s_0 s_1 s_2 s_3 s_4 s_5);
 .req t3 (.rq 1 (.req ((fineV s_0 s_1 s_2 s_3 s_4 s_5 && inB s_0 (0 : Int))) (.rq 2 (let t4 := (rq (zbx ((zdH s_2).map (gI (caV s_0 s_1 s_2 s_3 s_4 s_5)))));
 let t5 := rQ (((zbr ((gI (α := Int) (amV s_0 s_1 s_2 s_3 s_4 s_5) (0 : Int)))).toNat : Nat) : Rat);
 .req (isM 38 t5.1 && isM 38 t5.2) (.rq 1 (.ite (!(decide (t4.1 = zbb B32 (val B16 t5.1)) && decide (t4.2 = zbb B32 (val B16 t5.2))))
 (.rq 1 (.done false))
 (.rq 1 (.req t3 (.rq 2 (let t6 := ((caV s_0 s_1 s_2 s_3 s_4 s_5).map rq);
 .call (lo zn_b250 (s_0, s_1, s_2, s_3, s_4, s_5, t6) 0) default fun v1 =>
 .ite v1.isRt
 (.rq 10 (.done (((t6.length : Int) == (s_2.length : Int)) && (true))))
 (.done false))))))))))))))))))
def F_zn (x : (List Bool) × (List Tk) × (List Th) × (List Lk) × (List Int) × Int) : Option Bool := (zn x).run fun _ => none
def io_zn : Io := ⟨n_zn, [.sl tB, .sl yK, .sl yH, .sl yL, .sl tI, tI], [.agg [qm 0, qm 1, qm 2, qm 3, qm 4, qm 5]], [], [[.sl tB, .sl yK, .sl yH, .sl yL, .sl tI, tI]], [tB], .lf (qm 0), [], [], false⟩
def zn_P : List zaV := [zn_p16018, zn_p250]
def zn_T : zbf := tab [e_zR, e_zG, e_zu, e_zB, e_zab, e_zan, e_zaJ, e_zag, e_zaI, e_zao, e_zaQ]
theorem zn_To : zbd pg zn_T := zaX ⟨e_zR_ok, e_zG_ok, e_zu_ok, e_zB_ok, e_zab_ok, e_zan_ok, e_zaJ_ok, e_zag_ok, e_zaI_ok, e_zao_ok, e_zaQ_ok, trivial⟩
theorem zn_k16018 : (zn_p16018).OK pg (zn_T) (zbu 62 (zn_P)) (zbh f_zn) 62 := ⟨by kernel_rfl, fun i x => by kernel_rfl⟩
theorem zn_k250 : (zn_p250).OK pg (zn_T) (zbu 62 (zn_P)) (zbh f_zn) 62 := ⟨by kernel_rfl, fun i x => by kernel_rfl⟩
theorem zn_go : zbt pg (zn_T) io_zn f_zn (zn_P) [] (zn) := ⟨by kernel_rfl, by kernel_rfl, fun x => by kernel_rfl⟩
theorem ok_zn : io_zn.Okay pg (F_zn) := zbl zaZ (zn_To) (zn_go) ⟨zn_k16018, zn_k250, trivial⟩
theorem ck_in {K : List Rat} {i k : Int} (hi : 0 ≤ i ∧ i < (K.length : Int)) (hs : ∀ x, (0 ≤ x ∧ x < (K.length : Int)) → 0 ≤ gI K x ∧ sm 500 (gI K x)) (hk : k < 0 ∨ ((0 ≤ k ∧ k < (K.length : Int)) ∧ gI K i ≤ gI K k)) :
  on zft (i, k, K.map rq) = some false := by
 show (zft _).run _ = _
 rw [zft]
 simp only [RT.run]
 by_cases h0 : 0 ≤ k
 ·obtain ⟨hk, hle⟩ := hk.resolve_left (by omega)
  obtain ⟨p1, p2⟩ := hs i hi
  obtain ⟨q1, q2⟩ := hs k hk
  rw [if_pos (decide_eq_true h0), if_pos (zbc.2 (by rw [List.length_map]; exact hi)), if_pos (zbc.2 (by rw [List.length_map]; exact hk)), zdF rq hi, zdF rq hk, okr_rq p2 (by decide), okr_rq q2 (by decide), if_pos (by decide), rq_num, rq_num, rq_den, rq_den]
  have hc := cross_le p1 q1 hle
  have : ¬ 0 < cmpI (((gI K i).num.toNat * (gI K k).den : Nat) : Int) (((gI K k).num.toNat * (gI K i).den : Nat) : Int) := by
   have hc' := Int.ofNat_le.2 hc
   unfold cmpI
   split
   ·decide
   ·rw [if_neg (by omega)]; decide
  rw [decide_eq_false this]
 ·rw [if_neg (by simpa using h0)]
theorem ck_loop {a : List Bool} {b : List Tk} {c : List Th} {d : List Lk} {e : List Int} {f : Int} (hw : wOK a b c d e f = true) : ∀ (n i : Nat), i + n = c.length →
  lo zn_b250 (a, b, c, d, e, f, (caV a b c d e f).map rq) (i : Int) = some (.rt ())
 | 0, i, h => by
  rw [zbi, zn_b250]
  simp only [RT.run]
  rw [if_neg (by rw [List.length_map, zeQ]; simp; omega)]
 | n + 1, i, h => by
  obtain ⟨H, h8⟩ := zfW hw
  have hlc := H.lenC
  have hok : thrOK c d = true := zfN H.ths
  have hi : 0 ≤ (i : Int) ∧ (i : Int) < (c.length : Int) := by omega
  have hin : on zft ((i : Int), nextR (zbI c d) (i : Int), (caV a b c d e f).map rq) = some false := by
   refine ck_in (by rw [zeQ]; exact hi) (fun x hx => ?_) ?_
   ·rw [zeQ] at hx
    have := H.ca_sm hx
    exact ⟨this.1, this.2.1⟩
   ·cases hu : usT c (i : Int) with
    | false =>
     left
     rw [nextR_at (by omega)]
     unfold usT at hu
     rw [zbc.2 hi] at hu
     have : (gI c (i : Int)).1 = 0 := by simpa using hu
     rw [this, if_neg (by decide), if_neg (by decide)]
     decide
    | true =>
     obtain ⟨hR, hN⟩ := H.next hu
     rw [hR]
     rcases hN with hN | ⟨hN, _⟩
     ·left; omega
     ·right
      exact ⟨by rw [zeQ]; exact zcg hN, H.mono hu hN⟩
  rw [zbi, zn_b250]
  simp only [RT.run]
  rw [if_pos (by rw [List.length_map, zeQ]; simp; omega), hok, if_pos (by rw [decide_eq_true (show c.length ≤ 1000000 by omega)]; rfl), hin, Option.bind_some, if_neg (by decide), zbg (by omega), show (i : Int) + 1 = ((i + 1 : Nat) : Int) by omega, ck_loop hw n (i + 1) (by omega)]
theorem CarryKeeps_F (a : List Bool) (b : List Tk) (c : List Th) (d : List Lk) (e : List Int) (f : Int) : F_zn (a, b, c, d, e, f) = some true := by
 show (zn _).run _ = _
 rw [zn]
 simp only [RT.run]
 cases hs : smallV a b c d e with
 | false => rw [if_pos (by simp), if_pos (by simp), if_pos (by simp)]
 | true =>
  have hb : b.length ≤ 200 := by
   unfold smallV at hs
   simp only [Bool.and_eq_true, decide_eq_true_eq] at hs
   omega
  rw [if_pos (by rw [decide_eq_true (show b.length ≤ 1000000 by omega)]; rfl), if_pos (by rfl)]
  cases hl : (decide (b.length ≤ 30) && decide (cnt2 b ≤ 8)) with
  | false => rfl
  | true =>
   cases hf : fineV a b c d e f with
   | false => rfl
   | true =>
    rw [if_neg (by decide)]
    have hw : wOK a b c d e f = true := by
     rw [Bool.and_eq_true] at hl
     unfold wOK
     rw [hf, hl.2]; rfl
    obtain ⟨H, h8⟩ := zfW hw
    have hca := H.coins
    have hlc := H.lenC
    have hab := H.am_bound (x := 0) (by omega)
    obtain ⟨s1, s2⟩ := sm_int (m := gI (amV a b c d e f) 0) (by omega)
    obtain ⟨m1, m2⟩ := isM_rQ s2 (by decide)
    have l2 := ck_loop hw c.length 0 (by omega)
    rw [show ((0 : Nat) : Int) = 0 from rfl] at l2
    have e1 : rq ((gI (amV a b c d e f) 0 : Int) : Rat) = toB (rQ ((gI (amV a b c d e f) 0 : Int) : Rat)) := (toB_rQ _).symm
    rw [hw, if_pos rfl, zbc.2 (show 0 ≤ (0 : Int) ∧ (0 : Int) < (a.length : Int) by omega), if_pos (by decide), H.keepC, zby (by omega), cast_nat hab.1, m1, m2, if_pos (by decide),
     if_neg (by rw [e1]; simp [toB]), if_pos rfl, l2, Option.bind_some]
    show some (((((caV a b c d e f).map rq).length : Int) == (c.length : Int)) && true) = some true
    rw [List.length_map, zeQ]
    simp
end
end Go.Proofs.Ytlfdidaeachpoaa
namespace Go.Proofs.Ytlfdidaeachpoaa
open Go Go.RowKit
theorem exists_list {α : Type} {Q : Nat → α → Prop} : ∀ (n : Nat), (∀ i, i < n → ∃ x, Q i x) → ∃ xs : List α, xs.length = n ∧ ∀ i (h : i < xs.length), Q i xs[i]
 | 0, _ => ⟨[], rfl, fun i hi => absurd hi (Nat.not_lt_zero i)⟩
 | n + 1, h => by
  obtain ⟨xs, h1, h2⟩ := exists_list n fun i hi => h i (by omega)
  obtain ⟨x, hx⟩ := h n (by omega)
  refine ⟨xs ++ [x], by simp [h1], fun i hi => ?_⟩
  by_cases hin : i < xs.length
  ·rw [List.getElem_append_left hin]
   exact h2 i hin
  ·have : i = n := by simp at hi; omega
   subst this
   rw [List.getElem_append_right (by omega)]
   simpa [h1] using hx
theorem cell_at {w : World} {a : Addr} {u : Value} (h : w.cell? a = some u) : a.spot = none ∧ a.block < w.heap.size := by
 unfold World.cell? at h
 split at h
 ·rename_i c _ _ hb
  split at h
  ·cases h
  ·rename_i hs
   refine ⟨by simpa using hs, ?_⟩
   apply Decidable.byContradiction
   intro hlt
   rw [Array.getElem?_eq_none (Nat.le_of_not_lt hlt)] at hb
   cases hb
 ·cases h
theorem add_block (a : Addr) (n : Nat) : (a.add n).block = a.block := by
 unfold Addr.add
 split <;> rfl
theorem add_plain (b o n : Nat) : Addr.add ⟨b, o, none⟩ n = ⟨b, o + n, none⟩ := by
 unfold Addr.add
 split
 ·rename_i h; subst h; rfl
 ·rfl
def inHeap (w : World) : Nat → Prop := fun b => b < w.heap.size
section
variable {H : Type} {enc : TypeId × Value → H} {P : Program} {w : World} {held : Bool}
theorem fields_rep {g : TypeId → Option Ty} {fuel : Nat} {cs : List Value}
  (ih : ∀ (t : TypeId) (ty : Ty) (cs : List Value) (y : DataW H × List MemPlace), g t = some ty → P.cellsOf t = ty.size → DataW.trod enc P w 0 (fun _ => true) held fuel t cs = some y → ∃ x, zbB w (inHeap w) ty cs x) :
  ∀ (fs : List Field) (off : Nat) (ty : Ty), tyFs P g fs off = some ty → (∀ f ∈ fs, ∃ y, DataW.trod enc P w 0 (fun _ => true) held fuel f.type ((cs.drop f.offset).take (P.cellsOf f.type)) = some y) →
   ∃ x, zbB w (inHeap w) ty ((cs.drop off).take ty.size) x
 | [], _, _, h, _ => by cases h
 | f :: fs, off, ty, h, hf => by
  unfold tyFs at h
  split at h
  ·cases h
  ·rename_i a ha
   split at h
   ·rename_i hc
    obtain ⟨y, hy⟩ := hf f (List.mem_cons_self ..)
    rw [hc.1, hc.2] at hy
    obtain ⟨x, hx⟩ := ih f.type a _ y ha hc.2 hy
    split at h
    ·cases h
     exact ⟨x, hx⟩
    ·rename_i f' fs'
     split at h
     ·rename_i b hb
      cases h
      obtain ⟨x', hx'⟩ := fields_rep ih (f' :: fs') (off + a.size) b hb fun z hz => hf z (List.mem_cons_of_mem _ hz)
      refine ⟨(x, x'), _, _, ?_, hx, hx'⟩
      show (cs.drop off).take (a.size + b.size) = _
      rw [List.take_add, List.drop_drop]
     ·cases h
   ·cases h
theorem trod_rep : ∀ (n : Nat) (t : TypeId) (ty : Ty) (fuel : Nat) (cs : List Value) (y : DataW H × List MemPlace), tyOf P n t = some ty → P.cellsOf t = ty.size → DataW.trod enc P w 0 (fun _ => true) held fuel t cs = some y → ∃ x, zbB w (inHeap w) ty cs x := by
 intro n
 induction n with
 | zero => intro t ty fuel cs y h; cases h
 | succ n ih =>
  intro t ty fuel cs y ht hsz h
  unfold tyOf at ht
  split at ht
  ·rename_i k hu
   cases ht
   obtain ⟨m, rfl, _, hw⟩ := DataW.trod_int hu h
   exact ⟨m, rfl, hw⟩
  ·rename_i hu
   cases ht
   obtain ⟨b, rfl, _⟩ := DataW.trod_bool hu h
   exact ⟨b, rfl⟩
  ·rename_i hu
   cases ht
   obtain ⟨s, rfl, _, hs⟩ := DataW.trod_string hu h
   exact ⟨s, rfl, hs⟩
  ·rename_i e hu
   split at ht
   ·rename_i a ha
    split at ht
    ·rename_i hc
     cases ht
     rcases DataW.trod_slice hu h with ⟨rfl, _⟩ | ⟨ad, len, cap, elems, rest, m, _, rfl, _, _, hlc, hcm, hlen, hel, _, _⟩
     ·exact ⟨[], none, 0, rfl, Nat.le_refl _, Nat.zero_le _, fun _ => rfl, fun i hi => absurd hi (Nat.not_lt_zero i)⟩
     ·have hpos := a.size_pos
      have had : 0 < len → ad.spot = none := by
       intro h0
       have h1 := hel 0 h0
       rw [List.getElem?_eq_getElem (by omega), Option.bind_eq_some_iff] at h1
       obtain ⟨us, hus, _⟩ := h1
       obtain ⟨_, hl, hcell⟩ := World.cells?_some hus
       have c0 := hcell 0 (by omega)
       rw [List.getElem?_eq_getElem (by omega), Nat.zero_mul] at c0
       exact (cell_at c0).1
      have each : ∀ i, i < len → ∃ x : a.den, ∃ b o us, (some ad : Option Addr) = some ⟨b, o, none⟩ ∧ inHeap w b ∧ us.length = a.size ∧ Mem w b (o + i * a.size) us ∧ zbB w (inHeap w) a us x := by
       intro i hi
       have h1 := hel i hi
       rw [List.getElem?_eq_getElem (by omega), Option.bind_eq_some_iff] at h1
       obtain ⟨us, hus, hy⟩ := h1
       obtain ⟨_, hl, hcell⟩ := World.cells?_some hus
       obtain ⟨x, hx⟩ := ih e a m us _ ha hc hy
       have c0 := hcell 0 (by omega)
       rw [List.getElem?_eq_getElem (by omega)] at c0
       have hb := (cell_at c0).2
       rw [add_block, add_block] at hb
       have hsp := had (by omega)
       obtain ⟨b, o, sp⟩ := ad
       simp only at hsp
       subst hsp
       refine ⟨x, b, o, us, rfl, hb, by omega, fun j u hu' => ?_, hx⟩
       have hj : j < us.length := by
        apply Decidable.byContradiction
        intro hn
        rw [List.getElem?_eq_none (by omega)] at hu'
        cases hu'
       have := hcell j (by omega)
       rw [hu', add_plain, add_plain] at this
       rw [← hc]
       exact this
      obtain ⟨xs, hxl, hxs⟩ := exists_list len each
      refine ⟨xs, some ad, cap, by rw [hxl], by omega, hcm, (fun h => by cases h), fun i hi => ?_⟩
      obtain ⟨b, o, us, h1, h2, h3, h4, h5⟩ := hxs i hi
      exact ⟨b, o, us, h1, h2, h3, h4, h5⟩
    ·cases ht
   ·cases ht
  ·rename_i fs hu
   obtain ⟨xs, m, _, _, hl, hxl, hf⟩ := DataW.trod_struct hu h
   obtain ⟨x, hx⟩ := fields_rep (enc := enc) (held := held) (fuel := m) (cs := cs) (fun t ty cs y h1 h2 h3 => ih t ty m cs y h1 h2 h3) fs.toList 0 ty ht (fun f hf' => by
    obtain ⟨i, hi, rfl⟩ := List.mem_iff_getElem.1 hf'
    have hi' : i < fs.size := by simpa using hi
    have := hf i fs.toList[i] (by simp [hi'])
    rw [List.getElem?_eq_getElem (by omega)] at this
    exact ⟨_, this⟩)
   refine ⟨x, ?_⟩
   rw [List.drop_zero, List.take_of_length_le (by omega)] at hx
   exact hx
  ·cases ht
end
theorem callPost_below {w : World} {ok : Nat → Prop} {n : Nat} {r : zcs} {v : Value} {w' : World} {β' : Nat → Option Value} {ok' : Nat → Prop} (h : zfp w (fun _ => none) ok n r v w' β' ok') : Below w.heap.size w w' :=
 ⟨h.os, h.tape, h.output, h.size, fun k hk => h.block k hk (fun _ _ _ e => by cases e)⟩
end Go.Proofs.Ytlfdidaeachpoaa
