/- Part 6 of the walk and of the plain law. -/
import Derived.Test.YtlfdidaeachpoaaGreatCCT5
import Derived.Test.YtlfdidaeachpoaaGreatCCT2
import Derived.Below
import Derived.ChangeArms
import Derived.DataReads
set_option linter.unusedSimpArgs false
set_option linter.unusedVariables false
namespace Go.Proofs.YtlfdidaeachpoaaGreat
open Go Go.RowKit
set_option maxRecDepth 100000
def FRz (D : Nat) (q : Rat) : Prop := ∃ z : Nat, q * (D : Rat) = (z : Rat)
theorem frz_zero (D : Nat) : FRz D 0 := ⟨0, by rw [Rat.zero_mul]; rfl⟩
theorem frz_add {D : Nat} {p q : Rat} (hp : FRz D p) (hq : FRz D q) : FRz D (p + q) := by
  obtain ⟨z, hz⟩ := hp
  obtain ⟨w, hw⟩ := hq
  exact ⟨z + w, by rw [Rat.add_mul, hz, hw, Rat.natCast_add]⟩
theorem frz_sum {α : Type} {D : Nat} {l : List α} {g : α → Rat} (h : ∀ x ∈ l, FRz D (g x)) : FRz D (rsum (l.map g)) := by
  induction l with
  | nil => exact frz_zero D
  | cons x l ih =>
    rw [List.map_cons, rsum_cons]
    exact frz_add (h x (List.mem_cons_self ..)) (ih fun y hy => h y (List.mem_cons_of_mem _ hy))
theorem frz_mul {D E : Nat} {q : Rat} (h : FRz D q) : FRz (D * E) q := by
  obtain ⟨z, hz⟩ := h
  exact ⟨z * E, by rw [Rat.natCast_mul, ← Rat.mul_assoc, hz, Rat.natCast_mul]⟩
theorem frz_int {D : Nat} {m : Int} (h : 0 ≤ m) : FRz D (m : Rat) := by
  obtain ⟨j, rfl⟩ := Int.eq_ofNat_of_zero_le h
  exact ⟨j * D, by rw [Rat.intCast_natCast, Rat.natCast_mul]⟩
theorem frz_share {D m : Nat} {n : Nat} (hm : m ≠ 0) {q : Rat} (h : FRz D q) : FRz (D * m) (mkRat (n : Int) m * q) := by
  obtain ⟨z, hz⟩ := h
  have hm' : (m : Rat) ≠ 0 := by
    intro h
    exact hm (by exact_mod_cast h)
  refine ⟨n * z, ?_⟩
  rw [Rat.mkRat_eq_div, Rat.intCast_natCast, Rat.natCast_mul, Rat.natCast_mul, ← hz, Rat.div_def]
  have := Rat.inv_mul_cancel _ hm'
  grind
theorem nat_le_rat {m n : Nat} (h : (m : Rat) ≤ (n : Rat)) : m ≤ n := by exact_mod_cast h
theorem frz_sm {D M k : Nat} (hD : D ≠ 0) {q : Rat} (h : FRz D q) (hq : q ≤ (M : Rat)) (h1 : M * D < 2 ^ k) (h2 : D < 2 ^ k) : sm k q := by
  obtain ⟨z, hz⟩ := h
  have hD' : (D : Rat) ≠ 0 := by
    intro h
    exact hD (by exact_mod_cast h)
  have h0 : (0 : Rat) ≤ (D : Rat) := by exact_mod_cast Nat.zero_le D
  have e : q = mkRat (z : Int) D := by
    rw [Rat.mkRat_eq_div, Rat.intCast_natCast, ← hz, Rat.div_def, Rat.mul_assoc, Rat.mul_inv_cancel _ hD', Rat.mul_one]
  have hle : z ≤ M * D := by
    apply nat_le_rat
    rw [← hz, Rat.natCast_mul]
    exact Rat.mul_le_mul_of_nonneg_right hq h0
  rw [e]
  exact sm_mkRat hD (by omega) h2
theorem rsum_filter_le {α : Type} {l : List α} {g : α → Rat} (h : ∀ x ∈ l, 0 ≤ g x) (p : α → Bool) : rsum ((l.filter p).map g) ≤ rsum (l.map g) := by
  induction l with
  | nil => exact Rat.le_refl
  | cons x l ih =>
    have h1 := h x (List.mem_cons_self ..)
    have h2 := ih fun y hy => h y (List.mem_cons_of_mem _ hy)
    rw [List.filter_cons]
    split
    · rw [List.map_cons, List.map_cons, rsum_cons, rsum_cons]
      exact Rat.add_le_add_left.2 h2
    · rw [List.map_cons, rsum_cons]
      grind
theorem rsum_sub_le {l m : List Int} {g : Int → Rat} (h : ∀ x ∈ m, 0 ≤ g x) (hl : l.Nodup) (hm : m.Nodup) (hs : ∀ x ∈ l, x ∈ m) : rsum (l.map g) ≤ rsum (m.map g) := by
  have hp : l.Perm (m.filter fun x => l.contains x) := (List.perm_ext_iff_of_nodup hl (hm.sublist List.filter_sublist)).2 fun x => by
    rw [List.mem_filter, List.contains_iff_mem]
    exact ⟨fun hx => ⟨hs x hx, hx⟩, fun hx => hx.2⟩
  rw [rsum_perm (hp.map g)]
  exact rsum_filter_le h _
section
variable {a : List Bool} {b : List Tk} {c : List Th} {d : List Lk} {e : List Int} {f : Int}
def amF (am : List Int) (n : Nat) (c : Int) : Nat := n * max 1 (gI am c).toNat
def dpV (am : List Int) (l : List Int) : Nat := l.foldl (amF am) 1
theorem dpV_le {am : List Int} {k : Nat} : ∀ (l : List Int) (n : Nat), (∀ x ∈ l, (gI am x).toNat ≤ 2 ^ k) → 1 ≤ n → 1 ≤ l.foldl (amF am) n ∧ l.foldl (amF am) n ≤ n * 2 ^ (k * l.length)
  | [], n, _, hn => ⟨hn, by simp⟩
  | x :: l, n, h, hn => by
    have h1 := h x (List.mem_cons_self ..)
    have h2 : 1 ≤ 2 ^ k := Nat.one_le_two_pow
    have h3 : max 1 (gI am x).toNat ≤ 2 ^ k := by omega
    have h4 : 1 ≤ n * max 1 (gI am x).toNat := Nat.mul_pos hn (by omega)
    obtain ⟨i1, i2⟩ := dpV_le (am := am) (k := k) l (amF am n x) (fun y hy => h y (List.mem_cons_of_mem _ hy)) h4
    refine ⟨i1, Nat.le_trans i2 ?_⟩
    have h5 : amF am n x ≤ n * 2 ^ k := Nat.mul_le_mul_left n h3
    have h6 := Nat.mul_le_mul_right (2 ^ (k * l.length)) h5
    refine Nat.le_trans h6 (Nat.le_of_eq ?_)
    rw [List.length_cons, Nat.mul_add, Nat.mul_one, Nat.pow_add, Nat.mul_assoc, Nat.mul_comm (2 ^ k)]
theorem Fine0.frz_ord (H : Fine0 a b c d e f) : ∀ n, (∀ x ∈ (fordV a b).take n, FRz (dpV (amV a b c d e f) ((fordV a b).take n)) (gI (worthV a b c d e f).1 x)) ∧
    (∀ k, 0 ≤ k ∧ k < (b.length : Int) → (gI b k).1 = true → (gI b k).2.1 ∈ (fordV a b).take n → FRz (dpV (amV a b c d e f) ((fordV a b).take n)) (gI (worthV a b c d e f).2 k))
  | 0 => ⟨fun x hx => by simp at hx, fun k _ _ hk => by simp at hk⟩
  | n + 1 => by
    obtain ⟨i1, i2⟩ := H.frz_ord n
    by_cases hn : n < (fordV a b).length
    · have hd : dpV (amV a b c d e f) ((fordV a b).take (n + 1)) = dpV (amV a b c d e f) ((fordV a b).take n) * max 1 (gI (amV a b c d e f) (fordV a b)[n]).toNat := by
        unfold dpV
        rw [List.take_add_one, List.getElem?_eq_getElem hn, List.foldl_append]
        rfl
      have hus := H.ord_mem.1 (List.getElem_mem hn)
      have hin := usC_in hus
      have ho : fordV a b = (fordV a b).take n ++ (fordV a b)[n] :: (fordV a b).drop (n + 1) := by
        conv => lhs; rw [← List.take_append_drop n (fordV a b)]
        rw [List.drop_eq_getElem_cons hn]
      have hx : FRz (dpV (amV a b c d e f) ((fordV a b).take n)) (gI (worthV a b c d e f).1 (fordV a b)[n]) := by
        by_cases h0 : (fordV a b)[n] = 0
        · rw [h0, H.worth0]
          have hca := H.coins
          exact frz_int (H.am_bound (x := 0) (by omega)).1
        · rw [H.worthC hin h0]
          refine frz_sum fun k hk => ?_
          obtain ⟨k1, k2⟩ := mem_tksOf.1 hk
          unfold isOf at k2
          simp at k2
          exact i2 k k1 k2.1 (H.ord_split ho k1 k2.1 k2.2.1 k2.2.2)
      have hsplit : ∀ x, x ∈ (fordV a b).take (n + 1) → x ∈ (fordV a b).take n ∨ x = (fordV a b)[n] := fun x hx => by
        rw [List.take_add_one, List.getElem?_eq_getElem hn, List.mem_append] at hx
        rcases hx with hx | hx
        · exact .inl hx
        · exact .inr (by simpa using hx)
      rw [hd]
      refine ⟨fun x hx' => ?_, fun k hk hu hc => ?_⟩
      · rcases hsplit x hx' with h | rfl
        · exact frz_mul (i1 x h)
        · exact frz_mul hx
      · rcases hsplit _ hc with h | h
        · exact frz_mul (i2 k hk hu h)
        · rw [H.worth.2 k hk]
          by_cases hcn : gI (cntV a b c d e f) k = true
          · rw [if_pos hcn]
            unfold shareV
            have ha := H.awake hk hcn
            have hamt := (H.tk hk hu).amt
            rw [h] at ha ⊢
            obtain ⟨m, hm⟩ := Int.eq_ofNat_of_zero_le (show 0 ≤ (gI b k).2.2.1 by omega)
            rw [hm, show max 1 (gI (amV a b c d e f) (fordV a b)[n]).toNat = (gI (amV a b c d e f) (fordV a b)[n]).toNat by omega]
            exact frz_share (by omega) hx
          · rw [if_neg hcn]
            exact frz_zero _
    · rw [List.take_of_length_le (by omega)] at i1 i2 ⊢
      exact ⟨i1, i2⟩
def xD : Nat := 432
def xE : Nat := 500
def DV (a : List Bool) (b : List Tk) (c : List Th) (d : List Lk) (e : List Int) (f : Int) : Nat := dpV (amV a b c d e f) (fordV a b)
theorem Fine0.DV_le (H : Fine0 a b c d e f) : 1 ≤ DV a b c d e f ∧ DV a b c d e f ≤ 2 ^ xD := by
  have hol : (fordV a b).length ≤ 16 := by
    have := kahn_len a.length (coinArr b)
    have h3 : (fordV a b).length ≤ (ordV a.length (coinArr b)).2.length := List.length_filter_le ..
    have := H.coins
    omega
  obtain ⟨h1, h2⟩ := dpV_le (am := amV a b c d e f) (k := 27) (fordV a b) 1 (fun x hx => by
    have := H.am_bound (usC_in (H.ord_mem.1 hx))
    omega) (Nat.le_refl 1)
  refine ⟨h1, Nat.le_trans h2 ?_⟩
  rw [Nat.one_mul]
  exact Nat.pow_le_pow_right (by decide) (by unfold xD; omega)
theorem Fine0.frz_tk (H : Fine0 a b c d e f) {k : Int} (hk : 0 ≤ k ∧ k < (b.length : Int)) : FRz (DV a b c d e f) (gI (worthV a b c d e f).2 k) := by
  by_cases hu : (gI b k).1 = true
  · have := (H.frz_ord (fordV a b).length).2 k hk hu (by rw [List.take_length]; exact H.ord_mem.2 (H.tk hk hu).coin)
    rwa [List.take_length] at this
  · rw [H.worth.2 k hk, if_neg (fun h => hu (H.cnt_used hk h))]
    exact frz_zero _
theorem Fine0.frz_th (H : Fine0 a b c d e f) {i : Int} (hi : 0 ≤ i ∧ i < (c.length : Int)) : FRz (DV a b c d e f) (gI (thW a b c d e f) i) := by
  rw [thW_get hi]
  unfold sumOf
  exact frz_sum fun k hk => H.frz_tk (mem_ints.1 (List.mem_filter.1 hk).1)
theorem th_nonneg (H : Fine0 a b c d e f) {i : Int} (hi : 0 ≤ i ∧ i < (c.length : Int)) : 0 ≤ gI (thW a b c d e f) i := by
  rw [thW_get hi]
  unfold sumOf
  refine rsum_nonneg fun x hx => ?_
  obtain ⟨k, hk, rfl⟩ := List.mem_map.1 hx
  have h := H.frz_tk (mem_ints.1 (List.mem_filter.1 hk).1)
  obtain ⟨z, hz⟩ := h
  have hD := H.DV_le.1
  have hD' : (DV a b c d e f : Rat) ≠ 0 := by
    intro h
    have : DV a b c d e f = 0 := by exact_mod_cast h
    omega
  have e : gI (worthV a b c d e f).2 k = mkRat (z : Int) (DV a b c d e f) := by
    rw [Rat.mkRat_eq_div, Rat.intCast_natCast, ← hz, Rat.div_def, Rat.mul_assoc, Rat.mul_inv_cancel _ hD', Rat.mul_one]
  rw [e]
  exact mkRat_nonneg _ _
theorem Fine0.sub_sm (H : Fine0 a b c d e f) {l : List Int} (hn : l.Nodup) (hl : ∀ i ∈ l, 0 ≤ i ∧ i < (c.length : Int)) : 0 ≤ rsum (l.map (gI (thW a b c d e f))) ∧ sm 500 (rsum (l.map (gI (thW a b c d e f)))) ∧ FRz (DV a b c d e f) (rsum (l.map (gI (thW a b c d e f)))) := by
  have hf : FRz (DV a b c d e f) (rsum (l.map (gI (thW a b c d e f)))) := frz_sum fun i hi => H.frz_th (hl i hi)
  refine ⟨rsum_nonneg fun x hx => ?_, ?_, hf⟩
  · obtain ⟨i, hi, rfl⟩ := List.mem_map.1 hx
    exact th_nonneg H (hl i hi)
  · have hca := H.coins
    have hab := H.am_bound (x := 0) (by omega)
    have hle : rsum (l.map (gI (thW a b c d e f))) ≤ ((gI (amV a b c d e f) 0).toNat : Rat) := by
      rw [cast_nat hab.1, ← H.keep]
      have e1 : thW a b c d e f = (ints c.length).map (gI (thW a b c d e f)) := by
        refine rat_ext (by rw [thW_len, List.length_map, ints_len]) fun i hi => ?_
        rw [thW_len] at hi
        rw [gI_map (α := Int) _ (by rw [ints_len]; exact hi)]
        congr 1
        obtain ⟨j, rfl⟩ := Int.eq_ofNat_of_zero_le hi.1
        have hj : j < c.length := by omega
        rw [gI_lt (by rw [ints_len]; exact hj)]
        simp [ints]
      conv => rhs; rw [e1]
      exact rsum_sub_le (fun i hi => th_nonneg H (mem_ints.1 hi)) hn (nodup_map_nat List.nodup_range) fun i hi => mem_ints.2 (hl i hi)
    obtain ⟨d1, d2⟩ := H.DV_le
    refine frz_sm (k := xE) (by omega) hf hle ?_ (Nat.lt_of_le_of_lt d2 (Nat.pow_lt_pow_right (by decide) (by decide)))
    have h3 : (gI (amV a b c d e f) 0).toNat ≤ 2 ^ 27 := by omega
    have := Nat.mul_le_mul h3 d2
    rw [← Nat.pow_add] at this
    exact Nat.lt_of_le_of_lt this (Nat.pow_lt_pow_right (by decide) (by decide))
theorem arr_next {i y : Nat} (h : Arr c.length (thrArr c d) i y) : i < c.length ∧ usT c (i : Int) = true ∧ nextR (thrArr c d) (i : Int) = (y : Int) := by
  obtain ⟨x, hx, hok, e1, e2⟩ := h
  have hi : i < c.length := by
    simp only [hsOk, Bool.and_eq_true, decide_eq_true_eq] at hok
    omega
  unfold thrArr at hx
  obtain ⟨k, hk, hx⟩ := List.mem_flatMap.1 hx
  have hki : k = i ∧ (((gI c (i : Int)).1 = 4 ∧ (gI c (i : Int)).2.1 = (y : Int)) ∨ ((gI c (i : Int)).1 = 6 ∧ (gI d (gI c (i : Int)).2.1).2 = (y : Int))) := by
    unfold thrOne at hx
    rcases List.mem_append.1 hx with hx | hx
    · split at hx
      · rename_i h4
        rw [List.mem_singleton] at hx
        subst hx
        have : k = i := Int.ofNat_inj.1 (by simpa using e1)
        subst this
        rw [gI_nat]
        exact ⟨rfl, .inl ⟨by simpa using h4, e2⟩⟩
      · cases hx
    · split at hx
      · rename_i h6
        rw [List.mem_singleton] at hx
        subst hx
        have : k = i := Int.ofNat_inj.1 (by simpa using e1)
        subst this
        rw [gI_nat]
        exact ⟨rfl, .inr ⟨by simpa using h6, e2⟩⟩
      · cases hx
  refine ⟨hi, ?_, ?_⟩
  · unfold usT
    rw [inB_iff.2 (by omega)]
    rcases hki.2 with h | h <;> rw [h.1] <;> rfl
  · rw [nextR_at hi]
    rcases hki.2 with h | h
    · rw [h.1, h.2]; rfl
    · rw [h.1, h.2]; rfl
theorem Fine0.way_next (H : Fine0 a b c d e f) {i : Int} (hu : usT c i = true) {x : Nat} : Way c.length (thrArr c d) i.toNat x ↔ (usT c (nextV c d i) = true ∧ ((x : Int) = nextV c d i ∨ Way c.length (thrArr c d) (nextV c d i).toNat x)) := by
  obtain ⟨hR, hN⟩ := H.next hu
  have hin := usT_in hu
  have key : ∀ y, Arr c.length (thrArr c d) i.toNat y → nextV c d i = (y : Int) ∧ usT c (nextV c d i) = true := fun y h => by
    have h1 := (arr_next h).2.2
    rw [Int.toNat_of_nonneg hin.1, hR] at h1
    refine ⟨h1, ?_⟩
    rcases hN with h2 | h2
    · rw [h1] at h2; omega
    · exact h2.1
  constructor
  · intro hw
    cases hw with
    | one h =>
      obtain ⟨h1, h2⟩ := key _ h
      exact ⟨h2, .inl h1.symm⟩
    | more h h' =>
      obtain ⟨h1, h2⟩ := key _ h
      refine ⟨h2, .inr ?_⟩
      rw [h1]
      simpa using h'
  · rintro ⟨h1, h2⟩
    rcases hN with h3 | ⟨_, h4⟩
    · have := usT_in h1
      omega
    · rcases h2 with h2 | h2
      · have : x = (nextV c d i).toNat := by omega
        rw [this]
        exact .one h4
      · exact .more h4 h2
theorem Fine0.tailF_way (H : Fine0 a b c d e f) : ∀ (n : Nat) (i : Int) (o : List Int), usT c i = true → tailF c d n i = some o → o.Nodup ∧ (∀ x ∈ o, usT c x = true) ∧ ∀ x : Int, 0 ≤ x → (x ∈ o ↔ x = i ∨ Way c.length (thrArr c d) i.toNat x.toNat)
  | 0, i, o, hu, h => by
    have := usT_in hu
    unfold tailF at h
    rw [if_neg (by omega)] at h
    cases h
  | n + 1, i, o, hu, h => by
    have hin := usT_in hu
    unfold tailF at h
    rw [if_neg (by omega)] at h
    obtain ⟨o', h1, rfl⟩ := Option.map_eq_some_iff.1 h
    obtain ⟨hR, hN⟩ := H.next hu
    rcases hN with hN | ⟨hN, hA⟩
    · rw [hN] at h1
      have h0 : o' = [] := by
        cases n <;> (unfold tailF at h1; rw [if_pos rfl] at h1; cases h1; rfl)
      subst h0
      refine ⟨by simp, fun x hx => by rw [List.mem_singleton.1 hx]; exact hu, fun x hx => ?_⟩
      rw [List.mem_singleton]
      refine ⟨.inl, fun h => ?_⟩
      rcases h with h | h
      · exact h
      · rw [H.way_next hu, hN] at h
        have := usT_in h.1
        omega
    · obtain ⟨i1, i2, i3⟩ := H.tailF_way n _ o' hN h1
      refine ⟨List.nodup_cons.2 ⟨fun hm => ?_, i1⟩, fun x hx => ?_, fun x hx => ?_⟩
      · have := (i3 i hin.1).1 hm
        refine no_way H.noT i.toNat ((H.way_next hu).2 ⟨hN, ?_⟩)
        rw [Int.toNat_of_nonneg hin.1]
        exact this
      · rcases List.mem_cons.1 hx with rfl | hx
        · exact hu
        · exact i2 x hx
      · rw [List.mem_cons, i3 x hx, H.way_next hu]
        rw [Int.toNat_of_nonneg hx]
        constructor
        · rintro (h | h)
          · exact .inl h
          · exact .inr ⟨hN, h⟩
        · rintro (h | ⟨_, h⟩)
          · exact .inl h
          · exact .inr h
def onT (c : List Th) (d : List Lk) (i j : Int) : Bool := (tailV c d j).contains i
theorem Fine0.tail_facts (H : Fine0 a b c d e f) (j : Int) : (tailV c d j).Nodup ∧ (∀ x ∈ tailV c d j, usT c x = true) ∧ (usT c j = true → ∀ x : Int, 0 ≤ x → (x ∈ tailV c d j ↔ x = j ∨ Way c.length (thrArr c d) j.toNat x.toNat)) ∧ (usT c j = false → tailV c d j = []) := by
  cases hu : usT c j with
  | false =>
    have : tailV c d j = [] := by unfold tailV; rw [getThread_no hu]; rfl
    rw [this]
    exact ⟨List.nodup_nil, fun x hx => (by cases hx), fun h => (by cases h), fun _ => rfl⟩
  | true =>
    obtain ⟨o, h1, _⟩ := H.tail0 hu
    have ht : tailV c d j = o := by unfold tailV; rw [getThread_us hu, h1]; rfl
    obtain ⟨i1, i2, i3⟩ := H.tailF_way _ j o hu h1
    rw [ht]
    exact ⟨i1, i2, fun _ => i3, fun h => (by cases h)⟩
end
end Go.Proofs.YtlfdidaeachpoaaGreat

namespace Go.Proofs.YtlfdidaeachpoaaGreat
open Go Go.RowKit
set_option maxRecDepth 100000
noncomputable section
def caV (a : List Bool) (b : List Tk) (c : List Th) (d : List Lk) (e : List Int) (f : Int) : List Rat := (ints c.length).map fun i => sumOf (thW a b c d e f) (onT c d i) (ints c.length)
def gPart (K : List Rat) (p : Int → Int → Bool) (n m : Nat) : List Rat := (ints n).map fun i => sumOf K (p i) (ints m)
theorem map_ints {g : Int → Rat} {n : Nat} {i : Int} (h : 0 ≤ i ∧ i < (n : Int)) : gI ((ints n).map g) i = g i := by
  rw [gI_map (α := Int) _ (by rw [ints_len]; exact h)]
  congr 1
  obtain ⟨j, rfl⟩ := Int.eq_ofNat_of_zero_le h.1
  have hj : j < n := by omega
  rw [gI_lt (by rw [ints_len]; exact hj)]
  simp [ints]
section
variable {a : List Bool} {b : List Tk} {c : List Th} {d : List Lk} {e : List Int} {f : Int}
theorem caV_len : (caV a b c d e f).length = c.length := by simp [caV, ints]
theorem caV_get {i : Int} (h : 0 ≤ i ∧ i < (c.length : Int)) : gI (caV a b c d e f) i = sumOf (thW a b c d e f) (onT c d i) (ints c.length) := map_ints h
theorem ints_nodup {n : Nat} : (ints n).Nodup := nodup_map_nat List.nodup_range
theorem Fine0.part_sm (H : Fine0 a b c d e f) (p : Int → Bool) {m : Nat} (hm : m ≤ c.length) : 0 ≤ sumOf (thW a b c d e f) p (ints m) ∧ sm 500 (sumOf (thW a b c d e f) p (ints m)) ∧ FRz (DV a b c d e f) (sumOf (thW a b c d e f) p (ints m)) :=
  H.sub_sm (l := (ints m).filter p) (ints_nodup.sublist List.filter_sublist) fun i hi => by
    have := mem_ints.1 (List.mem_filter.1 hi).1
    omega
theorem Fine0.th_sm (H : Fine0 a b c d e f) {i : Int} (h : 0 ≤ i ∧ i < (c.length : Int)) : 0 ≤ gI (thW a b c d e f) i ∧ sm 500 (gI (thW a b c d e f) i) := by
  obtain ⟨h1, h2, _⟩ := H.sub_sm (l := [i]) (by simp) (fun j hj => by rw [List.mem_singleton.1 hj]; exact h)
  have e1 : rsum ([i].map (gI (thW a b c d e f))) = gI (thW a b c d e f) i := Rat.add_zero _
  rw [e1] at h1 h2
  exact ⟨h1, h2⟩
theorem Fine0.ca_sm (H : Fine0 a b c d e f) {i : Int} (h : 0 ≤ i ∧ i < (c.length : Int)) : 0 ≤ gI (caV a b c d e f) i ∧ sm 500 (gI (caV a b c d e f) i) ∧ FRz (DV a b c d e f) (gI (caV a b c d e f) i) := by
  rw [caV_get h]
  exact H.part_sm _ (Nat.le_refl _)
theorem Fine0.th_zero (H : Fine0 a b c d e f) {i : Int} (h : 0 ≤ i ∧ i < (c.length : Int)) (hu : usT c i = false) : gI (thW a b c d e f) i = 0 := by
  rw [thW_get h]
  unfold sumOf
  refine rsum_zero fun k hk => ?_
  obtain ⟨h1, h2⟩ := List.mem_filter.1 hk
  have h1 := mem_ints.1 h1
  unfold isOf at h2
  simp at h2
  exfalso
  rcases (H.tk h1 h2.1).to with h | h | h
  · omega
  · rw [← h2.2.2, h.2] at hu; cases hu
  · omega
theorem Fine0.ca_zero (H : Fine0 a b c d e f) {i : Int} (h : 0 ≤ i ∧ i < (c.length : Int)) (hu : usT c i = false) : gI (caV a b c d e f) i = 0 := by
  rw [caV_get h]
  unfold sumOf
  refine rsum_zero fun k hk => ?_
  obtain ⟨_, h2⟩ := List.mem_filter.1 hk
  unfold onT at h2
  rw [List.contains_iff_mem] at h2
  rw [(H.tail_facts k).2.1 i h2] at hu
  cases hu
end
def carry_All_b122 : Int → (Int × (List ((List Int) × List Int))) → RT (Int × (List ((List Int) × List Int))) (List ((List Int) × List Int))
| x15, (x16, r4) =>
 .rq 1 (.ite (decide (x16 < x15))
 (.rq 5 (.req (inB r4 x16) (.rq 3 (.again (w64 (x16 + 1), sI r4 x16 ([], digs B32 1))))))
 (.done r4))
def carry_All_p122 : Piece := ⟨122, true, [tI, .sl tB, .sl yK, .sl yH, .sl yL, .sl tI, tI, .sl (.pair (.sl tV) (.sl tV))], [tI, .sl (.pair (.sl tV) (.sl tV))], ⟨[.keep [1, 3, 4, 15, 16], .gc, .nilRow 3 800003 41 (.pair (.sl tV) (.sl tV)), .nilRow 4 800004 41 (.pair (.sl tV) (.sl tV)), .ren 3 700003, .ren 4 700004, .ren 3 900003, .ren 4 900004, .gc], [1, 3, 4, 15, 16], [.lf (qp 16), .lf (qr 900003), .lf (qr 900004), .lf (qi 0), .lf (qm 0)], [(16, true, .cells [qi 1, qi 2, qi 3, qi 4, qi 5, qi 6]), (900003, true, .arr 41 (qi 7)), (900004, true, .arr 41 (qm 1))]⟩, [⟨2, ⟨[.keep [1, 3, 4], .gc, .nilRow 3 800003 41 (.pair (.sl tV) (.sl tV)), .nilRow 4 800004 41 (.pair (.sl tV) (.sl tV)), .ren 3 700003, .ren 4 700004, .ren 3 900003, .ren 4 900004, .gc], [1, 3, 4], [.lf (qp 16), .lf (qr 900003), .lf (qr 900004)], [(16, true, .cells [qi 1, qi 2, qi 3, qi 4, qi 5, qi 6]), (900003, true, .arr 41 (qi 7)), (900004, true, .arr 41 (qm 0))]⟩, [.sl (.pair (.sl tV) (.sl tV))]⟩], (fun i => carry_All_b122 i.1)⟩
def carry_All_b64102 : (Int × Int × (List ((List Int) × List Int)) × (List Int)) → (Int × (List ((List Int) × List Int))) → RT (Int × (List ((List Int) × List Int))) (List ((List Int) × List Int))
| (i, x32, r3, r31), (x33, r4) =>
 .rq 1 (.ite (decide (x33 < x32))
 (.req (inB r31 x33) (.rq 6 (let t0 := inB r4 (gI r31 x33);
 .req t0 (.rq 3 (.req (inB r3 i) (.rq 2 (let t1 := gI r4 (gI r31 x33);
 let t2 := [(t1.1, t1.2), ((gI r3 i).1, (gI r3 i).2)];
 .req (okS t2) (.req t0 (.rq 3 (let t3 := rq (sumQ t2);
 .again (w64 (x33 + 1), sI r4 (gI r31 x33) (t3.1, t3.2))))))))))))
 (.done r4))
def carry_All_p64102 : Piece := ⟨64102, true, [tI, tI, tI, tI, .sl tB, .sl yK, .sl yH, .sl yL, .sl tI, tI, .sl (.pair (.sl tV) (.sl tV)), .sl tI], [tI, .sl (.pair (.sl tV) (.sl tV))], ⟨[.keep [1, 3, 4, 6, 25, 26, 31, 32, 33], .gc, .nilRow 3 800003 41 (.pair (.sl tV) (.sl tV)), .nilRow 4 800004 41 (.pair (.sl tV) (.sl tV)), .nilRow 31 800031 3 tI, .ren 3 700003, .ren 4 700004, .ren 31 700031, .ren 3 900003, .ren 4 900004, .ren 31 900031, .gc], [1, 3, 4, 6, 25, 26, 31, 32, 33], [.lf (qp 16), .lf (qr 900003), .lf (qr 900004), .lf (qi 0), .lf (qi 1), .lf (qi 2), .lf (qr 900031), .lf (qi 3), .lf (qm 0)], [(16, true, .cells [qi 4, qi 5, qi 6, qi 7, qi 8, qi 9]), (900003, true, .arr 41 (qi 10)), (900004, true, .arr 41 (qm 1)), (900031, true, .arr 3 (qi 11))]⟩, [⟨6, ⟨[.keep [1, 3, 4, 25, 26], .gc, .nilRow 3 800003 41 (.pair (.sl tV) (.sl tV)), .nilRow 4 800004 41 (.pair (.sl tV) (.sl tV)), .ren 3 700003, .ren 4 700004, .ren 3 900003, .ren 4 900004, .gc], [1, 3, 4, 25, 26], [.lf (qp 16), .lf (qr 900003), .lf (qr 900004), .lf (qi 1), .lf (qi 2)], [(16, true, .cells [qi 4, qi 5, qi 6, qi 7, qi 8, qi 9]), (900003, true, .arr 41 (qi 10)), (900004, true, .arr 41 (qm 0))]⟩, [.sl (.pair (.sl tV) (.sl tV))]⟩], (fun i => carry_All_b64102 (i.1, i.2.2.2.1, i.2.2.2.2.2.2.2.2.2.2.1, i.2.2.2.2.2.2.2.2.2.2.2))⟩
def carry_All_b250 : (Int × (List Bool) × (List Tk) × (List Th) × (List Lk) × (List Int) × Int × (List ((List Int) × List Int))) → (Int × (List ((List Int) × List Int))) → RT (Int × (List ((List Int) × List Int))) (List ((List Int) × List Int))
| (x25, s_0, s_1, s_2, s_3, s_4, s_5, r3), (x26, r4) =>
 .rq 1 (.ite (decide (x26 < x25))
 (.rq 4 (.req ((decide (s_2.length ≤ 1000000) && tailOK s_2 s_3 x26)) (.rq 2 (let t0 := (tailV s_2 s_3 x26);
 .call (lo carry_All_b64102 (x26, (t0.length : Int), r3, t0) (0, r4)) default fun v1 =>
 .rq 2 (.again (w64 (x26 + 1), v1))))))
 (.done r4))
def carry_All_p250 : Piece := ⟨250, true, [tI, .sl tB, .sl yK, .sl yH, .sl yL, .sl tI, tI, .sl (.pair (.sl tV) (.sl tV))], [tI, .sl (.pair (.sl tV) (.sl tV))], ⟨[.keep [1, 3, 4, 25, 26], .gc, .nilRow 3 800003 41 (.pair (.sl tV) (.sl tV)), .nilRow 4 800004 41 (.pair (.sl tV) (.sl tV)), .ren 3 700003, .ren 4 700004, .ren 3 900003, .ren 4 900004, .gc], [1, 3, 4, 25, 26], [.lf (qp 16), .lf (qr 900003), .lf (qr 900004), .lf (qi 0), .lf (qm 0)], [(16, true, .cells [qi 1, qi 2, qi 3, qi 4, qi 5, qi 6]), (900003, true, .arr 41 (qi 7)), (900004, true, .arr 41 (qm 1))]⟩, [⟨4, ⟨[.keep [4], .gc, .nilRow 4 800004 41 (.pair (.sl tV) (.sl tV)), .ren 4 700004, .ren 4 900004, .gc], [4], [.lf (qr 900004)], [(900004, true, .arr 41 (qm 0))]⟩, [.sl (.pair (.sl tV) (.sl tV))]⟩], carry_All_b250⟩
def carry_All : ((List Bool) × (List Tk) × (List Th) × (List Lk) × (List Int) × Int) → RT Unit (List ((List Int) × List Int))
| (s_0, s_1, s_2, s_3, s_4, s_5) =>
 .rq 3 (.req ((wOK s_0 s_1 s_2 s_3 s_4 s_5)) (.rq 3 (let t0 := ((thW s_0 s_1 s_2 s_3 s_4 s_5).map rq);
 let t1 := (t0.length : Int);
 .req (mkOK 48 t1) (.rq 4 (let t2 := repI t1 ([], []);
 .call (lo carry_All_b122 (t2.length : Int) (0, t2)) default fun v0 =>
 .rq 3 (.call (lo carry_All_b250 (t1, s_0, s_1, s_2, s_3, s_4, s_5, t0) (0, v0)) default fun v2 =>
 .rq 2 (.done v2)))))))
def F_carry_All (x : (List Bool) × (List Tk) × (List Th) × (List Lk) × (List Int) × Int) : Option (List ((List Int) × List Int)) := (carry_All x).run fun _ => none
def io_carry_All : Io := ⟨n_carry_All, [.sl tB, .sl yK, .sl yH, .sl yL, .sl tI, tI], [.agg [qm 0, qm 1, qm 2, qm 3, qm 4, qm 5]], [], [[.sl tB, .sl yK, .sl yH, .sl yL, .sl tI, tI]], [.sl (.pair (.sl tV) (.sl tV))], .lf (qr 0), [], [(true, .arr 41 (qm 0))], true⟩
def carry_All_P : List Piece := [carry_All_p122, carry_All_p64102, carry_All_p250]
def carry_All_T : CallT := tab [e_worth_Threads, e_chain_Tail, e_ratio_Add, e_ratio_Zero]
theorem carry_All_To : SoundT pg carry_All_T := tab_sound ⟨e_worth_Threads_ok, e_chain_Tail_ok, e_ratio_Add_ok, e_ratio_Zero_ok, trivial⟩
theorem carry_All_k122 : (carry_All_p122).OK pg (carry_All_T) (tell 53 (carry_All_P)) (codeOf f_carry_All) 53 := ⟨by kernel_rfl, fun i x => by kernel_rfl⟩
theorem carry_All_k64102 : (carry_All_p64102).OK pg (carry_All_T) (tell 53 (carry_All_P)) (codeOf f_carry_All) 53 := ⟨by kernel_rfl, fun i x => by kernel_rfl⟩
theorem carry_All_k250 : (carry_All_p250).OK pg (carry_All_T) (tell 53 (carry_All_P)) (codeOf f_carry_All) 53 := ⟨by kernel_rfl, fun i x => by kernel_rfl⟩
theorem carry_All_go : FnOK pg (carry_All_T) io_carry_All f_carry_All (carry_All_P) [.nilRow 2 800002 41 (.pair (.sl tV) (.sl tV)), .ren 2 700002, .ren 2 900002] (carry_All) := ⟨by kernel_rfl, by kernel_rfl, fun x => by kernel_rfl⟩
theorem ok_carry_All : io_carry_All.Okay pg (F_carry_All) := fn_ok pg_mixed (carry_All_To) (carry_All_go) ⟨carry_All_k122, carry_All_k64102, carry_All_k250, trivial⟩
theorem zero_c (m : Nat) (hm : m ≤ 1000000) : ∀ (n i : Nat), i + n = m → lo carry_All_b122 (m : Int) ((i : Int), List.replicate i (rq 0) ++ List.replicate n ([], [])) = some (List.replicate m (rq 0))
  | 0, i, h => by
    rw [lo_eq, carry_All_b122]
    simp only [RT.run]
    rw [if_neg (by simp; omega), show i = m by omega]
    simp
  | n + 1, i, h => by
    rw [lo_eq, carry_All_b122]
    simp only [RT.run]
    rw [if_pos (by simp; omega), if_pos (inB_iff.2 ⟨by omega, by simp; omega⟩), w64_in (by omega), show (i : Int) + 1 = ((i + 1 : Nat) : Int) by omega, ← rq_zero, sI, Int.toNat_natCast, rep_set, zero_c m hm n (i + 1) (by omega)]
theorem ca_inner (K X : List Rat) (j : Int) (l : List Int) (n : Nat) (hX : X.length = n) (hj : 0 ≤ j ∧ j < (K.length : Int)) (hl : l.Nodup) (hr : ∀ x ∈ l, 0 ≤ x ∧ x < (n : Int)) (hll : l.length ≤ 1000) (hK : 0 ≤ gI K j ∧ sm 500 (gI K j)) (hs : ∀ x ∈ l, 0 ≤ gI X x ∧ sm 500 (gI X x)) : ∀ (m t : Nat), t + m = l.length →
    lo carry_All_b64102 (j, (l.length : Int), K.map rq, l) ((t : Int), ((ints n).map fun i => gI X i + (if (l.take t).contains i = true then gI K j else 0)).map rq) = some (((ints n).map fun i => gI X i + (if l.contains i = true then gI K j else 0)).map rq)
  | 0, t, h => by
    rw [lo_eq, carry_All_b64102]
    simp only [RT.run]
    rw [if_neg (by simp; omega), List.take_of_length_le (by omega)]
  | m + 1, t, h => by
    have ht : t < l.length := by omega
    have hk := hr _ (List.getElem_mem ht)
    obtain ⟨s1, s2⟩ := hs _ (List.getElem_mem ht)
    have hno : (l.take t).contains l[t] = false := by
      rw [← Bool.not_eq_true, List.contains_iff_mem]
      intro hm
      obtain ⟨i, hi, he⟩ := List.mem_iff_getElem.1 hm
      rw [List.getElem_take] at he
      have := (List.nodup_iff_pairwise_ne.1 hl)
      have := (List.pairwise_iff_getElem.1 this) i t (by simp at hi; omega) ht (by simp at hi; omega)
      exact this he
    generalize hY : ((ints n).map fun i => gI X i + (if (l.take t).contains i = true then gI K j else 0)) = Y
    have hYl : Y.length = n := by rw [← hY, List.length_map, ints_len]
    have hYk : gI Y l[t] = gI X l[t] := by rw [← hY, map_ints hk, hno, if_neg (by decide), Rat.add_zero]
    have in1 : inB (Y.map rq) l[t] = true := inB_iff.2 (by rw [List.length_map, hYl]; exact hk)
    have e1 : gI (Y.map rq) l[t] = rq (gI X l[t]) := by rw [gI_map rq (by rw [hYl]; exact hk), hYk]
    have e2 : gI (K.map rq) j = rq (gI K j) := gI_map rq hj
    rw [lo_eq, carry_All_b64102]
    simp only [RT.run, gI_lt ht, e1, e2, pe]
    rw [if_pos (by simp; omega), if_pos (inB_iff.2 ⟨by omega, by omega⟩), if_pos in1, if_pos (inB_iff.2 (by rw [List.length_map]; exact hj)), okS2 s2 hK.2 (by decide) (by decide), sumQ2 s1 hK.1, if_pos rfl, if_pos in1, sI_map, w64_in (by omega), show (t : Int) + 1 = ((t + 1 : Nat) : Int) by omega]
    have : sI Y l[t] (gI X l[t] + gI K j) = (ints n).map fun i => gI X i + (if (l.take (t + 1)).contains i = true then gI K j else 0) := by
      refine rat_ext (by rw [sI_len, hYl, List.length_map, ints_len]) fun i hi => ?_
      rw [sI_len, hYl] at hi
      rw [gI_set (by rw [hYl]; exact hk) hi.1, map_ints hi]
      by_cases hi' : l[t] = i
      · rw [if_pos hi', if_pos (show (l.take (t + 1)).contains i = true by rw [List.contains_iff_mem, List.take_add_one, List.getElem?_eq_getElem ht]; simp [hi']), hi']
      · have e3 : (l.take (t + 1)).contains i = (l.take t).contains i := by
          rw [List.take_add_one, List.getElem?_eq_getElem ht, Bool.eq_iff_iff, List.contains_iff_mem, List.contains_iff_mem, List.mem_append]
          simp [show ¬ i = l[t] from fun h => hi' h.symm]
        rw [if_neg hi', ← hY, map_ints hi, e3]
    rw [this]
    exact ca_inner K X j l n hX hj hl hr hll hK hs m (t + 1) (by omega)
theorem ca_outer {a : List Bool} {b : List Tk} {c : List Th} {d : List Lk} {e : List Int} {f : Int} (H : Fine0 a b c d e f) : ∀ (m j : Nat), j + m = c.length →
    lo carry_All_b250 ((c.length : Int), a, b, c, d, e, f, (thW a b c d e f).map rq) ((j : Int), (gPart (thW a b c d e f) (onT c d) c.length j).map rq) = some ((caV a b c d e f).map rq)
  | 0, j, h => by
    rw [lo_eq, carry_All_b250]
    simp only [RT.run]
    rw [if_neg (by simp; omega), show j = c.length by omega]
    rfl
  | m + 1, j, h => by
    have hlc := H.lenC
    have hj : 0 ≤ (j : Int) ∧ (j : Int) < (c.length : Int) := by omega
    obtain ⟨t1, t2, _, _⟩ := H.tail_facts (j : Int)
    have htl := tailV_len c d (j : Int)
    have hr : ∀ x ∈ tailV c d (j : Int), 0 ≤ x ∧ x < (c.length : Int) := fun x hx => usT_in (t2 x hx)
    have hin := ca_inner (thW a b c d e f) (gPart (thW a b c d e f) (onT c d) c.length j) (j : Int) (tailV c d (j : Int)) c.length (by simp [gPart, ints]) (by rw [thW_len]; exact hj) t1 hr (by omega) (H.th_sm hj) (fun x hx => by
      unfold gPart
      rw [map_ints (hr x hx)]
      obtain ⟨h1, h2, _⟩ := H.part_sm (onT c d x) (m := j) (by omega)
      exact ⟨h1, h2⟩) (tailV c d (j : Int)).length 0 (by omega)
    have h0 : (ints c.length).map (fun i => gI (gPart (thW a b c d e f) (onT c d) c.length j) i + (if ((tailV c d (j : Int)).take 0).contains i = true then gI (thW a b c d e f) (j : Int) else 0)) = gPart (thW a b c d e f) (onT c d) c.length j := by
      refine rat_ext (by simp [gPart]) fun i hi => ?_
      rw [List.length_map, ints_len] at hi
      rw [map_ints hi, List.take_zero, if_neg (by simp), Rat.add_zero]
    have h1 : (ints c.length).map (fun i => gI (gPart (thW a b c d e f) (onT c d) c.length j) i + (if (tailV c d (j : Int)).contains i = true then gI (thW a b c d e f) (j : Int) else 0)) = gPart (thW a b c d e f) (onT c d) c.length (j + 1) := by
      refine rat_ext (by simp [gPart]) fun i hi => ?_
      rw [List.length_map, ints_len] at hi
      rw [map_ints hi]
      unfold gPart
      rw [map_ints hi, map_ints hi, sumOf_succ]
      rfl
    rw [h0, h1, show ((0 : Nat) : Int) = 0 from rfl] at hin
    rw [lo_eq, carry_All_b250]
    simp only [RT.run]
    rw [if_pos (by simp; omega), if_pos (by rw [H.tailOK, decide_eq_true (by omega)]; rfl), hin, Option.bind_some, w64_in (by omega), show (j : Int) + 1 = ((j + 1 : Nat) : Int) by omega, ca_outer H m (j + 1) (by omega)]
def e_carry_All : Entry := io_carry_All.sp (fun (a, b, c, d, e, f) => (wOK a b c d e f)) (fun (a, b, c, d, e, f) => ((caV a b c d e f).map rq))
theorem sp_carry_All (h : ∀ (a : List Bool) (b : List Tk) (c : List Th) (d : List Lk) (e : List Int) (f : Int), WfT [.sl tB, .sl yK, .sl yH, .sl yL, .sl tI, tI] (a, b, c, d, e, f) → ((wOK a b c d e f)) = true → (carry_All (a, b, c, d, e, f)).run (fun _ => none) = some ((caV a b c d e f).map rq)) : e_carry_All.ok pg := sp_ok ok_carry_All fun (a, b, c, d, e, f) hw hc => h a b c d e f hw hc
theorem e_carry_All_ok : e_carry_All.ok pg := sp_carry_All fun a b c d e f _ hc => by
  obtain ⟨H, h8⟩ := wOK_iff hc
  have hlc := H.lenC
  have za := zero_c c.length (by omega) c.length 0 (by omega)
  rw [List.replicate_zero, List.nil_append, show ((0 : Nat) : Int) = 0 from rfl] at za
  have hra : ∀ n : Nat, (repI (n : Int) (([] : List Int), ([] : List Int))) = List.replicate n ([], []) := fun n => by unfold repI; rw [Int.toNat_natCast]
  have hl := ca_outer H c.length 0 (by omega)
  rw [show ((0 : Nat) : Int) = 0 from rfl] at hl
  rw [carry_All]
  simp only [RT.run]
  rw [if_pos hc, List.length_map, thW_len, if_pos (mkOK_iff.2 ⟨by omega, by omega, by omega⟩), hra, List.length_replicate, za, Option.bind_some]
  have h0 : List.replicate c.length (rq 0) = (gPart (thW a b c d e f) (onT c d) c.length 0).map rq := by
    rw [show List.replicate c.length (rq 0) = (List.replicate c.length 0).map rq from by rw [List.map_replicate]]
    congr 1
    refine rat_ext (by simp [gPart, ints]) fun j hj => ?_
    rw [List.length_replicate] at hj
    unfold gPart
    rw [map_ints hj]
    have := gI_rep (α := Rat) (n := c.length) (z := 0) (k := j) hj
    unfold repI at this
    rw [Int.toNat_natCast] at this
    rw [this]; rfl
  rw [h0, hl]
  rfl
def carry_At : ((List Bool) × (List Tk) × (List Th) × (List Lk) × (List Int) × Int × Int) → RT Unit ((List Int) × (List Int))
| (s_0, s_1, s_2, s_3, s_4, s_5, i) =>
 .rq 13 (.ite (!((getThread s_2 i)).2.2.2.2.2)
 (.rq 2 (.done ([], digs B32 1)))
 (.rq 1 (.req ((wOK s_0 s_1 s_2 s_3 s_4 s_5)) (.rq 1 (let t0 := ((caV s_0 s_1 s_2 s_3 s_4 s_5).map rq);
 .req (inB t0 i) (.rq 2 (let t1 := gI t0 i;
 .done (t1.1, t1.2))))))))
def F_carry_At (x : (List Bool) × (List Tk) × (List Th) × (List Lk) × (List Int) × Int × Int) : Option ((List Int) × (List Int)) := (carry_At x).run fun _ => none
def io_carry_At : Io := ⟨n_carry_At, [.sl tB, .sl yK, .sl yH, .sl yL, .sl tI, tI, tI], [.agg [qm 0, qm 1, qm 2, qm 3, qm 4, qm 5], .lf (qm 6)], [], [[.sl tB, .sl yK, .sl yH, .sl yL, .sl tI, tI], [tI]], [.sl tV, .sl tV], .agg [qm 0, qm 1], [], [], true⟩
def carry_At_P : List Piece := []
def carry_At_T : CallT := tab [e_carry_All, e_state_Thread, e_ratio_Zero]
theorem carry_At_To : SoundT pg carry_At_T := tab_sound ⟨e_carry_All_ok, e_state_Thread_ok, e_ratio_Zero_ok, trivial⟩
theorem carry_At_go : FnOK pg (carry_At_T) io_carry_At f_carry_At (carry_At_P) [.cellDat 64, .cellDen 64 [.sl tV, .sl tV]] (carry_At) := ⟨by kernel_rfl, by kernel_rfl, fun x => by kernel_rfl⟩
theorem ok_carry_At : io_carry_At.Okay pg (F_carry_At) := fn_ok pg_mixed (carry_At_To) (carry_At_go) trivial
def caAt (a : List Bool) (b : List Tk) (c : List Th) (d : List Lk) (e : List Int) (f : Int) (i : Int) : Rat := if inB c i = true then gI (caV a b c d e f) i else 0
def e_carry_At : Entry := io_carry_At.sp (fun (a, b, c, d, e, f, i) => (wOK a b c d e f)) (fun (a, b, c, d, e, f, i) => (rq (caAt a b c d e f i)))
theorem sp_carry_At (h : ∀ (a : List Bool) (b : List Tk) (c : List Th) (d : List Lk) (e : List Int) (f : Int) (i : Int), WfT [.sl tB, .sl yK, .sl yH, .sl yL, .sl tI, tI, tI] (a, b, c, d, e, f, i) → ((wOK a b c d e f)) = true → (carry_At (a, b, c, d, e, f, i)).run (fun _ => none) = some (rq (caAt a b c d e f i))) : e_carry_At.ok pg := sp_ok ok_carry_At fun (a, b, c, d, e, f, i) hw hc => h a b c d e f i hw hc
theorem e_carry_At_ok : e_carry_At.ok pg := sp_carry_At fun a b c d e f i _ hc => by
  obtain ⟨H, h8⟩ := wOK_iff hc
  rw [carry_At]
  simp only [RT.run]
  unfold caAt
  cases hu : usT c i with
  | false =>
    rw [getThread_no hu, if_pos (by decide)]
    cases hin : inB c i with
    | false => rfl
    | true =>
      rw [if_pos rfl, H.ca_zero (inB_iff.1 hin) hu]
      rfl
  | true =>
    have hin := usT_in hu
    rw [getThread_us hu, if_neg (by simp), if_pos hc, if_pos (inB_iff.2 (by rw [List.length_map, caV_len]; exact hin)), if_pos (inB_iff.2 hin), gI_map rq (by rw [caV_len]; exact hin)]
def carry_Ends_b26 : ((List Th) × Int) → (Int × (List Int)) → RT (Int × (List Int)) (List Int)
| (x6, x7), (x8, r2) =>
 .rq 1 (.ite (decide (x8 < x7))
 (.rq 1 (.req (inB x6 x8) (.rq 12 (let t0 := w64 (x8 + 1);
 .ite (((gI x6 x8).1 == 2) || ((gI x6 x8).1 == 3))
 (.rq 3 (.req (apOK 8 r2 [x8]) (.rq 3 (.again (t0, r2 ++ [x8])))))
 (.rq 2 (.again (t0, r2)))))))
 (.done r2))
def carry_Ends_p26 : Piece := ⟨26, true, [.sl yH, tI], [tI, .sl tI], ⟨[.keep [2, 6, 7, 8], .gc, .nilRow 2 800002 3 tI, .ren 2 700002, .ren 2 900002, .gc], [2, 6, 7, 8], [.lf (qr 900002), .lf (qi 0), .lf (qi 1), .lf (qm 0)], [(900002, true, .arr 3 (qm 1))]⟩, [⟨2, ⟨[.keep [2], .gc, .nilRow 2 800002 3 tI, .ren 2 700002, .ren 2 900002, .gc], [2], [.lf (qr 900002)], [(900002, true, .arr 3 (qm 0))]⟩, [.sl tI]⟩], carry_Ends_b26⟩
def carry_Ends : ((List Bool) × (List Tk) × (List Th) × (List Lk) × (List Int) × Int) → RT Unit (List Int)
| (s_0, s_1, s_2, s_3, s_4, s_5) =>
 .rq 6 (.call (lo carry_Ends_b26 (s_2, (s_2.length : Int)) (0, [])) default fun v0 =>
 .rq 2 (.done v0))
def F_carry_Ends (x : (List Bool) × (List Tk) × (List Th) × (List Lk) × (List Int) × Int) : Option (List Int) := (carry_Ends x).run fun _ => none
def io_carry_Ends : Io := ⟨n_carry_Ends, [.sl tB, .sl yK, .sl yH, .sl yL, .sl tI, tI], [.agg [qm 0, qm 1, qm 2, qm 3, qm 4, qm 5]], [], [[.sl tB, .sl yK, .sl yH, .sl yL, .sl tI, tI]], [.sl tI], .lf (qr 0), [], [(true, .arr 3 (qm 0))], false⟩
def carry_Ends_P : List Piece := [carry_Ends_p26]
def carry_Ends_T : CallT := tab []
theorem carry_Ends_To : SoundT pg carry_Ends_T := tab_sound trivial
theorem carry_Ends_k26 : (carry_Ends_p26).OK pg (carry_Ends_T) (tell 27 (carry_Ends_P)) (codeOf f_carry_Ends) 27 := ⟨by kernel_rfl, fun i x => by kernel_rfl⟩
theorem carry_Ends_go : FnOK pg (carry_Ends_T) io_carry_Ends f_carry_Ends (carry_Ends_P) [.nilRow 2 800002 3 tI, .ren 2 700002, .ren 2 900002] (carry_Ends) := ⟨by kernel_rfl, by kernel_rfl, fun x => by kernel_rfl⟩
theorem ok_carry_Ends : io_carry_Ends.Okay pg (F_carry_Ends) := fn_ok pg_mixed (carry_Ends_To) (carry_Ends_go) ⟨carry_Ends_k26, trivial⟩
def stE (c : List Th) (i : Int) : Bool := (gI c i).1 == 2 || (gI c i).1 == 3
def endsV (c : List Th) : List Int := (ints c.length).filter (stE c)
theorem range'_cons (i n : Nat) : (List.range' i (n + 1)).map (fun (k : Nat) => (k : Int)) = (i : Int) :: (List.range' (i + 1) n).map (fun (k : Nat) => (k : Int)) := by rw [List.range'_succ, List.map_cons]
theorem ends_loop (c : List Th) (hl : c.length ≤ 1000000) : ∀ (n i : Nat) (r : List Int), i + n = c.length → r.length ≤ i →
    lo carry_Ends_b26 (c, (c.length : Int)) ((i : Int), r) = some (r ++ ((List.range' i n).map fun (k : Nat) => (k : Int)).filter (stE c))
  | 0, i, r, h, _ => by
    rw [lo_eq, carry_Ends_b26]
    simp only [RT.run]
    rw [if_neg (by simp; omega)]
    simp
  | n + 1, i, r, h, hr => by
    rw [lo_eq, carry_Ends_b26]
    simp only [RT.run]
    rw [if_pos (by simp; omega), if_pos (inB_iff.2 ⟨by omega, by omega⟩), w64_in (by omega), show (i : Int) + 1 = ((i + 1 : Nat) : Int) by omega, range'_cons, List.filter_cons]
    by_cases hv : stE c (i : Int) = true
    · have hv' := hv
      unfold stE at hv'
      rw [if_pos hv', if_pos (ap_small (by decide) (by simp; omega)), ends_loop c hl n (i + 1) _ (by omega) (by simp; omega), if_pos hv]
      simp
    · have hv' := hv
      unfold stE at hv'
      rw [if_neg hv', ends_loop c hl n (i + 1) _ (by omega) (by omega), if_neg hv]
def e_carry_Ends : Entry := io_carry_Ends.sp (fun (a, b, c, d, e, f) => (decide (c.length ≤ 1000000))) (fun (a, b, c, d, e, f) => (endsV c))
theorem sp_carry_Ends (h : ∀ (a : List Bool) (b : List Tk) (c : List Th) (d : List Lk) (e : List Int) (f : Int), WfT [.sl tB, .sl yK, .sl yH, .sl yL, .sl tI, tI] (a, b, c, d, e, f) → ((decide (c.length ≤ 1000000))) = true → (carry_Ends (a, b, c, d, e, f)).run (fun _ => none) = some (endsV c)) : e_carry_Ends.ok pg := sp_ok ok_carry_Ends fun (a, b, c, d, e, f) hw hc => h a b c d e f hw hc
theorem e_carry_Ends_ok : e_carry_Ends.ok pg := sp_carry_Ends fun a b c d e f _ hc => by
  have hl := of_decide_eq_true hc
  rw [carry_Ends]
  simp only [RT.run]
  have := ends_loop c hl c.length 0 [] (by omega) (by simp)
  rw [show ((0 : Nat) : Int) = 0 from rfl, ← List.range_eq_range', List.nil_append] at this
  rw [this]
  rfl
def R19_Ends_b58 : (List Th) → (Int × (List Int)) → RT (Int × (List Int)) (List Int)
| s_2, (i, r3) =>
 .rq 5 (.ite (decide (i < (s_2.length : Int)))
 (.rq 3 (.req (inB s_2 i) (.rq 7 (let t0 := (gI s_2 i).1 == 2;
 .req ((inB s_2 i) || (!(!t0))) (.rq 4 (let t1 := w64 (i + 1);
 .ite (t0 || ((gI s_2 i).1 == 3))
 (.rq 3 (.req (apOK 8 r3 [i]) (.rq 4 (.again (t1, r3 ++ [i])))))
 (.rq 3 (.again (t1, r3)))))))))
 (.done r3))
def R19_Ends_p58 : Piece := ⟨58, true, [.sl tB, .sl yK, .sl yH, .sl yL, .sl tI, tI], [tI, .sl tI], ⟨[.keep [1, 3, 4], .gc, .nilRow 3 800003 3 tI, .ren 3 700003, .ren 3 900003, .gc], [1, 3, 4], [.lf (qp 16), .lf (qr 900003), .lf (qm 0)], [(16, true, .cells [qi 0, qi 1, qi 2, qi 3, qi 4, qi 5]), (900003, true, .arr 3 (qm 1))]⟩, [⟨2, ⟨[.keep [3], .gc, .nilRow 3 800003 3 tI, .ren 3 700003, .ren 3 900003, .gc], [3], [.lf (qr 900003)], [(900003, true, .arr 3 (qm 0))]⟩, [.sl tI]⟩], (fun i => R19_Ends_b58 i.2.2.1)⟩
def R19_Ends : ((List Bool) × (List Tk) × (List Th) × (List Lk) × (List Int) × Int) → RT Unit (List Int)
| (s_0, s_1, s_2, s_3, s_4, s_5) =>
 .rq 4 (.call (lo R19_Ends_b58 s_2 (0, [])) default fun v0 =>
 .rq 2 (.done v0))
def F_R19_Ends (x : (List Bool) × (List Tk) × (List Th) × (List Lk) × (List Int) × Int) : Option (List Int) := (R19_Ends x).run fun _ => none
def io_R19_Ends : Io := ⟨n_R19_Ends, [.sl tB, .sl yK, .sl yH, .sl yL, .sl tI, tI], [.agg [qm 0, qm 1, qm 2, qm 3, qm 4, qm 5]], [], [[.sl tB, .sl yK, .sl yH, .sl yL, .sl tI, tI]], [.sl tI], .lf (qr 0), [], [(true, .arr 3 (qm 0))], false⟩
def R19_Ends_P : List Piece := [R19_Ends_p58]
def R19_Ends_T : CallT := tab []
theorem R19_Ends_To : SoundT pg R19_Ends_T := tab_sound trivial
theorem R19_Ends_k58 : (R19_Ends_p58).OK pg (R19_Ends_T) (tell 33 (R19_Ends_P)) (codeOf f_R19_Ends) 33 := ⟨by kernel_rfl, fun i x => by kernel_rfl⟩
theorem R19_Ends_go : FnOK pg (R19_Ends_T) io_R19_Ends f_R19_Ends (R19_Ends_P) [.nilRow 2 800002 3 tI, .ren 2 700002, .ren 2 900002] (R19_Ends) := ⟨by kernel_rfl, by kernel_rfl, fun x => by kernel_rfl⟩
theorem ok_R19_Ends : io_R19_Ends.Okay pg (F_R19_Ends) := fn_ok pg_mixed (R19_Ends_To) (R19_Ends_go) ⟨R19_Ends_k58, trivial⟩
theorem endsR_loop (c : List Th) (hl : c.length ≤ 1000000) : ∀ (n i : Nat) (r : List Int), i + n = c.length → r.length ≤ i →
    lo R19_Ends_b58 c ((i : Int), r) = some (r ++ ((List.range' i n).map fun (k : Nat) => (k : Int)).filter (stE c))
  | 0, i, r, h, _ => by
    rw [lo_eq, R19_Ends_b58]
    simp only [RT.run]
    rw [if_neg (by simp; omega)]
    simp
  | n + 1, i, r, h, hr => by
    have hin : inB c (i : Int) = true := inB_iff.2 ⟨by omega, by omega⟩
    rw [lo_eq, R19_Ends_b58]
    simp only [RT.run]
    rw [if_pos (by simp; omega), if_pos hin, if_pos (by rw [hin]; rfl), w64_in (by omega), show (i : Int) + 1 = ((i + 1 : Nat) : Int) by omega, range'_cons, List.filter_cons]
    by_cases hv : stE c (i : Int) = true
    · have hv' := hv
      unfold stE at hv'
      rw [if_pos hv', if_pos (ap_small (by decide) (by simp; omega)), endsR_loop c hl n (i + 1) _ (by omega) (by simp; omega), if_pos hv]
      simp
    · have hv' := hv
      unfold stE at hv'
      rw [if_neg hv', endsR_loop c hl n (i + 1) _ (by omega) (by omega), if_neg hv]
def e_R19_Ends : Entry := io_R19_Ends.sp (fun (a, b, c, d, e, f) => (decide (c.length ≤ 1000000))) (fun (a, b, c, d, e, f) => (endsV c))
theorem sp_R19_Ends (h : ∀ (a : List Bool) (b : List Tk) (c : List Th) (d : List Lk) (e : List Int) (f : Int), WfT [.sl tB, .sl yK, .sl yH, .sl yL, .sl tI, tI] (a, b, c, d, e, f) → ((decide (c.length ≤ 1000000))) = true → (R19_Ends (a, b, c, d, e, f)).run (fun _ => none) = some (endsV c)) : e_R19_Ends.ok pg := sp_ok ok_R19_Ends fun (a, b, c, d, e, f) hw hc => h a b c d e f hw hc
theorem e_R19_Ends_ok : e_R19_Ends.ok pg := sp_R19_Ends fun a b c d e f _ hc => by
  have hl := of_decide_eq_true hc
  rw [R19_Ends]
  simp only [RT.run]
  have := endsR_loop c hl c.length 0 [] (by omega) (by simp)
  rw [show ((0 : Nat) : Int) = 0 from rfl, ← List.range_eq_range', List.nil_append] at this
  rw [this]
  rfl
def R11_Ints_b58 : ((List Int) × (List Int)) → Int → RT Int (LR Unit Unit)
| (a, b), i =>
 .rq 4 (.ite (decide (i < (a.length : Int)))
 (.rq 2 (.req (inB a i) (.rq 3 (.req (inB b i) (.rq 2 (.ite ((gI a i) != (gI b i))
 (.rq 1 (.done (.ex ())))
 (.rq 3 (.again (w64 (i + 1))))))))))
 (.done (.rt ())))
def R11_Ints_p58 : Piece := ⟨58, true, [.sl tI, .sl tI], [tI], ⟨[.keep [0, 1, 5], .gc], [0, 1, 5], [.lf (qi 0), .lf (qi 1), .lf (qm 0)], []⟩, [⟨1, ⟨[.keep [4], .gc], [4], [.lf (.fix (.bool false))], []⟩, []⟩, ⟨2, ⟨[.keep [], .gc], [], [], []⟩, []⟩], R11_Ints_b58⟩
def R11_Ints : ((List Int) × (List Int)) → RT Unit Bool
| (a, b) =>
 .rq 6 (.ite ((a.length : Int) != (b.length : Int))
 (.rq 1 (.done false))
 (.rq 1 (.call (lo R11_Ints_b58 (a, b) 0) default fun v0 =>
 .ite v0.isRt
 (.rq 1 (.done true))
 (.done false))))
def F_R11_Ints (x : (List Int) × (List Int)) : Option Bool := (R11_Ints x).run fun _ => none
def io_R11_Ints : Io := ⟨n_R11_Ints, [.sl tI, .sl tI], [.lf (qm 0), .lf (qm 1)], [], [[.sl tI], [.sl tI]], [tB], .lf (qm 0), [], [], false⟩
def R11_Ints_P : List Piece := [R11_Ints_p58]
def R11_Ints_T : CallT := tab []
theorem R11_Ints_To : SoundT pg R11_Ints_T := tab_sound trivial
theorem R11_Ints_k58 : (R11_Ints_p58).OK pg (R11_Ints_T) (tell 26 (R11_Ints_P)) (codeOf f_R11_Ints) 26 := ⟨by kernel_rfl, fun i x => by kernel_rfl⟩
theorem R11_Ints_go : FnOK pg (R11_Ints_T) io_R11_Ints f_R11_Ints (R11_Ints_P) [] (R11_Ints) := ⟨by kernel_rfl, by kernel_rfl, fun x => by kernel_rfl⟩
theorem ok_R11_Ints : io_R11_Ints.Okay pg (F_R11_Ints) := fn_ok pg_mixed (R11_Ints_To) (R11_Ints_go) ⟨R11_Ints_k58, trivial⟩
theorem ints_loop (a b : List Int) (hl : a.length = b.length) (ha : a.length ≤ 9223372036854775807) : ∀ (n i : Nat), i + n = a.length →
    lo R11_Ints_b58 (a, b) (i : Int) = some (if a.drop i = b.drop i then .rt () else .ex ())
  | 0, i, h => by
    rw [lo_eq, R11_Ints_b58]
    simp only [RT.run]
    rw [if_neg (by simp; omega), List.drop_eq_nil_of_le (by omega), List.drop_eq_nil_of_le (by omega), if_pos rfl]
  | n + 1, i, h => by
    have hi : i < a.length := by omega
    have hi' : i < b.length := by omega
    have ih := ints_loop a b hl ha n (i + 1) (by omega)
    rw [lo_eq, R11_Ints_b58]
    simp only [RT.run]
    rw [if_pos (by simp; omega), if_pos (inB_iff.2 ⟨by omega, by omega⟩), if_pos (inB_iff.2 ⟨by omega, by omega⟩), gI_lt hi, gI_lt hi', w64_in (by omega), show (i : Int) + 1 = ((i + 1 : Nat) : Int) by omega, ih, List.drop_eq_getElem_cons hi, List.drop_eq_getElem_cons hi']
    by_cases he : a[i] = b[i]
    · rw [he, if_neg (by simp)]
      simp only [List.cons.injEq, true_and]
    · rw [if_pos (by simpa using he), if_neg (fun h => he (List.cons.inj h).1)]
def e_R11_Ints : Entry := io_R11_Ints.sp (fun (a, b) => true) (fun (a, b) => (decide (a = b)))
theorem sp_R11_Ints (h : ∀ (a : List Int) (b : List Int), WfT [.sl tI, .sl tI] (a, b) → (R11_Ints (a, b)).run (fun _ => none) = some (decide (a = b))) : e_R11_Ints.ok pg := sp_ok ok_R11_Ints fun (a, b) hw hc => h a b hw
theorem e_R11_Ints_ok : e_R11_Ints.ok pg := sp_R11_Ints fun a b hw => by
  rw [R11_Ints]
  simp only [RT.run]
  by_cases hl : a.length = b.length
  · have hla : a.length ≤ 9223372036854775807 := hw.1.1
    rw [if_neg (by simp; omega)]
    have := ints_loop a b hl hla a.length 0 (by omega)
    rw [show ((0 : Nat) : Int) = 0 from rfl, List.drop_zero, List.drop_zero] at this
    rw [this, Option.bind_some]
    by_cases he : a = b
    · rw [if_pos he, decide_eq_true he]; rfl
    · rw [if_neg he, decide_eq_false he]; rfl
  · rw [if_pos (by simp; omega), decide_eq_false (fun h => hl (by rw [h]))]
def R16_Behind_b3730 : (Int × Bool × Int × Bool × (List Bool) × (List Tk) × (List Th) × (List Lk) × (List Int) × Int) → RT Unit Bool
| (i, near, k, is, s_0, s_1, s_2, s_3, s_4, s_5) =>
 .rq 1 (.ite near
 (.rq 2 (.req ((decide (s_2.length ≤ 1000000) && thrOK s_2 s_3)) (.rq 3 (.done (((nextR (thrArr s_2 s_3) k)) == i)))))
 (.done is))
def R16_Behind_p3730 : Piece := ⟨3730, false, [tI, tB, tI, tB, .sl tB, .sl yK, .sl yH, .sl yL, .sl tI, tI, .sl tI], [], ⟨[.keep [1, 2, 3, 7, 8, 9], .gc], [1, 2, 3, 7, 8, 9], [.lf (qi 0), .lf (qi 1), .lf (qp 48), .lf (qr 900007), .lf (qi 2), .lf (qi 3)], [(48, true, .cells [qi 4, qi 5, qi 6, qi 7, qi 8, qi 9]), (900007, true, .arr 3 (qi 10))]⟩, [⟨0, ⟨[.keep [1, 2, 3, 7, 8, 9], .gc, .nilRow 7 800007 3 tI, .ren 7 700007, .ren 7 900007, .gc], [1, 2, 3, 7, 8, 9], [.lf (qi 0), .lf (qi 1), .lf (qp 48), .lf (qr 900007), .lf (qi 2), .lf (qm 0)], [(48, true, .cells [qi 4, qi 5, qi 6, qi 7, qi 8, qi 9]), (900007, true, .arr 3 (qi 10))]⟩, [tB]⟩], (fun i _ => R16_Behind_b3730 (i.1, i.2.1, i.2.2.1, i.2.2.2.1, i.2.2.2.2.1, i.2.2.2.2.2.1, i.2.2.2.2.2.2.1, i.2.2.2.2.2.2.2.1, i.2.2.2.2.2.2.2.2.1, i.2.2.2.2.2.2.2.2.2.1))⟩
def R16_Behind_b58 : (Int × Bool × (List Bool) × (List Tk) × (List Th) × (List Lk) × (List Int) × Int) → (Int × (List Int)) → RT (Int × (List Int)) (List Int)
| (i, near, s_0, s_1, s_2, s_3, s_4, s_5), (k, r7) =>
 .rq 10 (.ite ((decide (k < (s_2.length : Int))) && ((inB s_2 i && (gI s_2 i).1 != 0)))
 (.rq 4 (.req ((decide (s_2.length ≤ 1000000) && thrOK s_2 s_3)) (.rq 1 (let t0 := (thrArr s_2 s_3);
 .req ((decide (t0.length ≤ 4000000) && (decide (0 ≤ (s_2.length : Int)) && decide ((s_2.length : Int) ≤ 1000000)) && (decide (0 ≤ k) && decide (k < (s_2.length : Int))))) (.rq 1 (let t1 := (reachV (s_2.length : Int).toNat t0 k.toNat);
 .req (inB t1 i) (.rq 2 (.call (on R16_Behind_b3730 (i, near, k, gI t1 i, s_0, s_1, s_2, s_3, s_4, s_5)) default fun v1 =>
 .rq 1 (let t2 := w64 (k + 1);
 .ite v1
 (.rq 3 (.req (apOK 8 r7 [k]) (.rq 4 (.again (t2, r7 ++ [k])))))
 (.rq 3 (.again (t2, r7))))))))))))
 (.done r7))
def R16_Behind_p58 : Piece := ⟨58, true, [tI, tB, .sl tB, .sl yK, .sl yH, .sl yL, .sl tI, tI], [tI, .sl tI], ⟨[.keep [1, 2, 3, 7, 8], .gc, .nilRow 7 800007 3 tI, .ren 7 700007, .ren 7 900007, .gc], [1, 2, 3, 7, 8], [.lf (qi 0), .lf (qi 1), .lf (qp 48), .lf (qr 900007), .lf (qm 0)], [(48, true, .cells [qi 2, qi 3, qi 4, qi 5, qi 6, qi 7]), (900007, true, .arr 3 (qm 1))]⟩, [⟨2, ⟨[.keep [7], .gc, .nilRow 7 800007 3 tI, .ren 7 700007, .ren 7 900007, .gc], [7], [.lf (qr 900007)], [(900007, true, .arr 3 (qm 0))]⟩, [.sl tI]⟩], R16_Behind_b58⟩
def R16_Behind : ((List Bool) × (List Tk) × (List Th) × (List Lk) × (List Int) × Int × Int × Bool) → RT Unit (List Int)
| (s_0, s_1, s_2, s_3, s_4, s_5, i, near) =>
 .rq 4 (.call (lo R16_Behind_b58 (i, near, s_0, s_1, s_2, s_3, s_4, s_5) (0, [])) default fun v2 =>
 .rq 2 (.done v2))
def F_R16_Behind (x : (List Bool) × (List Tk) × (List Th) × (List Lk) × (List Int) × Int × Int × Bool) : Option (List Int) := (R16_Behind x).run fun _ => none
def io_R16_Behind : Io := ⟨n_R16_Behind, [.sl tB, .sl yK, .sl yH, .sl yL, .sl tI, tI, tI, tB], [.agg [qm 0, qm 1, qm 2, qm 3, qm 4, qm 5], .lf (qm 6), .lf (qm 7)], [], [[.sl tB, .sl yK, .sl yH, .sl yL, .sl tI, tI], [tI], [tB]], [.sl tI], .lf (qr 0), [], [(true, .arr 3 (qm 0))], false⟩
def R16_Behind_P : List Piece := [R16_Behind_p3730, R16_Behind_p58]
def R16_Behind_T : CallT := tab [e_R13_Reach, e_R16_Next, e_R14_ThreadArrows, e_R14_Thread]
theorem R16_Behind_To : SoundT pg R16_Behind_T := tab_sound ⟨e_R13_Reach_ok, e_R16_Next_ok, e_R14_ThreadArrows_ok, e_R14_Thread_ok, trivial⟩
theorem R16_Behind_k3730 : (R16_Behind_p3730).OK pg (R16_Behind_T) (tell 44 (R16_Behind_P)) (codeOf f_R16_Behind) 44 := ⟨by kernel_rfl, fun i x => by kernel_rfl⟩
theorem R16_Behind_k58 : (R16_Behind_p58).OK pg (R16_Behind_T) (tell 44 (R16_Behind_P)) (codeOf f_R16_Behind) 44 := ⟨by kernel_rfl, fun i x => by kernel_rfl⟩
theorem R16_Behind_go : FnOK pg (R16_Behind_T) io_R16_Behind f_R16_Behind (R16_Behind_P) [.nilRow 6 800006 3 tI, .ren 6 700006, .ren 6 900006] (R16_Behind) := ⟨by kernel_rfl, by kernel_rfl, fun x => by kernel_rfl⟩
theorem ok_R16_Behind : io_R16_Behind.Okay pg (F_R16_Behind) := fn_ok pg_mixed (R16_Behind_To) (R16_Behind_go) ⟨R16_Behind_k3730, R16_Behind_k58, trivial⟩
open Classical in
def wayB (c : List Th) (d : List Lk) (i k : Int) : Bool := decide (Way c.length (thrArr c d) k.toNat i.toNat)
def behV (c : List Th) (d : List Lk) (i : Int) : List Int := if usT c i = true then (ints c.length).filter (wayB c d i) else []
theorem beh_loop (a : List Bool) (b : List Tk) (c : List Th) (d : List Lk) (e : List Int) (f : Int) {i : Int} (hu : usT c i = true) (hl : c.length ≤ 1000000) (hok : thrOK c d = true) : ∀ (n k : Nat) (r : List Int), k + n = c.length → r.length ≤ k →
    lo R16_Behind_b58 (i, false, a, b, c, d, e, f) ((k : Int), r) = some (r ++ ((List.range' k n).map fun (k : Nat) => (k : Int)).filter (wayB c d i))
  | 0, k, r, h, _ => by
    rw [lo_eq, R16_Behind_b58]
    simp only [RT.run]
    rw [if_neg (by simp; omega)]
    simp
  | n + 1, k, r, h, hr => by
    have hin := usT_in hu
    have ha := thrArr_len c d
    have hlen : (reachV c.length (thrArr c d) k).length = c.length := by simp [reachV]
    have hget : gI (reachV c.length (thrArr c d) k) i = wayB c d i (k : Int) := by
      obtain ⟨j, rfl⟩ := Int.eq_ofNat_of_zero_le hin.1
      have hj : j < c.length := by omega
      rw [gI_lt (by rw [hlen]; exact hj)]
      simp [reachV, wayB]
    have hb : on R16_Behind_b3730 (i, false, (k : Int), wayB c d i (k : Int), a, b, c, d, e, f) = some (wayB c d i (k : Int)) := by
      show (R16_Behind_b3730 _).run _ = _
      rw [R16_Behind_b3730]
      rfl
    rw [lo_eq, R16_Behind_b58]
    simp only [RT.run, Int.toNat_natCast]
    have hu' := hu
    unfold usT at hu'
    rw [if_pos (by rw [hu', decide_eq_true (by omega)]; rfl), if_pos (by rw [hok, decide_eq_true hl]; rfl), if_pos (by simp; omega), if_pos (inB_iff.2 (by rw [hlen]; exact hin)), hget, hb, Option.bind_some, w64_in (by omega), show (k : Int) + 1 = ((k + 1 : Nat) : Int) by omega, range'_cons, List.filter_cons]
    by_cases hv : wayB c d i (k : Int) = true
    · rw [if_pos hv, if_pos (ap_small (by decide) (by simp; omega)), beh_loop a b c d e f hu hl hok n (k + 1) _ (by omega) (by simp; omega), if_pos hv]
      simp
    · rw [if_neg hv, beh_loop a b c d e f hu hl hok n (k + 1) _ (by omega) (by omega), if_neg hv]
def e_R16_Behind : Entry := io_R16_Behind.sp (fun (a, b, c, d, e, f, i, near) => ((decide (c.length ≤ 1000000) && thrOK c d) && !near)) (fun (a, b, c, d, e, f, i, near) => (behV c d i))
theorem sp_R16_Behind (h : ∀ (a : List Bool) (b : List Tk) (c : List Th) (d : List Lk) (e : List Int) (f : Int) (i : Int) (near : Bool), WfT [.sl tB, .sl yK, .sl yH, .sl yL, .sl tI, tI, tI, tB] (a, b, c, d, e, f, i, near) → (((decide (c.length ≤ 1000000) && thrOK c d) && !near)) = true → (R16_Behind (a, b, c, d, e, f, i, near)).run (fun _ => none) = some (behV c d i)) : e_R16_Behind.ok pg := sp_ok ok_R16_Behind fun (a, b, c, d, e, f, i, near) hw hc => h a b c d e f i near hw hc
theorem e_R16_Behind_ok : e_R16_Behind.ok pg := sp_R16_Behind fun a b c d e f i near _ hc => by
  simp only [Bool.and_eq_true, decide_eq_true_eq, Bool.not_eq_true'] at hc
  obtain ⟨⟨hl, hok⟩, rfl⟩ := hc
  rw [R16_Behind]
  simp only [RT.run]
  unfold behV
  cases hu : usT c i with
  | true =>
    have := beh_loop a b c d e f hu hl hok c.length 0 [] (by omega) (by simp)
    rw [show ((0 : Nat) : Int) = 0 from rfl, ← List.range_eq_range', List.nil_append] at this
    rw [this]
    rfl
  | false =>
    rw [lo_eq, R16_Behind_b58]
    simp only [RT.run]
    unfold usT at hu
    rw [if_neg (by rw [hu]; simp)]
    rfl
def R19_At_b122 : ((List Bool) × (List Tk) × (List Th) × (List Lk) × (List Int) × Int × (List Int)) → (Int × (List Int) × (List Int)) → RT (Int × (List Int) × (List Int)) ((List Int) × (List Int))
| (s_0, s_1, s_2, s_3, s_4, s_5, r6), (k, r80, r81) =>
 .rq 4 (.ite (decide (k < (r6.length : Int)))
 (.rq 4 (.req (inB r6 k) (.rq 1 (.req ((wOK s_0 s_1 s_2 s_3 s_4 s_5)) (let t0 := (rQ (sumOf (worthV s_0 s_1 s_2 s_3 s_4 s_5).2 (isOf s_1 2 (gI r6 k)) (ints s_1.length)));
 .req (okq r80 r81 && okq t0.1 t0.2) (.rq 4 (let t1 := rQ (toQ16 r80 r81 + toQ16 t0.1 t0.2);
 .again (w64 (k + 1), t1.1, t1.2))))))))
 (.done (r80, r81)))
def R19_At_p122 : Piece := ⟨122, true, [.sl tB, .sl yK, .sl yH, .sl yL, .sl tI, tI, .sl tI], [tI, .sl tI, .sl tI], ⟨[.keep [2, 4, 5, 6, 7], .gc, .nilRow 6 800006 3 tI, .ren 6 700006, .ren 6 900006, .cellRow 80 0 600080 3 tI, .cellRow 80 1 600081 3 tI, .cellRen 80 0 600080, .cellRen 80 1 600081, .gc], [2, 4, 5, 6, 7], [.lf (qp 32), .lf (qp 64), .lf (qp 80), .lf (qr 900006), .lf (qm 0)], [(32, true, .cells [qi 0, qi 1, qi 2, qi 3, qi 4, qi 5]), (64, true, .cells [.fix (.nil), .fix (.nil)]), (80, true, .cells [qr 600080, qr 600081]), (900006, true, .arr 3 (qi 6)), (600080, true, .arr 3 (qm 1)), (600081, true, .arr 3 (qm 2))]⟩, [⟨2, ⟨[.keep [4, 5], .gc, .cellRow 80 0 600080 3 tI, .cellRow 80 1 600081 3 tI, .cellRen 80 0 600080, .cellRen 80 1 600081, .gc], [4, 5], [.lf (qp 64), .lf (qp 80)], [(64, true, .cells [.fix (.nil), .fix (.nil)]), (80, true, .cells [qr 600080, qr 600081]), (600080, true, .arr 3 (qm 0)), (600081, true, .arr 3 (qm 1))]⟩, [.sl tI, .sl tI]⟩], R19_At_b122⟩
def R19_At : ((List Bool) × (List Tk) × (List Th) × (List Lk) × (List Int) × Int × Int) → RT Unit ((List Int) × (List Int))
| (s_0, s_1, s_2, s_3, s_4, s_5, i) =>
 .rq 4 (.req ((wOK s_0 s_1 s_2 s_3 s_4 s_5)) (.rq 4 (.req (((decide (s_2.length ≤ 1000000) && thrOK s_2 s_3) && !false)) (.rq 2 (let t0 := (rQ (sumOf (worthV s_0 s_1 s_2 s_3 s_4 s_5).2 (isOf s_1 2 i) (ints s_1.length)));
 .call (lo R19_At_b122 (s_0, s_1, s_2, s_3, s_4, s_5, (behV s_2 s_3 i)) (0, t0.1, t0.2)) default fun v0 =>
 .rq 2 (.done (v0.1, v0.2)))))))
def F_R19_At (x : (List Bool) × (List Tk) × (List Th) × (List Lk) × (List Int) × Int × Int) : Option ((List Int) × (List Int)) := (R19_At x).run fun _ => none
def io_R19_At : Io := ⟨n_R19_At, [.sl tB, .sl yK, .sl yH, .sl yL, .sl tI, tI, tI], [.agg [qm 0, qm 1, qm 2, qm 3, qm 4, qm 5], .lf (qm 6)], [], [[.sl tB, .sl yK, .sl yH, .sl yL, .sl tI, tI], [tI]], [.sl tI, .sl tI], .agg [qr 0, qr 1], [], [(true, .arr 3 (qm 0)), (true, .arr 3 (qm 1))], false⟩
def R19_At_P : List Piece := [R19_At_p122]
def R19_At_T : CallT := tab [e_R16_Behind, e_R18_Thread, e_R04_Add]
theorem R19_At_To : SoundT pg R19_At_T := tab_sound ⟨e_R16_Behind_ok, e_R18_Thread_ok, e_R04_Add_ok, trivial⟩
theorem R19_At_k122 : (R19_At_p122).OK pg (R19_At_T) (tell 29 (R19_At_P)) (codeOf f_R19_At) 29 := ⟨by kernel_rfl, fun i x => by kernel_rfl⟩
theorem R19_At_go : FnOK pg (R19_At_T) io_R19_At f_R19_At (R19_At_P) [.cellRow 64 0 600064 3 tI, .cellRow 64 1 600065 3 tI, .cellRen 64 0 600064, .cellRen 64 1 600065] (R19_At) := ⟨by kernel_rfl, by kernel_rfl, fun x => by kernel_rfl⟩
theorem ok_R19_At : io_R19_At.Okay pg (F_R19_At) := fn_ok pg_mixed (R19_At_To) (R19_At_go) ⟨R19_At_k122, trivial⟩
theorem atR_loop {a : List Bool} {b : List Tk} {c : List Th} {d : List Lk} {e : List Int} {f : Int} (hw : wOK a b c d e f = true) (l : List Int) (hl : l.length ≤ 1000) (hs : ∀ k ∈ l, 0 ≤ k ∧ k < (c.length : Int)) : ∀ (n i m : Nat) (q : Rat), i + n = l.length → 0 ≤ q → sm m q → m + 501 * n ≤ 100000000 →
    lo R19_At_b122 (a, b, c, d, e, f, l) ((i : Int), (rQ q).1, (rQ q).2) = some (rQ (q + rsum ((l.drop i).map (gI (thW a b c d e f)))))
  | 0, i, m, q, h, _, _, _ => by
    rw [lo_eq, R19_At_b122]
    simp only [RT.run]
    rw [if_neg (by simp; omega), List.drop_eq_nil_of_le (by omega)]
    show some (rQ q) = some (rQ (q + 0))
    rw [Rat.add_zero]
  | n + 1, i, m, q, h, h0, hm, hb => by
    obtain ⟨H, h8⟩ := wOK_iff hw
    have hi : i < l.length := by omega
    have hk := hs _ (List.getElem_mem hi)
    obtain ⟨s2, s3⟩ := H.th_sm hk
    have ih := atR_loop hw l hl hs n (i + 1) _ (q + gI (thW a b c d e f) l[i]) (by omega) (Rat.add_nonneg h0 s2) (sm_add h0 s2 hm s3) (by omega)
    rw [lo_eq, R19_At_b122]
    simp only [RT.run]
    rw [if_pos (by simp; omega), if_pos (inB_iff.2 ⟨by omega, by omega⟩), gI_lt hi, hw, if_pos rfl, ← thW_get hk, okq_rQ hm (by omega), okq_rQ s3 (by decide), if_pos (by decide), w64_in (by omega), show (i : Int) + 1 = ((i + 1 : Nat) : Int) by omega, toQ16_rQ h0, toQ16_rQ s2]
    show lo R19_At_b122 _ (_, (rQ (q + gI (thW a b c d e f) l[i])).1, (rQ (q + gI (thW a b c d e f) l[i])).2) = _
    rw [ih, List.drop_eq_getElem_cons hi, List.map_cons, rsum_cons, Rat.add_assoc]
open Classical in
theorem ca_behind {a : List Bool} {b : List Tk} {c : List Th} {d : List Lk} {e : List Int} {f : Int} (H : Fine0 a b c d e f) {i : Int} (hi : 0 ≤ i ∧ i < (c.length : Int)) : gI (thW a b c d e f) i + rsum ((behV c d i).map (gI (thW a b c d e f))) = gI (caV a b c d e f) i := by
  cases hu : usT c i with
  | false =>
    have : behV c d i = [] := by unfold behV; rw [hu]; rfl
    rw [this, H.th_zero hi hu, H.ca_zero hi hu]
    exact Rat.add_zero 0
  | true =>
    have hb : behV c d i = (ints c.length).filter (wayB c d i) := by unfold behV; rw [if_pos hu]
    rw [caV_get hi, hb]
    unfold sumOf
    have hp : ((ints c.length).filter (onT c d i)).Perm (i :: (ints c.length).filter (wayB c d i)) := by
      have hself : wayB c d i i = false := decide_eq_false (no_way H.noT _)
      refine (List.perm_ext_iff_of_nodup (ints_nodup.sublist List.filter_sublist) (List.nodup_cons.2 ⟨fun h => (by
        have := (List.mem_filter.1 h).2
        rw [hself] at this; cases this), ints_nodup.sublist List.filter_sublist⟩)).2 fun k => ?_
      rw [List.mem_filter, List.mem_cons, List.mem_filter, mem_ints]
      have hon : ∀ k : Int, 0 ≤ k ∧ k < (c.length : Int) → (onT c d i k = true ↔ (usT c k = true ∧ (i = k ∨ wayB c d i k = true))) := fun k hk => by
        obtain ⟨_, _, f3, f4⟩ := H.tail_facts k
        unfold onT wayB
        rw [List.contains_iff_mem, decide_eq_true_eq]
        cases huk : usT c k with
        | false => rw [f4 huk]; simp
        | true => rw [f3 huk i hi.1]; simp
      constructor
      · rintro ⟨h1, h2⟩
        rcases ((hon k h1).1 h2).2 with h | h
        · exact .inl h.symm
        · exact .inr ⟨h1, h⟩
      · rintro (h | ⟨h1, h2⟩)
        · subst h
          exact ⟨hi, (hon _ hi).2 ⟨hu, .inl rfl⟩⟩
        · refine ⟨h1, (hon k h1).2 ⟨?_, .inr h2⟩⟩
          have hw : Way c.length (thrArr c d) k.toNat i.toNat := of_decide_eq_true h2
          have : usT c ((k.toNat : Nat) : Int) = true := by
            cases hw with
            | one h => exact (arr_next h).2.1
            | more h _ => exact (arr_next h).2.1
          rwa [Int.toNat_of_nonneg h1.1] at this
    rw [rsum_perm (hp.map _), List.map_cons, rsum_cons]
def e_R19_At : Entry := io_R19_At.sp (fun (a, b, c, d, e, f, i) => (wOK a b c d e f && inB c i)) (fun (a, b, c, d, e, f, i) => (rQ (gI (caV a b c d e f) i)))
theorem sp_R19_At (h : ∀ (a : List Bool) (b : List Tk) (c : List Th) (d : List Lk) (e : List Int) (f : Int) (i : Int), WfT [.sl tB, .sl yK, .sl yH, .sl yL, .sl tI, tI, tI] (a, b, c, d, e, f, i) → ((wOK a b c d e f && inB c i)) = true → (R19_At (a, b, c, d, e, f, i)).run (fun _ => none) = some (rQ (gI (caV a b c d e f) i))) : e_R19_At.ok pg := sp_ok ok_R19_At fun (a, b, c, d, e, f, i) hw hc => h a b c d e f i hw hc
theorem e_R19_At_ok : e_R19_At.ok pg := sp_R19_At fun a b c d e f i _ hc => by
  rw [Bool.and_eq_true] at hc
  obtain ⟨H, h8⟩ := wOK_iff hc.1
  have hi := inB_iff.1 hc.2
  have hlc := H.lenC
  obtain ⟨s1, s2⟩ := H.th_sm hi
  have hbl : (behV c d i).length ≤ c.length := by
    unfold behV
    split
    · have := List.length_filter_le (wayB c d i) (ints c.length)
      rwa [ints_len] at this
    · simp
  have hbm : ∀ k ∈ behV c d i, 0 ≤ k ∧ k < (c.length : Int) := fun k hk => by
    unfold behV at hk
    split at hk
    · exact mem_ints.1 (List.mem_filter.1 hk).1
    · cases hk
  have hl := atR_loop hc.1 (behV c d i) (by omega) hbm (behV c d i).length 0 500 (gI (thW a b c d e f) i) (by omega) s1 s2 (by omega)
  rw [show ((0 : Nat) : Int) = 0 from rfl, List.drop_zero, ca_behind H hi] at hl
  rw [R19_At]
  simp only [RT.run]
  rw [if_pos hc.1, if_pos (by rw [thr_of_threads H.ths, decide_eq_true (show c.length ≤ 1000000 by omega)]; rfl), ← thW_get hi, hl]
  rfl
def law19_share : (Int × Int) → RT Unit (Bool × Int × Int × Int × Int × Bool)
| (amount, to) =>
 .rq 5 (.done (true, 0, amount, 1, to, true))
def F_law19_share (x : Int × Int) : Option (Bool × Int × Int × Int × Int × Bool) := (law19_share x).run fun _ => none
def io_law19_share : Io := ⟨n_law19_share, [tI, tI], [.lf (qm 0), .lf (qm 1)], [], [[tI], [tI]], [tB, tI, tI, tI, tI, tB], .agg [qm 0, qm 1, qm 2, qm 3, qm 4, qm 5], [], [], false⟩
def law19_share_P : List Piece := []
def law19_share_T : CallT := tab []
theorem law19_share_To : SoundT pg law19_share_T := tab_sound trivial
theorem law19_share_go : FnOK pg (law19_share_T) io_law19_share f_law19_share (law19_share_P) [] (law19_share) := ⟨by kernel_rfl, by kernel_rfl, fun x => by kernel_rfl⟩
theorem ok_law19_share : io_law19_share.Okay pg (F_law19_share) := fn_ok pg_mixed (law19_share_To) (law19_share_go) trivial
def e_law19_share : Entry := io_law19_share.sp (fun (a, b) => true) (fun (a, b) => ((true, 0, a, 1, b, true)))
theorem sp_law19_share (h : ∀ (a : Int) (b : Int), WfT [tI, tI] (a, b) → (law19_share (a, b)).run (fun _ => none) = some ((true, 0, a, 1, b, true))) : e_law19_share.ok pg := sp_ok ok_law19_share fun (a, b) hw hc => h a b hw
theorem e_law19_share_ok : e_law19_share.ok pg := sp_law19_share fun a b _ => by
  rw [law19_share]; rfl
def carry_Total_b58 : (Int × (List ((List Int) × List Int)) × (List Int)) → (Int × (List Int) × (List Int)) → RT (Int × (List Int) × (List Int)) ((List Int) × (List Int))
| (x12, r3, r11), (x13, r64, r65) =>
 .rq 1 (.ite (decide (x13 < x12))
 (.req (inB r11 x13) (.rq 5 (.req (inB r3 (gI r11 x13)) (.rq 2 (let t0 := gI r3 (gI r11 x13);
 let t1 := [(r64, r65), (t0.1, t0.2)];
 .req (okS t1) (.rq 3 (let t2 := rq (sumQ t1);
 .again (w64 (x13 + 1), t2.1, t2.2))))))))
 (.done (r64, r65)))
def carry_Total_p58 : Piece := ⟨58, true, [tI, .sl (.pair (.sl tV) (.sl tV)), .sl tI], [tI, .sl tV, .sl tV], ⟨[.keep [2, 3, 4, 11, 12, 13], .gc, .nilRow 3 800003 41 (.pair (.sl tV) (.sl tV)), .nilRow 11 800011 3 tI, .ren 3 700003, .ren 11 700011, .ren 3 900003, .ren 11 900011, .cellRow 64 0 600064 122 tV, .cellRow 64 1 600065 122 tV, .cellRen 64 0 600064, .cellRen 64 1 600065, .gc], [2, 3, 4, 11, 12, 13], [.lf (qp 32), .lf (qr 900003), .lf (qp 64), .lf (qr 900011), .lf (qi 0), .lf (qm 0)], [(32, true, .cells [.fix (.nil), .fix (.nil)]), (900003, true, .arr 41 (qi 1)), (64, true, .cells [qr 600064, qr 600065]), (900011, true, .arr 3 (qi 2)), (600064, true, .arr 122 (qm 1)), (600065, true, .arr 122 (qm 2))]⟩, [⟨2, ⟨[.keep [2, 4], .gc, .cellRow 64 0 600064 122 tV, .cellRow 64 1 600065 122 tV, .cellRen 64 0 600064, .cellRen 64 1 600065, .gc], [2, 4], [.lf (qp 32), .lf (qp 64)], [(32, true, .cells [.fix (.nil), .fix (.nil)]), (64, true, .cells [qr 600064, qr 600065]), (600064, true, .arr 122 (qm 0)), (600065, true, .arr 122 (qm 1))]⟩, [.sl tV, .sl tV]⟩], carry_Total_b58⟩
def carry_Total : ((List Bool) × (List Tk) × (List Th) × (List Lk) × (List Int) × Int) → RT Unit ((List Int) × (List Int))
| (s_0, s_1, s_2, s_3, s_4, s_5) =>
 .rq 3 (.req ((wOK s_0 s_1 s_2 s_3 s_4 s_5)) (.rq 5 (.req ((decide (s_2.length ≤ 1000000))) (.rq 2 (let t0 := (endsV s_2);
 .call (lo carry_Total_b58 ((t0.length : Int), ((caV s_0 s_1 s_2 s_3 s_4 s_5).map rq), t0) (0, [], digs B32 1)) default fun v0 =>
 .rq 2 (.done (v0.1, v0.2)))))))
def F_carry_Total (x : (List Bool) × (List Tk) × (List Th) × (List Lk) × (List Int) × Int) : Option ((List Int) × (List Int)) := (carry_Total x).run fun _ => none
def io_carry_Total : Io := ⟨n_carry_Total, [.sl tB, .sl yK, .sl yH, .sl yL, .sl tI, tI], [.agg [qm 0, qm 1, qm 2, qm 3, qm 4, qm 5]], [], [[.sl tB, .sl yK, .sl yH, .sl yL, .sl tI, tI]], [.sl tV, .sl tV], .agg [qr 0, qr 1], [], [(true, .arr 122 (qm 0)), (true, .arr 122 (qm 1))], false⟩
def carry_Total_P : List Piece := [carry_Total_p58]
def carry_Total_T : CallT := tab [e_carry_Ends, e_carry_All, e_ratio_Add, e_ratio_Zero]
theorem carry_Total_To : SoundT pg carry_Total_T := tab_sound ⟨e_carry_Ends_ok, e_carry_All_ok, e_ratio_Add_ok, e_ratio_Zero_ok, trivial⟩
theorem carry_Total_k58 : (carry_Total_p58).OK pg (carry_Total_T) (tell 26 (carry_Total_P)) (codeOf f_carry_Total) 26 := ⟨by kernel_rfl, fun i x => by kernel_rfl⟩
theorem carry_Total_go : FnOK pg (carry_Total_T) io_carry_Total f_carry_Total (carry_Total_P) [.cellRow 32 0 600032 122 tV, .cellRow 32 1 600033 122 tV, .cellRen 32 0 600032, .cellRen 32 1 600033] (carry_Total) := ⟨by kernel_rfl, by kernel_rfl, fun x => by kernel_rfl⟩
theorem ok_carry_Total : io_carry_Total.Okay pg (F_carry_Total) := fn_ok pg_mixed (carry_Total_To) (carry_Total_go) ⟨carry_Total_k58, trivial⟩
theorem tot_loop (X : List Rat) (l : List Int) (hl : l.length ≤ 1000) (hs : ∀ k ∈ l, (0 ≤ k ∧ k < (X.length : Int)) ∧ 0 ≤ gI X k ∧ sm 500 (gI X k)) : ∀ (n i m : Nat) (q : Rat), i + n = l.length → 0 ≤ q → sm m q → m + 501 * n ≤ 1000000 →
    lo carry_Total_b58 ((l.length : Int), X.map rq, l) ((i : Int), (rq q).1, (rq q).2) = some (rq (q + rsum ((l.drop i).map (gI X))))
  | 0, i, m, q, h, _, _, _ => by
    rw [lo_eq, carry_Total_b58]
    simp only [RT.run]
    rw [if_neg (by simp; omega), List.drop_eq_nil_of_le (by omega)]
    show some (rq q) = some (rq (q + 0))
    rw [Rat.add_zero]
  | n + 1, i, m, q, h, h0, hm, hb => by
    have hi : i < l.length := by omega
    obtain ⟨hk, s2, s3⟩ := hs _ (List.getElem_mem hi)
    have ih := tot_loop X l hl hs n (i + 1) _ (q + gI X l[i]) (by omega) (Rat.add_nonneg h0 s2) (sm_add h0 s2 hm s3) (by omega)
    rw [lo_eq, carry_Total_b58]
    simp only [RT.run, gI_lt hi, gI_map rq hk, pe]
    rw [if_pos (by simp; omega), if_pos (inB_iff.2 ⟨by omega, by omega⟩), if_pos (inB_iff.2 (by rw [List.length_map]; exact hk)), okS2 hm s3 (by omega) (by decide), if_pos rfl, sumQ2 h0 s2, w64_in (by omega), show (i : Int) + 1 = ((i + 1 : Nat) : Int) by omega]
    show lo carry_Total_b58 _ (_, (rq (q + gI X l[i])).1, (rq (q + gI X l[i])).2) = _
    rw [ih, List.drop_eq_getElem_cons hi, List.map_cons, rsum_cons, Rat.add_assoc]
def e_carry_Total : Entry := io_carry_Total.sp (fun (a, b, c, d, e, f) => (wOK a b c d e f)) (fun (a, b, c, d, e, f) => (rq (rsum ((endsV c).map (gI (caV a b c d e f))))))
theorem sp_carry_Total (h : ∀ (a : List Bool) (b : List Tk) (c : List Th) (d : List Lk) (e : List Int) (f : Int), WfT [.sl tB, .sl yK, .sl yH, .sl yL, .sl tI, tI] (a, b, c, d, e, f) → ((wOK a b c d e f)) = true → (carry_Total (a, b, c, d, e, f)).run (fun _ => none) = some (rq (rsum ((endsV c).map (gI (caV a b c d e f)))))) : e_carry_Total.ok pg := sp_ok ok_carry_Total fun (a, b, c, d, e, f) hw hc => h a b c d e f hw hc
theorem e_carry_Total_ok : e_carry_Total.ok pg := sp_carry_Total fun a b c d e f _ hc => by
  obtain ⟨H, h8⟩ := wOK_iff hc
  have hlc := H.lenC
  have hel : (endsV c).length ≤ c.length := by
    have := List.length_filter_le (stE c) (ints c.length)
    rwa [ints_len] at this
  have hl := tot_loop (caV a b c d e f) (endsV c) (by omega) (fun k hk => by
    have hk' := mem_ints.1 (List.mem_filter.1 hk).1
    have := H.ca_sm hk'
    exact ⟨by rw [caV_len]; exact hk', this.1, this.2.1⟩) (endsV c).length 0 1 0 (by omega) (by decide) (sm_zero _ (by decide)) (by omega)
  rw [show ((0 : Nat) : Int) = 0 from rfl, List.drop_zero, Rat.zero_add] at hl
  rw [carry_Total]
  simp only [RT.run]
  rw [if_pos hc, if_pos (decide_eq_true (by omega))]
  show (lo carry_Total_b58 _ (0, (rq 0).1, (rq 0).2)).bind _ = _
  rw [hl]
  rfl
def law19_alive_b126 : (Int × (List ((List Int) × List Int)) × (List Bool) × (List Tk) × (List Th)) → RT Unit Bool
| (s_5, x16, x7, x10, x13) =>
 .rq 4 (let t0 := (wOK x7 x10 x13 [] [] s_5);
 let t1 := (rq (rsum ((endsV x13).map (gI (caV x7 x10 x13 [] [] s_5)))));
 let t2 := (wOK x7 x10 x13 [] [] s_5);
 let t3 := (rq (caAt x7 x10 x13 [] [] s_5 (5 : Int)));
 let t4 := isM 38 (rQ (((4 : Int).toNat : Nat) : Rat)).1 && isM 38 (rQ (((4 : Int).toNat : Nat) : Rat)).2;
 let t5 := decide ((gI x16 1).1 = digs B32 (val B16 (rQ (((4 : Int).toNat : Nat) : Rat)).1)) && decide ((gI x16 1).2 = digs B32 (val B16 (rQ (((4 : Int).toNat : Nat) : Rat)).2));
 let t6 := isM 38 (rQ (((7 : Int).toNat : Nat) : Rat)).1 && isM 38 (rQ (((7 : Int).toNat : Nat) : Rat)).2;
 let t7 := decide (t1.1 = digs B32 (val B16 (rQ (((7 : Int).toNat : Nat) : Rat)).1)) && decide (t1.2 = digs B32 (val B16 (rQ (((7 : Int).toNat : Nat) : Rat)).2));
 let t8 := isM 38 (rQ (((0 : Int).toNat : Nat) : Rat)).1 && isM 38 (rQ (((0 : Int).toNat : Nat) : Rat)).2;
 let t9 := decide (t3.1 = digs B32 (val B16 (rQ (((0 : Int).toNat : Nat) : Rat)).1)) && decide (t3.2 = digs B32 (val B16 (rQ (((0 : Int).toNat : Nat) : Rat)).2));
 .ite ((x16.length : Int) == 2)
 (.rq 1 (.req (inB x16 0) (.rq 2 (.req (isM 38 (rQ (((7 : Int).toNat : Nat) : Rat)).1 && isM 38 (rQ (((7 : Int).toNat : Nat) : Rat)).2) (.rq 2 (.ite (decide ((gI x16 0).1 = digs B32 (val B16 (rQ (((7 : Int).toNat : Nat) : Rat)).1)) && decide ((gI x16 0).2 = digs B32 (val B16 (rQ (((7 : Int).toNat : Nat) : Rat)).2)))
 (.rq 1 (.req (inB x16 1) (.rq 2 (.req t4 (.rq 2 (.ite t5
 (.rq 1 (.req t0 (.rq 1 (.req t6 (.rq 2 (.ite t7
 (.rq 1 (.req t2 (.rq 1 (.req t8 (.rq 2 (.done t9))))))
 (.rq 2 (.done false))))))))
 (.rq 2 (.ite false
 (.rq 1 (.req t2 (.rq 1 (.req t8 (.rq 2 (.done t9))))))
 (.rq 2 (.done false))))))))))
 (.rq 2 (.ite false
 (.rq 1 (.req t0 (.rq 1 (.req t6 (.rq 2 (.ite t7
 (.rq 1 (.req t2 (.rq 1 (.req t8 (.rq 2 (.done t9))))))
 (.rq 2 (.done false))))))))
 (.rq 2 (.ite false
 (.rq 1 (.req t2 (.rq 1 (.req t8 (.rq 2 (.done t9))))))
 (.rq 2 (.done false))))))))))))
 (.rq 2 (.ite false
 (.rq 1 (.req (inB x16 1) (.rq 2 (.req t4 (.rq 2 (.ite t5
 (.rq 1 (.req t0 (.rq 1 (.req t6 (.rq 2 (.ite t7
 (.rq 1 (.req t2 (.rq 1 (.req t8 (.rq 2 (.done t9))))))
 (.rq 2 (.done false))))))))
 (.rq 2 (.ite false
 (.rq 1 (.req t2 (.rq 1 (.req t8 (.rq 2 (.done t9))))))
 (.rq 2 (.done false))))))))))
 (.rq 2 (.ite false
 (.rq 1 (.req t0 (.rq 1 (.req t6 (.rq 2 (.ite t7
 (.rq 1 (.req t2 (.rq 1 (.req t8 (.rq 2 (.done t9))))))
 (.rq 2 (.done false))))))))
 (.rq 2 (.ite false
 (.rq 1 (.req t2 (.rq 1 (.req t8 (.rq 2 (.done t9))))))
 (.rq 2 (.done false)))))))))
def law19_alive_p126 : Piece := ⟨126, false, [tI, .sl (.pair (.sl tV) (.sl tV)), .sl tB, .sl yK, .sl yH], [], ⟨[.keep [3, 4], .gc], [3, 4], [.lf (qp 48), .lf (qr 257)], [(48, true, .cells [qr 112, qr 160, qr 208, .fix (.nil), .fix (.nil), qi 0]), (257, true, .arr 41 (qi 1)), (112, false, .arr 4 (qi 2)), (160, false, .arr 97 (qi 3)), (208, false, .arr 82 (qi 4))]⟩, [⟨0, ⟨[.keep [0], .gc], [0], [.lf (qm 0)], []⟩, [tB]⟩], (fun i _ => law19_alive_b126 i)⟩
def law19_alive : Unit → RT Unit Bool
| _ =>
 .rq 18 (let t0 := [(2, (-1), 1, 1, 1), (4, 0, (-1), 1, 1)];
 let t1 := [((((true, 0, (3 : Int), 1, (0 : Int), true))).1, (((true, 0, (3 : Int), 1, (0 : Int), true))).2.1, (((true, 0, (3 : Int), 1, (0 : Int), true))).2.2.1, (((true, 0, (3 : Int), 1, (0 : Int), true))).2.2.2.1, (((true, 0, (3 : Int), 1, (0 : Int), true))).2.2.2.2.1, (((true, 0, (3 : Int), 1, (0 : Int), true))).2.2.2.2.2), ((((true, 0, (4 : Int), 1, (1 : Int), true))).1, (((true, 0, (4 : Int), 1, (1 : Int), true))).2.1, (((true, 0, (4 : Int), 1, (1 : Int), true))).2.2.1, (((true, 0, (4 : Int), 1, (1 : Int), true))).2.2.2.1, (((true, 0, (4 : Int), 1, (1 : Int), true))).2.2.2.2.1, (((true, 0, (4 : Int), 1, (1 : Int), true))).2.2.2.2.2)];
 .req ((wOK [true] t1 t0 [] [] (5 : Int))) (.rq 1 (.call (on law19_alive_b126 (5, ((caV [true] t1 t0 [] [] (5 : Int)).map rq), [true], t1, t0)) default fun v0 =>
 .done v0)))
def F_law19_alive (x : Unit) : Option Bool := (law19_alive x).run fun _ => none
def io_law19_alive : Io := ⟨n_law19_alive, [], [], [], [], [tB], .lf (qm 0), [], [], false⟩
def law19_alive_P : List Piece := [law19_alive_p126]
def law19_alive_T : CallT := tab [e_carry_Total, e_law19_share, e_carry_At, e_carry_All, e_R04_Same, e_R04_Int]
theorem law19_alive_To : SoundT pg law19_alive_T := tab_sound ⟨e_carry_Total_ok, e_law19_share_ok, e_carry_At_ok, e_carry_All_ok, e_R04_Same_ok, e_R04_Int_ok, trivial⟩
theorem law19_alive_k126 : (law19_alive_p126).OK pg (law19_alive_T) (tell 46 (law19_alive_P)) (codeOf f_law19_alive) 46 := ⟨by kernel_rfl, fun i x => by kernel_rfl⟩
theorem law19_alive_go : FnOK pg (law19_alive_T) io_law19_alive f_law19_alive (law19_alive_P) [] (law19_alive) := ⟨by kernel_rfl, by kernel_rfl, fun x => by kernel_rfl⟩
theorem ok_law19_alive : io_law19_alive.Okay pg (F_law19_alive) := fn_ok pg_mixed (law19_alive_To) (law19_alive_go) ⟨law19_alive_k126, trivial⟩
def e_law19_alive : Entry := io_law19_alive.sp (fun _ => true) (fun _ => true)
theorem sp_law19_alive (h : (law19_alive ()).run (fun _ => none) = some true) : e_law19_alive.ok pg := sp_ok ok_law19_alive fun _ _ hc => h
theorem e_law19_alive_ok : e_law19_alive.ok pg := sp_law19_alive (by kernel_rfl)
def law19_CarryTells_b122 : ((List Bool) × (List Tk) × (List Th) × (List Lk) × (List Int) × Int) → (Int × (List ((List Int) × List Int))) → RT (Int × (List ((List Int) × List Int))) (List ((List Int) × List Int))
| (i_0, i_1, i_2, i_3, i_4, i_5), (x6, r5) =>
 .rq 5 (.ite (decide (x6 < (i_2.length : Int)))
 (.rq 3 (.req ((wOK i_0 i_1 i_2 i_3 i_4 i_5 && inB i_2 x6)) (.rq 1 (let t0 := (rQ (gI (caV i_0 i_1 i_2 i_3 i_4 i_5) x6));
 let t1 := [(t0.1, t0.2)];
 .req (apOK 48 r5 t1) (.rq 4 (.again (w64 (x6 + 1), r5 ++ t1)))))))
 (.done r5))
def law19_CarryTells_p122 : Piece := ⟨122, true, [tI, .sl tB, .sl yK, .sl yH, .sl yL, .sl tI, tI], [tI, .sl (.pair (.sl tI) (.sl tI))], ⟨[.keep [1, 2, 5, 6], .gc, .nilRow 5 800005 35 (.pair (.sl tI) (.sl tI)), .ren 5 700005, .ren 5 900005, .gc], [1, 2, 5, 6], [.lf (qi 0), .lf (qp 32), .lf (qr 900005), .lf (qm 0)], [(32, true, .cells [qi 1, qi 2, qi 3, qi 4, qi 5, qi 6]), (900005, true, .arr 35 (qm 1))]⟩, [⟨2, ⟨[.keep [1, 2, 5], .gc, .nilRow 5 800005 35 (.pair (.sl tI) (.sl tI)), .ren 5 700005, .ren 5 900005, .gc], [1, 2, 5], [.lf (qi 0), .lf (qp 32), .lf (qr 900005)], [(32, true, .cells [qi 1, qi 2, qi 3, qi 4, qi 5, qi 6]), (900005, true, .arr 35 (qm 0))]⟩, [.sl (.pair (.sl tI) (.sl tI))]⟩], (fun i => law19_CarryTells_b122 (i.2.1, i.2.2.1, i.2.2.2.1, i.2.2.2.2.1, i.2.2.2.2.2.1, i.2.2.2.2.2.2))⟩
def law19_CarryTells_b126 : (Int × (List ((List Int) × List Int)) × (List Int) × (List Int)) → RT Unit ((List Int) × (List Int))
| (l, r5, P, P_2) =>
 .rq 8 (.ite ((decide (0 ≤ l)) && (decide (l < (r5.length : Int))))
 (.rq 2 (.req (inB r5 l) (.rq 2 (.done ((gI r5 l).1, (gI r5 l).2)))))
 (.done (P, P_2)))
def law19_CarryTells_p126 : Piece := ⟨126, false, [tI, .sl tB, .sl yK, .sl yH, .sl yL, .sl tI, tI, .sl (.pair (.sl tI) (.sl tI)), .sl tI, .sl tI], [], ⟨[.keep [1, 2, 5, 7], .gc], [1, 2, 5, 7], [.lf (qi 0), .lf (qp 32), .lf (qr 900005), .lf (qp 112)], [(32, true, .cells [qi 1, qi 2, qi 3, qi 4, qi 5, qi 6]), (900005, true, .arr 35 (qi 7)), (112, true, .cells [qr 561, qr 562]), (561, true, .arr 3 (qi 8)), (562, true, .arr 3 (qi 9))]⟩, [⟨0, ⟨[.keep [1, 2, 5, 7], .gc, .cellDat 112, .cellDen 112 [.sl tI, .sl tI], .nilRow 5 800005 35 (.pair (.sl tI) (.sl tI)), .ren 5 700005, .ren 5 900005, .gc], [1, 2, 5, 7], [.lf (qi 0), .lf (qp 32), .lf (qr 900005), .lf (qp 112)], [(32, true, .cells [qi 1, qi 2, qi 3, qi 4, qi 5, qi 6]), (900005, true, .arr 35 (qi 7)), (112, true, .cells [qm 0, qm 1])]⟩, [.sl tI, .sl tI]⟩], (fun i _ => law19_CarryTells_b126 (i.1, i.2.2.2.2.2.2.2.1, i.2.2.2.2.2.2.2.2.1, i.2.2.2.2.2.2.2.2.2))⟩
def law19_CarryTells_b254 : (Int × (List Bool) × (List Tk) × (List Th) × (List Lk) × (List Int) × Int × (List ((List Int) × List Int)) × (List Int) × (List Int)) → RT Unit Bool
| (l, i_0, i_1, i_2, i_3, i_4, i_5, r5, L_0, L_1) =>
 .rq 1 (.req ((wOK i_0 i_1 i_2 i_3 i_4 i_5)) (.rq 1 (let t0 := ((caV i_0 i_1 i_2 i_3 i_4 i_5).map rq);
 .req ((sameOK r5)) (.rq 1 (let t1 := (decide (i_2.length ≤ 1000000));
 let t2 := (endsV i_2);
 let t3 := (decide (t2 = t2));
 .ite ((decide (t0 = r5.map toB)))
 (.rq 2 (.req ((wOK i_0 i_1 i_2 i_3 i_4 i_5)) (.rq 1 (let t4 := (rq (caAt i_0 i_1 i_2 i_3 i_4 i_5 l));
 .req (isM 38 L_0 && isM 38 L_1) (.rq 2 (.ite (decide (t4.1 = digs B32 (val B16 L_0)) && decide (t4.2 = digs B32 (val B16 L_1)))
 (.rq 1 (.req t1 (.rq 1 (.req t1 (.rq 3 (.ite t3
 (.rq 3 (.done (true)))
 (.rq 2 (.done false))))))))
 (.rq 2 (.ite false
 (.rq 3 (.done (true)))
 (.rq 2 (.done false))))))))))
 (.rq 2 (.ite false
 (.rq 1 (.req t1 (.rq 1 (.req t1 (.rq 3 (.ite t3
 (.rq 3 (.done (true)))
 (.rq 2 (.done false))))))))
 (.rq 2 (.ite false
 (.rq 3 (.done (true)))
 (.rq 2 (.done false)))))))))))
def law19_CarryTells_p254 : Piece := ⟨254, false, [tI, .sl tB, .sl yK, .sl yH, .sl yL, .sl tI, tI, .sl (.pair (.sl tI) (.sl tI)), .sl tI, .sl tI], [], ⟨[.keep [1, 2, 5, 7], .gc], [1, 2, 5, 7], [.lf (qi 0), .lf (qp 32), .lf (qr 900005), .lf (qp 112)], [(32, true, .cells [qi 1, qi 2, qi 3, qi 4, qi 5, qi 6]), (900005, true, .arr 35 (qi 7)), (112, true, .cells [qi 8, qi 9])]⟩, [⟨0, ⟨[.keep [4], .gc], [4], [.lf (qm 0)], []⟩, [tB]⟩], (fun i _ => law19_CarryTells_b254 i)⟩
def law19_CarryTells : ((List Bool) × (List Tk) × (List Th) × (List Lk) × (List Int) × Int × Int) → RT Unit Bool
| (a0_0, a0_1, a0_2, a0_3, a0_4, a0_5, l) =>
 .rq 7 (let t0 := (smallV a0_0 a0_1 a0_2 a0_3 a0_4);
 let t1 := !t0;
 .req (((decide (a0_1.length ≤ 1000000))) || (!(!t1))) (.rq 4 (let t2 := t1 || (!((decide (a0_1.length ≤ 30) && decide (cnt2 a0_1 ≤ 8))));
 .req (t0 || (!(!t2))) (.rq 2 (.ite (t2 || (!((fineV a0_0 a0_1 a0_2 a0_3 a0_4 a0_5))))
 (.rq 2 (.done (true)))
 (.rq 2 (.call (lo law19_CarryTells_b122 (a0_0, a0_1, a0_2, a0_3, a0_4, a0_5) (0, [])) default fun v0 =>
 .rq 3 (.call (on law19_CarryTells_b126 (l, v0, (rQ (((0 : Int).toNat : Nat) : Rat)).1, (rQ (((0 : Int).toNat : Nat) : Rat)).2)) default fun v1 =>
 .call (on law19_CarryTells_b254 (l, a0_0, a0_1, a0_2, a0_3, a0_4, a0_5, v0, v1.1, v1.2)) default fun v2 =>
 .done v2))))))))
def F_law19_CarryTells (x : (List Bool) × (List Tk) × (List Th) × (List Lk) × (List Int) × Int × Int) : Option Bool := (law19_CarryTells x).run fun _ => none
def io_law19_CarryTells : Io := ⟨n_law19_CarryTells, [.sl tB, .sl yK, .sl yH, .sl yL, .sl tI, tI, tI], [.agg [qm 0, qm 1, qm 2, qm 3, qm 4, qm 5], .lf (qm 6)], [], [[.sl tB, .sl yK, .sl yH, .sl yL, .sl tI, tI], [tI]], [tB], .lf (qm 0), [], [], false⟩
def law19_CarryTells_P : List Piece := [law19_CarryTells_p122, law19_CarryTells_p126, law19_CarryTells_p254]
def law19_CarryTells_T : CallT := tab [e_law19_alive, e_R19_At, e_R11_Ints, e_R19_Ends, e_carry_Ends, e_carry_At, e_carry_All, e_R18_Same, e_R17_Light, e_R14_Fine, e_R14_Small, e_R04_Same, e_R04_Int]
theorem law19_CarryTells_To : SoundT pg law19_CarryTells_T := tab_sound ⟨e_law19_alive_ok, e_R19_At_ok, e_R11_Ints_ok, e_R19_Ends_ok, e_carry_Ends_ok, e_carry_At_ok, e_carry_All_ok, e_R18_Same_ok, e_R17_Light_ok, e_R14_Fine_ok, e_R14_Small_ok, e_R04_Same_ok, e_R04_Int_ok, trivial⟩
theorem law19_CarryTells_k122 : (law19_CarryTells_p122).OK pg (law19_CarryTells_T) (tell 69 (law19_CarryTells_P)) (codeOf f_law19_CarryTells) 69 := ⟨by kernel_rfl, fun i x => by kernel_rfl⟩
theorem law19_CarryTells_k126 : (law19_CarryTells_p126).OK pg (law19_CarryTells_T) (tell 69 (law19_CarryTells_P)) (codeOf f_law19_CarryTells) 69 := ⟨by kernel_rfl, fun i x => by kernel_rfl⟩
theorem law19_CarryTells_k254 : (law19_CarryTells_p254).OK pg (law19_CarryTells_T) (tell 69 (law19_CarryTells_P)) (codeOf f_law19_CarryTells) 69 := ⟨by kernel_rfl, fun i x => by kernel_rfl⟩
theorem law19_CarryTells_go : FnOK pg (law19_CarryTells_T) io_law19_CarryTells f_law19_CarryTells (law19_CarryTells_P) [] (law19_CarryTells) := ⟨by kernel_rfl, by kernel_rfl, fun x => by kernel_rfl⟩
theorem ok_law19_CarryTells : io_law19_CarryTells.Okay pg (F_law19_CarryTells) := fn_ok pg_mixed (law19_CarryTells_To) (law19_CarryTells_go) ⟨law19_CarryTells_k122, law19_CarryTells_k126, law19_CarryTells_k254, trivial⟩
theorem ct_1 {a : List Bool} {b : List Tk} {c : List Th} {d : List Lk} {e : List Int} {f : Int} (hw : wOK a b c d e f = true) : ∀ (n i : Nat), i + n = c.length → lo law19_CarryTells_b122 (a, b, c, d, e, f) ((i : Int), ((caV a b c d e f).take i).map rQ) = some ((caV a b c d e f).map rQ)
  | 0, i, h => by
    rw [lo_eq, law19_CarryTells_b122]
    simp only [RT.run]
    rw [if_neg (by simp; omega), List.take_of_length_le (by rw [caV_len]; omega)]
  | n + 1, i, h => by
    obtain ⟨H, h8⟩ := wOK_iff hw
    have hlc := H.lenC
    rw [lo_eq, law19_CarryTells_b122]
    simp only [RT.run, pe]
    rw [if_pos (by simp; omega), hw, inB_iff.2 (show 0 ≤ (i : Int) ∧ (i : Int) < (c.length : Int) by omega), if_pos (by decide), if_pos (ap_small (by decide) (by simp; omega)), take_rQ _ (by rw [caV_len]; omega), w64_in (by omega), show (i : Int) + 1 = ((i + 1 : Nat) : Int) by omega, ct_1 hw n (i + 1) (by omega)]
theorem CarryTells_F (a : List Bool) (b : List Tk) (c : List Th) (d : List Lk) (e : List Int) (f : Int) (i : Int) : F_law19_CarryTells (a, b, c, d, e, f, i) = some true := by
  show (law19_CarryTells _).run _ = _
  rw [law19_CarryTells]
  simp only [RT.run]
  cases hs : smallV a b c d e with
  | false => rw [if_pos (by simp), if_pos (by simp), if_pos (by simp)]
  | true =>
    have hb : b.length ≤ 200 := by
      unfold smallV at hs
      simp only [Bool.and_eq_true, decide_eq_true_eq] at hs
      omega
    rw [if_pos (by rw [decide_eq_true (show b.length ≤ 1000000 by omega)]; rfl), if_pos (by rfl)]
    cases hl : (decide (b.length ≤ 30) && decide (cnt2 b ≤ 8)) with
    | false => rfl
    | true =>
      cases hf : fineV a b c d e f with
      | false => rfl
      | true =>
        rw [if_neg (by decide)]
        have hw : wOK a b c d e f = true := by
          rw [Bool.and_eq_true] at hl
          unfold wOK
          rw [hf, hl.2]; rfl
        obtain ⟨H, h8⟩ := wOK_iff hw
        have hlc := H.lenC
        have l1 := ct_1 hw c.length 0 (by omega)
        rw [List.take_zero, List.map_nil, show ((0 : Nat) : Int) = 0 from rfl] at l1
        have hsm : ∀ q ∈ caV a b c d e f, sm 500 q := fun q hq => by
          obtain ⟨j, hj, rfl⟩ := List.mem_map.1 hq
          have := (H.ca_sm (mem_ints.1 hj)).2.1
          rwa [caV_get (mem_ints.1 hj)] at this
        rw [l1, Option.bind_some]
        have h126 : on law19_CarryTells_b126 (i, (caV a b c d e f).map rQ, (rQ (((0 : Int).toNat : Nat) : Rat)).1, (rQ (((0 : Int).toNat : Nat) : Rat)).2) = some (rQ (caAt a b c d e f i)) := by
          show (law19_CarryTells_b126 _).run _ = _
          rw [law19_CarryTells_b126]
          simp only [RT.run, pe]
          unfold caAt
          cases hin : inB c i with
          | true =>
            have hi := inB_iff.1 hin
            rw [if_pos (by rw [List.length_map, caV_len, decide_eq_true hi.1, decide_eq_true hi.2]; rfl), if_pos (inB_iff.2 (by rw [List.length_map, caV_len]; exact hi)), if_pos rfl, gI_map rQ (by rw [caV_len]; exact hi)]
          | false =>
            rw [if_neg]
            · rfl
            · rw [List.length_map, caV_len]
              intro h
              unfold inB at hin
              rw [h] at hin
              cases hin
        have hat : sm 500 (caAt a b c d e f i) := by
          unfold caAt
          split
          · rename_i h; exact (H.ca_sm (inB_iff.1 h)).2.1
          · exact sm_zero _ (by decide)
        obtain ⟨m1, m2⟩ := isM_rQ hat (by decide)
        have e1 : rq (caAt a b c d e f i) = toB (rQ (caAt a b c d e f i)) := (toB_rQ _).symm
        have h254 : on law19_CarryTells_b254 (i, a, b, c, d, e, f, (caV a b c d e f).map rQ, (rQ (caAt a b c d e f i)).1, (rQ (caAt a b c d e f i)).2) = some true := by
          show (law19_CarryTells_b254 _).run _ = _
          rw [law19_CarryTells_b254]
          simp only [RT.run, toB_map, hw, sameOK_map hsm (by decide), decide_true, if_true, m1, m2, Bool.and_self, show decide (c.length ≤ 1000000) = true from decide_eq_true (by omega)]
          rw [e1]
          simp [toB]
        rw [h126, Option.bind_some, h254]
        rfl
end
end Go.Proofs.YtlfdidaeachpoaaGreat

namespace Go.Proofs.YtlfdidaeachpoaaGreat
open Go Go.RowKit
theorem exists_list {α : Type} {Q : Nat → α → Prop} : ∀ (n : Nat), (∀ i, i < n → ∃ x, Q i x) → ∃ xs : List α, xs.length = n ∧ ∀ i (h : i < xs.length), Q i xs[i]
  | 0, _ => ⟨[], rfl, fun i hi => absurd hi (Nat.not_lt_zero i)⟩
  | n + 1, h => by
    obtain ⟨xs, h1, h2⟩ := exists_list n fun i hi => h i (by omega)
    obtain ⟨x, hx⟩ := h n (by omega)
    refine ⟨xs ++ [x], by simp [h1], fun i hi => ?_⟩
    by_cases hin : i < xs.length
    · rw [List.getElem_append_left hin]
      exact h2 i hin
    · have : i = n := by simp at hi; omega
      subst this
      rw [List.getElem_append_right (by omega)]
      simpa [h1] using hx
theorem cell_at {w : World} {a : Addr} {u : Value} (h : w.cell? a = some u) : a.spot = none ∧ a.block < w.heap.size := by
  unfold World.cell? at h
  split at h
  · rename_i c _ _ hb
    split at h
    · cases h
    · rename_i hs
      refine ⟨by simpa using hs, ?_⟩
      apply Decidable.byContradiction
      intro hlt
      rw [Array.getElem?_eq_none (Nat.le_of_not_lt hlt)] at hb
      cases hb
  · cases h
theorem add_block (a : Addr) (n : Nat) : (a.add n).block = a.block := by
  unfold Addr.add
  split <;> rfl
theorem add_plain (b o n : Nat) : Addr.add ⟨b, o, none⟩ n = ⟨b, o + n, none⟩ := by
  unfold Addr.add
  split
  · rename_i h; subst h; rfl
  · rfl
def inHeap (w : World) : Nat → Prop := fun b => b < w.heap.size
section
variable {H : Type} {enc : TypeId × Value → H} {P : Program} {w : World} {held : Bool}
theorem fields_rep {g : TypeId → Option Ty} {fuel : Nat} {cs : List Value}
    (ih : ∀ (t : TypeId) (ty : Ty) (cs : List Value) (y : DataW H × List MemPlace), g t = some ty → P.cellsOf t = ty.size → DataW.trod enc P w 0 (fun _ => true) held fuel t cs = some y → ∃ x, RepD w (inHeap w) ty cs x) :
    ∀ (fs : List Field) (off : Nat) (ty : Ty), tyFs P g fs off = some ty → (∀ f ∈ fs, ∃ y, DataW.trod enc P w 0 (fun _ => true) held fuel f.type ((cs.drop f.offset).take (P.cellsOf f.type)) = some y) →
      ∃ x, RepD w (inHeap w) ty ((cs.drop off).take ty.size) x
  | [], _, _, h, _ => by cases h
  | f :: fs, off, ty, h, hf => by
    unfold tyFs at h
    split at h
    · cases h
    · rename_i a ha
      split at h
      · rename_i hc
        obtain ⟨y, hy⟩ := hf f (List.mem_cons_self ..)
        rw [hc.1, hc.2] at hy
        obtain ⟨x, hx⟩ := ih f.type a _ y ha hc.2 hy
        split at h
        · cases h
          exact ⟨x, hx⟩
        · rename_i f' fs'
          split at h
          · rename_i b hb
            cases h
            obtain ⟨x', hx'⟩ := fields_rep ih (f' :: fs') (off + a.size) b hb fun z hz => hf z (List.mem_cons_of_mem _ hz)
            refine ⟨(x, x'), _, _, ?_, hx, hx'⟩
            show (cs.drop off).take (a.size + b.size) = _
            rw [List.take_add, List.drop_drop]
          · cases h
      · cases h
theorem trod_rep : ∀ (n : Nat) (t : TypeId) (ty : Ty) (fuel : Nat) (cs : List Value) (y : DataW H × List MemPlace), tyOf P n t = some ty → P.cellsOf t = ty.size → DataW.trod enc P w 0 (fun _ => true) held fuel t cs = some y → ∃ x, RepD w (inHeap w) ty cs x := by
  intro n
  induction n with
  | zero => intro t ty fuel cs y h; cases h
  | succ n ih =>
    intro t ty fuel cs y ht hsz h
    unfold tyOf at ht
    split at ht
    · rename_i k hu
      cases ht
      obtain ⟨m, rfl, _, hw⟩ := DataW.trod_int hu h
      exact ⟨m, rfl, hw⟩
    · rename_i hu
      cases ht
      obtain ⟨b, rfl, _⟩ := DataW.trod_bool hu h
      exact ⟨b, rfl⟩
    · rename_i hu
      cases ht
      obtain ⟨s, rfl, _, hs⟩ := DataW.trod_string hu h
      exact ⟨s, rfl, hs⟩
    · rename_i e hu
      split at ht
      · rename_i a ha
        split at ht
        · rename_i hc
          cases ht
          rcases DataW.trod_slice hu h with ⟨rfl, _⟩ | ⟨ad, len, cap, elems, rest, m, _, rfl, _, _, hlc, hcm, hlen, hel, _, _⟩
          · exact ⟨[], none, 0, rfl, Nat.le_refl _, Nat.zero_le _, fun _ => rfl, fun i hi => absurd hi (Nat.not_lt_zero i)⟩
          · have hpos := a.size_pos
            have had : 0 < len → ad.spot = none := by
              intro h0
              have h1 := hel 0 h0
              rw [List.getElem?_eq_getElem (by omega), Option.bind_eq_some_iff] at h1
              obtain ⟨us, hus, _⟩ := h1
              obtain ⟨_, hl, hcell⟩ := World.cells?_some hus
              have c0 := hcell 0 (by omega)
              rw [List.getElem?_eq_getElem (by omega), Nat.zero_mul] at c0
              exact (cell_at c0).1
            have each : ∀ i, i < len → ∃ x : a.den, ∃ b o us, (some ad : Option Addr) = some ⟨b, o, none⟩ ∧ inHeap w b ∧ us.length = a.size ∧ Mem w b (o + i * a.size) us ∧ RepD w (inHeap w) a us x := by
              intro i hi
              have h1 := hel i hi
              rw [List.getElem?_eq_getElem (by omega), Option.bind_eq_some_iff] at h1
              obtain ⟨us, hus, hy⟩ := h1
              obtain ⟨_, hl, hcell⟩ := World.cells?_some hus
              obtain ⟨x, hx⟩ := ih e a m us _ ha hc hy
              have c0 := hcell 0 (by omega)
              rw [List.getElem?_eq_getElem (by omega)] at c0
              have hb := (cell_at c0).2
              rw [add_block, add_block] at hb
              have hsp := had (by omega)
              obtain ⟨b, o, sp⟩ := ad
              simp only at hsp
              subst hsp
              refine ⟨x, b, o, us, rfl, hb, by omega, fun j u hu' => ?_, hx⟩
              have hj : j < us.length := by
                apply Decidable.byContradiction
                intro hn
                rw [List.getElem?_eq_none (by omega)] at hu'
                cases hu'
              have := hcell j (by omega)
              rw [hu', add_plain, add_plain] at this
              rw [← hc]
              exact this
            obtain ⟨xs, hxl, hxs⟩ := exists_list len each
            refine ⟨xs, some ad, cap, by rw [hxl], by omega, hcm, (fun h => by cases h), fun i hi => ?_⟩
            obtain ⟨b, o, us, h1, h2, h3, h4, h5⟩ := hxs i hi
            exact ⟨b, o, us, h1, h2, h3, h4, h5⟩
        · cases ht
      · cases ht
    · rename_i fs hu
      obtain ⟨xs, m, _, _, hl, hxl, hf⟩ := DataW.trod_struct hu h
      obtain ⟨x, hx⟩ := fields_rep (enc := enc) (held := held) (fuel := m) (cs := cs) (fun t ty cs y h1 h2 h3 => ih t ty m cs y h1 h2 h3) fs.toList 0 ty ht (fun f hf' => by
        obtain ⟨i, hi, rfl⟩ := List.mem_iff_getElem.1 hf'
        have hi' : i < fs.size := by simpa using hi
        have := hf i fs.toList[i] (by simp [hi'])
        rw [List.getElem?_eq_getElem (by omega)] at this
        exact ⟨_, this⟩)
      refine ⟨x, ?_⟩
      rw [List.drop_zero, List.take_of_length_le (by omega)] at hx
      exact hx
    · cases ht
end
theorem callPost_below {w : World} {ok : Nat → Prop} {n : Nat} {r : CallRes} {v : Value} {w' : World} {β' : Nat → Option Value} {ok' : Nat → Prop} (h : CallPost w (fun _ => none) ok n r v w' β' ok') : Below w.heap.size w w' :=
  ⟨h.os, h.tape, h.output, h.size, fun k hk => h.block k hk (fun _ _ _ e => by cases e)⟩
end Go.Proofs.YtlfdidaeachpoaaGreat
