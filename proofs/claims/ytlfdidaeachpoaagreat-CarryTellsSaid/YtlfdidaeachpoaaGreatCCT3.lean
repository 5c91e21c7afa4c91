/- Part 3 of the walk and of the plain law. -/
import Derived.Test.YtlfdidaeachpoaaGreatCCT2
set_option linter.unusedSimpArgs false
set_option linter.unusedVariables false
namespace Go.Proofs.YtlfdidaeachpoaaGreat
theorem val_set {b : Nat} : ∀ {xs : List Int} {i : Nat} {d : Int}, i < xs.length → val b (xs.set i d) + b ^ i * (xs.getD i 0).toNat = val b xs + b ^ i * d.toNat
  | [], i, d, h => by simp at h
  | x :: xs, 0, d, _ => by simp [val]; omega
  | x :: xs, i + 1, d, h => by
    have := val_set (b := b) (xs := xs) (i := i) (d := d) (by simpa using h)
    simp only [List.set_cons_succ, val, List.getD_cons_succ, Nat.pow_succ]
    have e : ∀ t, b ^ i * b * t = b * (b ^ i * t) := fun t => by rw [Nat.mul_comm (b ^ i) b, Nat.mul_assoc]
    rw [e, e]
    have h2 : b * (val b (xs.set i d) + b ^ i * (xs.getD i 0).toNat) = b * (val b xs + b ^ i * d.toNat) := by rw [this]
    rw [Nat.mul_add, Nat.mul_add] at h2
    omega
def rowN (b : Nat) (x : Int) (ys : List Int) (i : Nat) : Nat → Nat → List Int → Int → List Int × Int
  | 0, _, out, o => (out, o)
  | r + 1, k, out, o => rowN b x ys i r (k + 1) (out.set (i + k) ((o + (x * ys.getD k 0 + out.getD (i + k) 0)) % b)) ((o + (x * ys.getD k 0 + out.getD (i + k) 0)) / b)
theorem step_bd {b x y z o : Int} (hx : 0 ≤ x ∧ x < b) (hy : 0 ≤ y ∧ y < b) (hz : 0 ≤ z ∧ z < b) (ho : 0 ≤ o ∧ o < b) : 0 ≤ o + (x * y + z) ∧ o + (x * y + z) < b * b := by
  have h1 : 0 ≤ x * y := Int.mul_nonneg hx.1 hy.1
  have h2 : x * y ≤ (b - 1) * (b - 1) := Int.mul_le_mul (by omega) (by omega) hy.1 (by omega)
  have h3 : (b - 1) * (b - 1) = b * b - 2 * b + 1 := by
    rw [Int.sub_mul, Int.mul_sub, Int.one_mul, Int.mul_one]
    omega
  omega
structure RowOK (b : Nat) (x : Int) (ys : List Int) (i r k : Nat) (out : List Int) (o : Int) : Prop where
  wf : wfd b (rowN b x ys i r k out o).1 = true
  len : (rowN b x ys i r k out o).1.length = out.length
  bd : 0 ≤ (rowN b x ys i r k out o).2 ∧ (rowN b x ys i r k out o).2 < b
  val : val b (rowN b x ys i r k out o).1 + b ^ (i + k + r) * (rowN b x ys i r k out o).2.toNat = val b out + b ^ (i + k) * (o.toNat + x.toNat * val b ((ys.drop k).take r))
theorem rowN_ok {b : Nat} (hb : 2 ≤ b) {x : Int} (hx : 0 ≤ x ∧ x < b) {ys : List Int} (hy : wfd b ys = true) {i : Nat} : ∀ (r k : Nat) (out : List Int) (o : Int), k + r ≤ ys.length → i + k + r ≤ out.length → wfd b out = true → (0 ≤ o ∧ o < b) → RowOK b x ys i r k out o
  | 0, k, out, o, _, _, hw, ho => ⟨hw, rfl, ho, by simp [rowN, val]⟩
  | r + 1, k, out, o, h1, h2, hw, ho => by
    have y := wfd_get (by omega : 0 < b) hy k
    have z := wfd_get (by omega : 0 < b) hw (i + k)
    have s := step_bd hx y z ho
    generalize hs : o + (x * ys.getD k 0 + out.getD (i + k) 0) = t at *
    have q1 : 0 ≤ t % (b : Int) ∧ t % (b : Int) < b := ⟨Int.emod_nonneg _ (by omega), Int.emod_lt_of_pos _ (by omega)⟩
    have q2 : 0 ≤ t / (b : Int) ∧ t / (b : Int) < b := ⟨Int.ediv_nonneg s.1 (by omega), Int.ediv_lt_of_lt_mul (by omega) s.2⟩
    obtain ⟨a1, a2, a3, a4⟩ := rowN_ok hb hx hy (i := i) r (k + 1) (out.set (i + k) (t % b)) (t / b) (by omega) (by rw [List.length_set]; omega) (wfd_set hw q1) q2
    have e : rowN b x ys i (r + 1) k out o = rowN b x ys i r (k + 1) (out.set (i + k) (t % b)) (t / b) := by rw [rowN, hs]
    refine ⟨by rw [e]; exact a1, by rw [e, a2, List.length_set], by rw [e]; exact a3, ?_⟩
    rw [e, show i + k + (r + 1) = i + (k + 1) + r by omega, a4]
    have v := val_set (b := b) (xs := out) (i := i + k) (d := t % b) (by omega)
    have hd : (ys.drop k).take (r + 1) = ys.getD k 0 :: (ys.drop (k + 1)).take r := by
      have hk : k < ys.length := by omega
      rw [List.drop_eq_getElem_cons hk, List.take_succ_cons, List.getD, List.getElem?_eq_getElem hk]
      rfl
    rw [hd]
    simp only [val]
    generalize val b ((ys.drop (k + 1)).take r) = w at *
    generalize val b (out.set (i + k) (t % (b : Int))) = v1 at *
    generalize val b out = v0 at *
    rw [show i + (k + 1) = i + k + 1 by omega, Nat.pow_succ]
    generalize b ^ (i + k) = p at *
    have t1 : (t % (b : Int)).toNat + b * (t / (b : Int)).toNat = t.toNat := by
      have := Int.emod_add_mul_ediv t b
      have h3 : ((b * (t / (b : Int)).toNat : Nat) : Int) = b * (t / b) := by rw [Int.natCast_mul, Int.toNat_of_nonneg q2.1]
      omega
    have t2 : t.toNat = o.toNat + (x.toNat * (ys.getD k 0).toNat + (out.getD (i + k) 0).toNat) := by
      have h3 : ((x.toNat * (ys.getD k 0).toNat : Nat) : Int) = x * ys.getD k 0 := by rw [Int.natCast_mul, Int.toNat_of_nonneg hx.1, Int.toNat_of_nonneg y.1]
      omega
    generalize (t % (b : Int)).toNat = tm at *
    generalize (t / (b : Int)).toNat = td at *
    generalize (ys.getD k 0).toNat = yk at *
    generalize (out.getD (i + k) 0).toNat = ok at *
    have e1 : p * b * (td + x.toNat * w) = p * (b * td) + p * (x.toNat * (b * w)) := by
      rw [Nat.mul_add, Nat.mul_assoc, Nat.mul_assoc, Nat.mul_left_comm b x.toNat w]
    have e2 : p * (o.toNat + x.toNat * (yk + b * w)) + p * ok = p * t.toNat + p * (x.toNat * (b * w)) := by
      rw [t2, ← Nat.mul_add, ← Nat.mul_add, Nat.mul_add x.toNat]
      congr 1
      omega
    have e3 : p * t.toNat = p * tm + p * (b * td) := by rw [← t1, Nat.mul_add]
    rw [e1]
    omega
def mulN (b : Nat) (xs ys : List Int) : Nat → Nat → List Int → List Int
  | 0, _, out => out
  | r + 1, i, out => mulN b xs ys r (i + 1) ((rowN b (xs.getD i 0) ys i ys.length 0 out 0).1.set (i + ys.length) (rowN b (xs.getD i 0) ys i ys.length 0 out 0).2)
theorem mulN_ok {b : Nat} (hb : 2 ≤ b) {xs ys : List Int} (hx : wfd b xs = true) (hy : wfd b ys = true) : ∀ (r i : Nat) (out : List Int), i + r = xs.length → out.length = xs.length + ys.length → wfd b out = true → val b out < b ^ (i + ys.length) →
    wfd b (mulN b xs ys r i out) = true ∧ (mulN b xs ys r i out).length = xs.length + ys.length ∧ val b (mulN b xs ys r i out) = val b out + b ^ i * (val b (xs.drop i) * val b ys)
  | 0, i, out, h1, h2, h3, _ => ⟨h3, h2, by rw [List.drop_of_length_le (by omega)]; simp [mulN, val]⟩
  | r + 1, i, out, h1, h2, h3, h4 => by
    have x := wfd_get (by omega : 0 < b) hx i
    have hi : i < xs.length := by omega
    obtain ⟨a1, a2, a3, a4⟩ := rowN_ok hb x hy (i := i) ys.length 0 out 0 (by omega) (by omega) h3 ⟨Int.le_refl _, by omega⟩
    have hz : ((rowN b (xs.getD i 0) ys i ys.length 0 out 0).1.getD (i + ys.length) 0).toNat = 0 := by
      have same : ∀ (r k : Nat) (out : List Int) (o : Int) (j : Nat), i + k + r ≤ j → (rowN b (xs.getD i 0) ys i r k out o).1.getD j 0 = out.getD j 0 := by
        intro r
        induction r with
        | zero => intro k out o j _; rfl
        | succ r ih =>
          intro k out o j hj
          rw [rowN, ih (k + 1) _ _ j (by omega)]
          simp only [List.getD, List.getElem?_set_ne (show i + k ≠ j by omega)]
      rw [same ys.length 0 out 0 (i + ys.length) (by omega)]
      have := val_digit (by omega : 0 < b) (i + ys.length) h3
      rw [Nat.div_eq_of_lt h4, Nat.zero_mod] at this
      rw [← this]
      rfl
    have v2 := val_set (b := b) (xs := (rowN b (xs.getD i 0) ys i ys.length 0 out 0).1) (i := i + ys.length) (d := (rowN b (xs.getD i 0) ys i ys.length 0 out 0).2) (by rw [a2]; omega)
    rw [hz, Nat.mul_zero, Nat.add_zero] at v2
    simp only [Nat.add_zero, Int.toNat_zero, Nat.zero_add, List.drop_zero, List.take_length] at a4
    rw [← v2] at a4
    have hw := wfd_set (i := i + ys.length) a1 a3
    generalize hgen : (rowN b (xs.getD i 0) ys i ys.length 0 out 0).1.set (i + ys.length) (rowN b (xs.getD i 0) ys i ys.length 0 out 0).2 = out' at *
    have hl : out'.length = xs.length + ys.length := by
      rw [← hgen, List.length_set, a2, h2]
    have hbound : val b out' < b ^ (i + 1 + ys.length) := by
      rw [a4]
      have y := val_lt (by omega : 0 < b) hy
      have hxn : (xs.getD i 0).toNat + 1 ≤ b := by omega
      have m1 : (xs.getD i 0).toNat * val b ys + val b ys ≤ b * val b ys := by
        rw [← Nat.succ_mul]
        exact Nat.mul_le_mul_right _ hxn
      have m2 : b * (val b ys + 1) ≤ b * b ^ ys.length := Nat.mul_le_mul_left _ y
      have m3 : b ^ i * (((xs.getD i 0).toNat * val b ys) + b ^ ys.length) ≤ b ^ i * (b * b ^ ys.length) := by
        apply Nat.mul_le_mul_left
        rw [Nat.mul_add] at m2
        have m4 : (xs.getD i 0).toNat * val b ys ≤ (b - 1) * val b ys := Nat.mul_le_mul_right _ (by omega)
        have m5 : (b - 1) * val b ys + b ^ ys.length ≤ (b - 1) * b ^ ys.length + b ^ ys.length := by
          have : (b - 1) * val b ys ≤ (b - 1) * b ^ ys.length := Nat.mul_le_mul_left _ (by omega)
          omega
        have m6 : (b - 1) * b ^ ys.length + b ^ ys.length = b * b ^ ys.length := by
          rw [← Nat.succ_mul]
          congr 1
          omega
        omega
      rw [Nat.mul_add, ← Nat.pow_add] at m3
      have m7 : b ^ i * (b * b ^ ys.length) = b ^ (i + 1 + ys.length) := by
        rw [Nat.pow_add, Nat.pow_succ, Nat.mul_assoc]
      omega
    obtain ⟨c1, c2, c3⟩ := mulN_ok hb hx hy r (i + 1) out' (by omega) hl hw hbound
    have e : mulN b xs ys (r + 1) i out = mulN b xs ys r (i + 1) out' := by rw [mulN, hgen]
    rw [e]
    refine ⟨c1, c2, ?_⟩
    rw [c3, a4]
    have hd : xs.drop i = xs.getD i 0 :: xs.drop (i + 1) := by
      rw [List.drop_eq_getElem_cons hi, List.getD, List.getElem?_eq_getElem hi]
      rfl
    rw [hd]
    simp only [val]
    rw [Nat.pow_succ, Nat.add_mul, Nat.mul_add, Nat.mul_assoc, Nat.mul_assoc, Nat.add_assoc]
theorem mulN_val {b : Nat} (hb : 2 ≤ b) {xs ys : List Int} (hx : wfd b xs = true) (hy : wfd b ys = true) :
    wfd b (mulN b xs ys xs.length 0 (List.replicate (xs.length + ys.length) 0)) = true ∧ (mulN b xs ys xs.length 0 (List.replicate (xs.length + ys.length) 0)).length = xs.length + ys.length ∧
      val b (mulN b xs ys xs.length 0 (List.replicate (xs.length + ys.length) 0)) = val b xs * val b ys := by
  obtain ⟨h1, h2, h3⟩ := mulN_ok hb hx hy xs.length 0 (List.replicate (xs.length + ys.length) 0) (by omega) (by simp) (wfd_replicate (by omega)) (by rw [val_replicate]; exact Nat.pow_pos (by omega))
  refine ⟨h1, h2, ?_⟩
  rw [h3, val_replicate]
  simp
end Go.Proofs.YtlfdidaeachpoaaGreat

namespace Go.Proofs.YtlfdidaeachpoaaGreat
def shortN (b d : Nat) (xs : List Int) : Nat → Nat → List Int → List Int × Nat
  | 0, r, out => (out, r)
  | k + 1, r, out => shortN b d xs k ((r * b + (xs.getD k 0).toNat) % d) (out.set k (((r * b + (xs.getD k 0).toNat) / d : Nat) : Int))
theorem val_take_succ {b : Nat} {xs : List Int} {k : Nat} (h : k < xs.length) : val b (xs.take (k + 1)) = val b (xs.take k) + b ^ k * (xs.getD k 0).toNat := by
  rw [List.take_succ_eq_append_getElem h, val_append, List.getD, List.getElem?_eq_getElem h, List.length_take, Nat.min_eq_left (Nat.le_of_lt h)]
  simp [val]
structure ShortOK (b d : Nat) (xs : List Int) (k r : Nat) (out : List Int) : Prop where
  wf : wfd b (shortN b d xs k r out).1 = true
  len : (shortN b d xs k r out).1.length = out.length
  same : ∀ j, k ≤ j → (shortN b d xs k r out).1.getD j 0 = out.getD j 0
  quo : val b ((shortN b d xs k r out).1.take k) = (r * b ^ k + val b (xs.take k)) / d
  rest : (shortN b d xs k r out).2 = (r * b ^ k + val b (xs.take k)) % d
theorem short_bd {b d r x : Nat} (hd : 0 < d) (hr : r < d) (hx : x < b) : (r * b + x) / d < b := by
  rw [Nat.div_lt_iff_lt_mul hd]
  have : (r + 1) * b ≤ d * b := Nat.mul_le_mul_right _ hr
  rw [Nat.add_mul, Nat.one_mul] at this
  rw [Nat.mul_comm b d]
  omega
theorem shortN_ok {b d : Nat} (hb : 2 ≤ b) (hd : 0 < d) {xs : List Int} (hx : wfd b xs = true) : ∀ (k r : Nat) (out : List Int), r < d → k ≤ xs.length → k ≤ out.length → wfd b out = true → ShortOK b d xs k r out
  | 0, r, out, hr, _, _, hw => ⟨hw, rfl, fun _ _ => rfl, by simp [shortN, val, Nat.div_eq_of_lt hr], by simp [shortN, val, Nat.mod_eq_of_lt hr]⟩
  | k + 1, r, out, hr, h1, h2, hw => by
    have x := wfd_get (by omega : 0 < b) hx k
    have hxn : (xs.getD k 0).toNat < b := by omega
    have q := short_bd hd hr hxn
    obtain ⟨a1, a2, a3, a4, a5⟩ := shortN_ok hb hd hx k ((r * b + (xs.getD k 0).toNat) % d) (out.set k (((r * b + (xs.getD k 0).toNat) / d : Nat) : Int)) (Nat.mod_lt _ hd) (by omega) (by rw [List.length_set]; omega) (wfd_set hw ⟨Int.natCast_nonneg _, Int.ofNat_lt.2 q⟩)
    have e : shortN b d xs (k + 1) r out = shortN b d xs k ((r * b + (xs.getD k 0).toNat) % d) (out.set k (((r * b + (xs.getD k 0).toNat) / d : Nat) : Int)) := rfl
    rw [← e] at a1 a2 a3 a4 a5
    have hk : (shortN b d xs (k + 1) r out).1.getD k 0 = (((r * b + (xs.getD k 0).toNat) / d : Nat) : Int) := by
      rw [a3 k (Nat.le_refl _)]
      simp only [List.getD, List.getElem?_set_self (show k < out.length by omega)]
      rfl
    have hlen : k < (shortN b d xs (k + 1) r out).1.length := by rw [a2, List.length_set]; omega
    have hn : r * b ^ (k + 1) + val b (xs.take (k + 1)) = (r * b + (xs.getD k 0).toNat) * b ^ k + val b (xs.take k) := by
      rw [val_take_succ (by omega), Nat.pow_succ, Nat.add_mul, Nat.mul_assoc r b, Nat.mul_comm b (b ^ k), Nat.mul_comm (xs.getD k 0).toNat]
      omega
    generalize (r * b + (xs.getD k 0).toNat) = t at *
    have ht : t * b ^ k + val b (xs.take k) = (t % d * b ^ k + val b (xs.take k)) + d * (t / d * b ^ k) := by
      have := Nat.mod_add_div t d
      have h3 : t * b ^ k = (t % d + d * (t / d)) * b ^ k := by rw [this]
      rw [h3, Nat.add_mul, Nat.mul_assoc]
      omega
    refine ⟨a1, by rw [a2, List.length_set], fun j hj => ?_, ?_, ?_⟩
    · rw [a3 j (by omega)]
      simp only [List.getD, List.getElem?_set_ne (show k ≠ j by omega)]
    · rw [val_take_succ hlen, hk, a4, hn, ht, Nat.add_mul_div_left _ _ hd, Int.toNat_natCast, Nat.mul_comm (b ^ k)]
    · rw [a5, hn, ht, Nat.add_mul_mod_self_left]
theorem short_val {b d : Nat} (hb : 2 ≤ b) (hd : 0 < d) {xs : List Int} (hx : wfd b xs = true) : wfd b (shortN b d xs xs.length 0 (List.replicate xs.length 0)).1 = true ∧ (shortN b d xs xs.length 0 (List.replicate xs.length 0)).1.length = xs.length ∧
    val b (shortN b d xs xs.length 0 (List.replicate xs.length 0)).1 = val b xs / d ∧ (shortN b d xs xs.length 0 (List.replicate xs.length 0)).2 = val b xs % d := by
  obtain ⟨a1, a2, _, a4, a5⟩ := shortN_ok hb hd hx xs.length 0 (List.replicate xs.length 0) hd (Nat.le_refl _) (by simp) (wfd_replicate (by omega))
  rw [List.length_replicate] at a2
  refine ⟨a1, a2, ?_, ?_⟩
  · have := a4
    rw [List.take_of_length_le (by omega), List.take_length] at this
    simpa using this
  · rw [List.take_length] at a5
    simpa using a5
end Go.Proofs.YtlfdidaeachpoaaGreat

namespace Go.Proofs.YtlfdidaeachpoaaGreat
def fixd (b : Nat) : Nat → Nat → List Int
  | 0, _ => []
  | m + 1, v => ((v % b : Nat) : Int) :: fixd b m (v / b)
theorem fixd_len (b : Nat) : ∀ m v, (fixd b m v).length = m
  | 0, _ => rfl
  | m + 1, v => by simp [fixd, fixd_len b m]
theorem fixd_wf {b : Nat} (hb : 0 < b) : ∀ m v, wfd b (fixd b m v) = true
  | 0, _ => rfl
  | m + 1, v => wfd_cons.2 ⟨⟨Int.natCast_nonneg _, Int.ofNat_lt.2 (Nat.mod_lt _ hb)⟩, fixd_wf hb m _⟩
theorem fixd_val {b : Nat} : ∀ m v, val b (fixd b m v) = v % b ^ m
  | 0, v => by simp [fixd, val, Nat.mod_one]
  | m + 1, v => by
    rw [fixd, val, fixd_val m, Int.toNat_natCast, mod_step]
theorem fixd_eq {b : Nat} (hb : 0 < b) : ∀ {xs : List Int}, wfd b xs = true → fixd b xs.length (val b xs) = xs
  | [], _ => rfl
  | d :: ds, h => by
    obtain ⟨hd, h⟩ := wfd_cons.1 h
    rw [List.length_cons, fixd, val, Nat.add_mul_mod_self_left, Nat.mod_eq_of_lt (by omega), Nat.add_mul_div_left _ _ hb, Nat.div_eq_of_lt (by omega : d.toNat < b), Nat.zero_add, fixd_eq hb h]
    congr 1
    omega
theorem fixd_get {b : Nat} (hb : 0 < b) {m v i : Nat} (hi : i < m) : (fixd b m v).getD i 0 = ((v / b ^ i % b : Nat) : Int) := by
  induction m generalizing v i with
  | zero => omega
  | succ m ih =>
    cases i with
    | zero => simp [fixd]
    | succ i =>
      rw [fixd, List.getD_cons_succ, ih (by omega), Nat.div_div_eq_div_mul, Nat.pow_succ, Nat.mul_comm b]
def sftN (b m : Nat) (xs : List Int) : Nat → Nat → Nat → List Int → List Int
  | 0, _, _, out => out
  | r + 1, i, o, out => sftN b m xs r (i + 1) ((o + (dig xs i).toNat * m) / b) (out.set i (((o + (dig xs i).toNat * m) % b : Nat) : Int))
theorem sftN_ok {b m : Nat} (hb : 0 < b) {xs : List Int} (hx : wfd b xs = true) : ∀ (r i o : Nat) (out : List Int), out.length = i + r → wfd b out = true →
    wfd b (sftN b m xs r i o out) = true ∧ (sftN b m xs r i o out).length = i + r ∧ val b (sftN b m xs r i o out) = val b (out.take i) + b ^ i * ((o + val b xs / b ^ i * m) % b ^ r)
  | 0, i, o, out, h1, h2 => ⟨h2, h1, by rw [List.take_of_length_le (by omega)]; simp [sftN, Nat.mod_one]⟩
  | r + 1, i, o, out, h1, h2 => by
    have hd : (dig xs i).toNat = val b xs / b ^ i % b := by rw [dig_val hb hx]; exact Int.toNat_natCast _
    obtain ⟨a1, a2, a3⟩ := sftN_ok hb hx (m := m) r (i + 1) ((o + (dig xs i).toNat * m) / b) (out.set i (((o + (dig xs i).toNat * m) % b : Nat) : Int)) (by rw [List.length_set]; omega) (wfd_set h2 ⟨Int.natCast_nonneg _, Int.ofNat_lt.2 (Nat.mod_lt _ hb)⟩)
    refine ⟨a1, by rw [sftN, a2]; omega, ?_⟩
    rw [sftN, a3, val_take_succ (by rw [List.length_set]; omega), List.take_set_of_le (Nat.le_refl _), hd]
    simp only [List.getD, List.getElem?_set_self (show i < out.length by omega), Option.getD_some, Int.toNat_natCast]
    rw [Nat.pow_succ, ← Nat.div_div_eq_div_mul]
    generalize val b xs / b ^ i = X
    rw [mod_step, Nat.mul_add]
    have e : o + X * m = (o + X % b * m) + b * (X / b * m) := by
      have := Nat.mod_add_div X b
      have h3 : X * m = (X % b + b * (X / b)) * m := by rw [this]
      rw [h3, Nat.add_mul, Nat.mul_assoc]
      omega
    rw [e, Nat.add_mul_mod_self_left, Nat.add_mul_div_left _ _ hb, Nat.mul_assoc]
    omega
theorem sft_val {m : Nat} {xs : List Int} (hx : wfd B32 xs = true) (hm : m ≤ B32) : sftN B32 m xs (xs.length + 1) 0 0 (List.replicate (xs.length + 1) 0) = fixd B32 (xs.length + 1) (val B32 xs * m) := by
  obtain ⟨a1, a2, a3⟩ := sftN_ok (b := B32) (m := m) (by decide) hx (xs.length + 1) 0 0 (List.replicate (xs.length + 1) 0) (by simp) (wfd_replicate (by decide))
  have h := fixd_eq (by decide) a1
  rw [a2, a3] at h
  rw [← h]
  simp only [List.take_zero, val, Nat.pow_zero, Nat.div_one, Nat.one_mul, Nat.zero_add]
  rw [Nat.mod_eq_of_lt]
  have h1 := val_lt (b := B32) (by decide) hx
  rw [Nat.pow_succ]
  calc val B32 xs * m ≤ val B32 xs * B32 := Nat.mul_le_mul_left _ hm
    _ < B32 ^ xs.length * B32 := Nat.mul_lt_mul_of_pos_right h1 (by decide)
end Go.Proofs.YtlfdidaeachpoaaGreat

namespace Go.Proofs.YtlfdidaeachpoaaGreat
def fillN (f : Nat → Int) : Nat → Nat → List Int → List Int
  | 0, _, out => out
  | r + 1, i, out => fillN f r (i + 1) (out.set i (f i))
theorem fillN_len (f : Nat → Int) : ∀ (r i : Nat) (out : List Int), (fillN f r i out).length = out.length
  | 0, _, _ => rfl
  | r + 1, i, out => by rw [fillN, fillN_len f r, List.length_set]
theorem fillN_get (f : Nat → Int) : ∀ (r i j : Nat) (out : List Int), i + r ≤ out.length → (fillN f r i out)[j]? = if i ≤ j ∧ j < i + r then some (f j) else out[j]?
  | 0, i, j, out, _ => by rw [if_neg (by omega)]; rfl
  | r + 1, i, j, out, h => by
    rw [fillN, fillN_get f r (i + 1) j _ (by rw [List.length_set]; omega)]
    by_cases h1 : i + 1 ≤ j ∧ j < i + 1 + r
    · rw [if_pos h1, if_pos (by omega)]
    · rw [if_neg h1]
      by_cases h2 : i = j
      · subst h2
        rw [if_pos (by omega), List.getElem?_set_self (by omega)]
      · rw [List.getElem?_set_ne h2, if_neg (by omega)]
theorem list_ext_getD {xs ys : List Int} (hl : xs.length = ys.length) (h : ∀ i, i < xs.length → xs.getD i 0 = ys.getD i 0) : xs = ys := by
  apply List.ext_getElem hl
  intro i h1 h2
  have := h i h1
  rw [List.getD, List.getD, List.getElem?_eq_getElem h1, List.getElem?_eq_getElem h2] at this
  exact this
def downF (b n : Nat) (xs : List Int) (i : Nat) : Int := ((((dig xs (i + 1 : Nat)).toNat * b + (dig xs i).toNat) / 2 ^ n % b : Nat) : Int)
theorem downF_eq {n : Nat} (hn : n ≤ 32) {xs : List Int} (hx : wfd B32 xs = true) (i : Nat) : downF B32 n xs i = ((val B32 xs / 2 ^ n / B32 ^ i % B32 : Nat) : Int) := by
  unfold downF
  have h0 : (dig xs i).toNat = val B32 xs / B32 ^ i % B32 := by rw [dig_val (by decide) hx]; exact Int.toNat_natCast _
  have h1 : (dig xs (i + 1 : Nat)).toNat = val B32 xs / B32 ^ i / B32 % B32 := by rw [dig_val (by decide) hx, Nat.pow_succ, Nat.div_div_eq_div_mul]; exact Int.toNat_natCast _
  have hA : val B32 xs / 2 ^ n / B32 ^ i = val B32 xs / B32 ^ i / 2 ^ n := by rw [Nat.div_div_eq_div_mul, Nat.mul_comm, ← Nat.div_div_eq_div_mul]
  rw [h0, h1, hA]
  generalize val B32 xs / B32 ^ i = X
  congr 1
  have e : X = (X / B32 % B32 * B32 + X % B32) + 2 ^ n * (2 ^ (32 - n) * B32 * (X / B32 / B32)) := by
    have a1 := Nat.mod_add_div X B32
    have a2 := Nat.mod_add_div (X / B32) B32
    have a3 : 2 ^ n * (2 ^ (32 - n) * B32 * (X / B32 / B32)) = B32 * (B32 * (X / B32 / B32)) := by
      rw [Nat.mul_assoc (2 ^ (32 - n)), ← Nat.mul_assoc (2 ^ n), ← Nat.pow_add, show n + (32 - n) = 32 by omega]
    rw [a3]
    have a4 : B32 * (X / B32) = B32 * (X / B32 % B32) + B32 * (B32 * (X / B32 / B32)) := by rw [← Nat.mul_add, a2]
    rw [Nat.mul_comm (X / B32 % B32)]
    omega
  have h2 : X / 2 ^ n = (X / B32 % B32 * B32 + X % B32) / 2 ^ n + 2 ^ (32 - n) * B32 * (X / B32 / B32) := by
    conv => lhs; rw [e]
    exact Nat.add_mul_div_left _ _ (Nat.pow_pos (by decide))
  rw [h2, Nat.mul_comm (2 ^ (32 - n)) B32, Nat.mul_assoc, Nat.add_mul_mod_self_left]
theorem down_val {n : Nat} (hn : n ≤ 32) {xs : List Int} (hx : wfd B32 xs = true) : fillN (downF B32 n xs) xs.length 0 (List.replicate xs.length 0) = fixd B32 xs.length (val B32 xs / 2 ^ n) := by
  refine list_ext_getD (by rw [fillN_len, fixd_len, List.length_replicate]) fun i hi => ?_
  rw [fillN_len, List.length_replicate] at hi
  rw [fixd_get (by decide) hi, List.getD, fillN_get _ _ _ _ _ (by simp), if_pos (by omega)]
  exact downF_eq hn hx i
end Go.Proofs.YtlfdidaeachpoaaGreat

namespace Go.Proofs.YtlfdidaeachpoaaGreat
def subD (x y l : Nat) : Nat × Nat := if y + l ≤ x then (x - (y + l), 0) else (x + B32 - (y + l), 1)
def awN (q : Nat) (vs : List Int) (j : Nat) : Nat → Nat → Nat → Nat → List Int → List Int × Nat
  | 0, _, _, l, us => (us, l)
  | r + 1, i, o, l, us => awN q vs j r (i + 1) ((o + q * (dig vs i).toNat) / B32) (subD (us.getD (j + i) 0).toNat ((o + q * (dig vs i).toNat) % B32) l).2
      (us.set (j + i) ((subD (us.getD (j + i) 0).toNat ((o + q * (dig vs i).toNat) % B32) l).1 : Int))
theorem subD_spec {x y l : Nat} (hx : x < B32) (hy : y < B32) (hl : l ≤ 1) : (subD x y l).1 < B32 ∧ (subD x y l).2 ≤ 1 ∧ (subD x y l).1 + y + l = x + B32 * (subD x y l).2 := by
  unfold subD
  have hB : B32 = 4294967296 := rfl
  split
  · simp only; omega
  · simp only; omega
structure AwOK (q : Nat) (vs : List Int) (j r i o l : Nat) (us : List Int) : Prop where
  wf : wfd B32 (awN q vs j r i o l us).1 = true
  len : (awN q vs j r i o l us).1.length = us.length
  le : (awN q vs j r i o l us).2 ≤ 1
  val : val B32 (awN q vs j r i o l us).1 + B32 ^ (j + i) * (o + l + q * (val B32 vs / B32 ^ i % B32 ^ r)) =
    val B32 us + B32 ^ (j + i + r) * ((awN q vs j r i o l us).2 + (o + q * (val B32 vs / B32 ^ i % B32 ^ r)) / B32 ^ r)
theorem awN_ok {q : Nat} {vs : List Int} (hv : wfd B32 vs = true) {j : Nat} : ∀ (r i o l : Nat) (us : List Int), j + i + r ≤ us.length → wfd B32 us = true → l ≤ 1 → AwOK q vs j r i o l us
  | 0, i, o, l, us, _, hw, hl => ⟨hw, rfl, hl, by simp [awN, Nat.mod_one, Nat.add_comm o l]⟩
  | r + 1, i, o, l, us, h1, hw, hl => by
    have hd : (dig vs i).toNat = val B32 vs / B32 ^ i % B32 := by rw [dig_val (by decide) hv]; exact Int.toNat_natCast _
    have x := wfd_get (by decide : 0 < B32) hw (j + i)
    have hx : (us.getD (j + i) 0).toNat < B32 := by have : us.getD (j + i) 0 < ((B32 : Nat) : Int) := x.2; omega
    have hy : (o + q * (dig vs i).toNat) % B32 < B32 := Nat.mod_lt _ (by decide)
    obtain ⟨s1, s2, s3⟩ := subD_spec hx hy hl
    obtain ⟨a1, a2, a3, a4⟩ := awN_ok (q := q) hv (j := j) r (i + 1) ((o + q * (dig vs i).toNat) / B32) (subD (us.getD (j + i) 0).toNat ((o + q * (dig vs i).toNat) % B32) l).2
      (us.set (j + i) ((subD (us.getD (j + i) 0).toNat ((o + q * (dig vs i).toNat) % B32) l).1 : Int)) (by rw [List.length_set]; omega) (wfd_set hw ⟨Int.natCast_nonneg _, Int.ofNat_lt.2 s1⟩) s2
    have e : awN q vs j (r + 1) i o l us = awN q vs j r (i + 1) ((o + q * (dig vs i).toNat) / B32) (subD (us.getD (j + i) 0).toNat ((o + q * (dig vs i).toNat) % B32) l).2
      (us.set (j + i) ((subD (us.getD (j + i) 0).toNat ((o + q * (dig vs i).toNat) % B32) l).1 : Int)) := rfl
    rw [← e] at a1 a2 a3 a4
    refine ⟨a1, by rw [a2, List.length_set], a3, ?_⟩
    have v := val_set (b := B32) (xs := us) (i := j + i) (d := ((subD (us.getD (j + i) 0).toNat ((o + q * (dig vs i).toNat) % B32) l).1 : Int)) (by omega)
    rw [Int.toNat_natCast] at v
    rw [show j + (i + 1) + r = j + i + (r + 1) by omega, show j + (i + 1) = j + i + 1 by omega, Nat.pow_succ B32 i, ← Nat.div_div_eq_div_mul, hd] at a4
    rw [hd] at s3 v
    generalize val B32 (awN q vs j (r + 1) i o l us).1 = R at *
    generalize (awN q vs j (r + 1) i o l us).2 = L at *
    generalize val B32 vs / B32 ^ i = V at *
    generalize hsd : subD (us.getD (j + i) 0).toNat ((o + q * (V % B32)) % B32) l = sd at *
    generalize val B32 (us.set (j + i) (sd.1 : Int)) = U' at *
    generalize val B32 us = U at *
    generalize (us.getD (j + i) 0).toNat = u at *
    rw [Nat.pow_succ B32 (j + i)] at a4
    generalize B32 ^ (j + i) = P at *
    rw [mod_step B32 V r]
    generalize hM : V / B32 % B32 ^ r = M at *
    have c1 : o + q * (V % B32 + B32 * M) = (o + q * (V % B32)) % B32 + B32 * ((o + q * (V % B32)) / B32 + q * M) := by
      have := Nat.mod_add_div (o + q * (V % B32)) B32
      rw [Nat.mul_add q, Nat.mul_left_comm q B32 M, Nat.mul_add B32]
      omega
    have c2 : (o + q * (V % B32 + B32 * M)) / B32 ^ (r + 1) = ((o + q * (V % B32)) / B32 + q * M) / B32 ^ r := by
      rw [Nat.pow_succ, Nat.mul_comm (B32 ^ r) B32, ← Nat.div_div_eq_div_mul, c1, Nat.add_mul_div_left _ _ (by decide), Nat.div_eq_of_lt (Nat.mod_lt _ (by decide)), Nat.zero_add]
    rw [c2]
    have c3 : o + l + q * (V % B32 + B32 * M) = l + ((o + q * (V % B32)) % B32 + B32 * ((o + q * (V % B32)) / B32 + q * M)) := by omega
    rw [c3]
    generalize (o + q * (V % B32)) % B32 = y at *
    have e1 : P * (sd.1 + y + l) = P * (u + B32 * sd.2) := by rw [s3]
    rw [show j + i + (r + 1) = j + i + (r + 1) from rfl] at a4
    generalize B32 ^ (j + i + (r + 1)) * (L + ((o + q * (V % B32)) / B32 + q * M) / B32 ^ r) = W at *
    generalize (o + q * (V % B32)) / B32 = o1 at *
    generalize q * M = QM at *
    simp only [Nat.mul_add, ← Nat.mul_assoc] at e1 a4 v ⊢
    omega
theorem aw_val {q : Nat} {vs : List Int} (hv : wfd B32 vs = true) {j : Nat} {us : List Int} (hu : wfd B32 us = true) (hl : j + (vs.length + 1) ≤ us.length) (hq : q * val B32 vs < B32 ^ (vs.length + 1)) :
    wfd B32 (awN q vs j (vs.length + 1) 0 0 0 us).1 = true ∧ (awN q vs j (vs.length + 1) 0 0 0 us).1.length = us.length ∧ (awN q vs j (vs.length + 1) 0 0 0 us).2 ≤ 1 ∧
      val B32 (awN q vs j (vs.length + 1) 0 0 0 us).1 + B32 ^ j * (q * val B32 vs) = val B32 us + B32 ^ (j + (vs.length + 1)) * (awN q vs j (vs.length + 1) 0 0 0 us).2 := by
  obtain ⟨a1, a2, a3, a4⟩ := awN_ok (q := q) hv (j := j) (vs.length + 1) 0 0 0 us (by omega) hu (by omega)
  refine ⟨a1, a2, a3, ?_⟩
  have hlt : val B32 vs < B32 ^ (vs.length + 1) := Nat.lt_of_lt_of_le (val_lt (by decide) hv) (Nat.pow_le_pow_right (by decide) (by omega))
  simp only [Nat.add_zero, Nat.zero_add, Nat.pow_zero, Nat.div_one, Nat.mod_eq_of_lt hlt, Nat.div_eq_of_lt hq] at a4
  exact a4
def bkN (vs : List Int) (j : Nat) : Nat → Nat → Nat → List Int → List Int × Nat
  | 0, _, o, us => (us, o)
  | r + 1, i, o, us => bkN vs j r (i + 1) ((o + ((us.getD (j + i) 0).toNat + (dig vs i).toNat)) / B32) (us.set (j + i) (((o + ((us.getD (j + i) 0).toNat + (dig vs i).toNat)) % B32 : Nat) : Int))
structure BkOK (vs : List Int) (j r i o : Nat) (us : List Int) : Prop where
  wf : wfd B32 (bkN vs j r i o us).1 = true
  len : (bkN vs j r i o us).1.length = us.length
  le : (bkN vs j r i o us).2 ≤ 1
  val : val B32 (bkN vs j r i o us).1 + B32 ^ (j + i + r) * (bkN vs j r i o us).2 = val B32 us + B32 ^ (j + i) * (o + val B32 vs / B32 ^ i % B32 ^ r)
theorem bkN_ok {vs : List Int} (hv : wfd B32 vs = true) {j : Nat} : ∀ (r i o : Nat) (us : List Int), j + i + r ≤ us.length → wfd B32 us = true → o ≤ 1 → BkOK vs j r i o us
  | 0, i, o, us, _, hw, ho => ⟨hw, rfl, ho, by simp [bkN, Nat.mod_one]⟩
  | r + 1, i, o, us, h1, hw, ho => by
    have hd : (dig vs i).toNat = val B32 vs / B32 ^ i % B32 := by rw [dig_val (by decide) hv]; exact Int.toNat_natCast _
    have x := wfd_get (by decide : 0 < B32) hw (j + i)
    have hx : (us.getD (j + i) 0).toNat < B32 := by have : us.getD (j + i) 0 < ((B32 : Nat) : Int) := x.2; omega
    have hy : (dig vs i).toNat < B32 := by rw [hd]; exact Nat.mod_lt _ (by decide)
    have hc : (o + ((us.getD (j + i) 0).toNat + (dig vs i).toNat)) / B32 ≤ 1 := by
      rw [← Nat.lt_succ_iff, Nat.div_lt_iff_lt_mul (by decide)]
      generalize (us.getD (j + i) 0).toNat = p1 at *
      generalize (dig vs i).toNat = p2 at *
      have hB : B32 = 4294967296 := rfl
      omega
    obtain ⟨a1, a2, a3, a4⟩ := bkN_ok hv (j := j) r (i + 1) ((o + ((us.getD (j + i) 0).toNat + (dig vs i).toNat)) / B32)
      (us.set (j + i) (((o + ((us.getD (j + i) 0).toNat + (dig vs i).toNat)) % B32 : Nat) : Int)) (by rw [List.length_set]; omega) (wfd_set hw ⟨Int.natCast_nonneg _, Int.ofNat_lt.2 (Nat.mod_lt _ (by decide))⟩) hc
    have e : bkN vs j (r + 1) i o us = bkN vs j r (i + 1) ((o + ((us.getD (j + i) 0).toNat + (dig vs i).toNat)) / B32)
      (us.set (j + i) (((o + ((us.getD (j + i) 0).toNat + (dig vs i).toNat)) % B32 : Nat) : Int)) := rfl
    rw [← e] at a1 a2 a3 a4
    refine ⟨a1, by rw [a2, List.length_set], a3, ?_⟩
    have v := val_set (b := B32) (xs := us) (i := j + i) (d := (((o + ((us.getD (j + i) 0).toNat + (dig vs i).toNat)) % B32 : Nat) : Int)) (by omega)
    rw [Int.toNat_natCast] at v
    rw [show j + (i + 1) + r = j + i + (r + 1) by omega, show j + (i + 1) = j + i + 1 by omega, Nat.pow_succ B32 i, ← Nat.div_div_eq_div_mul, hd] at a4
    rw [hd] at v
    generalize val B32 (bkN vs j (r + 1) i o us).1 = R at *
    generalize (bkN vs j (r + 1) i o us).2 = L at *
    generalize val B32 vs / B32 ^ i = V at *
    rw [mod_step B32 V r]
    generalize (us.getD (j + i) 0).toNat = u at *
    have t1 := Nat.mod_add_div (o + (u + V % B32)) B32
    generalize val B32 (us.set (j + i) (((o + (u + V % B32)) % B32 : Nat) : Int)) = U' at *
    generalize val B32 us = U at *
    generalize (o + (u + V % B32)) % B32 = tm at *
    generalize (o + (u + V % B32)) / B32 = td at *
    rw [Nat.pow_succ B32 (j + i)] at a4
    generalize B32 ^ (j + i) = P at *
    generalize B32 ^ (j + i + (r + 1)) * L = W at *
    generalize V / B32 % B32 ^ r = M at *
    have e1 : P * (tm + B32 * td) = P * (o + (u + V % B32)) := by rw [t1]
    simp only [Nat.mul_add, ← Nat.mul_assoc] at e1 a4 v ⊢
    omega
theorem bk_val {vs : List Int} (hv : wfd B32 vs = true) {j : Nat} {us : List Int} (hu : wfd B32 us = true) (hl : j + (vs.length + 1) ≤ us.length) :
    wfd B32 (bkN vs j (vs.length + 1) 0 0 us).1 = true ∧ (bkN vs j (vs.length + 1) 0 0 us).1.length = us.length ∧ (bkN vs j (vs.length + 1) 0 0 us).2 ≤ 1 ∧
      val B32 (bkN vs j (vs.length + 1) 0 0 us).1 + B32 ^ (j + (vs.length + 1)) * (bkN vs j (vs.length + 1) 0 0 us).2 = val B32 us + B32 ^ j * val B32 vs := by
  obtain ⟨a1, a2, a3, a4⟩ := bkN_ok hv (j := j) (vs.length + 1) 0 0 us (by omega) hu (by omega)
  refine ⟨a1, a2, a3, ?_⟩
  have hlt : val B32 vs < B32 ^ (vs.length + 1) := Nat.lt_of_lt_of_le (val_lt (by decide) hv) (Nat.pow_le_pow_right (by decide) (by omega))
  simp only [Nat.add_zero, Nat.zero_add, Nat.pow_zero, Nat.div_one, Nat.mod_eq_of_lt hlt] at a4
  exact a4
end Go.Proofs.YtlfdidaeachpoaaGreat

namespace Go.Proofs.YtlfdidaeachpoaaGreat
structure Win (p v1 v2 vr t u2 ur V W : Nat) : Prop where
  hV : V = (v1 * B32 + v2) * p + vr
  hW : W = (t * B32 + u2) * p + ur
  hvr : vr < p
  hur : ur < p
  h2 : v2 < B32
  hu2 : u2 < B32
  norm : B32 ≤ 2 * v1
  lt : W < B32 * V
theorem Win.start {p v1 v2 vr t u2 ur V W q : Nat} (H : Win p v1 v2 vr t u2 ur V W) (hq : q * V ≤ W) : q * v1 ≤ t := by
  apply Nat.le_of_lt_succ
  have hp : 0 < B32 * p := Nat.mul_pos (by decide) (Nat.lt_of_le_of_lt (Nat.zero_le _) H.hvr)
  have h1 : q * v1 * (B32 * p) ≤ q * V := by
    rw [H.hV, Nat.mul_assoc]
    apply Nat.mul_le_mul_left
    rw [Nat.add_mul, Nat.mul_assoc]
    omega
  have h2 : W < (t + 1) * (B32 * p) := by
    rw [H.hW, Nat.add_mul, Nat.add_mul, Nat.mul_assoc, Nat.one_mul]
    have : (u2 + 1) * p ≤ B32 * p := Nat.mul_le_mul_right _ H.hu2
    rw [Nat.add_mul, Nat.one_mul] at this
    have := H.hur
    omega
  exact Nat.lt_of_mul_lt_mul_right (Nat.lt_of_le_of_lt (Nat.le_trans h1 hq) h2)
theorem Win.down {p v1 v2 vr t u2 ur V W q g r : Nat} (H : Win p v1 v2 vr t u2 ur V W) (hq : q * V ≤ W) (hr : g * v1 + r = t) (h : r * B32 + u2 < g * v2) : q < g := by
  apply Nat.lt_of_not_le
  intro hle
  have hp : 0 < p := Nat.lt_of_le_of_lt (Nat.zero_le _) H.hvr
  have h1 : g * V ≤ W := Nat.le_trans (Nat.mul_le_mul_right _ hle) hq
  have h2 : (t * B32 + u2 + 1) * p ≤ g * (v1 * B32 + v2) * p := by
    apply Nat.mul_le_mul_right
    rw [← hr, Nat.add_mul, Nat.mul_add, Nat.mul_assoc]
    omega
  have h3 : g * (v1 * B32 + v2) * p ≤ g * V := by
    rw [H.hV, Nat.mul_assoc]
    exact Nat.mul_le_mul_left _ (Nat.le_add_right _ _)
  rw [Nat.add_mul, Nat.one_mul] at h2
  have := H.hW
  have := H.hur
  omega
theorem Win.near {p v1 v2 vr t u2 ur V W q g r : Nat} (H : Win p v1 v2 vr t u2 ur V W) (hq : W < (q + 1) * V) (hr : g * v1 + r = t) (hg : g ≤ B32) (h : ¬ r * B32 + u2 < g * v2) : g ≤ q + 1 := by
  apply Nat.le_of_not_lt
  intro hlt
  have h1 : (q + 2) * V ≤ g * V := Nat.mul_le_mul_right _ hlt
  have h2 : g * V = g * (v1 * B32 + v2) * p + g * vr := by rw [H.hV, Nat.mul_add, Nat.mul_assoc]
  have h3 : g * (v1 * B32 + v2) * p ≤ (t * B32 + u2) * p := by
    apply Nat.mul_le_mul_right
    rw [← hr, Nat.add_mul, Nat.mul_add, Nat.mul_assoc]
    omega
  have h4 : g * vr ≤ B32 * vr := Nat.mul_le_mul_right _ hg
  have h5 : B32 * (vr + 1) ≤ B32 * p := Nat.mul_le_mul_left _ H.hvr
  have h6 : B32 * p ≤ V := by
    rw [H.hV]
    have hv1 : 1 ≤ v1 := by
      have := H.norm
      have hB : B32 = 4294967296 := rfl
      omega
    have h10 : B32 ≤ v1 * B32 + v2 := Nat.le_trans (Nat.le_mul_of_pos_left B32 hv1) (Nat.le_add_right _ _)
    exact Nat.le_trans (Nat.mul_le_mul_right p h10) (Nat.le_add_right _ _)
  have h7 : (q + 2) * V = (q + 1) * V + V := by rw [Nat.add_mul, Nat.add_mul]; omega
  have h8 : B32 * (vr + 1) = B32 * vr + B32 := by rw [Nat.mul_add, Nat.mul_one]
  have hB : B32 = 4294967296 := rfl
  have := H.hW
  omega
theorem Win.stop {p v1 v2 vr t u2 ur V W g r : Nat} (H : Win p v1 v2 vr t u2 ur V W) (hr : g * v1 + r = t) (hg : g ≤ B32) (h : B32 ≤ r) : g * V ≤ W := by
  have h1 : g * V = g * v1 * (B32 * p) + g * (v2 * p + vr) := by
    rw [H.hV, Nat.add_mul, Nat.add_assoc, Nat.mul_add, Nat.mul_assoc v1, Nat.mul_assoc]
  have h2 : g * (v2 * p + vr) ≤ B32 * (B32 * p) := by
    apply Nat.mul_le_mul hg
    have : (v2 + 1) * p ≤ B32 * p := Nat.mul_le_mul_right _ H.h2
    rw [Nat.add_mul, Nat.one_mul] at this
    have := H.hvr
    omega
  have h3 : (g * v1 + B32) * (B32 * p) ≤ t * (B32 * p) := Nat.mul_le_mul_right _ (by omega)
  rw [Nat.add_mul] at h3
  have h4 : t * (B32 * p) ≤ W := by
    rw [H.hW, Nat.add_mul, Nat.mul_assoc]
    omega
  omega
def gsN (v1 v2 u2 : Nat) : Nat → Nat → Nat → Nat
  | 0, g, _ => g
  | f + 1, g, r => if B32 ≤ g ∨ r * B32 + u2 < g * v2 then (if B32 ≤ r + v1 then g - 1 else gsN v1 v2 u2 f (g - 1) (r + v1)) else g
theorem gsN_ok {p v1 v2 vr t u2 ur V W q : Nat} (H : Win p v1 v2 vr t u2 ur V W) (hq : q * V ≤ W) (hq' : W < (q + 1) * V) (hqB : q < B32) : ∀ (f g r : Nat), g * v1 + r = t → q ≤ g → g ≤ B32 + 1 → (g = B32 + 1 → r + v1 < B32) → B32 ≤ r + f * v1 → 0 < f →
    q ≤ gsN v1 v2 u2 f g r ∧ gsN v1 v2 u2 f g r ≤ q + 1
  | 0, _, _, _, _, _, _, _, h => by omega
  | f + 1, g, r, hr, h1, h2, h3, h4, _ => by
    unfold gsN
    split
    · rename_i hc
      have hg1 : q ≤ g - 1 ∧ 0 < g := by
        rcases hc with hc | hc
        · omega
        · have := H.down hq hr hc
          omega
      have hr' : (g - 1) * v1 + (r + v1) = t := by
        have h9 : g * v1 = (g - 1) * v1 + v1 := by
          have h10 : g = (g - 1) + 1 := by omega
          have h11 : ((g - 1) + 1) * v1 = (g - 1) * v1 + v1 := by rw [Nat.add_mul, Nat.one_mul]
          rw [← h11, ← h10]
        omega
      split
      · rename_i hb
        have hgB : g - 1 ≤ B32 := by omega
        have := H.stop hr' hgB hb
        refine ⟨hg1.1, ?_⟩
        apply Nat.le_of_lt_succ
        have h5 : (g - 1) * V < (q + 1) * V := Nat.lt_of_le_of_lt this hq'
        have := Nat.lt_of_mul_lt_mul_right h5
        omega
      · rename_i hb
        have hv : B32 ≤ 2 * v1 := H.norm
        by_cases hf : f = 0
        · subst hf
          exfalso
          rw [Nat.zero_add, Nat.one_mul] at h4
          omega
        · refine gsN_ok H hq hq' hqB f (g - 1) (r + v1) hr' hg1.1 (by omega) (by omega) ?_ (by omega)
          rw [Nat.add_mul, Nat.one_mul] at h4
          omega
    · rename_i hc
      exact ⟨h1, H.near hq' hr (by omega) (by omega)⟩
end Go.Proofs.YtlfdidaeachpoaaGreat

namespace Go.Proofs.YtlfdidaeachpoaaGreat
open Go Go.RowKit
set_option maxRecDepth 100000
noncomputable section
def okL (k : Nat) {α : Type} (xs : List α) : Bool := decide (xs.length ≤ 2 ^ k)
theorem okL_iff {k : Nat} {α : Type} {xs : List α} : okL k xs = true ↔ xs.length ≤ 2 ^ k := by simp [okL]
theorem okL_mono {k m : Nat} {α : Type} {xs : List α} (h : k ≤ m) (hx : okL k xs = true) : okL m xs = true := by
  rw [okL_iff] at *
  exact Nat.le_trans hx (Nat.pow_le_pow_right (by decide) h)
theorem okL40 {α : Type} {xs : List α} : okL 40 xs = true ↔ xs.length ≤ 1099511627776 := okL_iff
theorem okL39 {α : Type} {xs : List α} : okL 39 xs = true ↔ xs.length ≤ 549755813888 := okL_iff
theorem okL38 {α : Type} {xs : List α} : okL 38 xs = true ↔ xs.length ≤ 274877906944 := okL_iff
theorem okL36 {α : Type} {xs : List α} : okL 36 xs = true ↔ xs.length ≤ 68719476736 := okL_iff
theorem okL20 {α : Type} {xs : List α} : okL 20 xs = true ↔ xs.length ≤ 1048576 := okL_iff
theorem wfd_of {xs : List Int} (h : Wf (.sl tV) xs) : wfd B32 xs = true := by
  rw [wfd_mem]
  exact fun d hd => h.2 d hd
def slices_Clone_api_Nat_uint32 : (List Int) → RT Unit (List Int)
| s =>
 .rq 2 (let t0 := apOK 4 [] s;
 .may (List.isEmpty s)
 (.ite true
 (.rq 1 (.done []))
 (.rq 2 (.req t0 (.rq 1 (.done ([] ++ s))))))
 (.ite false
 (.rq 1 (.done []))
 (.rq 2 (.req t0 (.rq 1 (.done ([] ++ s)))))))
def F_slices_Clone_api_Nat_uint32 (x : (List Int)) : Option (List Int) := (slices_Clone_api_Nat_uint32 x).run fun _ => none
def io_slices_Clone_api_Nat_uint32 : Io := ⟨n_slices_Clone_api_Nat_uint32, [.sl tV], [.lf (qm 0)], [], [[.sl tV]], [.sl tV], .lf (qr 0), [], [(true, .arr 122 (qm 0))], false⟩
def slices_Clone_api_Nat_uint32_P : List Piece := []
def slices_Clone_api_Nat_uint32_T : CallT := tab []
theorem slices_Clone_api_Nat_uint32_To : SoundT pg slices_Clone_api_Nat_uint32_T := tab_sound trivial
theorem slices_Clone_api_Nat_uint32_go : FnOK pg (slices_Clone_api_Nat_uint32_T) io_slices_Clone_api_Nat_uint32 f_slices_Clone_api_Nat_uint32 (slices_Clone_api_Nat_uint32_P) [.nilRow 2 800002 122 tV, .ren 2 700002, .ren 2 900002] (slices_Clone_api_Nat_uint32) := ⟨by kernel_rfl, by kernel_rfl, fun x => by kernel_rfl⟩
theorem ok_slices_Clone_api_Nat_uint32 : io_slices_Clone_api_Nat_uint32.Okay pg (F_slices_Clone_api_Nat_uint32) := fn_ok pg_mixed (slices_Clone_api_Nat_uint32_To) (slices_Clone_api_Nat_uint32_go) trivial
def e_slices_Clone_api_Nat_uint32 : Entry := io_slices_Clone_api_Nat_uint32.sp (fun s => okL 40 s) (fun s => s)
theorem sp_slices_Clone_api_Nat_uint32 (h : ∀ (s : List Int), WfT [.sl tV] s → (okL 40 s) = true → (slices_Clone_api_Nat_uint32 s).run (fun _ => none) = some s) : e_slices_Clone_api_Nat_uint32.ok pg := sp_ok ok_slices_Clone_api_Nat_uint32 fun s hw hc => h s hw hc
theorem e_slices_Clone_api_Nat_uint32_ok : e_slices_Clone_api_Nat_uint32.ok pg := sp_slices_Clone_api_Nat_uint32 fun s _ hc => by
  replace hc := okL40.1 hc
  have h : apOK 4 [] s = true := by rw [apOK_iff, maxLen_eq]; simp; omega
  unfold slices_Clone_api_Nat_uint32
  simp only [RT.run, h, List.nil_append, if_true, if_false, Bool.false_eq_true]
  cases s with
  | nil => simp [bothR]
  | cons a s => simp
def nat_at : ((List Int) × Int) → RT Unit Int
| (a, i) =>
 .rq 5 (.ite (decide (i < (a.length : Int)))
 (.rq 2 (.req (inB a i) (.rq 2 (.done (gI a i)))))
 (.rq 1 (.done 0)))
def F_nat_at (x : (List Int) × Int) : Option Int := (nat_at x).run fun _ => none
def io_nat_at : Io := ⟨n_nat_at, [.sl tV, tI], [.lf (qm 0), .lf (qm 1)], [], [[.sl tV], [tI]], [tV], .lf (qm 0), [], [], false⟩
def nat_at_P : List Piece := []
def nat_at_T : CallT := tab []
theorem nat_at_To : SoundT pg nat_at_T := tab_sound trivial
theorem nat_at_go : FnOK pg (nat_at_T) io_nat_at f_nat_at (nat_at_P) [] (nat_at) := ⟨by kernel_rfl, by kernel_rfl, fun x => by kernel_rfl⟩
theorem ok_nat_at : io_nat_at.Okay pg (F_nat_at) := fn_ok pg_mixed (nat_at_To) (nat_at_go) trivial
def e_nat_at : Entry := io_nat_at.sp (fun (a, i) => decide (0 ≤ i)) (fun (a, i) => dig a i)
theorem sp_nat_at (h : ∀ (a : List Int) (i : Int), WfT [.sl tV, tI] (a, i) → (decide (0 ≤ i)) = true → (nat_at (a, i)).run (fun _ => none) = some (dig a i)) : e_nat_at.ok pg := sp_ok ok_nat_at fun (a, i) hw hc => h a i hw hc
theorem e_nat_at_ok : e_nat_at.ok pg := sp_nat_at fun a i _ hc => by
  replace hc : 0 ≤ i := of_decide_eq_true hc
  unfold nat_at dig
  simp only [RT.run, decide_eq_true_eq]
  split
  · rw [if_pos (by rw [inB_iff]; omega)]; rfl
  · rfl
def nat_Cut_b28 : (List Int) → Int → RT Int Int
| a, n =>
 .rq 6 (let t0 := decide (0 < n);
 let t1 := w64 (n - 1);
 .req ((inB a t1) || (!t0)) (.rq 3 (.ite (t0 && ((gI a t1) == 0))
 (.rq 3 (.again t1))
 (.done n))))
def nat_Cut_p28 : Piece := ⟨28, true, [.sl tV], [tI], ⟨[.keep [0, 3], .gc], [0, 3], [.lf (qi 0), .lf (qm 0)], []⟩, [⟨2, ⟨[.keep [0, 3], .gc], [0, 3], [.lf (qi 0), .lf (qm 0)], []⟩, [tI]⟩], nat_Cut_b28⟩
def nat_Cut : (List Int) → RT Unit (List Int)
| a =>
 .rq 4 (.call (lo nat_Cut_b28 a (a.length : Int)) default fun v0 =>
 .rq 2 (.req (takeOK a v0) (.req (okL 40 (takeI a v0)) (.rq 1 (.done (takeI a v0))))))
def F_nat_Cut (x : (List Int)) : Option (List Int) := (nat_Cut x).run fun _ => none
def io_nat_Cut : Io := ⟨n_nat_Cut, [.sl tV], [.lf (qm 0)], [], [[.sl tV]], [.sl tV], .lf (qr 0), [], [(true, .arr 122 (qm 0))], false⟩
def nat_Cut_P : List Piece := [nat_Cut_p28]
def nat_Cut_T : CallT := tab [e_slices_Clone_api_Nat_uint32]
theorem nat_Cut_To : SoundT pg nat_Cut_T := tab_sound ⟨e_slices_Clone_api_Nat_uint32_ok, trivial⟩
theorem nat_Cut_k28 : (nat_Cut_p28).OK pg (nat_Cut_T) (tell 22 (nat_Cut_P)) (codeOf f_nat_Cut) 22 := ⟨by kernel_rfl, fun i x => by kernel_rfl⟩
theorem nat_Cut_go : FnOK pg (nat_Cut_T) io_nat_Cut f_nat_Cut (nat_Cut_P) [.nilRow 2 800002 122 tV, .ren 2 700002, .ren 2 900002] (nat_Cut) := ⟨by kernel_rfl, by kernel_rfl, fun x => by kernel_rfl⟩
theorem ok_nat_Cut : io_nat_Cut.Okay pg (F_nat_Cut) := fn_ok pg_mixed (nat_Cut_To) (nat_Cut_go) ⟨nat_Cut_k28, trivial⟩
theorem cut_l (a : List Int) (hl : a.length ≤ 9223372036854775807) : ∀ n : Nat, n ≤ a.length → lo nat_Cut_b28 a (n : Int) = some (cutN a n : Int)
  | 0, _ => by
    rw [lo_eq, nat_Cut_b28]
    simp [RT.run, inB, cutN]
  | n + 1, h => by
    rw [lo_eq, nat_Cut_b28]
    have w : w64 (((n + 1 : Nat) : Int) - 1) = (n : Int) := by rw [w64_in] <;> omega
    simp only [RT.run, w]
    rw [if_pos (by rw [inB_nat]; simp; omega)]
    have hg : gI a (n : Int) = a.getD n 0 := gI_nat a n
    rw [hg, cutN]
    by_cases h0 : a.getD n 0 = 0
    · rw [if_pos (by rw [h0]; simp), if_pos h0]
      exact cut_l a hl n (by omega)
    · rw [if_neg (by simp only [Bool.and_eq_true, decide_eq_true_eq, beq_iff_eq]; exact fun h => h0 h.2), if_neg h0]
def e_nat_Cut : Entry := io_nat_Cut.sp (fun a => okL 40 a) (fun a => digs B32 (val B32 a))
theorem sp_nat_Cut (h : ∀ (a : List Int), WfT [.sl tV] a → (okL 40 a) = true → (nat_Cut a).run (fun _ => none) = some (digs B32 (val B32 a))) : e_nat_Cut.ok pg := sp_ok ok_nat_Cut fun a hw hc => h a hw hc
theorem e_nat_Cut_ok : e_nat_Cut.ok pg := sp_nat_Cut fun a hw hc => by
  have hw' : Wf (.sl tV) a := hw
  have hl := hw'.1
  unfold nat_Cut
  replace hc := okL40.1 hc
  simp only [RT.run, cut_l a hl a.length (Nat.le_refl _), Option.bind_some]
  have hc' := cutN_le a a.length
  have h1 : takeOK a (cutN a a.length : Int) = true := by simp [takeOK]; omega
  have h2 : takeI a (cutN a a.length : Int) = cut a := by simp [takeI, cut]
  rw [if_pos h1, h2, if_pos (by rw [okL40]; show (a.take _).length ≤ _; rw [List.length_take]; omega), cut_eq (by decide) (wfd_of hw')]
def nat_Of : Int → RT Unit (List Int)
| n =>
 .rq 7 (let t0 := [wu32 n, wu32 (shrI .u64 n 32)];
 .req (okL 40 t0) (.rq 1 (.done (digs B32 (val B32 t0)))))
def F_nat_Of (x : Int) : Option (List Int) := (nat_Of x).run fun _ => none
def io_nat_Of : Io := ⟨n_nat_Of, [tU], [.lf (qm 0)], [], [[tU]], [.sl tV], .lf (qr 0), [], [(true, .arr 122 (qm 0))], false⟩
def nat_Of_P : List Piece := []
def nat_Of_T : CallT := tab [e_nat_Cut]
theorem nat_Of_To : SoundT pg nat_Of_T := tab_sound ⟨e_nat_Cut_ok, trivial⟩
theorem nat_Of_go : FnOK pg (nat_Of_T) io_nat_Of f_nat_Of (nat_Of_P) [.nilRow 2 800002 122 tV, .ren 2 700002, .ren 2 900002] (nat_Of) := ⟨by kernel_rfl, by kernel_rfl, fun x => by kernel_rfl⟩
theorem ok_nat_Of : io_nat_Of.Okay pg (F_nat_Of) := fn_ok pg_mixed (nat_Of_To) (nat_Of_go) trivial
def e_nat_Of : Entry := io_nat_Of.sp (fun n => true) (fun n => digs B32 n.toNat)
theorem sp_nat_Of (h : ∀ (n : Int), WfT [tU] n → (nat_Of n).run (fun _ => none) = some (digs B32 n.toNat)) : e_nat_Of.ok pg := sp_ok ok_nat_Of fun n hw hc => h n hw
theorem e_nat_Of_ok : e_nat_Of.ok pg := sp_nat_Of fun n hw => by
  have hw' : 0 ≤ n ∧ n < 18446744073709551616 := hw
  unfold nat_Of
  have h1 : wu32 n = n % 4294967296 := wu32_eq n
  have h2 : wu32 (shrI .u64 n 32) = n / 4294967296 := by
    have : shrI .u64 n 32 = n / 4294967296 := by
      unfold shrI
      rw [Int.fdiv_eq_ediv_of_nonneg _ (Int.pow_nonneg (by decide))]
      rfl
    rw [this, wu32_in] <;> omega
  simp only [RT.run, h1, h2]
  rw [if_pos (by rw [okL40]; simp)]
  have e : val B32 [n % 4294967296, n / 4294967296] = n.toNat := by
    simp only [val]
    rw [show B32 = 4294967296 from rfl]
    omega
  rw [e]
def cmp_isNaN_uint32 : Int → RT Unit Bool
| x =>
 .rq 5 (.done (x != x))
def F_cmp_isNaN_uint32 (x : Int) : Option Bool := (cmp_isNaN_uint32 x).run fun _ => none
def io_cmp_isNaN_uint32 : Io := ⟨n_cmp_isNaN_uint32, [tV], [.lf (qm 0)], [], [[tV]], [tB], .lf (qm 0), [], [], false⟩
def cmp_isNaN_uint32_P : List Piece := []
def cmp_isNaN_uint32_T : CallT := tab []
theorem cmp_isNaN_uint32_To : SoundT pg cmp_isNaN_uint32_T := tab_sound trivial
theorem cmp_isNaN_uint32_go : FnOK pg (cmp_isNaN_uint32_T) io_cmp_isNaN_uint32 f_cmp_isNaN_uint32 (cmp_isNaN_uint32_P) [] (cmp_isNaN_uint32) := ⟨by kernel_rfl, by kernel_rfl, fun x => by kernel_rfl⟩
theorem ok_cmp_isNaN_uint32 : io_cmp_isNaN_uint32.Okay pg (F_cmp_isNaN_uint32) := fn_ok pg_mixed (cmp_isNaN_uint32_To) (cmp_isNaN_uint32_go) trivial
def e_cmp_isNaN_uint32 : Entry := io_cmp_isNaN_uint32.sp (fun x => true) (fun x => false)
theorem sp_cmp_isNaN_uint32 (h : ∀ (x : Int), WfT [tV] x → (cmp_isNaN_uint32 x).run (fun _ => none) = some false) : e_cmp_isNaN_uint32.ok pg := sp_ok ok_cmp_isNaN_uint32 fun x hw hc => h x hw
theorem e_cmp_isNaN_uint32_ok : e_cmp_isNaN_uint32.ok pg := sp_cmp_isNaN_uint32 fun x _ => by
  simp [cmp_isNaN_uint32, RT.run]
def cmp_Compare_uint32 : (Int × Int) → RT Unit Int
| (x, y) =>
 .rq 8 (.ite (false)
 (.rq 1 (.ite (false)
 (.rq 1 (.done 0))
 (.rq 1 (.done (-1)))))
 (.rq 1 (.ite (false)
 (.rq 1 (.done 1))
 (.rq 3 (.ite (decide (x < y))
 (.rq 1 (.done (-1)))
 (.rq 3 (.ite (decide (y < x))
 (.rq 1 (.done 1))
 (.rq 1 (.done 0)))))))))
def F_cmp_Compare_uint32 (x : Int × Int) : Option Int := (cmp_Compare_uint32 x).run fun _ => none
def io_cmp_Compare_uint32 : Io := ⟨n_cmp_Compare_uint32, [tV, tV], [.lf (qm 0), .lf (qm 1)], [], [[tV], [tV]], [tI], .lf (qm 0), [], [], false⟩
def cmp_Compare_uint32_P : List Piece := []
def cmp_Compare_uint32_T : CallT := tab [e_cmp_isNaN_uint32]
theorem cmp_Compare_uint32_To : SoundT pg cmp_Compare_uint32_T := tab_sound ⟨e_cmp_isNaN_uint32_ok, trivial⟩
theorem cmp_Compare_uint32_go : FnOK pg (cmp_Compare_uint32_T) io_cmp_Compare_uint32 f_cmp_Compare_uint32 (cmp_Compare_uint32_P) [] (cmp_Compare_uint32) := ⟨by kernel_rfl, by kernel_rfl, fun x => by kernel_rfl⟩
theorem ok_cmp_Compare_uint32 : io_cmp_Compare_uint32.Okay pg (F_cmp_Compare_uint32) := fn_ok pg_mixed (cmp_Compare_uint32_To) (cmp_Compare_uint32_go) trivial
def e_cmp_Compare_uint32 : Entry := io_cmp_Compare_uint32.sp (fun (x, y) => true) (fun (x, y) => cmpI x y)
theorem sp_cmp_Compare_uint32 (h : ∀ (x : Int) (y : Int), WfT [tV, tV] (x, y) → (cmp_Compare_uint32 (x, y)).run (fun _ => none) = some (cmpI x y)) : e_cmp_Compare_uint32.ok pg := sp_ok ok_cmp_Compare_uint32 fun (x, y) hw hc => h x y hw
theorem e_cmp_Compare_uint32_ok : e_cmp_Compare_uint32.ok pg := sp_cmp_Compare_uint32 fun x y _ => by
  unfold cmp_Compare_uint32 cmpI
  simp only [RT.run, Bool.false_eq_true, if_false, decide_eq_true_eq]
  split
  · rfl
  · split <;> rfl
def nat_Cmp_b26 : ((List Int) × (List Int)) → Int → RT Int (LR Int Unit)
| (a, b), i =>
 .rq 2 (.ite (decide (0 ≤ i))
 (.rq 2 (.req (decide (0 ≤ i)) (.rq 2 (.req (decide (0 ≤ i)) (.rq 4 (let t0 := cmpI (dig a i) (dig b i);
 .ite (t0 != 0)
 (.rq 2 (.done (.ex t0)))
 (.rq 3 (.again (w64 (i - 1))))))))))
 (.done (.rt ())))
def nat_Cmp_p26 : Piece := ⟨26, true, [.sl tV, .sl tV], [tI], ⟨[.keep [0, 1, 5], .gc], [0, 1, 5], [.lf (qi 0), .lf (qi 1), .lf (qm 0)], []⟩, [⟨1, ⟨[.keep [4], .gc], [4], [.lf (qm 0)], []⟩, [tI]⟩, ⟨2, ⟨[.keep [], .gc], [], [], []⟩, []⟩], nat_Cmp_b26⟩
def nat_Cmp : ((List Int) × (List Int)) → RT Unit Int
| (a, b) =>
 .rq 8 (.call (lo nat_Cmp_b26 (a, b) (w64 ((maxI (a.length : Int) (b.length : Int)) - 1))) default fun v0 =>
 .ite v0.isRt
 (.rq 1 (.done 0))
 (.done v0.getX))
def F_nat_Cmp (x : (List Int) × (List Int)) : Option Int := (nat_Cmp x).run fun _ => none
def io_nat_Cmp : Io := ⟨n_nat_Cmp, [.sl tV, .sl tV], [.lf (qm 0), .lf (qm 1)], [], [[.sl tV], [.sl tV]], [tI], .lf (qm 0), [], [], false⟩
def nat_Cmp_P : List Piece := [nat_Cmp_p26]
def nat_Cmp_T : CallT := tab [e_cmp_Compare_uint32, e_nat_at]
theorem nat_Cmp_To : SoundT pg nat_Cmp_T := tab_sound ⟨e_cmp_Compare_uint32_ok, e_nat_at_ok, trivial⟩
theorem nat_Cmp_k26 : (nat_Cmp_p26).OK pg (nat_Cmp_T) (tell 27 (nat_Cmp_P)) (codeOf f_nat_Cmp) 27 := ⟨by kernel_rfl, fun i x => by kernel_rfl⟩
theorem nat_Cmp_go : FnOK pg (nat_Cmp_T) io_nat_Cmp f_nat_Cmp (nat_Cmp_P) [] (nat_Cmp) := ⟨by kernel_rfl, by kernel_rfl, fun x => by kernel_rfl⟩
theorem ok_nat_Cmp : io_nat_Cmp.Okay pg (F_nat_Cmp) := fn_ok pg_mixed (nat_Cmp_To) (nat_Cmp_go) ⟨nat_Cmp_k26, trivial⟩
theorem cmp_l (a b : List Int) : ∀ n : Nat, n ≤ 9223372036854775807 → lo nat_Cmp_b26 (a, b) ((n : Int) - 1) = some (if cmpN a b n = 0 then .rt () else .ex (cmpN a b n))
  | 0, _ => by
    rw [lo_eq, nat_Cmp_b26]
    simp [RT.run, cmpN]
  | n + 1, h => by
    rw [lo_eq, nat_Cmp_b26]
    have e : ((n + 1 : Nat) : Int) - 1 = (n : Int) := by omega
    have w : w64 ((n : Int) - 1) = (n : Int) - 1 := by rw [w64_in]; omega
    have hn : decide (0 ≤ (n : Int)) = true := by simp
    simp only [RT.run, e, w, hn, if_true]
    by_cases h0 : cmpI (dig a n) (dig b n) = 0
    · rw [if_neg (by simp [h0]), show cmpN a b (n + 1) = cmpN a b n from if_pos h0]
      exact cmp_l a b n (by omega)
    · rw [if_pos (by simp [h0]), show cmpN a b (n + 1) = cmpI (dig a n) (dig b n) from if_neg h0, if_neg h0]
def e_nat_Cmp : Entry := io_nat_Cmp.sp (fun (a, b) => true) (fun (a, b) => cmpI (val B32 a) (val B32 b))
theorem sp_nat_Cmp (h : ∀ (a : List Int) (b : List Int), WfT [.sl tV, .sl tV] (a, b) → (nat_Cmp (a, b)).run (fun _ => none) = some (cmpI (val B32 a) (val B32 b))) : e_nat_Cmp.ok pg := sp_ok ok_nat_Cmp fun (a, b) hw hc => h a b hw
theorem e_nat_Cmp_ok : e_nat_Cmp.ok pg := sp_nat_Cmp fun a b hw => by
  have ha : Wf (.sl tV) a := hw.1
  have hb : Wf (.sl tV) b := hw.2
  have hla := ha.1
  have hlb := hb.1
  unfold nat_Cmp
  have hm : maxI (a.length : Int) (b.length : Int) = ((max a.length b.length : Nat) : Int) := by unfold maxI; split <;> omega
  have hw : w64 (((max a.length b.length : Nat) : Int) - 1) = ((max a.length b.length : Nat) : Int) - 1 := by rw [w64_in]; omega
  simp only [RT.run, hm, hw, cmp_l a b (max a.length b.length) (by omega), Option.bind_some]
  rw [← cmpN_all (b := B32) (k := max a.length b.length) (by decide) (wfd_of ha) (wfd_of hb) (by omega) (by omega)]
  split
  · rename_i h; simp [LR.isRt, h]
  · simp [LR.isRt, LR.getX]
def nat_plus_b122 : ((List Int) × (List Int) × Int) → (Int × Int × (List Int)) → RT (Int × Int × (List Int)) (List Int)
| (a, b, x13), (over, x14, r5) =>
 .rq 1 (.ite (decide (x14 < x13))
 (.rq 5 (.req (decide (0 ≤ x14)) (.rq 3 (.req (decide (0 ≤ x14)) (.rq 8 (let t0 := wu64 (over + (wu64 ((wu64 (dig a x14)) + (wu64 (dig b x14)))));
 let t1 := [wu32 t0];
 .req (apOK 4 r5 t1) (.rq 6 (.again (shrI .u64 t0 32, w64 (x14 + 1), r5 ++ t1)))))))))
 (.done r5))
def nat_plus_p122 : Piece := ⟨122, true, [.sl tV, .sl tV, tI], [tU, tI, .sl tV], ⟨[.keep [0, 1, 5, 6, 13, 14], .gc, .nilRow 5 800005 122 tV, .ren 5 700005, .ren 5 900005, .gc], [0, 1, 5, 6, 13, 14], [.lf (qi 0), .lf (qi 1), .lf (qr 900005), .lf (qm 0), .lf (qi 2), .lf (qm 1)], [(900005, true, .arr 122 (qm 2))]⟩, [⟨2, ⟨[.keep [5], .gc, .nilRow 5 800005 122 tV, .ren 5 700005, .ren 5 900005, .gc], [5], [.lf (qr 900005)], [(900005, true, .arr 122 (qm 0))]⟩, [.sl tV]⟩], nat_plus_b122⟩
def nat_plus : ((List Int) × (List Int)) → RT Unit (List Int)
| (a, b) =>
 .rq 10 (.call (lo nat_plus_b122 (a, b, w64 ((maxI (a.length : Int) (b.length : Int)) + 1)) (0, 0, [])) default fun v0 =>
 .rq 1 (.req (okL 40 v0) (.rq 1 (.done (digs B32 (val B32 v0))))))
def F_nat_plus (x : (List Int) × (List Int)) : Option (List Int) := (nat_plus x).run fun _ => none
def io_nat_plus : Io := ⟨n_nat_plus, [.sl tV, .sl tV], [.lf (qm 0), .lf (qm 1)], [], [[.sl tV], [.sl tV]], [.sl tV], .lf (qr 0), [], [(true, .arr 122 (qm 0))], false⟩
def nat_plus_P : List Piece := [nat_plus_p122]
def nat_plus_T : CallT := tab [e_nat_Cut, e_nat_at]
theorem nat_plus_To : SoundT pg nat_plus_T := tab_sound ⟨e_nat_Cut_ok, e_nat_at_ok, trivial⟩
theorem nat_plus_k122 : (nat_plus_p122).OK pg (nat_plus_T) (tell 38 (nat_plus_P)) (codeOf f_nat_plus) 38 := ⟨by kernel_rfl, fun i x => by kernel_rfl⟩
theorem nat_plus_go : FnOK pg (nat_plus_T) io_nat_plus f_nat_plus (nat_plus_P) [.nilRow 4 800004 122 tV, .ren 4 700004, .ren 4 900004] (nat_plus) := ⟨by kernel_rfl, by kernel_rfl, fun x => by kernel_rfl⟩
theorem ok_nat_plus : io_nat_plus.Okay pg (F_nat_plus) := fn_ok pg_mixed (nat_plus_To) (nat_plus_go) ⟨nat_plus_k122, trivial⟩
theorem shr32 (x : Nat) : shrI .u64 (x : Int) 32 = ((x / 4294967296 : Nat) : Int) := by
  unfold shrI
  rw [Int.fdiv_eq_ediv_of_nonneg _ (Int.pow_nonneg (by decide))]
  rfl
theorem dig_nat' {xs : List Int} (h : wfd B32 xs = true) (i : Nat) : ∃ d : Nat, dig xs (i : Int) = (d : Int) ∧ d < 4294967296 := by
  rw [dig_val (by decide) h]
  exact ⟨_, rfl, Nat.mod_lt _ (by decide)⟩
theorem plus_l {a b : List Int} (ha : wfd B32 a = true) (hb : wfd B32 b = true) (m : Nat) (hm : m ≤ 2 ^ 40) : ∀ (r i o : Nat) (out : List Int), i + r = m → o ≤ 1 → out.length = i →
    lo nat_plus_b122 (a, b, (m : Int)) ((o : Int), (i : Int), out) = some (out ++ plusN B32 a b r i o)
  | 0, i, o, out, h, _, _ => by
    rw [lo_eq, nat_plus_b122]
    simp only [RT.run]
    rw [if_neg (by simp; omega)]
    simp [plusN]
  | r + 1, i, o, out, h, ho, hl => by
    rw [lo_eq, nat_plus_b122]
    obtain ⟨x, hx, hx'⟩ := dig_nat' ha i
    obtain ⟨y, hy, hy'⟩ := dig_nat' hb i
    have w1 : wu64 (x : Int) = x := wu64_in (by omega)
    have w2 : wu64 (y : Int) = y := wu64_in (by omega)
    have w3 : wu64 ((x : Int) + (y : Int)) = ((x + y : Nat) : Int) := by rw [wu64_in] <;> omega
    have w4 : wu64 ((o : Int) + ((x + y : Nat) : Int)) = ((o + (x + y) : Nat) : Int) := by rw [wu64_in] <;> omega
    have w5 : w64 ((i : Int) + 1) = ((i + 1 : Nat) : Int) := by rw [w64_in] <;> omega
    have w6 : wu32 ((o + (x + y) : Nat) : Int) = (((o + (x + y)) % 4294967296 : Nat) : Int) := by rw [wu32_eq]; omega
    have h2 : decide (0 ≤ (i : Int)) = true := by simp
    simp only [RT.run, hx, hy, w1, w2, w3, w4, w5, w6, shr32, h2, if_true]
    rw [if_pos (by simp; omega), if_pos (by rw [apOK_iff, maxLen_eq]; simp; omega)]
    rw [plus_l ha hb m hm r (i + 1) _ _ (by omega) (by omega) (by simp [hl])]
    rw [plusN, hx, hy, List.append_assoc]
    have e1 : ((o : Int) + ((x : Int) + (y : Int))) % ((B32 : Nat) : Int) = (((o + (x + y)) % 4294967296 : Nat) : Int) := by
      rw [show ((B32 : Nat) : Int) = 4294967296 from rfl]
      omega
    have e2 : ((o : Int) + ((x : Int) + (y : Int))) / ((B32 : Nat) : Int) = (((o + (x + y)) / 4294967296 : Nat) : Int) := by
      rw [show ((B32 : Nat) : Int) = 4294967296 from rfl]
      omega
    rw [e1, e2]
    rfl
def e_nat_plus : Entry := io_nat_plus.sp (fun (a, b) => okL 38 a && okL 38 b) (fun (a, b) => digs B32 (val B32 a + val B32 b))
theorem sp_nat_plus (h : ∀ (a : List Int) (b : List Int), WfT [.sl tV, .sl tV] (a, b) → (okL 38 a && okL 38 b) = true → (nat_plus (a, b)).run (fun _ => none) = some (digs B32 (val B32 a + val B32 b))) : e_nat_plus.ok pg := sp_ok ok_nat_plus fun (a, b) hw hc => h a b hw hc
theorem e_nat_plus_ok : e_nat_plus.ok pg := sp_nat_plus fun a b hw hc => by
  have ha : wfd B32 a = true := wfd_of hw.1
  have hb : wfd B32 b = true := wfd_of hw.2
  simp only [Bool.and_eq_true, okL38] at hc
  unfold nat_plus
  have hm : maxI (a.length : Int) (b.length : Int) = ((max a.length b.length : Nat) : Int) := by unfold maxI; split <;> omega
  have hw : w64 (((max a.length b.length : Nat) : Int) + 1) = ((max a.length b.length + 1 : Nat) : Int) := by rw [w64_in] <;> omega
  have h := plus_l ha hb (max a.length b.length + 1) (by omega) (max a.length b.length + 1) 0 0 [] (by omega) (by omega) rfl
  simp only [RT.run, hm, hw]
  rw [show ((0 : Int), (0 : Int), ([] : List Int)) = (((0 : Nat) : Int), ((0 : Nat) : Int), []) from rfl, h]
  simp only [Option.bind_some, List.nil_append]
  have hlen : ∀ k i o, (plusN B32 a b k i o).length = k := fun k => by
    induction k with
    | zero => intro i o; rfl
    | succ k ih => intro i o; simp [plusN, ih]
  rw [if_pos (by rw [okL40, hlen]; omega)]
  have e := plusN_sum (b := B32) (k := max a.length b.length + 1) (by decide) ha hb (by omega) (by omega)
  rw [show ((0 : Nat) : Int) = 0 from rfl, e]
theorem len_val {xs : List Int} (h : wfd B32 xs = true) {n : Nat} (hv : val B32 xs < B32 ^ n) : (digs B32 (val B32 xs)).length ≤ n := by
  by_cases h0 : val B32 xs = 0
  · rw [h0, digs_zero]; exact Nat.zero_le _
  obtain ⟨m, h1, h2, h3⟩ := digs_size (b := B32) (by decide) (Nat.pos_of_ne_zero h0)
  have := (Nat.pow_lt_pow_iff_right (by decide : 1 < B32)).1 (Nat.lt_of_le_of_lt h2 hv)
  omega
theorem digs_len {v n : Nat} (hv : v < B32 ^ n) : (digs B32 v).length ≤ n := by
  have := len_val (xs := digs B32 v) (wfd_digs (by decide) v) (n := n) (by rw [val_digs (by decide)]; exact hv)
  rwa [val_digs (by decide)] at this
def nat_Add_b58 : ((List (List Int)) × Int) → (Int × (List Int)) → RT (Int × (List Int)) (List Int)
| (x6, x7), (x8, r3) =>
 .rq 1 (.ite (decide (x8 < x7))
 (.req (inB x6 x8) (.rq 4 (.req (okL 38 r3 && okL 38 (gI x6 x8)) (.rq 3 (.again (w64 (x8 + 1), digs B32 (val B32 r3 + val B32 (gI x6 x8))))))))
 (.done r3))
def nat_Add_p58 : Piece := ⟨58, true, [.sl (.sl tV), tI], [tI, .sl tV], ⟨[.keep [3, 6, 7, 8], .gc, .nilRow 3 800003 122 tV, .ren 3 700003, .ren 3 900003, .gc], [3, 6, 7, 8], [.lf (qr 900003), .lf (qi 0), .lf (qi 1), .lf (qm 0)], [(900003, true, .arr 122 (qm 1))]⟩, [⟨2, ⟨[.keep [3], .gc, .nilRow 3 800003 122 tV, .ren 3 700003, .ren 3 900003, .gc], [3], [.lf (qr 900003)], [(900003, true, .arr 122 (qm 0))]⟩, [.sl tV]⟩], nat_Add_b58⟩
def nat_Add : (List (List Int)) → RT Unit (List Int)
| l =>
 .rq 5 (.call (lo nat_Add_b58 (l, (l.length : Int)) (0, [])) default fun v0 =>
 .rq 2 (.done v0))
def F_nat_Add (x : (List (List Int))) : Option (List Int) := (nat_Add x).run fun _ => none
def io_nat_Add : Io := ⟨n_nat_Add, [.sl (.sl tV)], [.lf (qm 0)], [], [[.sl (.sl tV)]], [.sl tV], .lf (qr 0), [], [(true, .arr 122 (qm 0))], false⟩
def nat_Add_P : List Piece := [nat_Add_p58]
def nat_Add_T : CallT := tab [e_nat_plus]
theorem nat_Add_To : SoundT pg nat_Add_T := tab_sound ⟨e_nat_plus_ok, trivial⟩
theorem nat_Add_k58 : (nat_Add_p58).OK pg (nat_Add_T) (tell 17 (nat_Add_P)) (codeOf f_nat_Add) 17 := ⟨by kernel_rfl, fun i x => by kernel_rfl⟩
theorem nat_Add_go : FnOK pg (nat_Add_T) io_nat_Add f_nat_Add (nat_Add_P) [.nilRow 2 800002 122 tV, .ren 2 700002, .ren 2 900002] (nat_Add) := ⟨by kernel_rfl, by kernel_rfl, fun x => by kernel_rfl⟩
theorem ok_nat_Add : io_nat_Add.Okay pg (F_nat_Add) := fn_ok pg_mixed (nat_Add_To) (nat_Add_go) ⟨nat_Add_k58, trivial⟩
def sumV (l : List (List Int)) : Nat := (l.map (val B32)).sum
theorem Add_l (l : List (List Int)) (hw : ∀ x ∈ l, wfd B32 x = true) (hl : l.length ≤ 1048576) {K : Nat} (hK : K ≤ 68719476736) (hs : ∀ x ∈ l, x.length ≤ K) : ∀ (r i v : Nat), i + r = l.length → v < B32 ^ (K + i) →
    lo nat_Add_b58 (l, (l.length : Int)) ((i : Int), digs B32 v) = some (digs B32 (v + sumV (l.drop i)))
  | 0, i, v, h, _ => by
    rw [lo_eq, nat_Add_b58]
    simp only [RT.run]
    rw [if_neg (by simp; omega), List.drop_of_length_le (by omega)]
    rfl
  | r + 1, i, v, h, hv => by
    rw [lo_eq, nat_Add_b58]
    have hi : i < l.length := by omega
    have w5 : w64 ((i : Int) + 1) = ((i + 1 : Nat) : Int) := by rw [w64_in] <;> omega
    have hx := List.getElem_mem hi
    simp only [RT.run, w5, gI_lt hi]
    have hd := digs_len hv
    have hlx := hs _ hx
    rw [if_pos (by simp; omega), if_pos (by rw [inB_nat]; simp; omega), if_pos (by rw [Bool.and_eq_true, okL38, okL38]; omega), val_digs (by decide)]
    have hv' : v + val B32 l[i] < B32 ^ (K + (i + 1)) := by
      have h1 := val_lt (b := B32) (by decide) (hw _ hx)
      have h2 : B32 ^ l[i].length ≤ B32 ^ (K + i) := Nat.pow_le_pow_right (by decide) (by omega)
      have h3 : B32 ^ (K + (i + 1)) = B32 ^ (K + i) * B32 := Nat.pow_succ ..
      rw [h3]
      generalize B32 ^ (K + i) = z at *
      generalize val B32 l[i] = y at *
      rw [show B32 = 4294967296 from rfl]
      omega
    rw [Add_l l hw hl hK hs r (i + 1) _ (by omega) hv']
    rw [List.drop_eq_getElem_cons hi, sumV, sumV, List.map_cons, List.sum_cons, Nat.add_assoc]
def okLs (l : List (List Int)) : Bool := okL 20 l && l.all (okL 36)
theorem okLs_iff {l : List (List Int)} : okLs l = true ↔ l.length ≤ 1048576 ∧ ∀ x ∈ l, x.length ≤ 68719476736 := by
  simp only [okLs, Bool.and_eq_true, List.all_eq_true, okL36, okL20]
def e_nat_Add : Entry := io_nat_Add.sp (fun l => okLs l) (fun l => digs B32 (sumV l))
theorem sp_nat_Add (h : ∀ (l : List (List Int)), WfT [.sl (.sl tV)] l → (okLs l) = true → (nat_Add l).run (fun _ => none) = some (digs B32 (sumV l))) : e_nat_Add.ok pg := sp_ok ok_nat_Add fun l hw hc => h l hw hc
theorem e_nat_Add_ok : e_nat_Add.ok pg := sp_nat_Add fun l hw hc => by
  have hw' : Wf (.sl (.sl tV)) l := hw
  rw [okLs_iff] at hc
  unfold nat_Add
  obtain ⟨K, hK⟩ : ∃ K : Nat, K = 68719476736 := ⟨_, rfl⟩
  have h := Add_l l (fun x hx => wfd_of (hw'.2 x hx)) hc.1 (K := K) (by omega) (fun x hx => by rw [hK]; exact hc.2 x hx) l.length 0 0 (by omega) (Nat.pow_pos (by decide))
  simp only [RT.run]
  rw [show ((0 : Int), ([] : List Int)) = (((0 : Nat) : Int), digs B32 0) from rfl, h]
  simp
end
end Go.Proofs.YtlfdidaeachpoaaGreat

namespace Go.Proofs.YtlfdidaeachpoaaGreat
open Go Go.RowKit
set_option maxRecDepth 100000
noncomputable section
def str_b256 : ByteArray := ⟨#[0, 1, 2, 2, 3, 3, 3, 3, 4, 4, 4, 4, 4, 4, 4, 4, 5, 5, 5, 5, 5, 5, 5, 5, 5, 5, 5, 5, 5, 5, 5, 5, 6, 6, 6, 6, 6, 6, 6, 6, 6, 6, 6, 6, 6, 6, 6, 6, 6, 6, 6, 6, 6, 6, 6, 6, 6, 6, 6, 6, 6, 6, 6, 6, 7, 7, 7, 7, 7, 7, 7, 7, 7, 7, 7, 7, 7, 7, 7, 7, 7, 7, 7, 7, 7, 7, 7, 7, 7, 7, 7, 7, 7, 7, 7, 7, 7, 7, 7, 7, 7, 7, 7, 7, 7, 7, 7, 7, 7, 7, 7, 7, 7, 7, 7, 7, 7, 7, 7, 7, 7, 7, 7, 7, 7, 7, 7, 7, 8, 8, 8, 8, 8, 8, 8, 8, 8, 8, 8, 8, 8, 8, 8, 8, 8, 8, 8, 8, 8, 8, 8, 8, 8, 8, 8, 8, 8, 8, 8, 8, 8, 8, 8, 8, 8, 8, 8, 8, 8, 8, 8, 8, 8, 8, 8, 8, 8, 8, 8, 8, 8, 8, 8, 8, 8, 8, 8, 8, 8, 8, 8, 8, 8, 8, 8, 8, 8, 8, 8, 8, 8, 8, 8, 8, 8, 8, 8, 8, 8, 8, 8, 8, 8, 8, 8, 8, 8, 8, 8, 8, 8, 8, 8, 8, 8, 8, 8, 8, 8, 8, 8, 8, 8, 8, 8, 8, 8, 8, 8, 8, 8, 8, 8, 8, 8, 8, 8, 8, 8, 8, 8, 8, 8, 8, 8, 8]⟩
def math_bits_Len32_b6 : (Int × Int) → RT Unit (Int × Int)
| (x, n) =>
 .rq 2 (.ite (decide (65536 ≤ x))
 (.rq 4 (.done (shrI .u32 x 16, 16)))
 (.done (x, n)))
def math_bits_Len32_p6 : Piece := ⟨6, false, [tV, tI], [], ⟨[.keep [0, 2], .gc], [0, 2], [.lf (qi 0), .lf (qi 1)], []⟩, [⟨0, ⟨[.keep [0, 2], .gc], [0, 2], [.lf (qm 0), .lf (qm 1)], []⟩, [tV, tI]⟩], (fun i _ => math_bits_Len32_b6 i)⟩
def math_bits_Len32 : Int → RT Unit Int
| x =>
 .rq 1 (.call (on math_bits_Len32_b6 (x, 0)) default fun v0 =>
 .rq 2 (.ite (decide (256 ≤ v0.1))
 (.rq 9 (let t0 := wu8 (shrI .u32 v0.1 8);
 .req (inS str_b256 t0) (.rq 3 (.done (w64 ((w64 (v0.2 + 8)) + (w64 (byI str_b256 t0))))))))
 (.rq 3 (.req (inS str_b256 (wu8 v0.1)) (.rq 3 (.done (w64 (v0.2 + (w64 (byI str_b256 (wu8 v0.1)))))))))))
def F_math_bits_Len32 (x : Int) : Option Int := (math_bits_Len32 x).run fun _ => none
def io_math_bits_Len32 : Io := ⟨n_math_bits_Len32, [tV], [.lf (qm 0)], [], [[tV]], [tI], .lf (qm 0), [], [], false⟩
def math_bits_Len32_P : List Piece := [math_bits_Len32_p6]
def math_bits_Len32_T : CallT := tab []
theorem math_bits_Len32_To : SoundT pg math_bits_Len32_T := tab_sound trivial
theorem math_bits_Len32_k6 : (math_bits_Len32_p6).OK pg (math_bits_Len32_T) (tell 19 (math_bits_Len32_P)) (codeOf f_math_bits_Len32) 19 := ⟨by kernel_rfl, fun i x => by kernel_rfl⟩
theorem math_bits_Len32_go : FnOK pg (math_bits_Len32_T) io_math_bits_Len32 f_math_bits_Len32 (math_bits_Len32_P) [] (math_bits_Len32) := ⟨by kernel_rfl, by kernel_rfl, fun x => by kernel_rfl⟩
theorem ok_math_bits_Len32 : io_math_bits_Len32.Okay pg (F_math_bits_Len32) := fn_ok pg_mixed (math_bits_Len32_To) (math_bits_Len32_go) ⟨math_bits_Len32_k6, trivial⟩
theorem len8_all : ∀ i, i < 256 → byteAt str_b256 i = (bl i : Int) := by decide +kernel
theorem len8_size : str_b256.size = 256 := by kernel_rfl
theorem shrN (x : Nat) (k : IntKind) (j : Nat) (h : j ≤ k.bits) : shrI k (x : Int) (j : Int) = ((x / 2 ^ j : Nat) : Int) := by
  unfold shrI
  rw [Int.toNat_natCast, Nat.min_eq_left h, Int.fdiv_eq_ediv_of_nonneg _ (Int.pow_nonneg (by decide)), Int.natCast_ediv, Int.natCast_pow]
  rfl
theorem wu8_eq (n : Int) : wu8 n = n % 256 := by
  unfold wu8 IntKind.wrap
  have h1 : (2 : Int) ^ IntKind.u8.bits = 256 := rfl
  have h2 : IntKind.u8.signed = false := rfl
  simp only [h1, h2]
  simp
def e_math_bits_Len32 : Entry := io_math_bits_Len32.sp (fun x => true) (fun x => ((bl x.toNat : Nat) : Int))
theorem sp_math_bits_Len32 (h : ∀ (x : Int), WfT [tV] x → (math_bits_Len32 x).run (fun _ => none) = some ((bl x.toNat : Nat) : Int)) : e_math_bits_Len32.ok pg := sp_ok ok_math_bits_Len32 fun x hw hc => h x hw
theorem e_math_bits_Len32_ok : e_math_bits_Len32.ok pg := sp_math_bits_Len32 fun x hw => by
  have hw' : 0 ≤ x ∧ x < 4294967296 := hw
  obtain ⟨n, rfl⟩ := Int.eq_ofNat_of_zero_le hw'.1
  have hn : n < 4294967296 := by omega
  rw [Int.toNat_natCast]
  have e1 : shrI .u32 (n : Int) 16 = ((n / 65536 : Nat) : Int) := shrN n .u32 16 (by decide)
  have e2 : shrI .u32 ((n / 65536 : Nat) : Int) 8 = ((n / 65536 / 256 : Nat) : Int) := shrN _ .u32 8 (by decide)
  have e3 : shrI .u32 (n : Int) 8 = ((n / 256 : Nat) : Int) := shrN _ .u32 8 (by decide)
  have bb : ∀ m : Nat, m < 256 → bl m ≤ 8 := fun m hm => bl_le.2 (by omega)
  have key : ∀ (m : Nat) (c : Int), m < 256 → 0 ≤ c ∧ c ≤ 24 → inS str_b256 (wu8 (m : Int)) = true ∧ w64 (c + w64 (byI str_b256 (wu8 (m : Int)))) = c + (bl m : Int) := fun m c hm hc => by
    have := bb m hm
    have hm' : wu8 (m : Int) = (m : Int) := by rw [wu8_eq]; omega
    rw [hm']
    refine ⟨by simp [inS, len8_size]; omega, ?_⟩
    unfold byI
    rw [Int.toNat_natCast, len8_all m hm, w64_in, w64_in] <;> (try rw [w64_in]) <;> omega
  have w24 : w64 (16 + 8) = 24 := by rw [w64_in] <;> omega
  have w8 : w64 (0 + 8) = 8 := by rw [w64_in] <;> omega
  rw [math_bits_Len32]
  simp only [RT.run, on, math_bits_Len32_b6, decide_eq_true_eq]
  by_cases h1 : (65536 : Int) ≤ (n : Int)
  · rw [if_pos h1, Option.bind_some]
    simp only [e1, e2, w24]
    by_cases h2 : (256 : Int) ≤ ((n / 65536 : Nat) : Int)
    · obtain ⟨k1, k2⟩ := key (n / 65536 / 256) 24 (by omega) (by omega)
      rw [if_pos h2, if_pos k1, k2, bl_shr_add (n := n) (j := 24) (by omega), show n / 65536 / 256 = n / 2 ^ 24 by omega]
      rfl
    · obtain ⟨k1, k2⟩ := key (n / 65536) 16 (by omega) (by omega)
      rw [if_neg h2, if_pos k1, k2, bl_shr_add (n := n) (j := 16) (by omega)]
      rfl
  · rw [if_neg h1, Option.bind_some]
    simp only [e3, w8]
    by_cases h2 : (256 : Int) ≤ (n : Int)
    · obtain ⟨k1, k2⟩ := key (n / 256) 8 (by omega) (by omega)
      rw [if_pos h2, if_pos k1, k2, bl_shr_add (n := n) (j := 8) (by omega)]
      rfl
    · obtain ⟨k1, k2⟩ := key n 0 (by omega) (by omega)
      rw [if_neg h2, if_pos k1, k2]
      simp
theorem ibit_or {x y : Nat} (hx : x < 2 ^ 64) (hy : y < 2 ^ 64) : ibit .or .u64 x y = ((x ||| y : Nat) : Int) := by
  unfold ibit
  have e : ∀ z : Nat, z < 2 ^ 64 → (BitVec.ofInt IntKind.u64.bits (z : Int)).toNat = z := fun z hz => by
    rw [BitVec.toNat_ofInt]
    have : (2 : Nat) ^ IntKind.u64.bits = 18446744073709551616 := rfl
    rw [this]
    omega
  simp only [BitVec.toNat_or, e x hx, e y hy]
  rw [u64_in]
  have := Nat.or_lt_two_pow hx hy
  omega
theorem shlN {x j : Nat} (hj : j ≤ 64) (h : x * 2 ^ j < 18446744073709551616) : shlI .u64 (x : Int) (j : Int) = ((x * 2 ^ j : Nat) : Int) := by
  unfold shlI
  rw [Int.toNat_natCast, show min j IntKind.u64.bits = j from Nat.min_eq_left hj]
  have e : (x : Int) * 2 ^ j = ((x * 2 ^ j : Nat) : Int) := by rw [Int.natCast_mul, Int.natCast_pow]; rfl
  rw [e]
  exact u64_in (by omega)
theorem two_digits {x y : Nat} (hx : x < 4294967296) (hy : y < 4294967296) : ibit .or .u64 (shlI .u64 (x : Int) 32) (y : Int) = ((x * 4294967296 + y : Nat) : Int) := by
  have h := shlN (x := x) (j := 32) (by decide) (by omega)
  rw [show (32 : Int) = ((32 : Nat) : Int) from rfl, h, ibit_or (by omega) (by omega), or_add (by omega)]
def nat_times_b59802 : (Int × Int × (List Int) × Int) → (Int × Int × (List Int)) → RT (Int × Int × (List Int)) (Int × (List Int))
| (x6, L, p, e), (i, n, r5) =>
 .rq 1 (.ite (decide (n < e))
 (.rq 1 (.req (inB p n) (.rq 13 (let t0 := w64 (x6 + n);
 let t1 := inB r5 t0;
 .req t1 (.rq 11 (.req t1 (.rq 6 (let t2 := wu64 (i + (wu64 ((wu64 ((wu64 L) * (wu64 (gI p n)))) + (wu64 (gI r5 t0)))));
 .again (shrI .u64 t2 32, w64 (n + 1), sI r5 t0 (wu32 t2))))))))))
 (.done (i, r5)))
def nat_times_p59802 : Piece := ⟨59802, true, [.sl tV, tI, tV, .sl tV, tI, tI, .sl tV, tI], [tU, tI, .sl tV], ⟨[.keep [1, 5, 6, 7, 8, 17, 18, 19, 24, 25, 26], .gc, .nilRow 5 800005 122 tV, .ren 5 700005, .ren 5 900005, .gc], [1, 5, 6, 7, 8, 17, 18, 19, 24, 25, 26], [.lf (qi 0), .lf (qr 900005), .lf (qi 1), .lf (qi 2), .lf (qm 0), .lf (qi 3), .lf (qi 4), .lf (qi 5), .lf (qi 6), .lf (qi 7), .lf (qm 1)], [(900005, true, .arr 122 (qm 2))]⟩, [⟨4, ⟨[.keep [1, 5, 6, 8, 17, 18, 19], .gc, .nilRow 5 800005 122 tV, .ren 5 700005, .ren 5 900005, .gc], [1, 5, 6, 8, 17, 18, 19], [.lf (qi 0), .lf (qr 900005), .lf (qi 1), .lf (qm 0), .lf (qi 3), .lf (qi 4), .lf (qi 5)], [(900005, true, .arr 122 (qm 1))]⟩, [tU, .sl tV]⟩], (fun i => nat_times_b59802 (i.2.1, i.2.2.1, i.2.2.2.2.2.2.1, i.2.2.2.2.2.2.2))⟩
def nat_times_b58 : ((List Int) × (List Int) × Int) → (Int × (List Int)) → RT (Int × (List Int)) (List Int)
| (l, L, i), (s, r5) =>
 .rq 1 (.ite (decide (s < i))
 (.rq 1 (.req (inB L s) (.rq 7 (.call (lo nat_times_b59802 (s, gI L s, l, (l.length : Int)) (0, 0, r5)) default fun v0 =>
 .rq 7 (let t0 := w64 (s + (l.length : Int));
 .req (inB v0.2 t0) (.rq 3 (.again (w64 (s + 1), sI v0.2 t0 (wu32 v0.1)))))))))
 (.done r5))
def nat_times_p58 : Piece := ⟨58, true, [.sl tV, .sl tV, tI], [tI, .sl tV], ⟨[.keep [1, 5, 17, 18, 19], .gc, .nilRow 5 800005 122 tV, .ren 5 700005, .ren 5 900005, .gc], [1, 5, 17, 18, 19], [.lf (qi 0), .lf (qr 900005), .lf (qi 1), .lf (qi 2), .lf (qm 0)], [(900005, true, .arr 122 (qm 1))]⟩, [⟨2, ⟨[.keep [5], .gc, .nilRow 5 800005 122 tV, .ren 5 700005, .ren 5 900005, .gc], [5], [.lf (qr 900005)], [(900005, true, .arr 122 (qm 0))]⟩, [.sl tV]⟩], nat_times_b58⟩
def nat_times : ((List Int) × (List Int)) → RT Unit (List Int)
| (a0, l) =>
 .rq 6 (let t0 := w64 ((a0.length : Int) + (l.length : Int));
 .req (mkOK 4 t0) (.rq 4 (.call (lo nat_times_b58 (l, a0, (a0.length : Int)) (0, repI t0 0)) default fun v1 =>
 .rq 1 (.req (okL 40 v1) (.rq 1 (.done (digs B32 (val B32 v1))))))))
def F_nat_times (x : (List Int) × (List Int)) : Option (List Int) := (nat_times x).run fun _ => none
def io_nat_times : Io := ⟨n_nat_times, [.sl tV, .sl tV], [.lf (qm 0), .lf (qm 1)], [], [[.sl tV], [.sl tV]], [.sl tV], .lf (qr 0), [], [(true, .arr 122 (qm 0))], false⟩
def nat_times_P : List Piece := [nat_times_p59802, nat_times_p58]
def nat_times_T : CallT := tab [e_nat_Cut]
theorem nat_times_To : SoundT pg nat_times_T := tab_sound ⟨e_nat_Cut_ok, trivial⟩
theorem nat_times_k59802 : (nat_times_p59802).OK pg (nat_times_T) (tell 67 (nat_times_P)) (codeOf f_nat_times) 67 := ⟨by kernel_rfl, fun i x => by kernel_rfl⟩
theorem nat_times_k58 : (nat_times_p58).OK pg (nat_times_T) (tell 67 (nat_times_P)) (codeOf f_nat_times) 67 := ⟨by kernel_rfl, fun i x => by kernel_rfl⟩
theorem nat_times_go : FnOK pg (nat_times_T) io_nat_times f_nat_times (nat_times_P) [.nilRow 4 800004 122 tV, .ren 4 700004, .ren 4 900004] (nat_times) := ⟨by kernel_rfl, by kernel_rfl, fun x => by kernel_rfl⟩
theorem ok_nat_times : io_nat_times.Okay pg (F_nat_times) := fn_ok pg_mixed (nat_times_To) (nat_times_go) ⟨nat_times_k59802, nat_times_k58, trivial⟩
theorem getD_nat {xs : List Int} (h : wfd B32 xs = true) (i : Nat) : ∃ d : Nat, xs.getD i 0 = (d : Int) ∧ d < 4294967296 := by
  have := wfd_get (by decide : 0 < B32) h i
  rw [show ((B32 : Nat) : Int) = 4294967296 from rfl] at this
  exact ⟨(xs.getD i 0).toNat, by omega, by omega⟩
theorem gIn (xs : List Int) (i : Nat) : gI xs (i : Int) = xs.getD i 0 := gI_nat xs i
theorem sIn (xs : List Int) (i : Nat) (y : Int) : sI xs (i : Int) y = xs.set i y := by simp [sI]
theorem row_l {ys : List Int} (hy : wfd B32 ys = true) {x i : Nat} (hx : x < 4294967296) (hyl : ys.length ≤ 2 ^ 40) (hi : i ≤ 2 ^ 40) : ∀ (r k o : Nat) (out : List Int), k + r = ys.length → i + ys.length ≤ out.length → out.length ≤ 2 ^ 41 → wfd B32 out = true → o < 4294967296 →
    lo nat_times_b59802 ((i : Int), (x : Int), ys, (ys.length : Int)) ((o : Int), (k : Int), out) = some ((rowN B32 x ys i r k out o).2, (rowN B32 x ys i r k out o).1)
  | 0, k, o, out, h, _, _, _, _ => by
    rw [lo_eq, nat_times_b59802]
    simp only [RT.run]
    rw [if_neg (by simp; omega)]
    rfl
  | r + 1, k, o, out, h, h1, h2, hw, ho => by
    rw [lo_eq, nat_times_b59802]
    obtain ⟨y, e1, hy'⟩ := getD_nat hy k
    obtain ⟨z, e2, hz⟩ := getD_nat hw (i + k)
    have hxy : x * y ≤ 4294967295 * 4294967295 := Nat.mul_le_mul (by omega) (by omega)
    have w1 : w64 ((i : Int) + (k : Int)) = ((i + k : Nat) : Int) := by rw [w64_in] <;> omega
    have w2 : wu64 (x : Int) = (x : Int) := wu64_in (by omega)
    have w3 : wu64 (y : Int) = (y : Int) := wu64_in (by omega)
    have w4 : wu64 (z : Int) = (z : Int) := wu64_in (by omega)
    have w5 : wu64 ((x : Int) * (y : Int)) = ((x * y : Nat) : Int) := by rw [← Int.natCast_mul, wu64_in]; omega
    have w6 : wu64 (((x * y : Nat) : Int) + (z : Int)) = ((x * y + z : Nat) : Int) := by rw [wu64_in] <;> omega
    have w7 : wu64 ((o : Int) + ((x * y + z : Nat) : Int)) = ((o + (x * y + z) : Nat) : Int) := by rw [wu64_in] <;> omega
    have w8 : w64 ((k : Int) + 1) = ((k + 1 : Nat) : Int) := by rw [w64_in] <;> omega
    have w9 : wu32 ((o + (x * y + z) : Nat) : Int) = (((o + (x * y + z)) % 4294967296 : Nat) : Int) := by rw [wu32_eq]; omega
    simp only [RT.run, gIn, sIn, w1, w2, w3, w4, w5, w6, w7, w8, w9, e1, e2, shr32]
    rw [if_pos (by simp; omega), if_pos (by rw [inB_nat]; simp; omega), if_pos (by rw [inB_nat]; simp; omega), if_pos (by rw [inB_nat]; simp; omega)]
    have q1 : (o : Int) + ((x : Int) * (y : Int) + (z : Int)) = ((o + (x * y + z) : Nat) : Int) := by simp only [Int.natCast_add, Int.natCast_mul]
    have e : rowN B32 x ys i (r + 1) k out o = rowN B32 x ys i r (k + 1) (out.set (i + k) (((o + (x * y + z)) % 4294967296 : Nat) : Int)) (((o + (x * y + z)) / 4294967296 : Nat) : Int) := by
      rw [rowN, e1, e2, q1]
      rfl
    rw [e]
    exact row_l hy hx hyl hi r (k + 1) _ _ (by omega) (by rw [List.length_set]; omega) (by rw [List.length_set]; omega) (wfd_set hw ⟨Int.natCast_nonneg _, by rw [show ((B32 : Nat) : Int) = 4294967296 from rfl]; omega⟩) (by omega)
theorem times_l {xs ys : List Int} (hx : wfd B32 xs = true) (hy : wfd B32 ys = true) (hxl : xs.length ≤ 2 ^ 39) (hyl : ys.length ≤ 2 ^ 39) : ∀ (r i : Nat) (out : List Int), i + r = xs.length → out.length = xs.length + ys.length → wfd B32 out = true →
    lo nat_times_b58 (ys, xs, (xs.length : Int)) ((i : Int), out) = some (mulN B32 xs ys r i out)
  | 0, i, out, h, _, _ => by
    rw [lo_eq, nat_times_b58]
    simp only [RT.run]
    rw [if_neg (by simp; omega)]
    rfl
  | r + 1, i, out, h, h1, hw => by
    rw [lo_eq, nat_times_b58]
    obtain ⟨x, e1, hx'⟩ := getD_nat hx i
    have hr := row_l hy (x := x) (i := i) hx' (by omega) (by omega) ys.length 0 0 out (by omega) (by omega) (by omega) hw (by omega)
    have ho := rowN_ok (b := B32) (by decide) (x := (x : Int)) (by rw [show ((B32 : Nat) : Int) = 4294967296 from rfl]; omega) hy (i := i) ys.length 0 out 0 (by omega) (by omega) hw (by decide)
    have w1 : w64 ((i : Int) + (ys.length : Int)) = ((i + ys.length : Nat) : Int) := by rw [w64_in] <;> omega
    have w8 : w64 ((i : Int) + 1) = ((i + 1 : Nat) : Int) := by rw [w64_in] <;> omega
    simp only [RT.run, gIn, sIn, w1, w8, e1]
    rw [if_pos (by simp; omega), if_pos (by rw [inB_nat]; simp; omega)]
    rw [show ((0 : Int), (0 : Int), out) = (((0 : Nat) : Int), ((0 : Nat) : Int), out) from rfl, hr, Option.bind_some]
    rw [show ((0 : Nat) : Int) = 0 from rfl]
    obtain ⟨t1, t2, t3, _⟩ := ho
    rw [if_pos (by rw [inB_nat]; simp; omega)]
    have w9 : wu32 (rowN B32 x ys i ys.length 0 out 0).2 = (rowN B32 x ys i ys.length 0 out 0).2 := wu32_in (by rw [show ((B32 : Nat) : Int) = 4294967296 from rfl] at t3; exact t3)
    have e : mulN B32 xs ys (r + 1) i out = mulN B32 xs ys r (i + 1) ((rowN B32 x ys i ys.length 0 out 0).1.set (i + ys.length) (rowN B32 x ys i ys.length 0 out 0).2) := by
      rw [mulN, e1]
    rw [e, w9]
    exact times_l hx hy hxl hyl r (i + 1) _ (by omega) (by rw [List.length_set, t2]; omega) (wfd_set t1 t3)
def e_nat_times : Entry := io_nat_times.sp (fun (a, b) => okL 38 a && okL 38 b) (fun (a, b) => digs B32 (val B32 a * val B32 b))
theorem sp_nat_times (h : ∀ (a : List Int) (b : List Int), WfT [.sl tV, .sl tV] (a, b) → (okL 38 a && okL 38 b) = true → (nat_times (a, b)).run (fun _ => none) = some (digs B32 (val B32 a * val B32 b))) : e_nat_times.ok pg := sp_ok ok_nat_times fun (a, b) hw hc => h a b hw hc
theorem e_nat_times_ok : e_nat_times.ok pg := sp_nat_times fun a b hw hc => by
  have ha : wfd B32 a = true := wfd_of hw.1
  have hb : wfd B32 b = true := wfd_of hw.2
  simp only [Bool.and_eq_true, okL38] at hc
  rw [nat_times]
  have hw : w64 ((a.length : Int) + (b.length : Int)) = ((a.length + b.length : Nat) : Int) := by rw [w64_in] <;> omega
  have h := times_l ha hb (by omega) (by omega) a.length 0 (List.replicate (a.length + b.length) 0) (by omega) (by simp) (wfd_replicate (by decide))
  obtain ⟨m1, m2, m3⟩ := mulN_val (b := B32) (by decide) ha hb
  simp only [RT.run, hw, repI, Int.toNat_natCast]
  rw [if_pos (by rw [mkOK_iff]; omega), show ((0 : Int), List.replicate (a.length + b.length) (0 : Int)) = (((0 : Nat) : Int), List.replicate (a.length + b.length) 0) from rfl, h, Option.bind_some]
  rw [if_pos (by rw [okL40, m2]; omega), m3]
def nat_Mul_b58 : ((List (List Int)) × Int) → (Int × (List Int)) → RT (Int × (List Int)) (List Int)
| (x7, x8), (x9, r3) =>
 .rq 1 (.ite (decide (x9 < x8))
 (.req (inB x7 x9) (.rq 4 (.req (okL 38 r3 && okL 38 (gI x7 x9)) (.rq 3 (.again (w64 (x9 + 1), digs B32 (val B32 r3 * val B32 (gI x7 x9))))))))
 (.done r3))
def nat_Mul_p58 : Piece := ⟨58, true, [.sl (.sl tV), tI], [tI, .sl tV], ⟨[.keep [3, 7, 8, 9], .gc, .nilRow 3 800003 122 tV, .ren 3 700003, .ren 3 900003, .gc], [3, 7, 8, 9], [.lf (qr 900003), .lf (qi 0), .lf (qi 1), .lf (qm 0)], [(900003, true, .arr 122 (qm 1))]⟩, [⟨2, ⟨[.keep [3], .gc, .nilRow 3 800003 122 tV, .ren 3 700003, .ren 3 900003, .gc], [3], [.lf (qr 900003)], [(900003, true, .arr 122 (qm 0))]⟩, [.sl tV]⟩], nat_Mul_b58⟩
def nat_Mul : (List (List Int)) → RT Unit (List Int)
| l =>
 .rq 6 (.call (lo nat_Mul_b58 (l, (l.length : Int)) (0, digs B32 (1 : Int).toNat)) default fun v0 =>
 .rq 2 (.done v0))
def F_nat_Mul (x : (List (List Int))) : Option (List Int) := (nat_Mul x).run fun _ => none
def io_nat_Mul : Io := ⟨n_nat_Mul, [.sl (.sl tV)], [.lf (qm 0)], [], [[.sl (.sl tV)]], [.sl tV], .lf (qr 0), [], [(true, .arr 122 (qm 0))], false⟩
def nat_Mul_P : List Piece := [nat_Mul_p58]
def nat_Mul_T : CallT := tab [e_nat_times, e_nat_Of]
theorem nat_Mul_To : SoundT pg nat_Mul_T := tab_sound ⟨e_nat_times_ok, e_nat_Of_ok, trivial⟩
theorem nat_Mul_k58 : (nat_Mul_p58).OK pg (nat_Mul_T) (tell 18 (nat_Mul_P)) (codeOf f_nat_Mul) 18 := ⟨by kernel_rfl, fun i x => by kernel_rfl⟩
theorem nat_Mul_go : FnOK pg (nat_Mul_T) io_nat_Mul f_nat_Mul (nat_Mul_P) [.nilRow 2 800002 122 tV, .ren 2 700002, .ren 2 900002] (nat_Mul) := ⟨by kernel_rfl, by kernel_rfl, fun x => by kernel_rfl⟩
theorem ok_nat_Mul : io_nat_Mul.Okay pg (F_nat_Mul) := fn_ok pg_mixed (nat_Mul_To) (nat_Mul_go) ⟨nat_Mul_k58, trivial⟩
def prodV (l : List (List Int)) : Nat := (l.map (val B32)).prod
def lenS (l : List (List Int)) : Nat := (l.map List.length).sum
theorem Mul_l (l : List (List Int)) (hw : ∀ x ∈ l, wfd B32 x = true) (hl : l.length ≤ 1048576) : ∀ (r i v : Nat) (K : Nat), i + r = l.length → v < B32 ^ K → K + lenS (l.drop i) ≤ 274877906944 →
    lo nat_Mul_b58 (l, (l.length : Int)) ((i : Int), digs B32 v) = some (digs B32 (v * prodV (l.drop i)))
  | 0, i, v, K, h, _, _ => by
    rw [lo_eq, nat_Mul_b58]
    simp only [RT.run]
    rw [if_neg (by simp; omega), List.drop_of_length_le (by omega)]
    simp [prodV]
  | r + 1, i, v, K, h, hv, hK => by
    rw [lo_eq, nat_Mul_b58]
    have hi : i < l.length := by omega
    have w5 : w64 ((i : Int) + 1) = ((i + 1 : Nat) : Int) := by rw [w64_in] <;> omega
    have hx := List.getElem_mem hi
    simp only [RT.run, w5, gI_lt hi]
    have hd := digs_len hv
    rw [List.drop_eq_getElem_cons hi, lenS, List.map_cons, List.sum_cons] at hK
    rw [if_pos (by simp; omega), if_pos (by rw [inB_nat]; simp; omega), if_pos (by rw [Bool.and_eq_true, okL38, okL38]; omega), val_digs (by decide)]
    have hv' : v * val B32 l[i] < B32 ^ (K + l[i].length) := by
      rw [Nat.pow_add]
      exact Nat.mul_lt_mul'' hv (val_lt (by decide) (hw _ hx))
    rw [Mul_l l hw hl r (i + 1) _ (K + l[i].length) (by omega) hv' (by rw [lenS]; omega)]
    rw [List.drop_eq_getElem_cons hi, prodV, prodV, List.map_cons, List.prod_cons, Nat.mul_assoc]
def okMs (l : List (List Int)) : Bool := okL 20 l && decide (lenS l ≤ 137438953472)
theorem okMs_iff {l : List (List Int)} : okMs l = true ↔ l.length ≤ 1048576 ∧ lenS l ≤ 137438953472 := by simp only [okMs, Bool.and_eq_true, okL20, decide_eq_true_eq]
def e_nat_Mul : Entry := io_nat_Mul.sp (fun l => okMs l) (fun l => digs B32 (prodV l))
theorem sp_nat_Mul (h : ∀ (l : List (List Int)), WfT [.sl (.sl tV)] l → (okMs l) = true → (nat_Mul l).run (fun _ => none) = some (digs B32 (prodV l))) : e_nat_Mul.ok pg := sp_ok ok_nat_Mul fun l hw hc => h l hw hc
theorem e_nat_Mul_ok : e_nat_Mul.ok pg := sp_nat_Mul fun l hw hc => by
  have hw' : Wf (.sl (.sl tV)) l := hw
  rw [okMs_iff] at hc
  rw [nat_Mul]
  have h := Mul_l l (fun x hx => wfd_of (hw'.2 x hx)) hc.1 l.length 0 1 1 (by omega) (by decide) (by simpa using by omega)
  simp only [RT.run]
  rw [show ((0 : Int), digs B32 ((1 : Int)).toNat) = (((0 : Nat) : Int), digs B32 1) from rfl, h]
  simp
end
end Go.Proofs.YtlfdidaeachpoaaGreat

namespace Go.Proofs.YtlfdidaeachpoaaGreat
open Go Go.RowKit
theorem Win.top {p v1 v2 vr t u2 ur V W : Nat} (H : Win p v1 v2 vr t u2 ur V W) : t < B32 * v1 + B32 := by
  have k1 : t * (B32 * p) ≤ W := by
    rw [H.hW, Nat.add_mul, Nat.mul_assoc t]
    omega
  have k2 : V < (v1 + 1) * (B32 * p) := by
    rw [H.hV, Nat.add_mul, Nat.add_mul, Nat.mul_assoc, Nat.one_mul]
    have : (v2 + 1) * p ≤ B32 * p := Nat.mul_le_mul_right _ H.h2
    rw [Nat.add_mul, Nat.one_mul] at this
    have := H.hvr
    omega
  have k3 : t * (B32 * p) < B32 * ((v1 + 1) * (B32 * p)) := Nat.lt_of_le_of_lt k1 (Nat.lt_trans H.lt ((Nat.mul_lt_mul_left (by decide : 0 < B32)).2 k2))
  rw [← Nat.mul_assoc B32] at k3
  have k4 := Nat.lt_of_mul_lt_mul_right k3
  rw [Nat.mul_add, Nat.mul_one] at k4
  exact k4
theorem awN_drop (q : Nat) (vs : List Int) (j : Nat) : ∀ (r i o l : Nat) (us : List Int), (awN q vs j r i o l us).1.drop (j + i + r) = us.drop (j + i + r)
  | 0, _, _, _, _ => rfl
  | r + 1, i, o, l, us => by
    rw [awN]
    have := awN_drop q vs j r (i + 1) ((o + q * (dig vs i).toNat) / B32) (subD (us.getD (j + i) 0).toNat ((o + q * (dig vs i).toNat) % B32) l).2 (us.set (j + i) ((subD (us.getD (j + i) 0).toNat ((o + q * (dig vs i).toNat) % B32) l).1 : Int))
    rw [show j + (i + 1) + r = j + i + (r + 1) by omega] at this
    rw [this, List.drop_set_of_lt (by omega)]
theorem bkN_drop (vs : List Int) (j : Nat) : ∀ (r i o : Nat) (us : List Int), (bkN vs j r i o us).1.drop (j + i + r) = us.drop (j + i + r)
  | 0, _, _, _ => rfl
  | r + 1, i, o, us => by
    rw [bkN]
    have := bkN_drop vs j r (i + 1) ((o + ((us.getD (j + i) 0).toNat + (dig vs i).toNat)) / B32) (us.set (j + i) (((o + ((us.getD (j + i) 0).toNat + (dig vs i).toNat)) % B32 : Nat) : Int))
    rw [show j + (i + 1) + r = j + i + (r + 1) by omega] at this
    rw [this, List.drop_set_of_lt (by omega)]
theorem drop_zero {us : List Int} {k : Nat} (hk : k ≤ us.length) (h : val B32 us < B32 ^ k) : val B32 (us.drop k) = 0 := by
  rw [val_take_drop B32 us k hk] at h
  apply Nat.eq_zero_of_not_pos
  intro hp
  have : B32 ^ k * 1 ≤ B32 ^ k * val B32 (us.drop k) := Nat.mul_le_mul_left _ hp
  omega
theorem val_low {us : List Int} (hw : wfd B32 us = true) {k : Nat} (hk : k ≤ us.length) (h : val B32 (us.drop k) = 0) : val B32 us < B32 ^ k := by
  rw [val_take_drop B32 us k hk, h, Nat.mul_zero, Nat.add_zero]
  have := val_lt (by decide : 0 < B32) (wfd_take (n := k) hw)
  rwa [List.length_take, Nat.min_eq_left hk] at this
theorem div_round {us vs : List Int} {j g Q : Nat} (hu : wfd B32 us = true) (hv : wfd B32 vs = true) (hj : j + (vs.length + 1) ≤ us.length) (hV : 0 < val B32 vs)
    (hU : val B32 us < B32 ^ j * (B32 * val B32 vs)) (hQ : Q * val B32 vs ≤ val B32 us / B32 ^ j) (hQ' : val B32 us / B32 ^ j < (Q + 1) * val B32 vs) (hg : Q ≤ g) (hg' : g ≤ Q + 1) :
    ((awN g vs j (vs.length + 1) 0 0 0 us).2 = 0 ∧ g = Q ∧ wfd B32 (awN g vs j (vs.length + 1) 0 0 0 us).1 = true ∧ (awN g vs j (vs.length + 1) 0 0 0 us).1.length = us.length ∧ val B32 (awN g vs j (vs.length + 1) 0 0 0 us).1 + B32 ^ j * (Q * val B32 vs) = val B32 us) ∨
    ((awN g vs j (vs.length + 1) 0 0 0 us).2 = 1 ∧ g = Q + 1 ∧ wfd B32 (awN g vs j (vs.length + 1) 0 0 0 us).1 = true ∧ (awN g vs j (vs.length + 1) 0 0 0 us).1.length = us.length ∧
      wfd B32 (bkN vs j (vs.length + 1) 0 0 (awN g vs j (vs.length + 1) 0 0 0 us).1).1 = true ∧ (bkN vs j (vs.length + 1) 0 0 (awN g vs j (vs.length + 1) 0 0 0 us).1).1.length = us.length ∧
      val B32 (bkN vs j (vs.length + 1) 0 0 (awN g vs j (vs.length + 1) 0 0 0 us).1).1 + B32 ^ j * (Q * val B32 vs) = val B32 us) := by
  have hVlt := val_lt (by decide : 0 < B32) hv
  have pj : 0 < B32 ^ j := Nat.pow_pos (by decide)
  have hUj : val B32 us / B32 ^ j < B32 * val B32 vs := by
    rw [Nat.div_lt_iff_lt_mul pj, Nat.mul_comm]
    exact hU
  have hQB : Q < B32 := by
    apply Nat.lt_of_mul_lt_mul_right (a := val B32 vs)
    exact Nat.lt_of_le_of_lt hQ hUj
  have hgV : g * val B32 vs < B32 ^ (vs.length + 1) := by
    have h1 : g * val B32 vs ≤ B32 * val B32 vs := Nat.mul_le_mul_right _ (by omega)
    have h2 : B32 * val B32 vs < B32 * B32 ^ vs.length := (Nat.mul_lt_mul_left (by decide)).2 hVlt
    rw [Nat.pow_succ, Nat.mul_comm (B32 ^ vs.length)]
    omega
  obtain ⟨a1, a2, a3, a4⟩ := aw_val (q := g) hv hu hj hgV
  have ad := awN_drop g vs j (vs.length + 1) 0 0 0 us
  rw [Nat.add_zero] at ad
  have hUP : val B32 us < B32 ^ (j + (vs.length + 1)) := by
    refine Nat.lt_of_lt_of_le hU ?_
    rw [Nat.pow_add, Nat.pow_succ, Nat.mul_comm (B32 ^ vs.length)]
    exact Nat.mul_le_mul_left _ (Nat.mul_le_mul_left _ (Nat.le_of_lt hVlt))
  have hd0 := drop_zero hj hUP
  have aLow : val B32 (awN g vs j (vs.length + 1) 0 0 0 us).1 < B32 ^ (j + (vs.length + 1)) := val_low a1 (by rw [a2]; exact hj) (by rw [ad]; exact hd0)
  generalize hA : awN g vs j (vs.length + 1) 0 0 0 us = A at *
  obtain ⟨us1, l⟩ := A
  simp only at *
  have hmod : B32 ^ j * (val B32 us / B32 ^ j) ≤ val B32 us := Nat.mul_div_le _ _
  by_cases hgQ : g = Q
  · left
    subst hgQ
    have h1 : B32 ^ j * (g * val B32 vs) ≤ val B32 us := Nat.le_trans (Nat.mul_le_mul_left _ hQ) hmod
    have hl : l = 0 := by
      apply Nat.eq_zero_of_not_pos
      intro hp
      have : B32 ^ (j + (vs.length + 1)) * 1 ≤ B32 ^ (j + (vs.length + 1)) * l := Nat.mul_le_mul_left _ hp
      omega
    subst hl
    rw [Nat.mul_zero, Nat.add_zero] at a4
    exact ⟨by first | rfl | trivial, by first | rfl | trivial, a1, a2, a4⟩
  · right
    have hg1 : g = Q + 1 := by omega
    subst hg1
    have h1 : val B32 us < B32 ^ j * ((Q + 1) * val B32 vs) := by
      have := Nat.lt_mul_div_succ (val B32 us) pj
      exact Nat.lt_of_lt_of_le this (Nat.mul_le_mul_left _ hQ')
    have hl : l = 1 := by
      have : l ≠ 0 := by
        rintro rfl
        rw [Nat.mul_zero, Nat.add_zero] at a4
        omega
      omega
    subst hl
    rw [Nat.mul_one] at a4
    obtain ⟨b1, b2, b3, b4⟩ := bk_val hv (j := j) (us := us1) a1 (by rw [a2]; exact hj)
    have bd := bkN_drop vs j (vs.length + 1) 0 0 us1
    rw [Nat.add_zero] at bd
    have bLow : val B32 (bkN vs j (vs.length + 1) 0 0 us1).1 < B32 ^ (j + (vs.length + 1)) := val_low b1 (by rw [b2, a2]; exact hj) (by rw [bd, ad]; exact hd0)
    generalize hBk : bkN vs j (vs.length + 1) 0 0 us1 = Bk at *
    obtain ⟨us2, o⟩ := Bk
    simp only at *
    have e1 : B32 ^ j * ((Q + 1) * val B32 vs) = B32 ^ j * (Q * val B32 vs) + B32 ^ j * val B32 vs := by rw [Nat.add_mul, Nat.one_mul, Nat.mul_add]
    have h2 : B32 ^ j * (Q * val B32 vs) ≤ val B32 us := Nat.le_trans (Nat.mul_le_mul_left _ hQ) hmod
    have ho : o = 1 := by
      have : o ≠ 0 := by
        rintro rfl
        rw [Nat.mul_zero, Nat.add_zero] at b4
        omega
      omega
    subst ho
    rw [Nat.mul_one] at b4
    refine ⟨by first | rfl | trivial, by first | rfl | trivial, a1, a2, b1, b2.trans a2, ?_⟩
    omega
theorem digs_len_le {xs : List Int} (h : wfd B32 xs = true) : (digs B32 (val B32 xs)).length ≤ xs.length := by
  rw [← cut_eq (by decide) h]
  exact List.length_take_le' ..
theorem digs_len' {n m : Nat} (h1 : B32 ^ m ≤ n) (h2 : n < B32 ^ (m + 1)) : (digs B32 n).length = m + 1 := by
  have hn : 0 < n := Nat.lt_of_lt_of_le (Nat.pow_pos (by decide)) h1
  obtain ⟨k, h3, h4, h5⟩ := digs_size (b := B32) (by decide) hn
  rw [h3]
  have a := (Nat.pow_lt_pow_iff_right (by decide : 1 < B32)).1 (Nat.lt_of_le_of_lt h1 h5)
  have b := (Nat.pow_lt_pow_iff_right (by decide : 1 < B32)).1 (Nat.lt_of_le_of_lt h4 h2)
  omega
theorem norm_facts {vb : Nat} (h2 : 2 ≤ (digs B32 vb).length) : ∃ s mb : Nat, (digs B32 vb).length = mb + 2 ∧ (32 : Int) - (bl ((digs B32 vb).getD (mb + 1) 0).toNat : Int) = (s : Int) ∧ s < 32 ∧ 0 ≤ (digs B32 vb).getD (mb + 1) 0 ∧ (digs B32 vb).getD (mb + 1) 0 < 4294967296 ∧
    B32 ^ (mb + 1) ≤ vb ∧ vb * 2 ^ s < B32 ^ (mb + 2) ∧ (digs B32 (vb * 2 ^ s)).length = mb + 2 ∧ B32 ≤ 2 * ((digs B32 (vb * 2 ^ s)).getD (mb + 1) 0).toNat := by
  have hv : 0 < vb := by
    apply Nat.pos_of_ne_zero
    rintro rfl
    rw [digs_zero] at h2
    simp at h2
  obtain ⟨m, h3, h4, h5⟩ := digs_size (b := B32) (by decide) hv
  obtain ⟨mb, rfl⟩ : ∃ mb, m = mb + 1 := ⟨m - 1, by omega⟩
  have pm : 0 < B32 ^ (mb + 1) := Nat.pow_pos (by decide)
  have ht : vb / B32 ^ (mb + 1) < B32 := by
    rw [Nat.div_lt_iff_lt_mul pm, Nat.mul_comm, ← Nat.pow_succ]
    exact h5
  have hg : (digs B32 vb).getD (mb + 1) 0 = ((vb / B32 ^ (mb + 1) : Nat) : Int) := by rw [digs_get (by decide), Nat.mod_eq_of_lt ht]
  have ht0 : 0 < vb / B32 ^ (mb + 1) := Nat.div_pos h4 pm
  have hdm := Nat.div_add_mod vb (B32 ^ (mb + 1))
  have hml := Nat.mod_lt vb pm
  generalize htp : vb / B32 ^ (mb + 1) = t at *
  have hbl : bl t ≤ 32 := bl_le.2 ht
  have hbl0 : 0 < bl t := by
    apply Nat.pos_of_ne_zero
    intro h
    have := bl_le.1 (Nat.le_of_eq h)
    simp at this
    omega
  have b1 : t < 2 ^ bl t := bl_le.1 (Nat.le_refl _)
  have b2 : 2 ^ (bl t - 1) ≤ t := by
    apply Nat.le_of_not_lt
    intro h
    have := bl_le.2 h
    omega
  have p1 : 2 ^ bl t * 2 ^ (32 - bl t) = B32 := by rw [← Nat.pow_add, show bl t + (32 - bl t) = 32 by omega]
  have p2 : 2 ^ (bl t - 1) * 2 ^ (32 - bl t) * 2 = B32 := by rw [← Nat.pow_add, show bl t - 1 + (32 - bl t) = 31 by omega]
  have p3 : 0 < 2 ^ (32 - bl t) := Nat.pow_pos (by decide)
  have q1 : (t + 1) * 2 ^ (32 - bl t) ≤ B32 := by rw [← p1]; exact Nat.mul_le_mul_right _ b1
  have q2 : B32 ≤ 2 * (t * 2 ^ (32 - bl t)) := by
    have := Nat.mul_le_mul_right (2 ^ (32 - bl t)) b2
    omega
  have hlo : B32 ^ (mb + 1) * (t * 2 ^ (32 - bl t)) ≤ vb * 2 ^ (32 - bl t) := by
    rw [← Nat.mul_assoc]
    exact Nat.mul_le_mul_right _ (Nat.le.intro hdm)
  have hhi : vb * 2 ^ (32 - bl t) < B32 ^ (mb + 2) := by
    have h6 : vb < B32 ^ (mb + 1) * (t + 1) := by rw [Nat.mul_add, Nat.mul_one]; omega
    have h7 := (Nat.mul_lt_mul_right p3).2 h6
    rw [Nat.mul_assoc] at h7
    refine Nat.lt_of_lt_of_le h7 ?_
    rw [Nat.pow_succ B32 (mb + 1)]
    exact Nat.mul_le_mul_left _ q1
  have hlen : (digs B32 (vb * 2 ^ (32 - bl t))).length = mb + 2 := by
    refine digs_len' ?_ hhi
    refine Nat.le_trans ?_ hlo
    exact Nat.le_mul_of_pos_right _ (Nat.mul_pos ht0 p3)
  refine ⟨32 - bl t, mb, h3, ?_, by omega, ?_, ?_, h4, hhi, hlen, ?_⟩
  · rw [hg, Int.toNat_natCast]; omega
  · rw [hg]; exact Int.natCast_nonneg _
  · rw [hg]; have hB : B32 = 4294967296 := rfl; omega
  · have h8 : vb * 2 ^ (32 - bl t) / B32 ^ (mb + 1) < B32 := by
      rw [Nat.div_lt_iff_lt_mul pm, Nat.mul_comm B32, ← Nat.pow_succ]
      exact hhi
    rw [digs_get (by decide), Nat.mod_eq_of_lt h8, Int.toNat_natCast]
    have h9 : t * 2 ^ (32 - bl t) ≤ vb * 2 ^ (32 - bl t) / B32 ^ (mb + 1) := by
      rw [Nat.le_div_iff_mul_le pm, Nat.mul_comm]
      exact hlo
    omega
end Go.Proofs.YtlfdidaeachpoaaGreat

namespace Go.Proofs.YtlfdidaeachpoaaGreat
open Go Go.RowKit
set_option maxRecDepth 100000
noncomputable section
def nat_short_b122 : ((List Int) × Int) → (Int × Int × (List Int)) → RT (Int × Int × (List Int)) (Int × (List Int))
| (a, d), (rest, i, r6) =>
 .rq 2 (.ite (decide (0 ≤ i))
 (.rq 4 (.req (inB a i) (.rq 9 (let t0 := (wu64 d) != 0;
 .req t0 (.rq 1 (.req (inB r6 i) (.rq 4 (.req t0 (.rq 4 (let t1 := ibit .or .u64 (shlI .u64 rest 32) (wu64 (gI a i));
 .again (Int.tmod t1 (wu64 d), w64 (i - 1), sI r6 i (wu32 (wu64 (Int.tdiv t1 (wu64 d)))))))))))))))
 (.done (rest, r6)))
def nat_short_p122 : Piece := ⟨122, true, [.sl tV, tV], [tU, tI, .sl tV], ⟨[.keep [0, 1, 6, 7, 8], .gc, .nilRow 6 800006 122 tV, .ren 6 700006, .ren 6 900006, .gc], [0, 1, 6, 7, 8], [.lf (qi 0), .lf (qi 1), .lf (qr 900006), .lf (qm 0), .lf (qm 1)], [(900006, true, .arr 122 (qm 2))]⟩, [⟨2, ⟨[.keep [6, 7], .gc, .nilRow 6 800006 122 tV, .ren 6 700006, .ren 6 900006, .gc], [6, 7], [.lf (qr 900006), .lf (qm 0)], [(900006, true, .arr 122 (qm 1))]⟩, [tU, .sl tV]⟩], nat_short_b122⟩
def nat_short : ((List Int) × Int) → RT Unit (Int × (List Int))
| (a, d) =>
 .rq 4 (.req (mkOK 4 (a.length : Int)) (.rq 6 (.call (lo nat_short_b122 (a, d) (0, w64 ((a.length : Int) - 1), repI (a.length : Int) 0)) default fun v0 =>
 .rq 1 (.req (okL 40 v0.2) (.rq 4 (.done (wu32 v0.1, digs B32 (val B32 v0.2))))))))
def F_nat_short (x : (List Int) × Int) : Option (Int × (List Int)) := (nat_short x).run fun _ => none
def io_nat_short : Io := ⟨n_nat_short, [.sl tV, tV], [.lf (qm 0), .lf (qm 1)], [], [[.sl tV], [tV]], [tV, .sl tV], .tup [(false, [qr 0]), (false, [qm 0])], [], [(true, .arr 122 (qm 1))], false⟩
def nat_short_P : List Piece := [nat_short_p122]
def nat_short_T : CallT := tab [e_nat_Cut]
theorem nat_short_To : SoundT pg nat_short_T := tab_sound ⟨e_nat_Cut_ok, trivial⟩
theorem nat_short_k122 : (nat_short_p122).OK pg (nat_short_T) (tell 43 (nat_short_P)) (codeOf f_nat_short) 43 := ⟨by kernel_rfl, fun i x => by kernel_rfl⟩
theorem nat_short_go : FnOK pg (nat_short_T) io_nat_short f_nat_short (nat_short_P) [.nilRow 4 800004 122 tV, .ren 4 700004, .ren 4 900004] (nat_short) := ⟨by kernel_rfl, by kernel_rfl, fun x => by kernel_rfl⟩
theorem ok_nat_short : io_nat_short.Okay pg (F_nat_short) := fn_ok pg_mixed (nat_short_To) (nat_short_go) ⟨nat_short_k122, trivial⟩
theorem tdivN (x y : Nat) : Int.tdiv (x : Int) (y : Int) = ((x / y : Nat) : Int) := by rw [Int.tdiv_eq_ediv_of_nonneg (Int.natCast_nonneg _)]; exact (Int.natCast_ediv _ _).symm
theorem tmodN (x y : Nat) : Int.tmod (x : Int) (y : Int) = ((x % y : Nat) : Int) := by rw [Int.tmod_eq_emod_of_nonneg (Int.natCast_nonneg _)]; exact (Int.natCast_emod _ _).symm
theorem short_l {xs : List Int} (hx : wfd B32 xs = true) (hxl : xs.length ≤ 2 ^ 40) {d : Nat} (hd : 0 < d) (hd' : d < 4294967296) : ∀ (k r : Nat) (out : List Int), k ≤ xs.length → out.length = xs.length → r < d →
    lo nat_short_b122 (xs, (d : Int)) ((r : Int), (k : Int) - 1, out) = some (((shortN B32 d xs k r out).2 : Int), (shortN B32 d xs k r out).1)
  | 0, r, out, _, _, _ => by
    rw [lo_eq, nat_short_b122]
    simp only [RT.run]
    rw [if_neg (by simp)]
    rfl
  | k + 1, r, out, hk, hl, hr => by
    rw [lo_eq, nat_short_b122]
    obtain ⟨x, e1, hx'⟩ := getD_nat hx k
    have ix : ((k + 1 : Nat) : Int) - 1 = (k : Int) := by omega
    have w1 : w64 ((k : Int) - 1) = (k : Int) - 1 := by rw [w64_in]; omega
    have w2 : wu64 (d : Int) = (d : Int) := wu64_in (by omega)
    have w3 : wu64 (x : Int) = (x : Int) := wu64_in (by omega)
    have w4 := two_digits (x := r) (y := x) (by omega) hx'
    have hq : (r * 4294967296 + x) / d < 4294967296 := by
      rw [Nat.div_lt_iff_lt_mul hd]
      have : (r + 1) * 4294967296 ≤ d * 4294967296 := Nat.mul_le_mul_right _ hr
      omega
    have w5 : wu64 (((r * 4294967296 + x) / d : Nat) : Int) = (((r * 4294967296 + x) / d : Nat) : Int) := wu64_in ⟨Int.natCast_nonneg _, Int.lt_of_lt_of_le (Int.ofNat_lt.2 hq) (by decide)⟩
    have w6 : wu32 (((r * 4294967296 + x) / d : Nat) : Int) = (((r * 4294967296 + x) / d : Nat) : Int) := wu32_in ⟨Int.natCast_nonneg _, Int.ofNat_lt.2 hq⟩
    have hne : ((d : Int) != 0) = true := by simp; omega
    simp only [RT.run, ix, gIn, sIn, w1, w2, w3, e1, w4, tdivN, tmodN, w5, w6, hne, if_true]
    rw [if_pos (by simp), if_pos (by rw [inB_nat]; simp; omega), if_pos (by rw [inB_nat]; simp; omega)]
    have e : shortN B32 d xs (k + 1) r out = shortN B32 d xs k ((r * 4294967296 + x) % d) (out.set k (((r * 4294967296 + x) / d : Nat) : Int)) := by
      rw [shortN, e1, Int.toNat_natCast]
    rw [e]
    exact short_l hx hxl hd hd' k _ _ (by omega) (by rw [List.length_set, hl]) (Nat.mod_lt _ hd)
def e_nat_short : Entry := io_nat_short.sp (fun (a, d) => okL 39 a && decide (0 < d)) (fun (a, d) => (((val B32 a % d.toNat : Nat) : Int), digs B32 (val B32 a / d.toNat)))
theorem sp_nat_short (h : ∀ (a : List Int) (d : Int), WfT [.sl tV, tV] (a, d) → (okL 39 a && decide (0 < d)) = true → (nat_short (a, d)).run (fun _ => none) = some (((val B32 a % d.toNat : Nat) : Int), digs B32 (val B32 a / d.toNat))) : e_nat_short.ok pg := sp_ok ok_nat_short fun (a, d) hw hc => h a d hw hc
theorem e_nat_short_ok : e_nat_short.ok pg := sp_nat_short fun a d hw hc => by
  have ha : wfd B32 a = true := wfd_of hw.1
  have hd2 : 0 ≤ d ∧ d < 4294967296 := hw.2
  simp only [Bool.and_eq_true, okL39, decide_eq_true_eq] at hc
  obtain ⟨n, rfl⟩ := Int.eq_ofNat_of_zero_le hd2.1
  rw [nat_short, Int.toNat_natCast]
  have hw1 : w64 ((a.length : Int) - 1) = (a.length : Int) - 1 := by rw [w64_in]; omega
  have h := short_l ha (by omega) (d := n) (by omega) (by omega) a.length 0 (List.replicate a.length 0) (Nat.le_refl _) (by simp) (by omega)
  obtain ⟨s1, s2, s3, s4⟩ := short_val (b := B32) (d := n) (by decide) (by omega) ha
  simp only [RT.run, hw1, repI, Int.toNat_natCast]
  rw [if_pos (by rw [mkOK_iff]; omega), show ((0 : Int), (a.length : Int) - 1, List.replicate a.length (0 : Int)) = (((0 : Nat) : Int), (a.length : Int) - 1, List.replicate a.length 0) from rfl, h, Option.bind_some]
  have hm : val B32 a % n < n := Nat.mod_lt _ (by omega)
  rw [if_pos (by rw [okL40, s2]; omega), s3, s4, wu32_in (by omega)]
def nat_shifted_b122 : ((List Int) × Int × Int) → (Int × Int × (List Int)) → RT (Int × Int × (List Int)) (List Int)
| (a, n, x13), (over, x14, r5) =>
 .rq 1 (.ite (decide (x14 < x13))
 (.rq 5 (.req (decide (0 ≤ x14)) (.rq 2 (.req (decide (0 ≤ n)) (.rq 6 (.req (inB r5 x14) (.rq 6 (let t0 := ibit .or .u64 over (shlI .u64 (wu64 (dig a x14)) n);
 .again (shrI .u64 t0 32, w64 (x14 + 1), sI r5 x14 (wu32 t0))))))))))
 (.done r5))
def nat_shifted_p122 : Piece := ⟨122, true, [.sl tV, tI, tI], [tU, tI, .sl tV], ⟨[.keep [0, 1, 5, 6, 13, 14], .gc, .nilRow 5 800005 122 tV, .ren 5 700005, .ren 5 900005, .gc], [0, 1, 5, 6, 13, 14], [.lf (qi 0), .lf (qi 1), .lf (qr 900005), .lf (qm 0), .lf (qi 2), .lf (qm 1)], [(900005, true, .arr 122 (qm 2))]⟩, [⟨2, ⟨[.keep [5], .gc, .nilRow 5 800005 122 tV, .ren 5 700005, .ren 5 900005, .gc], [5], [.lf (qr 900005)], [(900005, true, .arr 122 (qm 0))]⟩, [.sl tV]⟩], nat_shifted_b122⟩
def nat_shifted : ((List Int) × Int) → RT Unit (List Int)
| (a, n) =>
 .rq 4 (let t0 := w64 ((a.length : Int) + 1);
 .req (mkOK 4 t0) (.rq 5 (let t1 := repI t0 0;
 .call (lo nat_shifted_b122 (a, n, (t1.length : Int)) (0, 0, t1)) default fun v0 =>
 .rq 2 (.done v0))))
def F_nat_shifted (x : (List Int) × Int) : Option (List Int) := (nat_shifted x).run fun _ => none
def io_nat_shifted : Io := ⟨n_nat_shifted, [.sl tV, tI], [.lf (qm 0), .lf (qm 1)], [], [[.sl tV], [tI]], [.sl tV], .lf (qr 0), [], [(true, .arr 122 (qm 0))], false⟩
def nat_shifted_P : List Piece := [nat_shifted_p122]
def nat_shifted_T : CallT := tab [e_nat_at]
theorem nat_shifted_To : SoundT pg nat_shifted_T := tab_sound ⟨e_nat_at_ok, trivial⟩
theorem nat_shifted_k122 : (nat_shifted_p122).OK pg (nat_shifted_T) (tell 34 (nat_shifted_P)) (codeOf f_nat_shifted) 34 := ⟨by kernel_rfl, fun i x => by kernel_rfl⟩
theorem nat_shifted_go : FnOK pg (nat_shifted_T) io_nat_shifted f_nat_shifted (nat_shifted_P) [.nilRow 4 800004 122 tV, .ren 4 700004, .ren 4 900004] (nat_shifted) := ⟨by kernel_rfl, by kernel_rfl, fun x => by kernel_rfl⟩
theorem ok_nat_shifted : io_nat_shifted.Okay pg (F_nat_shifted) := fn_ok pg_mixed (nat_shifted_To) (nat_shifted_go) ⟨nat_shifted_k122, trivial⟩
theorem shifted_l {xs : List Int} (hx : wfd B32 xs = true) {n : Nat} (hn : n ≤ 31) (m : Nat) (hm : m ≤ 2 ^ 40) : ∀ (r i o : Nat) (out : List Int), i + r = m → out.length = m → o < 2 ^ n →
    lo nat_shifted_b122 (xs, (n : Int), (m : Int)) ((o : Int), (i : Int), out) = some (sftN B32 (2 ^ n) xs r i o out)
  | 0, i, o, out, h, _, _ => by
    rw [lo_eq, nat_shifted_b122]
    simp only [RT.run]
    rw [if_neg (by simp; omega)]
    rfl
  | r + 1, i, o, out, h, hl, ho => by
    rw [lo_eq, nat_shifted_b122]
    obtain ⟨x, e1, hx'⟩ := dig_nat' hx i
    have hp : 2 ^ n ≤ 2 ^ 31 := Nat.pow_le_pow_right (by decide) hn
    rw [show (2 : Nat) ^ 31 = 2147483648 from rfl] at hp
    have hp0 : 0 < 2 ^ n := Nat.pow_pos (by decide)
    have hxp : x * 2 ^ n ≤ 4294967295 * 2147483648 := Nat.mul_le_mul (by omega) hp
    have w1 : w64 ((i : Int) + 1) = ((i + 1 : Nat) : Int) := by rw [w64_in] <;> omega
    have w2 : wu64 (x : Int) = (x : Int) := wu64_in (by omega)
    have w3 := shlN (x := x) (j := n) (by omega) (by omega)
    have w4 : ibit .or .u64 (o : Int) ((x * 2 ^ n : Nat) : Int) = ((o + x * 2 ^ n : Nat) : Int) := by
      rw [ibit_or (by omega) (by omega), Nat.or_comm]
      rw [Nat.mul_comm x, ← Nat.two_pow_add_eq_or_of_lt ho, Nat.add_comm]
    have w5 : wu32 ((o + x * 2 ^ n : Nat) : Int) = (((o + x * 2 ^ n) % 4294967296 : Nat) : Int) := by rw [wu32_eq]; omega
    have hd0 : decide (0 ≤ (i : Int)) = true := by simp
    have hn0 : decide (0 ≤ (n : Int)) = true := by simp
    simp only [RT.run, sIn, w1, w2, w3, e1, w4, w5, shr32, hd0, hn0, if_true]
    rw [if_pos (by simp; omega), if_pos (by rw [inB_nat]; simp; omega)]
    have e : sftN B32 (2 ^ n) xs (r + 1) i o out = sftN B32 (2 ^ n) xs r (i + 1) ((o + x * 2 ^ n) / 4294967296) (out.set i (((o + x * 2 ^ n) % 4294967296 : Nat) : Int)) := by
      rw [sftN, e1, Int.toNat_natCast]
    rw [e]
    refine shifted_l hx hn m hm r (i + 1) _ _ (by omega) (by rw [List.length_set, hl]) ?_
    rw [Nat.div_lt_iff_lt_mul (by decide)]
    have h1 : (x + 1) * 2 ^ n ≤ 4294967296 * 2 ^ n := Nat.mul_le_mul_right _ hx'
    rw [Nat.add_mul, Nat.one_mul] at h1
    omega
def e_nat_shifted : Entry := io_nat_shifted.sp (fun (a, n) => okL 39 a && (decide (0 ≤ n) && decide (n ≤ 31))) (fun (a, n) => fixd B32 (a.length + 1) (val B32 a * 2 ^ n.toNat))
theorem sp_nat_shifted (h : ∀ (a : List Int) (n : Int), WfT [.sl tV, tI] (a, n) → (okL 39 a && (decide (0 ≤ n) && decide (n ≤ 31))) = true → (nat_shifted (a, n)).run (fun _ => none) = some (fixd B32 (a.length + 1) (val B32 a * 2 ^ n.toNat))) : e_nat_shifted.ok pg := sp_ok ok_nat_shifted fun (a, n) hw hc => h a n hw hc
theorem e_nat_shifted_ok : e_nat_shifted.ok pg := sp_nat_shifted fun a n hw hc => by
  have ha : wfd B32 a = true := wfd_of hw.1
  simp only [Bool.and_eq_true, okL39, decide_eq_true_eq] at hc
  obtain ⟨n, rfl⟩ := Int.eq_ofNat_of_zero_le hc.2.1
  rw [nat_shifted, Int.toNat_natCast]
  have hw1 : w64 ((a.length : Int) + 1) = ((a.length + 1 : Nat) : Int) := by rw [w64_in] <;> omega
  have h := shifted_l ha (n := n) (by omega) (a.length + 1) (by omega) (a.length + 1) 0 0 (List.replicate (a.length + 1) 0) (by omega) (by simp) (Nat.pow_pos (by decide))
  simp only [RT.run, hw1, repI, Int.toNat_natCast, List.length_replicate]
  rw [if_pos (by rw [mkOK_iff]; omega), show ((0 : Int), (0 : Int), List.replicate (a.length + 1) (0 : Int)) = (((0 : Nat) : Int), ((0 : Nat) : Int), List.replicate (a.length + 1) 0) from rfl, h, Option.bind_some]
  rw [sft_val ha (Nat.le_trans (Nat.pow_le_pow_right (by decide) (by omega : n ≤ 32)) (by decide))]
def nat_down_b58 : ((List Int) × Int × Int) → (Int × (List Int)) → RT (Int × (List Int)) (List Int)
| (a, n, x11), (x12, r5) =>
 .rq 1 (.ite (decide (x12 < x11))
 (.rq 7 (let t0 := w64 (x12 + 1);
 .req (decide (0 ≤ t0)) (.rq 4 (.req (inB a x12) (.rq 4 (.req (decide (0 ≤ n)) (.rq 1 (.req (inB r5 x12) (.rq 3 (.again (t0, sI r5 x12 (wu32 (shrI .u64 (ibit .or .u64 (shlI .u64 (wu64 (dig a t0)) 32) (wu64 (gI a x12))) n)))))))))))))
 (.done r5))
def nat_down_p58 : Piece := ⟨58, true, [.sl tV, tI, tI], [tI, .sl tV], ⟨[.keep [0, 1, 5, 11, 12], .gc, .nilRow 5 800005 122 tV, .ren 5 700005, .ren 5 900005, .gc], [0, 1, 5, 11, 12], [.lf (qi 0), .lf (qi 1), .lf (qr 900005), .lf (qi 2), .lf (qm 0)], [(900005, true, .arr 122 (qm 1))]⟩, [⟨2, ⟨[.keep [5], .gc, .nilRow 5 800005 122 tV, .ren 5 700005, .ren 5 900005, .gc], [5], [.lf (qr 900005)], [(900005, true, .arr 122 (qm 0))]⟩, [.sl tV]⟩], nat_down_b58⟩
def nat_down : ((List Int) × Int) → RT Unit (List Int)
| (a, n) =>
 .rq 3 (.req (mkOK 4 (a.length : Int)) (.rq 4 (.call (lo nat_down_b58 (a, n, (a.length : Int)) (0, repI (a.length : Int) 0)) default fun v0 =>
 .rq 1 (.req (okL 40 v0) (.rq 1 (.done (digs B32 (val B32 v0))))))))
def F_nat_down (x : (List Int) × Int) : Option (List Int) := (nat_down x).run fun _ => none
def io_nat_down : Io := ⟨n_nat_down, [.sl tV, tI], [.lf (qm 0), .lf (qm 1)], [], [[.sl tV], [tI]], [.sl tV], .lf (qr 0), [], [(true, .arr 122 (qm 0))], false⟩
def nat_down_P : List Piece := [nat_down_p58]
def nat_down_T : CallT := tab [e_nat_Cut, e_nat_at]
theorem nat_down_To : SoundT pg nat_down_T := tab_sound ⟨e_nat_Cut_ok, e_nat_at_ok, trivial⟩
theorem nat_down_k58 : (nat_down_p58).OK pg (nat_down_T) (tell 36 (nat_down_P)) (codeOf f_nat_down) 36 := ⟨by kernel_rfl, fun i x => by kernel_rfl⟩
theorem nat_down_go : FnOK pg (nat_down_T) io_nat_down f_nat_down (nat_down_P) [.nilRow 4 800004 122 tV, .ren 4 700004, .ren 4 900004] (nat_down) := ⟨by kernel_rfl, by kernel_rfl, fun x => by kernel_rfl⟩
theorem ok_nat_down : io_nat_down.Okay pg (F_nat_down) := fn_ok pg_mixed (nat_down_To) (nat_down_go) ⟨nat_down_k58, trivial⟩
theorem down_l {xs : List Int} (hx : wfd B32 xs = true) (hxl : xs.length ≤ 2 ^ 40) {n : Nat} (hn : n ≤ 32) : ∀ (r i : Nat) (out : List Int), i + r = xs.length → out.length = xs.length →
    lo nat_down_b58 (xs, (n : Int), (xs.length : Int)) ((i : Int), out) = some (fillN (downF B32 n xs) r i out)
  | 0, i, out, h, _ => by
    rw [lo_eq, nat_down_b58]
    simp only [RT.run]
    rw [if_neg (by simp; omega)]
    rfl
  | r + 1, i, out, h, hl => by
    rw [lo_eq, nat_down_b58]
    obtain ⟨x, e1, hx'⟩ := dig_nat' hx (i + 1)
    obtain ⟨y, e2, hy'⟩ := getD_nat hx i
    have w1 : w64 ((i : Int) + 1) = ((i + 1 : Nat) : Int) := by rw [w64_in] <;> omega
    have w2 : wu64 (x : Int) = (x : Int) := wu64_in (by omega)
    have w3 : wu64 (y : Int) = (y : Int) := wu64_in (by omega)
    have w4 := two_digits hx' hy'
    have w5 := shrN (x * 4294967296 + y) .u64 n (by show n ≤ 64; omega)
    have w6 : wu32 (((x * 4294967296 + y) / 2 ^ n : Nat) : Int) = (((x * 4294967296 + y) / 2 ^ n % 4294967296 : Nat) : Int) := by rw [wu32_eq]; exact (Int.natCast_emod _ _).symm
    have hd0 : decide (0 ≤ ((i + 1 : Nat) : Int)) = true := decide_eq_true (by omega)
    have hn0 : decide (0 ≤ (n : Int)) = true := by simp
    simp only [RT.run, gIn, sIn, w1, w2, w3, e1, e2, w4, w5, w6, hd0, hn0, if_true]
    rw [if_pos (by simp; omega), if_pos (by rw [inB_nat]; simp; omega), if_pos (by rw [inB_nat]; simp; omega)]
    have hdy : dig xs (i : Int) = (y : Int) := by rw [dig_nat, e2]
    have e : fillN (downF B32 n xs) (r + 1) i out = fillN (downF B32 n xs) r (i + 1) (out.set i (((x * 4294967296 + y) / 2 ^ n % 4294967296 : Nat) : Int)) := by
      rw [fillN, downF, e1, hdy, Int.toNat_natCast, Int.toNat_natCast]
    rw [e]
    exact down_l hx hxl hn r (i + 1) _ (by omega) (by rw [List.length_set, hl])
def e_nat_down : Entry := io_nat_down.sp (fun (a, n) => okL 39 a && (decide (0 ≤ n) && decide (n ≤ 31))) (fun (a, n) => digs B32 (val B32 a / 2 ^ n.toNat))
theorem sp_nat_down (h : ∀ (a : List Int) (n : Int), WfT [.sl tV, tI] (a, n) → (okL 39 a && (decide (0 ≤ n) && decide (n ≤ 31))) = true → (nat_down (a, n)).run (fun _ => none) = some (digs B32 (val B32 a / 2 ^ n.toNat))) : e_nat_down.ok pg := sp_ok ok_nat_down fun (a, n) hw hc => h a n hw hc
theorem e_nat_down_ok : e_nat_down.ok pg := sp_nat_down fun a n hw hc => by
  have ha : wfd B32 a = true := wfd_of hw.1
  simp only [Bool.and_eq_true, okL39, decide_eq_true_eq] at hc
  obtain ⟨n, rfl⟩ := Int.eq_ofNat_of_zero_le hc.2.1
  rw [nat_down, Int.toNat_natCast]
  have h := down_l ha (by omega) (n := n) (by omega) a.length 0 (List.replicate a.length 0) (by omega) (by simp)
  simp only [RT.run, repI, Int.toNat_natCast]
  rw [if_pos (by rw [mkOK_iff]; omega), show ((0 : Int), List.replicate a.length (0 : Int)) = (((0 : Nat) : Int), List.replicate a.length 0) from rfl, h, Option.bind_some]
  rw [down_val (by omega) ha, if_pos (by rw [okL40, fixd_len]; omega), fixd_val, Nat.mod_eq_of_lt]
  exact Nat.lt_of_le_of_lt (Nat.div_le_self _ _) (val_lt (by decide) ha)
def math_bits_LeadingZeros32 : Int → RT Unit Int
| x =>
 .rq 5 (.done (w64 (32 - (((bl x.toNat : Nat) : Int)))))
def F_math_bits_LeadingZeros32 (x : Int) : Option Int := (math_bits_LeadingZeros32 x).run fun _ => none
def io_math_bits_LeadingZeros32 : Io := ⟨n_math_bits_LeadingZeros32, [tV], [.lf (qm 0)], [], [[tV]], [tI], .lf (qm 0), [], [], false⟩
def math_bits_LeadingZeros32_P : List Piece := []
def math_bits_LeadingZeros32_T : CallT := tab [e_math_bits_Len32]
theorem math_bits_LeadingZeros32_To : SoundT pg math_bits_LeadingZeros32_T := tab_sound ⟨e_math_bits_Len32_ok, trivial⟩
theorem math_bits_LeadingZeros32_go : FnOK pg (math_bits_LeadingZeros32_T) io_math_bits_LeadingZeros32 f_math_bits_LeadingZeros32 (math_bits_LeadingZeros32_P) [] (math_bits_LeadingZeros32) := ⟨by kernel_rfl, by kernel_rfl, fun x => by kernel_rfl⟩
theorem ok_math_bits_LeadingZeros32 : io_math_bits_LeadingZeros32.Okay pg (F_math_bits_LeadingZeros32) := fn_ok pg_mixed (math_bits_LeadingZeros32_To) (math_bits_LeadingZeros32_go) trivial
def e_math_bits_LeadingZeros32 : Entry := io_math_bits_LeadingZeros32.sp (fun x => true) (fun x => 32 - ((bl x.toNat : Nat) : Int))
theorem sp_math_bits_LeadingZeros32 (h : ∀ (x : Int), WfT [tV] x → (math_bits_LeadingZeros32 x).run (fun _ => none) = some (32 - ((bl x.toNat : Nat) : Int))) : e_math_bits_LeadingZeros32.ok pg := sp_ok ok_math_bits_LeadingZeros32 fun x hw hc => h x hw
theorem e_math_bits_LeadingZeros32_ok : e_math_bits_LeadingZeros32.ok pg := sp_math_bits_LeadingZeros32 fun x hw => by
  have hw' : 0 ≤ x ∧ x < 4294967296 := hw
  rw [math_bits_LeadingZeros32]
  have : bl x.toNat ≤ 32 := bl_le.2 (by omega)
  simp only [RT.run]
  rw [w64_in (by omega)]
theorem ibit_low {x : Nat} (hx : x < 2 ^ 64) : ibit .and .u64 (x : Int) 4294967295 = ((x % 4294967296 : Nat) : Int) := by
  unfold ibit
  have e : ∀ z : Nat, z < 2 ^ 64 → (BitVec.ofInt IntKind.u64.bits (z : Int)).toNat = z := fun z hz => by
    rw [BitVec.toNat_ofInt]
    have : (2 : Nat) ^ IntKind.u64.bits = 18446744073709551616 := rfl
    rw [this]
    omega
  have e2 : (BitVec.ofInt IntKind.u64.bits (4294967295 : Int)).toNat = 4294967295 := e 4294967295 (by decide)
  simp only [BitVec.toNat_and, e x hx, e2]
  have h := Nat.and_two_pow_sub_one_eq_mod x 32
  rw [show (2 : Nat) ^ 32 - 1 = 4294967295 from rfl, show (2 : Nat) ^ 32 = 4294967296 from rfl] at h
  rw [h, u64_in]
  omega
theorem shr63 (x : Int) : shrI .u64 x 63 = x / 9223372036854775808 := by
  unfold shrI
  rw [Int.fdiv_eq_ediv_of_nonneg _ (Int.pow_nonneg (by decide))]
  rfl
theorem sub_step {U y l : Nat} (hU : U < B32) (hy : y < B32) (hl : l ≤ 1) :
    shrI .u64 (wu64 (wu64 ((U : Int) - (y : Int)) - (l : Int))) 63 = ((subD U y l).2 : Int) ∧ wu32 (wu64 (wu64 ((U : Int) - (y : Int)) - (l : Int))) = ((subD U y l).1 : Int) := by
  have hB : B32 = 4294967296 := rfl
  rw [hB] at hU hy
  rw [shr63, wu64_eq, wu64_eq, wu32_eq]
  unfold subD
  rw [hB]
  split
  · simp only; omega
  · simp only; omega
def nat_guess_b992 : ((List Int) × (List Int) × Int × Int × Int × Int) → RT Unit Bool
| (x0, l, i, L, s, t) =>
 .rq 3 (.ite (decide (4294967296 ≤ s))
 (.rq 1 (.done true))
 (.rq 4 (let t0 := w64 (L - 2);
 .req (inB l t0) (.rq 10 (let t1 := w64 ((w64 (i + L)) - 2);
 .req (inB x0 t1) (.rq 5 (.done (decide ((ibit .or .u64 (shlI .u64 t 32) (wu64 (gI x0 t1))) < (wu64 (s * (wu64 (gI l t0)))))))))))))
def nat_guess_p992 : Piece := ⟨992, false, [.sl tV, .sl tV, tI, tI, tU, tU], [], ⟨[.keep [0, 1, 2, 7, 9, 10], .gc], [0, 1, 2, 7, 9, 10], [.lf (qi 0), .lf (qi 1), .lf (qi 2), .lf (qi 3), .lf (qi 4), .lf (qi 5)], []⟩, [⟨0, ⟨[.keep [0, 1, 2, 7, 9, 10, 69], .gc], [0, 1, 2, 7, 9, 10, 69], [.lf (qi 0), .lf (qi 1), .lf (qi 2), .lf (qi 3), .lf (qi 4), .lf (qi 5), .lf (qm 0)], []⟩, [tB]⟩], (fun i _ => nat_guess_b992 i)⟩
def nat_guess_b124 : ((List Int) × (List Int) × Int × Int) → (Int × Int) → RT (Int × Int) Int
| (x0, l, i, L), (s, t) =>
 .call (on nat_guess_b992 (x0, l, i, L, s, t)) default fun v0 =>
 .ite v0
 (.rq 7 (let t0 := w64 (L - 1);
 .req (inB l t0) (.rq 6 (let t1 := wu64 (s - 1);
 let t2 := wu64 (t + (wu64 (gI l t0)));
 .ite (decide (4294967296 ≤ t2))
 (.done t1)
 (.again (t1, t2))))))
 (.done s)
def nat_guess_p124 : Piece := ⟨124, true, [.sl tV, .sl tV, tI, tI], [tU, tU], ⟨[.keep [0, 1, 2, 7, 9, 10], .gc], [0, 1, 2, 7, 9, 10], [.lf (qi 0), .lf (qi 1), .lf (qi 2), .lf (qi 3), .lf (qm 0), .lf (qm 1)], []⟩, [⟨2, ⟨[.keep [9], .gc], [9], [.lf (qm 0)], []⟩, [tU]⟩], nat_guess_b124⟩
def nat_guess : ((List Int) × (List Int) × Int) → RT Unit Int
| (a0, l, i) =>
 .rq 8 (let t0 := w64 (i + (l.length : Int));
 .req (inB a0 t0) (.rq 8 (let t1 := w64 (t0 - 1);
 .req (inB a0 t1) (.rq 8 (let t2 := w64 ((l.length : Int) - 1);
 let t3 := inB l t2;
 .req t3 (.rq 2 (let t4 := wu64 (gI l t2);
 let t5 := t4 != 0;
 .req t5 (.rq 4 (.req t3 (.rq 2 (.req t5 (.rq 2 (let t6 := ibit .or .u64 (shlI .u64 (wu64 (gI a0 t0)) 32) (wu64 (gI a0 t1));
 .call (lo nat_guess_b124 (a0, l, i, (l.length : Int)) (wu64 (Int.tdiv t6 t4), Int.tmod t6 t4)) default fun v1 =>
 .rq 2 (.done v1))))))))))))))
def F_nat_guess (x : (List Int) × (List Int) × Int) : Option Int := (nat_guess x).run fun _ => none
def io_nat_guess : Io := ⟨n_nat_guess, [.sl tV, .sl tV, tI], [.lf (qm 0), .lf (qm 1), .lf (qm 2)], [], [[.sl tV], [.sl tV], [tI]], [tU], .lf (qm 0), [], [], false⟩
def nat_guess_P : List Piece := [nat_guess_p992, nat_guess_p124]
def nat_guess_T : CallT := tab []
theorem nat_guess_To : SoundT pg nat_guess_T := tab_sound trivial
theorem nat_guess_k992 : (nat_guess_p992).OK pg (nat_guess_T) (tell 83 (nat_guess_P)) (codeOf f_nat_guess) 83 := ⟨by kernel_rfl, fun i x => by kernel_rfl⟩
theorem nat_guess_k124 : (nat_guess_p124).OK pg (nat_guess_T) (tell 83 (nat_guess_P)) (codeOf f_nat_guess) 83 := ⟨by kernel_rfl, fun i x => by kernel_rfl⟩
theorem nat_guess_go : FnOK pg (nat_guess_T) io_nat_guess f_nat_guess (nat_guess_P) [] (nat_guess) := ⟨by kernel_rfl, by kernel_rfl, fun x => by kernel_rfl⟩
theorem ok_nat_guess : io_nat_guess.Okay pg (F_nat_guess) := fn_ok pg_mixed (nat_guess_To) (nat_guess_go) ⟨nat_guess_k992, nat_guess_k124, trivial⟩
def e_nat_guess : Entry := io_nat_guess.en F_nat_guess
theorem e_nat_guess_ok : e_nat_guess.ok pg := en_ok ok_nat_guess
theorem guess_l {us vs : List Int} {j v1 v2 u2 : Nat} (h2 : 2 ≤ vs.length) (hl : j + vs.length < us.length) (hl2 : us.length ≤ 2 ^ 41)
    (hv1 : vs.getD (vs.length - 1) 0 = (v1 : Int)) (hv2 : vs.getD (vs.length - 2) 0 = (v2 : Int)) (hu2 : us.getD (j + vs.length - 2) 0 = (u2 : Int)) (b1 : v1 < 4294967296) (b2 : v2 < 4294967296) (b3 : u2 < 4294967296) :
    ∀ (f g r : Nat), 0 < f → g ≤ 4294967297 → r < 4294967296 → 4294967296 ≤ r + f * v1 →
      lo nat_guess_b124 (us, vs, (j : Int), (vs.length : Int)) ((g : Int), (r : Int)) = some (gsN v1 v2 u2 f g r : Int)
  | f + 1, g, r, _, hg, hr, hm => by
    rw [lo_eq, nat_guess_b124]
    have hB : B32 = 4294967296 := rfl
    have w1 : w64 ((vs.length : Int) - 1) = ((vs.length - 1 : Nat) : Int) := by rw [w64_in] <;> omega
    have w2 : w64 ((vs.length : Int) - 2) = ((vs.length - 2 : Nat) : Int) := by rw [w64_in] <;> omega
    have w3 : w64 ((j : Int) + (vs.length : Int)) = ((j + vs.length : Nat) : Int) := by rw [w64_in] <;> omega
    have w4 : w64 (((j + vs.length : Nat) : Int) - 2) = ((j + vs.length - 2 : Nat) : Int) := by rw [w64_in] <;> omega
    have x1 : wu64 (v1 : Int) = (v1 : Int) := wu64_in (by omega)
    have x2 : wu64 (v2 : Int) = (v2 : Int) := wu64_in (by omega)
    have x3 : wu64 (u2 : Int) = (u2 : Int) := wu64_in (by omega)
    have x4 : wu64 ((r : Int) + (v1 : Int)) = ((r + v1 : Nat) : Int) := by rw [wu64_in] <;> omega
    have x6 : ibit .or .u64 (shlI .u64 (r : Int) 32) (u2 : Int) = ((r * B32 + u2 : Nat) : Int) := two_digits hr b3
    have q1 : inB vs ((vs.length - 1 : Nat) : Int) = true := by rw [inB_nat]; simp; omega
    have q2 : inB vs ((vs.length - 2 : Nat) : Int) = true := by rw [inB_nat]; simp; omega
    have q3 : inB us ((j + vs.length - 2 : Nat) : Int) = true := by rw [inB_nat]; simp; omega
    have hon : on nat_guess_b992 (us, vs, (j : Int), (vs.length : Int), (g : Int), (r : Int)) = some (decide (B32 ≤ g ∨ r * B32 + u2 < g * v2)) := by
      rw [on, nat_guess_b992]
      simp only [RT.run, w2, w3, w4, gIn, hv2, hu2, x2, x3, x6, q2, q3, if_true]
      by_cases hg1 : B32 ≤ g
      · rw [if_pos (decide_eq_true (by omega))]
        simp [hg1]
      · rw [if_neg (by simpa using (by omega : (g : Int) < 4294967296))]
        have hgm : g * v2 ≤ 4294967295 * 4294967295 := Nat.mul_le_mul (by omega) (by omega)
        have wm : wu64 ((g : Int) * (v2 : Int)) = ((g * v2 : Nat) : Int) := by rw [← Int.natCast_mul, wu64_in]; omega
        rw [wm]
        congr 1
        rw [Bool.eq_iff_iff, decide_eq_true_eq, decide_eq_true_eq, Int.ofNat_lt]
        exact ⟨fun h => .inr h, fun h => h.resolve_left hg1⟩
    rw [RT.run, hon, Option.bind_some]
    simp only [RT.run, w1, gIn, hv1, x1, x4, q1, if_true]
    have less : (B32 ≤ g ∨ r * B32 + u2 < g * v2) → (if decide ((4294967296 : Int) ≤ ((r + v1 : Nat) : Int)) = true then some (wu64 ((g : Int) - 1)) else
        lo nat_guess_b124 (us, vs, (j : Int), (vs.length : Int)) (wu64 ((g : Int) - 1), ((r + v1 : Nat) : Int))) = some (gsN v1 v2 u2 (f + 1) g r : Int) := by
      intro hc
      have hg0 : 0 < g := by
        rcases hc with hc | hc
        · exact Nat.lt_of_lt_of_le (by decide) hc
        · apply Nat.pos_of_ne_zero
          rintro rfl
          omega
      have wg : wu64 ((g : Int) - 1) = ((g - 1 : Nat) : Int) := by rw [wu64_in] <;> omega
      rw [wg]
      unfold gsN
      rw [if_pos hc]
      by_cases hb : B32 ≤ r + v1
      · rw [if_pos (decide_eq_true (by omega)), if_pos hb]
      · rw [if_neg (by simpa using (by omega : ((r + v1 : Nat) : Int) < 4294967296)), if_neg hb]
        rw [Nat.add_mul, Nat.one_mul] at hm
        have hf : 0 < f := by
          apply Nat.pos_of_ne_zero
          rintro rfl
          omega
        exact guess_l h2 hl hl2 hv1 hv2 hu2 b1 b2 b3 f (g - 1) (r + v1) hf (by omega) (by omega) (by omega)
    by_cases hc : B32 ≤ g ∨ r * B32 + u2 < g * v2
    · rw [if_pos (decide_eq_true hc)]
      exact less hc
    · rw [if_neg (by simpa using hc)]
      unfold gsN
      rw [if_neg hc]
theorem guess_F {us vs : List Int} {j q : Nat} (hu : wfd B32 us = true) (hv : wfd B32 vs = true) (h2 : 2 ≤ vs.length) (hl : j + vs.length < us.length) (hl2 : us.length ≤ 2 ^ 41)
    (hnorm : B32 ≤ 2 * (vs.getD (vs.length - 1) 0).toNat) (hlt : val B32 us / B32 ^ j % B32 ^ (vs.length + 1) < B32 * val B32 vs)
    (hq : q * val B32 vs ≤ val B32 us / B32 ^ j % B32 ^ (vs.length + 1)) (hq' : val B32 us / B32 ^ j % B32 ^ (vs.length + 1) < (q + 1) * val B32 vs) :
    ∃ g : Nat, F_nat_guess (us, vs, (j : Int)) = some (g : Int) ∧ q ≤ g ∧ g ≤ q + 1 := by
  have hB : B32 = 4294967296 := rfl
  obtain ⟨v1, hv1, b1⟩ := getD_nat hv (vs.length - 1)
  obtain ⟨v2, hv2, b2⟩ := getD_nat hv (vs.length - 2)
  obtain ⟨u0, hu0, c0⟩ := getD_nat hu (j + vs.length)
  obtain ⟨u1, hu1, c1⟩ := getD_nat hu (j + vs.length - 1)
  obtain ⟨u2, hu2, c2⟩ := getD_nat hu (j + vs.length - 2)
  rw [hv1, Int.toNat_natCast] at hnorm
  obtain ⟨m, hm⟩ : ∃ m, vs.length = m + 2 := ⟨vs.length - 2, by omega⟩
  have dv1 : val B32 vs / B32 ^ (m + 1) % B32 = v1 := by
    have := val_digit (by decide : 0 < B32) (m + 1) hv
    rw [show m + 1 = vs.length - 1 by omega] at this ⊢
    rw [hv1] at this; exact Int.ofNat_inj.1 this
  have dv2 : val B32 vs / B32 ^ m % B32 = v2 := by
    have := val_digit (by decide : 0 < B32) m hv
    rw [show m = vs.length - 2 by omega] at this ⊢
    rw [hv2] at this; exact Int.ofNat_inj.1 this
  have du : ∀ i u, us.getD i 0 = ((u : Nat) : Int) → val B32 us / B32 ^ i % B32 = u := fun i u h => by
    have := val_digit (by decide : 0 < B32) i hu
    rw [h] at this; exact Int.ofNat_inj.1 this
  have du0 := du _ _ hu0
  have du1 := du _ _ hu1
  have du2 := du _ _ hu2
  generalize hV : val B32 vs = V at *
  generalize hU : val B32 us = U at *
  have hVlt : V < B32 ^ (m + 2) := by rw [← hV, ← hm]; exact val_lt (by decide) hv
  have pm : 0 < B32 ^ m := Nat.pow_pos (by decide)
  have e1 : V = (v1 * B32 + v2) * B32 ^ m + V % B32 ^ m := by
    have t1 := Nat.mod_add_div V (B32 ^ m)
    have t2 := Nat.mod_add_div (V / B32 ^ m) B32
    have t3 : V / B32 ^ m / B32 = v1 := by
      rw [Nat.div_div_eq_div_mul, ← Nat.pow_succ, ← dv1, Nat.mod_eq_of_lt]
      rw [Nat.div_lt_iff_lt_mul (Nat.pow_pos (by decide)), ← Nat.pow_succ']
      exact hVlt
    rw [dv2, t3] at t2
    rw [Nat.mul_comm v1 B32, Nat.add_comm (B32 * v1) v2, t2, Nat.mul_comm (V / B32 ^ m)]
    omega
  have e2 : U / B32 ^ j % B32 ^ (vs.length + 1) = ((u0 * B32 + u1) * B32 + u2) * B32 ^ m + U / B32 ^ j % B32 ^ m := by
    rw [hm]
    have f : ∀ k, U / B32 ^ j / B32 ^ k % B32 = U / B32 ^ (j + k) % B32 := fun k => by rw [Nat.div_div_eq_div_mul, ← Nat.pow_add]
    have s : ∀ k, U / B32 ^ j % B32 ^ (k + 1) = U / B32 ^ j / B32 ^ k % B32 * B32 ^ k + U / B32 ^ j % B32 ^ k := fun k => by
      rw [Nat.pow_succ, Nat.mod_mul]
      rw [Nat.mul_comm (B32 ^ k)]
      omega
    have g0 := f (m + 2)
    have g1 := f (m + 1)
    have g2 := f m
    rw [show j + (m + 2) = j + vs.length by omega, du0] at g0
    rw [show j + (m + 1) = j + vs.length - 1 by omega, du1] at g1
    rw [show j + m = j + vs.length - 2 by omega, du2] at g2
    have s0 := s (m + 2)
    have s1 := s (m + 1)
    have s2 := s m
    rw [g0] at s0
    rw [g1] at s1
    rw [g2] at s2
    rw [show m + 2 + 1 = m + 3 by omega] at s0 ⊢
    rw [show m + 1 + 1 = m + 2 by omega] at s1
    rw [s0, s1, s2]
    rw [Nat.pow_succ B32 (m + 1), Nat.pow_succ B32 m]
    simp only [Nat.add_mul, Nat.mul_assoc, Nat.mul_comm B32, Nat.mul_left_comm B32]
    omega
  generalize hW : U / B32 ^ j % B32 ^ (vs.length + 1) = W at *
  have H : Win (B32 ^ m) v1 v2 (V % B32 ^ m) (u0 * B32 + u1) u2 (U / B32 ^ j % B32 ^ m) V W := ⟨e1, e2, Nat.mod_lt _ pm, Nat.mod_lt _ pm, b2, c2, hnorm, hlt⟩
  have hv1p : 0 < v1 := by omega
  have hqB : q < B32 := by
    apply Nat.lt_of_mul_lt_mul_right (a := V)
    exact Nat.lt_of_le_of_lt hq hlt
  have hstart := H.start hq
  have htop := H.top
  have htB : (u0 * B32 + u1) < (B32 + 1) * v1 + v1 := by
    rw [Nat.add_mul, Nat.one_mul]
    omega
  have hg0 : (u0 * B32 + u1) / v1 ≤ B32 + 1 := by
    rw [← Nat.lt_succ_iff, Nat.div_lt_iff_lt_mul hv1p, Nat.succ_mul]
    exact htB
  have hdm := Nat.div_add_mod (u0 * B32 + u1) v1
  have hrlt := Nat.mod_lt (u0 * B32 + u1) hv1p
  have gs := gsN_ok H hq hq' hqB 3 ((u0 * B32 + u1) / v1) ((u0 * B32 + u1) % v1) (by rw [Nat.mul_comm]; exact hdm) ((Nat.le_div_iff_mul_le hv1p).2 hstart) hg0 (fun h => by
    rw [h] at hdm
    have : v1 * (B32 + 1) = v1 * B32 + v1 := by rw [Nat.mul_add, Nat.mul_one]
    have k4 : u0 * B32 + u1 < B32 * v1 + B32 := htop
    rw [Nat.mul_comm B32 v1] at k4
    omega) (by omega) (by omega)
  refine ⟨gsN v1 v2 u2 3 ((u0 * B32 + u1) / v1) ((u0 * B32 + u1) % v1), ?_, gs.1, gs.2⟩
  have hl := guess_l (us := us) (vs := vs) (j := j) (v1 := v1) (v2 := v2) (u2 := u2) h2 hl hl2 hv1 hv2 hu2 b1 b2 c2 3 ((u0 * B32 + u1) / v1) ((u0 * B32 + u1) % v1) (by omega) (by omega) (by omega) (by omega)
  unfold F_nat_guess
  rw [nat_guess]
  have w1 : w64 ((vs.length : Int) - 1) = ((vs.length - 1 : Nat) : Int) := by rw [w64_in] <;> omega
  have w3 : w64 ((j : Int) + (vs.length : Int)) = ((j + vs.length : Nat) : Int) := by rw [w64_in] <;> omega
  have w4 : w64 (((j + vs.length : Nat) : Int) - 1) = ((j + vs.length - 1 : Nat) : Int) := by rw [w64_in] <;> omega
  have x1 : wu64 (v1 : Int) = (v1 : Int) := wu64_in (by omega)
  have x2 : wu64 (u1 : Int) = (u1 : Int) := wu64_in (by omega)
  have x3 : wu64 (u0 : Int) = (u0 : Int) := wu64_in (by omega)
  have x6 : ibit .or .u64 (shlI .u64 (u0 : Int) 32) (u1 : Int) = ((u0 * B32 + u1 : Nat) : Int) := two_digits c0 c1
  have x7 : wu64 ((((u0 * B32 + u1) / v1 : Nat) : Int)) = (((u0 * B32 + u1) / v1 : Nat) : Int) := by
    have h9 := hg0
    rw [hB] at h9
    refine wu64_in ⟨Int.natCast_nonneg _, ?_⟩
    have h10 : (((u0 * B32 + u1) / v1 : Nat) : Int) ≤ ((4294967296 + 1 : Nat) : Int) := Int.ofNat_le.2 (by rw [hB]; exact h9)
    exact Int.lt_of_le_of_lt h10 (by decide)
  have y0 : ((v1 : Int) != 0) = true := by simp; omega
  have y1 : inB vs ((vs.length - 1 : Nat) : Int) = true := by rw [inB_nat]; simp; omega
  have y2 : inB us ((j + vs.length : Nat) : Int) = true := by rw [inB_nat]; simp; omega
  have y3 : inB us ((j + vs.length - 1 : Nat) : Int) = true := by rw [inB_nat]; simp; omega
  simp only [RT.run, w1, w3, w4, gIn, hv1, hu0, hu1, x1, x2, x3, x6, tdivN, tmodN, x7, y0, y1, y2, y3, if_true, hl, Option.bind_some]
def nat_away_b58 : ((List Int) × Int × Int × Int) → (Int × Int × Int × (List Int)) → RT (Int × Int × Int × (List Int)) (Int × (List Int))
| (v, j, q, x15), (over, less, x16, p0) =>
 .rq 1 (.ite (decide (x16 < x15))
 (.rq 6 (.req (decide (0 ≤ x16)) (.rq 8 (let t0 := w64 (j + x16);
 let t1 := inB p0 t0;
 .req t1 (.rq 14 (.req t1 (.rq 9 (let t2 := wu64 (over + (wu64 (q * (wu64 (dig v x16)))));
 let t3 := wu64 ((wu64 ((wu64 (gI p0 t0)) - (ibit .and .u64 t2 4294967295))) - less);
 .again (shrI .u64 t2 32, shrI .u64 t3 63, w64 (x16 + 1), sI p0 t0 (wu32 t3))))))))))
 (.done (less, p0)))
def nat_away_p58 : Piece := ⟨58, true, [.sl tV, tI, tU, tI], [tU, tU, tI, .sl tV], ⟨[.keep [0, 1, 2, 3, 9, 10, 15, 16], .gc], [0, 1, 2, 3, 9, 10, 15, 16], [.lf (qr 1048576), .lf (qi 0), .lf (qi 1), .lf (qi 2), .lf (qm 0), .lf (qm 1), .lf (qi 3), .lf (qm 2)], [(1048576, true, .arr 122 (qm 3))]⟩, [⟨2, ⟨[.keep [10], .gc], [10], [.lf (qm 0)], [(1048576, true, .arr 122 (qm 1))]⟩, [tU, .sl tV]⟩], nat_away_b58⟩
def nat_away : ((List Int) × Int × Int × (List Int)) → RT Unit (Bool × (List Int))
| (v, j, q, u) =>
 .rq 7 (.call (lo nat_away_b58 (v, j, q, w64 ((v.length : Int) + 1)) (0, 0, 0, u)) default fun v0 =>
 .rq 3 (.done (decide (0 < v0.1), v0.2)))
def F_nat_away (x : (List Int) × Int × Int × (List Int)) : Option (Bool × (List Int)) := (nat_away x).run fun _ => none
def io_nat_away : Io := ⟨n_nat_away, [.sl tV, tI, tU, .sl tV], [.lf (qr 0), .lf (qm 0), .lf (qm 1), .lf (qm 2)], [.arr 122 (qm 3)], [[], [.sl tV], [tI], [tU]], [tB, .sl tV], .lf (qm 0), [(true, .arr 122 (qm 1))], [], false⟩
def nat_away_P : List Piece := [nat_away_p58]
def nat_away_T : CallT := tab [e_nat_at]
theorem nat_away_To : SoundT pg nat_away_T := tab_sound ⟨e_nat_at_ok, trivial⟩
theorem nat_away_k58 : (nat_away_p58).OK pg (nat_away_T) (tell 53 (nat_away_P)) (codeOf f_nat_away) 53 := ⟨by kernel_rfl, fun i x => by kernel_rfl⟩
theorem nat_away_go : FnOK pg (nat_away_T) io_nat_away f_nat_away (nat_away_P) [] (nat_away) := ⟨by kernel_rfl, by kernel_rfl, fun x => by kernel_rfl⟩
theorem ok_nat_away : io_nat_away.Okay pg (F_nat_away) := fn_ok pg_mixed (nat_away_To) (nat_away_go) ⟨nat_away_k58, trivial⟩
def e_nat_away : Entry := io_nat_away.en F_nat_away
theorem e_nat_away_ok : e_nat_away.ok pg := en_ok ok_nat_away
def nat_back_b14 : ((List Int) × Int × Int) → (Int × Int × (List Int)) → RT (Int × Int × (List Int)) (List Int)
| (v, j, x10), (over, x11, p0) =>
 .rq 1 (.ite (decide (x11 < x10))
 (.rq 7 (let t0 := w64 (j + x11);
 let t1 := inB p0 t0;
 .req t1 (.rq 4 (.req (decide (0 ≤ x11)) (.rq 10 (.req t1 (.rq 6 (let t2 := wu64 (over + (wu64 ((wu64 (gI p0 t0)) + (wu64 (dig v x11)))));
 .again (shrI .u64 t2 32, w64 (x11 + 1), sI p0 t0 (wu32 t2))))))))))
 (.done p0))
def nat_back_p14 : Piece := ⟨14, true, [.sl tV, tI, tI], [tU, tI, .sl tV], ⟨[.keep [0, 1, 2, 6, 10, 11], .gc], [0, 1, 2, 6, 10, 11], [.lf (qr 1048576), .lf (qi 0), .lf (qi 1), .lf (qm 0), .lf (qi 2), .lf (qm 1)], [(1048576, true, .arr 122 (qm 2))]⟩, [⟨2, ⟨[.keep [], .gc], [], [], [(1048576, true, .arr 122 (qm 0))]⟩, [.sl tV]⟩], nat_back_b14⟩
def nat_back : ((List Int) × Int × (List Int)) → RT Unit (List Int)
| (v, j, u) =>
 .rq 5 (.call (lo nat_back_b14 (v, j, w64 ((v.length : Int) + 1)) (0, 0, u)) default fun v0 =>
 .done v0)
def F_nat_back (x : (List Int) × Int × (List Int)) : Option (List Int) := (nat_back x).run fun _ => none
def io_nat_back : Io := ⟨n_nat_back, [.sl tV, tI, .sl tV], [.lf (qr 0), .lf (qm 0), .lf (qm 1)], [.arr 122 (qm 2)], [[], [.sl tV], [tI]], [.sl tV], .tup [], [(true, .arr 122 (qm 0))], [], false⟩
def nat_back_P : List Piece := [nat_back_p14]
def nat_back_T : CallT := tab [e_nat_at]
theorem nat_back_To : SoundT pg nat_back_T := tab_sound ⟨e_nat_at_ok, trivial⟩
theorem nat_back_k14 : (nat_back_p14).OK pg (nat_back_T) (tell 38 (nat_back_P)) (codeOf f_nat_back) 38 := ⟨by kernel_rfl, fun i x => by kernel_rfl⟩
theorem nat_back_go : FnOK pg (nat_back_T) io_nat_back f_nat_back (nat_back_P) [] (nat_back) := ⟨by kernel_rfl, by kernel_rfl, fun x => by kernel_rfl⟩
theorem ok_nat_back : io_nat_back.Okay pg (F_nat_back) := fn_ok pg_mixed (nat_back_To) (nat_back_go) ⟨nat_back_k14, trivial⟩
def e_nat_back : Entry := io_nat_back.en F_nat_back
theorem e_nat_back_ok : e_nat_back.ok pg := en_ok ok_nat_back
theorem away_l {q j : Nat} {vs : List Int} (hv : wfd B32 vs = true) (hq : q ≤ B32) (m : Nat) (hm : m ≤ 2 ^ 41) : ∀ (r i o l : Nat) (us : List Int), o < B32 → l ≤ 1 → j + i + r ≤ us.length → wfd B32 us = true → us.length ≤ 2 ^ 41 → i + r = m →
    lo nat_away_b58 (vs, (j : Int), (q : Int), (m : Int)) ((o : Int), (l : Int), (i : Int), us) = some (((awN q vs j r i o l us).2 : Int), (awN q vs j r i o l us).1)
  | 0, i, o, l, us, _, _, _, _, _, h => by
    rw [lo_eq, nat_away_b58]
    simp only [RT.run]
    rw [if_neg (by simp; omega)]
    rfl
  | r + 1, i, o, l, us, ho, hl, hlen, hw, hl2, h => by
    rw [lo_eq, nat_away_b58]
    obtain ⟨d, hd, hd'⟩ := dig_nat' hv i
    obtain ⟨u, hu, hu'⟩ := getD_nat hw (j + i)
    have hB : B32 = 4294967296 := rfl
    have hqd : q * d ≤ 4294967296 * 4294967295 := Nat.mul_le_mul (by omega) (by omega)
    have w1 : w64 ((j : Int) + (i : Int)) = ((j + i : Nat) : Int) := by rw [w64_in] <;> omega
    have w2 : wu64 (d : Int) = (d : Int) := wu64_in (by omega)
    have w3 : wu64 ((q : Int) * (d : Int)) = ((q * d : Nat) : Int) := by rw [← Int.natCast_mul, wu64_in]; omega
    have w4 : wu64 ((o : Int) + ((q * d : Nat) : Int)) = ((o + q * d : Nat) : Int) := by rw [← Int.natCast_add, wu64_in]; omega
    have w5 : wu64 (u : Int) = (u : Int) := wu64_in (by omega)
    have w6 : w64 ((i : Int) + 1) = ((i + 1 : Nat) : Int) := by rw [w64_in] <;> omega
    have hy : (o + q * d) % 4294967296 < B32 := by omega
    obtain ⟨s1, s2⟩ := sub_step (U := u) (by omega) hy hl
    have hin : inB us ((j + i : Nat) : Int) = true := by rw [inB_nat]; simp; omega
    have hd0 : decide (0 ≤ (i : Int)) = true := by simp
    simp only [RT.run, gIn, sIn, w1, w2, w3, w4, w5, w6, hd, hu, ibit_low (x := o + q * d) (by omega), shr32, s1, s2, hin, hd0, if_true]
    rw [if_pos (by simp; omega)]
    have e : awN q vs j (r + 1) i o l us = awN q vs j r (i + 1) ((o + q * d) / 4294967296) (subD u ((o + q * d) % 4294967296) l).2 (us.set (j + i) ((subD u ((o + q * d) % 4294967296) l).1 : Int)) := by
      show awN q vs j r (i + 1) ((o + q * (dig vs i).toNat) / B32) _ _ = _
      rw [hd, hu]
      rfl
    rw [e]
    obtain ⟨t1, t2, _⟩ := subD_spec (x := u) (y := (o + q * d) % 4294967296) (by omega) hy hl
    exact away_l hv hq m hm r (i + 1) _ _ _ (by rw [hB]; omega) t2 (by rw [List.length_set]; omega) (wfd_set hw ⟨Int.natCast_nonneg _, Int.ofNat_lt.2 t1⟩) (by rw [List.length_set]; exact hl2) (by omega)
theorem away_F {us vs : List Int} {j q : Nat} (hu : wfd B32 us = true) (hv : wfd B32 vs = true) (hq : q ≤ B32) (hl : j + (vs.length + 1) ≤ us.length) (hl2 : us.length ≤ 2 ^ 41) :
    F_nat_away (vs, (j : Int), (q : Int), us) = some (decide (0 < (awN q vs j (vs.length + 1) 0 0 0 us).2), (awN q vs j (vs.length + 1) 0 0 0 us).1) := by
  unfold F_nat_away
  rw [nat_away]
  have w : w64 ((vs.length : Int) + 1) = ((vs.length + 1 : Nat) : Int) := by rw [w64_in] <;> omega
  have h := away_l (j := j) hv hq (vs.length + 1) (by omega) (vs.length + 1) 0 0 0 us (by decide) (by omega) (by omega) hu hl2 (by omega)
  simp only [RT.run, w]
  rw [show ((0 : Int), (0 : Int), (0 : Int), us) = (((0 : Nat) : Int), ((0 : Nat) : Int), ((0 : Nat) : Int), us) from rfl, h]
  simp
theorem back_l {j : Nat} {vs : List Int} (hv : wfd B32 vs = true) (m : Nat) (hm : m ≤ 2 ^ 41) : ∀ (r i o : Nat) (us : List Int), o ≤ 1 → j + i + r ≤ us.length → wfd B32 us = true → us.length ≤ 2 ^ 41 → i + r = m →
    lo nat_back_b14 (vs, (j : Int), (m : Int)) ((o : Int), (i : Int), us) = some (bkN vs j r i o us).1
  | 0, i, o, us, _, _, _, _, h => by
    rw [lo_eq, nat_back_b14]
    simp only [RT.run]
    rw [if_neg (by simp; omega)]
    rfl
  | r + 1, i, o, us, ho, hlen, hw, hl2, h => by
    rw [lo_eq, nat_back_b14]
    obtain ⟨d, hd, hd'⟩ := dig_nat' hv i
    obtain ⟨u, hu, hu'⟩ := getD_nat hw (j + i)
    have hB : B32 = 4294967296 := rfl
    have w1 : w64 ((j : Int) + (i : Int)) = ((j + i : Nat) : Int) := by rw [w64_in] <;> omega
    have w2 : wu64 (d : Int) = (d : Int) := wu64_in (by omega)
    have w3 : wu64 ((u : Int) + (d : Int)) = ((u + d : Nat) : Int) := by rw [← Int.natCast_add, wu64_in]; omega
    have w4 : wu64 ((o : Int) + ((u + d : Nat) : Int)) = ((o + (u + d) : Nat) : Int) := by rw [← Int.natCast_add, wu64_in]; omega
    have w5 : wu64 (u : Int) = (u : Int) := wu64_in (by omega)
    have w6 : w64 ((i : Int) + 1) = ((i + 1 : Nat) : Int) := by rw [w64_in] <;> omega
    have w7 : wu32 ((o + (u + d) : Nat) : Int) = (((o + (u + d)) % 4294967296 : Nat) : Int) := by rw [wu32_eq]; omega
    have hin : inB us ((j + i : Nat) : Int) = true := by rw [inB_nat]; simp; omega
    have hd0 : decide (0 ≤ (i : Int)) = true := by simp
    simp only [RT.run, gIn, sIn, w1, w2, w3, w4, w5, w6, w7, hd, hu, shr32, hin, hd0, if_true]
    rw [if_pos (by simp; omega)]
    have e : bkN vs j (r + 1) i o us = bkN vs j r (i + 1) ((o + (u + d)) / 4294967296) (us.set (j + i) (((o + (u + d)) % 4294967296 : Nat) : Int)) := by
      show bkN vs j r (i + 1) ((o + ((us.getD (j + i) 0).toNat + (dig vs i).toNat)) / B32) _ = _
      rw [hd, hu]
      rfl
    rw [e]
    exact back_l hv m hm r (i + 1) _ _ (by omega) (by rw [List.length_set]; omega) (wfd_set hw ⟨Int.natCast_nonneg _, by rw [hB]; omega⟩) (by rw [List.length_set]; exact hl2) (by omega)
theorem back_F {us vs : List Int} {j : Nat} (hu : wfd B32 us = true) (hv : wfd B32 vs = true) (hl : j + (vs.length + 1) ≤ us.length) (hl2 : us.length ≤ 2 ^ 41) :
    F_nat_back (vs, (j : Int), us) = some (bkN vs j (vs.length + 1) 0 0 us).1 := by
  unfold F_nat_back
  rw [nat_back]
  have w : w64 ((vs.length : Int) + 1) = ((vs.length + 1 : Nat) : Int) := by rw [w64_in] <;> omega
  have h := back_l (j := j) hv (vs.length + 1) (by omega) (vs.length + 1) 0 0 us (by omega) (by omega) hu hl2 (by omega)
  simp only [RT.run, w]
  rw [show ((0 : Int), (0 : Int), us) = (((0 : Nat) : Int), ((0 : Nat) : Int), us) from rfl, h]
  simp
end
end Go.Proofs.YtlfdidaeachpoaaGreat

namespace Go.Proofs.YtlfdidaeachpoaaGreat
open Go Go.RowKit
set_option maxRecDepth 100000
noncomputable section
def nat_Div_b1018 : (List Int) → (Int × (List Int) × (List Int)) → RT (Int × (List Int) × (List Int)) ((List Int) × (List Int))
| x11, (e, r10, r12) =>
 .rq 2 (.ite (decide (0 ≤ e))
 (.rq 3 (.call (F_nat_guess (r10, x11, e)) default fun v0 =>
 .rq 5 (.call (F_nat_away (x11, e, v0, r10)) default fun v1 =>
 let t0 := w64 (e - 1);
 .ite v1.1
 (.rq 6 (.call (F_nat_back (x11, e, v1.2)) default fun v2 =>
 .rq 4 (.req (inB r12 e) (.rq 4 (.again (t0, v2, sI r12 e (wu32 (wu64 (v0 - 1)))))))))
 (.rq 4 (.req (inB r12 e) (.rq 4 (.again (t0, v1.2, sI r12 e (wu32 v0)))))))))
 (.done (r10, r12)))
def nat_Div_p1018 : Piece := ⟨1018, true, [tI, .sl tV], [tI, .sl tV, .sl tV], ⟨[.keep [9, 10, 11, 12, 13], .gc, .toDat 11, .den 11 [.sl tV], .nilRow 10 800010 122 tV, .nilRow 12 800012 122 tV, .ren 10 700010, .ren 12 700012, .ren 10 900010, .ren 12 900012, .gc], [9, 10, 11, 12, 13], [.lf (qi 0), .lf (qr 900010), .lf (qi 1), .lf (qr 900012), .lf (qm 0)], [(900010, true, .arr 122 (qm 1)), (900012, true, .arr 122 (qm 2))]⟩, [⟨3, ⟨[.keep [9, 10, 12], .gc, .nilRow 10 800010 122 tV, .nilRow 12 800012 122 tV, .ren 10 700010, .ren 12 700012, .ren 10 900010, .ren 12 900012, .gc], [9, 10, 12], [.lf (qi 0), .lf (qr 900010), .lf (qr 900012)], [(900010, true, .arr 122 (qm 0)), (900012, true, .arr 122 (qm 1))]⟩, [.sl tV, .sl tV]⟩], (fun i => nat_Div_b1018 i.2)⟩
def nat_Div : ((List Int) × (List Int)) → RT Unit (Bool × (List Int) × (List Int))
| (a0, l) =>
 .rq 4 (.req (okL 40 a0) (.rq 1 (.req (okL 40 l) (.rq 6 (let t0 := ((digs B32 (val B32 l)).length : Int);
 .ite (t0 == 0)
 (.rq 3 (.done (false, [], [])))
 (.rq 5 (.ite (decide ((cmpI (val B32 (digs B32 (val B32 a0))) (val B32 (digs B32 (val B32 l)))) < 0))
 (.rq 4 (.done (true, [], digs B32 (val B32 a0))))
 (.rq 4 (.ite (t0 == 1)
 (.rq 2 (.req (inB (digs B32 (val B32 l)) 0) (.rq 1 (let t1 := gI (digs B32 (val B32 l)) 0;
 .req (okL 39 (digs B32 (val B32 a0)) && decide (0 < t1)) (.rq 12 (.done (true, digs B32 (val B32 (digs B32 (val B32 a0)) / t1.toNat), digs B32 (wu64 (((val B32 (digs B32 (val B32 a0)) % t1.toNat : Nat) : Int))).toNat)))))))
 (.rq 4 (let t2 := w64 (t0 - 1);
 .req (inB (digs B32 (val B32 l)) t2) (.rq 5 (let t3 := 32 - ((bl (gI (digs B32 (val B32 l)) t2).toNat : Nat) : Int);
 .req (okL 39 (digs B32 (val B32 a0)) && (decide (0 ≤ t3) && decide (t3 ≤ 31))) (.rq 2 (.req (okL 39 (digs B32 (val B32 l)) && (decide (0 ≤ t3) && decide (t3 ≤ 31))) (let t4 := fixd B32 ((digs B32 (val B32 l)).length + 1) (val B32 (digs B32 (val B32 l)) * 2 ^ t3.toNat);
 .req (okL 40 t4) (.rq 8 (let t5 := w64 ((w64 (((digs B32 (val B32 a0)).length : Int) - t0)) + 1);
 .req (mkOK 4 t5) (.rq 5 (let t6 := repI t5 0;
 .call (lo nat_Div_b1018 (digs B32 (val B32 t4)) (w64 ((t6.length : Int) - 1), fixd B32 ((digs B32 (val B32 a0)).length + 1) (val B32 (digs B32 (val B32 a0)) * 2 ^ t3.toNat), t6)) default fun v3 =>
 .rq 1 (.req (okL 40 v3.2) (.rq 2 (.req (okL 39 v3.1 && (decide (0 ≤ t3) && decide (t3 ≤ 31))) (.rq 3 (.done (true, digs B32 (val B32 v3.2), digs B32 (val B32 v3.1 / 2 ^ t3.toNat)))))))))))))))))))))))))))
def F_nat_Div (x : (List Int) × (List Int)) : Option (Bool × (List Int) × (List Int)) := (nat_Div x).run fun _ => none
def io_nat_Div : Io := ⟨n_nat_Div, [.sl tV, .sl tV], [.lf (qm 0), .lf (qm 1)], [], [[.sl tV], [.sl tV]], [tB, .sl tV, .sl tV], .tup [(false, [qr 0]), (false, [qr 1]), (false, [qm 0])], [], [(true, .arr 122 (qm 1)), (true, .arr 122 (qm 2))], false⟩
def nat_Div_P : List Piece := [nat_Div_p1018]
def nat_Div_T : CallT := tab [e_nat_back, e_nat_away, e_nat_guess, e_math_bits_LeadingZeros32, e_nat_down, e_nat_shifted, e_nat_short, e_nat_Cmp, e_nat_Of, e_nat_Cut]
theorem nat_Div_To : SoundT pg nat_Div_T := tab_sound ⟨e_nat_back_ok, e_nat_away_ok, e_nat_guess_ok, e_math_bits_LeadingZeros32_ok, e_nat_down_ok, e_nat_shifted_ok, e_nat_short_ok, e_nat_Cmp_ok, e_nat_Of_ok, e_nat_Cut_ok, trivial⟩
theorem nat_Div_k1018 : (nat_Div_p1018).OK pg (nat_Div_T) (tell 98 (nat_Div_P)) (codeOf f_nat_Div) 98 := ⟨by kernel_rfl, fun i x => by kernel_rfl⟩
theorem nat_Div_go : FnOK pg (nat_Div_T) io_nat_Div f_nat_Div (nat_Div_P) [.nilRow 4 800004 122 tV, .nilRow 5 800005 122 tV, .ren 4 700004, .ren 5 700005, .ren 4 900004, .ren 5 900005] (nat_Div) := ⟨by kernel_rfl, by kernel_rfl, fun x => by kernel_rfl⟩
theorem ok_nat_Div : io_nat_Div.Okay pg (F_nat_Div) := fn_ok pg_mixed (nat_Div_To) (nat_Div_go) ⟨nat_Div_k1018, trivial⟩
theorem div_l {vs : List Int} (hv : wfd B32 vs = true) (h2 : 2 ≤ vs.length) (hnorm : B32 ≤ 2 * (vs.getD (vs.length - 1) 0).toNat) :
    ∀ (jj : Nat) (us qs : List Int), wfd B32 us = true → jj + vs.length ≤ us.length → us.length ≤ 2 ^ 41 → val B32 us < B32 ^ jj * val B32 vs → wfd B32 qs = true → jj ≤ qs.length → (∀ i, i < jj → qs.getD i 0 = 0) → qs.length ≤ 2 ^ 41 →
      ∃ us' qs', lo nat_Div_b1018 vs ((jj : Int) - 1, us, qs) = some (us', qs') ∧ wfd B32 us' = true ∧ us'.length = us.length ∧ wfd B32 qs' = true ∧ qs'.length = qs.length ∧ val B32 us' < val B32 vs ∧
        ∃ D, val B32 us = val B32 us' + D * val B32 vs ∧ val B32 qs' = val B32 qs + D
  | 0, us, qs, hu, _, _, hU, hq, _, _, _ => by
    refine ⟨us, qs, ?_, hu, rfl, hq, rfl, by simpa using hU, 0, by simp, by simp⟩
    rw [lo_eq, nat_Div_b1018]
    simp only [RT.run]
    rw [if_neg (by simp)]
  | jj + 1, us, qs, hu, hl, hl2, hU, hq, hql, hqz, hql2 => by
    have hV : 0 < val B32 vs := by
      apply Nat.pos_of_ne_zero
      intro h
      rw [h, Nat.mul_zero] at hU
      exact Nat.not_lt_zero _ hU
    have pj : 0 < B32 ^ jj := Nat.pow_pos (by decide)
    have hVlt := val_lt (by decide : 0 < B32) hv
    have hU' : val B32 us < B32 ^ jj * (B32 * val B32 vs) := by rw [← Nat.mul_assoc, ← Nat.pow_succ]; exact hU
    have hUj : val B32 us / B32 ^ jj < B32 * val B32 vs := by rw [Nat.div_lt_iff_lt_mul pj, Nat.mul_comm]; exact hU'
    have hwin : val B32 us / B32 ^ jj % B32 ^ (vs.length + 1) = val B32 us / B32 ^ jj := by
      rw [Nat.mod_eq_of_lt]
      refine Nat.lt_trans hUj ?_
      rw [Nat.pow_succ, Nat.mul_comm (B32 ^ vs.length)]
      exact (Nat.mul_lt_mul_left (by decide)).2 hVlt
    have hQ := Nat.div_mul_le_self (val B32 us / B32 ^ jj) (val B32 vs)
    have hQ' : val B32 us / B32 ^ jj < (val B32 us / B32 ^ jj / val B32 vs + 1) * val B32 vs := by
      rw [Nat.mul_comm]
      exact Nat.lt_mul_div_succ _ hV
    have hQB : val B32 us / B32 ^ jj / val B32 vs < B32 := by rw [Nat.div_lt_iff_lt_mul hV]; exact hUj
    obtain ⟨g, hg, hg1, hg2⟩ := guess_F (j := jj) hu hv h2 (by omega) hl2 hnorm (by rw [hwin]; exact hUj) (by rw [hwin]; exact hQ) (by rw [hwin]; exact hQ')
    generalize hQd : val B32 us / B32 ^ jj / val B32 vs = Q at *
    have hB : B32 = 4294967296 := rfl
    have ix : (((jj + 1 : Nat) : Int) - 1) = (jj : Int) := by omega
    have wj : w64 ((jj : Int) - 1) = (jj : Int) - 1 := by rw [w64_in]; omega
    have rd := div_round hu hv (j := jj) (by omega) hV hU' hQ hQ' hg1 hg2
    have hq1 : wfd B32 (qs.set jj (Q : Int)) = true := wfd_set hq ⟨Int.natCast_nonneg _, Int.ofNat_lt.2 hQB⟩
    have hqv := val_set (b := B32) (xs := qs) (i := jj) (d := (Q : Int)) (by omega)
    rw [hqz jj (by omega)] at hqv
    simp only [Int.toNat_natCast, Int.toNat_zero, Nat.mul_zero, Nat.add_zero] at hqv
    have step : ∀ us1 : List Int, wfd B32 us1 = true → us1.length = us.length → val B32 us1 + B32 ^ jj * (Q * val B32 vs) = val B32 us →
        ∃ us' qs', lo nat_Div_b1018 vs ((jj : Int) - 1, us1, qs.set jj (Q : Int)) = some (us', qs') ∧ wfd B32 us' = true ∧ us'.length = us.length ∧ wfd B32 qs' = true ∧ qs'.length = qs.length ∧ val B32 us' < val B32 vs ∧
          ∃ D, val B32 us = val B32 us' + D * val B32 vs ∧ val B32 qs' = val B32 qs + D := by
      intro us1 hw1 hl1 hv1
      have hlt : val B32 us1 < B32 ^ jj * val B32 vs := by
        have h3 : val B32 us < B32 ^ jj * ((Q + 1) * val B32 vs) := Nat.lt_of_lt_of_le (Nat.lt_mul_div_succ (val B32 us) pj) (Nat.mul_le_mul_left _ hQ')
        rw [Nat.add_mul, Nat.one_mul, Nat.mul_add] at h3
        omega
      obtain ⟨us', qs', h4, h5, h6, h7, h8, h9, D, h10, h11⟩ := div_l hv h2 hnorm jj us1 (qs.set jj (Q : Int)) hw1 (by omega) (by omega) hlt hq1 (by rw [List.length_set]; omega)
        (fun i hi => by rw [List.getD, List.getElem?_set]; rw [if_neg (by omega)]; exact hqz i (by omega)) (by rw [List.length_set]; omega)
      refine ⟨us', qs', h4, h5, by omega, h7, by rw [h8, List.length_set], h9, D + B32 ^ jj * Q, ?_, ?_⟩
      · rw [Nat.add_mul, Nat.mul_assoc]; omega
      · rw [h11]; omega
    rw [lo_eq, nat_Div_b1018, ix]
    simp only [RT.run, hg, Option.bind_some]
    rw [if_pos (by simp)]
    have hqs : inB qs (jj : Int) = true := by rw [inB_nat]; simp; omega
    rw [away_F (q := g) hu hv (by omega) (by omega) hl2]
    simp only [Option.bind_some, wj, sIn]
    rcases rd with ⟨r1, r2, r3, r4, r5⟩ | ⟨r1, r2, r3, r4, r5, r6, r7⟩
    · rw [r1, if_neg (by simp), if_pos hqs, r2]
      have wq : wu32 (Q : Int) = (Q : Int) := wu32_in ⟨Int.natCast_nonneg _, by omega⟩
      rw [r2] at r3 r4 r5
      rw [wq]
      exact step _ r3 r4 r5
    · rw [r1, if_pos (by simp), back_F r3 hv (by omega) (by omega)]
      simp only [Option.bind_some]
      rw [if_pos hqs, r2]
      have wq : wu32 (wu64 (((Q + 1 : Nat) : Int) - 1)) = (Q : Int) := by
        rw [show ((Q + 1 : Nat) : Int) - 1 = (Q : Int) by omega, wu64_in (by omega), wu32_in (by omega)]
      rw [r2] at r5 r6 r7
      rw [wq]
      exact step _ r5 r6 r7
def divRes (va vb : Nat) : Bool × List Int × List Int := if vb = 0 then (false, [], []) else (true, digs B32 (va / vb), digs B32 (va % vb))
def e_nat_Div : Entry := io_nat_Div.sp (fun (a, b) => okL 38 a && okL 38 b) (fun (a, b) => divRes (val B32 a) (val B32 b))
theorem sp_nat_Div (h : ∀ (a : List Int) (b : List Int), WfT [.sl tV, .sl tV] (a, b) → (okL 38 a && okL 38 b) = true → (nat_Div (a, b)).run (fun _ => none) = some (divRes (val B32 a) (val B32 b))) : e_nat_Div.ok pg := sp_ok ok_nat_Div fun (a, b) hw hc => h a b hw hc
theorem e_nat_Div_ok : e_nat_Div.ok pg := sp_nat_Div fun a b hw hc => by
  have ha : wfd B32 a = true := wfd_of hw.1
  have hb : wfd B32 b = true := wfd_of hw.2
  simp only [Bool.and_eq_true, okL38] at hc
  obtain ⟨la, lb⟩ := hc
  have la' := digs_len_le ha
  have lb' := digs_len_le hb
  have wa := wfd_digs (b := B32) (by decide) (val B32 a)
  have wb := wfd_digs (b := B32) (by decide) (val B32 b)
  have va := val_digs (b := B32) (by decide) (val B32 a)
  have vb := val_digs (b := B32) (by decide) (val B32 b)
  rw [nat_Div]
  simp only [RT.run]
  rw [if_pos (by rw [okL40]; omega), if_pos (by rw [okL40]; omega)]
  generalize hA : val B32 a = A at *
  generalize hBv : val B32 b = V at *
  by_cases hV : V = 0
  · subst hV
    rw [if_pos (by rw [digs_zero]; rfl)]
    rfl
  have hV0 : 0 < V := Nat.pos_of_ne_zero hV
  have hlV : 0 < (digs B32 V).length := by rw [digs_pos (by decide) hV0]; simp
  rw [if_neg (by simp only [beq_iff_eq]; omega)]
  have hdr : divRes A V = (true, digs B32 (A / V), digs B32 (A % V)) := if_neg hV
  rw [hdr]
  simp only [va, vb]
  by_cases hlt : A < V
  · rw [if_pos (by
      have : cmpI (A : Int) (V : Int) = -1 := by unfold cmpI; rw [if_pos (Int.ofNat_lt.2 hlt)]
      rw [this]; rfl), Nat.div_eq_of_lt hlt, Nat.mod_eq_of_lt hlt, digs_zero]
  rw [if_neg (by
    have : ¬ cmpI (A : Int) (V : Int) < 0 := by
      unfold cmpI
      rw [if_neg (by omega)]
      split <;> omega
    simpa using this)]
  by_cases h1 : (digs B32 V).length = 1
  · -- one digit
    have hVB : V < B32 := by
      have h3 := val_lt (b := B32) (by decide) wb
      rw [vb, h1, Nat.pow_one] at h3
      exact h3
    have hd : gI (digs B32 V) 0 = (V : Int) := by
      have : gI (digs B32 V) ((0 : Nat) : Int) = (V : Int) := by rw [gIn, digs_get (by decide), Nat.pow_zero, Nat.div_one, Nat.mod_eq_of_lt hVB]
      exact this
    have hB : B32 = 4294967296 := rfl
    have hm : A % V < V := Nat.mod_lt _ hV0
    rw [if_pos (by rw [h1]; rfl)]
    have w : wu64 ((A % V : Nat) : Int) = ((A % V : Nat) : Int) := wu64_in ⟨Int.natCast_nonneg _, by omega⟩
    simp only [hd, Int.toNat_natCast, w]
    rw [if_pos (by rw [inB_iff]; omega), if_pos (by rw [Bool.and_eq_true, okL39, decide_eq_true_eq]; omega)]
  rw [if_neg (by simp only [beq_iff_eq]; omega)]
  obtain ⟨s, mb, f1, f2, f3, f4, f5, f6, f7, f8, f9⟩ := norm_facts (vb := V) (by omega)
  have hAV : V ≤ A := Nat.le_of_not_lt hlt
  obtain ⟨ma, g1, g2, g3⟩ := digs_size (b := B32) (by decide) (Nat.lt_of_lt_of_le hV0 hAV)
  have hml : mb + 1 ≤ ma := by
    have := (Nat.pow_lt_pow_iff_right (by decide : 1 < B32)).1 (Nat.lt_of_le_of_lt (Nat.le_trans f6 hAV) g3)
    omega
  have w1 : w64 (((mb + 2 : Nat) : Int) - 1) = ((mb + 1 : Nat) : Int) := by rw [w64_in] <;> omega
  have w2 : w64 (((ma + 1 : Nat) : Int) - ((mb + 2 : Nat) : Int)) = ((ma + 1 : Nat) : Int) - ((mb + 2 : Nat) : Int) := by rw [w64_in]; omega
  have w3 : w64 (((ma + 1 : Nat) : Int) - ((mb + 2 : Nat) : Int) + 1) = ((ma - mb : Nat) : Int) := by rw [w64_in] <;> omega
  have w4 : w64 (((ma - mb : Nat) : Int) - 1) = ((ma - mb : Nat) : Int) - 1 := by rw [w64_in]; omega
  have hs32 : 2 ^ s ≤ B32 := by
    have : (2 : Nat) ^ s ≤ 2 ^ 32 := Nat.pow_le_pow_right (by decide) (by omega)
    exact this
  have hps : 0 < 2 ^ s := Nat.pow_pos (by decide)
  have hAs : A * 2 ^ s < B32 ^ (ma + 2) := by
    rw [Nat.pow_succ B32 (ma + 1)]
    exact Nat.lt_of_lt_of_le ((Nat.mul_lt_mul_right hps).2 g3) (Nat.mul_le_mul_left _ hs32)
  have hVs : V * 2 ^ s < B32 ^ (mb + 3) := Nat.lt_of_lt_of_le f7 (Nat.pow_le_pow_right (by decide) (by omega))
  have fv : val B32 (fixd B32 (mb + 2 + 1) (V * 2 ^ s)) = V * 2 ^ s := by rw [fixd_val, Nat.mod_eq_of_lt hVs]
  have fu : val B32 (fixd B32 (ma + 1 + 1) (A * 2 ^ s)) = A * 2 ^ s := by rw [fixd_val, Nat.mod_eq_of_lt hAs]
  have fvv : val B32 (digs B32 (V * 2 ^ s)) = V * 2 ^ s := val_digs (by decide) _
  have hdiv := div_l (vs := digs B32 (V * 2 ^ s)) (wfd_digs (by decide) _) (by rw [f8]; omega) (by rw [f8]; exact f9) (ma - mb) (fixd B32 (ma + 1 + 1) (A * 2 ^ s)) (List.replicate (ma - mb) 0)
    (fixd_wf (by decide) _ _) (by rw [f8, fixd_len]; omega) (by rw [fixd_len]; omega) (by
      rw [fu, fvv, ← Nat.mul_assoc]
      refine (Nat.mul_lt_mul_right hps).2 ?_
      refine Nat.lt_of_lt_of_le g3 ?_
      rw [show ma + 1 = (ma - mb) + (mb + 1) by omega, Nat.pow_add]
      exact Nat.mul_le_mul_left _ f6) (wfd_replicate (by decide)) (by simp) (fun i hi => by simp [List.getD, hi]) (by simp; omega)
  obtain ⟨us', qs', d1, d2, d3, d4, d5, d6, D, d7, d8⟩ := hdiv
  rw [fu, fvv] at d7
  rw [fvv] at d6
  rw [val_replicate, Nat.zero_add] at d8
  rw [fixd_len] at d3
  rw [List.length_replicate] at d5
  have hD : D = A / V := by
    have h3 : (A * 2 ^ s) / (V * 2 ^ s) = D := by
      rw [d7, Nat.add_mul_div_right _ _ (Nat.mul_pos hV0 hps), Nat.div_eq_of_lt d6, Nat.zero_add]
    rw [← h3, Nat.mul_div_mul_right _ _ hps]
  have hR : val B32 us' = A % V * 2 ^ s := by
    have h3 : (A * 2 ^ s) % (V * 2 ^ s) = val B32 us' := by
      rw [d7, Nat.add_mul_mod_self_right, Nat.mod_eq_of_lt d6]
    rw [← h3, Nat.mul_mod_mul_right]
  have hgi : gI (digs B32 V) ((mb + 1 : Nat) : Int) = (digs B32 V).getD (mb + 1) 0 := gIn _ _
  rw [f1, g1]
  simp only [w1, w2, w3, w4, hgi, f2, Int.toNat_natCast, List.length_replicate, fv, repI]
  rw [if_pos (by rw [inB_nat, f1]; simp), if_pos (by simp only [Bool.and_eq_true, okL39, decide_eq_true_eq]; omega), if_pos (by simp only [Bool.and_eq_true, okL39, decide_eq_true_eq]; omega),
    if_pos (by rw [okL40, fixd_len]; omega), if_pos (by rw [mkOK_iff]; omega), d1]
  simp only [Option.bind_some]
  rw [if_pos (by rw [okL40]; omega), if_pos (by simp only [Bool.and_eq_true, okL39, decide_eq_true_eq]; omega), d8, hD, hR, Nat.mul_div_cancel _ hps]
def nat_Gcd_b28 : Unit → ((List Int) × (List Int)) → RT ((List Int) × (List Int)) (List Int)
| _, (r0, r1) =>
 .rq 3 (.ite (decide (0 < (r1.length : Int)))
 (.rq 2 (.req (okL 38 r0 && okL 38 r1) (.rq 11 (.again (r1, (divRes (val B32 r0) (val B32 r1)).2.2)))))
 (.done r0))
def nat_Gcd_p28 : Piece := ⟨28, true, [], [.sl tV, .sl tV], ⟨[.keep [0, 1], .gc, .nilRow 0 800000 122 tV, .nilRow 1 800001 122 tV, .ren 0 700000, .ren 1 700001, .ren 0 900000, .ren 1 900001, .gc], [0, 1], [.lf (qr 900000), .lf (qr 900001)], [(900000, true, .arr 122 (qm 0)), (900001, true, .arr 122 (qm 1))]⟩, [⟨2, ⟨[.keep [0], .gc, .nilRow 0 800000 122 tV, .ren 0 700000, .ren 0 900000, .gc], [0], [.lf (qr 900000)], [(900000, true, .arr 122 (qm 0))]⟩, [.sl tV]⟩], nat_Gcd_b28⟩
def nat_Gcd : ((List Int) × (List Int)) → RT Unit (List Int)
| (a, b) =>
 .rq 2 (.req (okL 40 a) (.rq 1 (.req (okL 40 b) (.rq 2 (.call (lo nat_Gcd_b28 () (digs B32 (val B32 a), digs B32 (val B32 b))) default fun v0 =>
 .rq 2 (.done v0))))))
def F_nat_Gcd (x : (List Int) × (List Int)) : Option (List Int) := (nat_Gcd x).run fun _ => none
def io_nat_Gcd : Io := ⟨n_nat_Gcd, [.sl tV, .sl tV], [.lf (qm 0), .lf (qm 1)], [], [[.sl tV], [.sl tV]], [.sl tV], .lf (qr 0), [], [(true, .arr 122 (qm 0))], false⟩
def nat_Gcd_P : List Piece := [nat_Gcd_p28]
def nat_Gcd_T : CallT := tab [e_nat_Div, e_nat_Cut]
theorem nat_Gcd_To : SoundT pg nat_Gcd_T := tab_sound ⟨e_nat_Div_ok, e_nat_Cut_ok, trivial⟩
theorem nat_Gcd_k28 : (nat_Gcd_p28).OK pg (nat_Gcd_T) (tell 25 (nat_Gcd_P)) (codeOf f_nat_Gcd) 25 := ⟨by kernel_rfl, fun i x => by kernel_rfl⟩
theorem nat_Gcd_go : FnOK pg (nat_Gcd_T) io_nat_Gcd f_nat_Gcd (nat_Gcd_P) [.nilRow 4 800004 122 tV, .ren 4 700004, .ren 4 900004] (nat_Gcd) := ⟨by kernel_rfl, by kernel_rfl, fun x => by kernel_rfl⟩
theorem ok_nat_Gcd : io_nat_Gcd.Okay pg (F_nat_Gcd) := fn_ok pg_mixed (nat_Gcd_To) (nat_Gcd_go) ⟨nat_Gcd_k28, trivial⟩
theorem digs_len_mono {m n : Nat} (h : m ≤ n) : (digs B32 m).length ≤ (digs B32 n).length := by
  by_cases hm : m = 0
  · subst hm
    rw [digs_zero]
    exact Nat.zero_le _
  obtain ⟨a, h1, h2, h3⟩ := digs_size (b := B32) (by decide) (Nat.pos_of_ne_zero hm)
  obtain ⟨b, h4, h5, h6⟩ := digs_size (b := B32) (by decide) (Nat.lt_of_lt_of_le (Nat.pos_of_ne_zero hm) h)
  have := (Nat.pow_lt_pow_iff_right (by decide : 1 < B32)).1 (Nat.lt_of_le_of_lt (Nat.le_trans h2 h) h6)
  omega
theorem okL_digs {k : Nat} {xs : List Int} (hw : wfd B32 xs = true) (h : okL k xs = true) : okL k (digs B32 (val B32 xs)) = true := by
  rw [okL_iff] at *
  exact Nat.le_trans (digs_len_le hw) h
theorem okL_le {k m n : Nat} (h : m ≤ n) (h' : okL k (digs B32 n) = true) : okL k (digs B32 m) = true := by
  rw [okL_iff] at *
  exact Nat.le_trans (digs_len_mono h) h'
theorem gcd_l : ∀ (V A : Nat), okL 38 (digs B32 A) = true → okL 38 (digs B32 V) = true → lo nat_Gcd_b28 () (digs B32 A, digs B32 V) = some (digs B32 (Nat.gcd A V)) := by
  intro V
  induction V using Nat.strongRecOn with
  | ind V ih =>
    intro A hA hV
    rw [lo_eq, nat_Gcd_b28]
    simp only [RT.run]
    by_cases h : V = 0
    · subst h
      rw [if_neg (by simp [digs_zero]), Nat.gcd_zero_right]
    · have hV0 := Nat.pos_of_ne_zero h
      have hl : 0 < (digs B32 V).length := by rw [digs_pos (by decide) hV0]; simp
      have hm := Nat.mod_lt A hV0
      rw [if_pos (by simp only [decide_eq_true_eq]; omega), if_pos (by rw [hA, hV]; rfl), val_digs (by decide), val_digs (by decide), divRes, if_neg h]
      rw [ih (A % V) hm V hV (okL_le (Nat.le_of_lt hm) hV), Nat.gcd_comm A V, Nat.gcd_rec V A, Nat.gcd_comm]
def e_nat_Gcd : Entry := io_nat_Gcd.sp (fun (a, b) => okL 38 a && okL 38 b) (fun (a, b) => digs B32 (Nat.gcd (val B32 a) (val B32 b)))
theorem sp_nat_Gcd (h : ∀ (a : List Int) (b : List Int), WfT [.sl tV, .sl tV] (a, b) → (okL 38 a && okL 38 b) = true → (nat_Gcd (a, b)).run (fun _ => none) = some (digs B32 (Nat.gcd (val B32 a) (val B32 b)))) : e_nat_Gcd.ok pg := sp_ok ok_nat_Gcd fun (a, b) hw hc => h a b hw hc
theorem e_nat_Gcd_ok : e_nat_Gcd.ok pg := sp_nat_Gcd fun a b hw hc => by
  have ha : wfd B32 a = true := wfd_of hw.1
  have hb : wfd B32 b = true := wfd_of hw.2
  rw [Bool.and_eq_true] at hc
  rw [nat_Gcd]
  simp only [RT.run]
  rw [if_pos (okL_mono (by decide) hc.1), if_pos (okL_mono (by decide) hc.2), gcd_l _ _ (okL_digs ha hc.1) (okL_digs hb hc.2)]
  rfl
end
end Go.Proofs.YtlfdidaeachpoaaGreat

namespace Go.Proofs.YtlfdidaeachpoaaGreat
open Go Go.RowKit
set_option maxRecDepth 100000
noncomputable section
abbrev B16 : Nat := 65536
def okM (k : Nat) (xs : List Int) : Bool := decide (xs.length ≤ 2 ^ k) && wfd B16 xs
theorem okM_iff {k : Nat} {xs : List Int} : okM k xs = true ↔ xs.length ≤ 2 ^ k ∧ wfd B16 xs = true := by
  simp [okM]
theorem getD16 {xs : List Int} (h : wfd B16 xs = true) (i : Nat) : ∃ d : Nat, xs.getD i 0 = (d : Int) ∧ d < 65536 := by
  have := wfd_get (by decide : 0 < B16) h i
  have hB : (B16 : Int) = 65536 := rfl
  exact ⟨(xs.getD i 0).toNat, by omega, by omega⟩
theorem tdiv16 (x : Nat) : Int.tdiv (x : Int) 65536 = ((x / 65536 : Nat) : Int) := tdivN x 65536
theorem tmod16 (x : Nat) : Int.tmod (x : Int) 65536 = ((x % 65536 : Nat) : Int) := tmodN x 65536
theorem apOK_small {b : Nat} {xs ys : List Int} (hb : b ≤ 64) (h : xs.length + ys.length ≤ 2199023255552) : apOK b xs ys = true := by
  rw [apOK_iff, maxLen_eq]
  have : (xs.length + ys.length) * b ≤ 2199023255552 * 64 := Nat.mul_le_mul h hb
  omega
theorem inB_t {xs : List Int} {i : Nat} (h : i < xs.length) : inB xs (i : Int) = true := by rw [inB_nat]; exact decide_eq_true h
def R01_digit : ((List Int) × Int) → RT Unit Int
| (a_0, i) =>
 .rq 7 (.ite (decide (i < (a_0.length : Int)))
 (.rq 3 (.req (inB a_0 i) (.rq 2 (.done (gI a_0 i)))))
 (.rq 1 (.done 0)))
def F_R01_digit (x : (List Int) × Int) : Option Int := (R01_digit x).run fun _ => none
def io_R01_digit : Io := ⟨n_R01_digit, [.sl tI, tI], [.agg [qm 0], .lf (qm 1)], [], [[.sl tI], [tI]], [tI], .lf (qm 0), [], [], false⟩
def R01_digit_P : List Piece := []
def R01_digit_T : CallT := tab []
theorem R01_digit_To : SoundT pg R01_digit_T := tab_sound trivial
theorem R01_digit_go : FnOK pg (R01_digit_T) io_R01_digit f_R01_digit (R01_digit_P) [] (R01_digit) := ⟨by kernel_rfl, by kernel_rfl, fun x => by kernel_rfl⟩
theorem ok_R01_digit : io_R01_digit.Okay pg (F_R01_digit) := fn_ok pg_mixed (R01_digit_To) (R01_digit_go) trivial
def e_R01_digit : Entry := io_R01_digit.sp (fun (a, i) => decide (0 ≤ i)) (fun (a, i) => dig a i)
theorem sp_R01_digit (h : ∀ (a : List Int) (i : Int), WfT [.sl tI, tI] (a, i) → (decide (0 ≤ i)) = true → (R01_digit (a, i)).run (fun _ => none) = some (dig a i)) : e_R01_digit.ok pg := sp_ok ok_R01_digit fun (a, i) hw hc => h a i hw hc
theorem e_R01_digit_ok : e_R01_digit.ok pg := sp_R01_digit fun a i _ hc => by
  replace hc : 0 ≤ i := of_decide_eq_true hc
  rw [R01_digit, dig]
  simp only [RT.run, decide_eq_true_eq]
  split
  · rw [if_pos (by rw [inB_iff]; omega)]; rfl
  · rfl
theorem dig16 {xs : List Int} (h : wfd B16 xs = true) (i : Nat) : ∃ d : Nat, dig xs (i : Int) = (d : Int) ∧ d < 65536 ∧ d = val B16 xs / B16 ^ i % B16 := by
  have e := dig_val (b := B16) (by decide) h (i := i)
  exact ⟨_, e, Nat.mod_lt _ (by decide), rfl⟩
def R01_Cut_b28 : (List Int) → Int → RT Int Int
| d, n =>
 .rq 6 (let t0 := decide (0 < n);
 let t1 := w64 (n - 1);
 .req ((inB d t1) || (!t0)) (.rq 3 (.ite (t0 && ((gI d t1) == 0))
 (.rq 3 (.again t1))
 (.done n))))
def R01_Cut_p28 : Piece := ⟨28, true, [.sl tI], [tI], ⟨[.keep [0, 2, 3], .gc], [0, 2, 3], [.lf (qi 0), .lf (qp 32), .lf (qm 0)], [(32, true, .cells [.fix (.nil)])]⟩, [⟨2, ⟨[.keep [0, 2, 3], .gc], [0, 2, 3], [.lf (qi 0), .lf (qp 32), .lf (qm 0)], [(32, true, .cells [.fix (.nil)])]⟩, [tI]⟩], R01_Cut_b28⟩
def R01_Cut : (List Int) → RT Unit (List Int)
| d =>
 .rq 4 (.call (lo R01_Cut_b28 d (d.length : Int)) default fun v0 =>
 .rq 3 (.req (takeOK d v0) (.req (apOK 8 [] (takeI d v0)) (.rq 2 (.done ([] ++ (takeI d v0)))))))
def F_R01_Cut (x : (List Int)) : Option (List Int) := (R01_Cut x).run fun _ => none
def io_R01_Cut : Io := ⟨n_R01_Cut, [.sl tI], [.lf (qm 0)], [], [[.sl tI]], [.sl tI], .agg [qr 0], [], [(true, .arr 3 (qm 0))], false⟩
def R01_Cut_P : List Piece := [R01_Cut_p28]
def R01_Cut_T : CallT := tab []
theorem R01_Cut_To : SoundT pg R01_Cut_T := tab_sound trivial
theorem R01_Cut_k28 : (R01_Cut_p28).OK pg (R01_Cut_T) (tell 24 (R01_Cut_P)) (codeOf f_R01_Cut) 24 := ⟨by kernel_rfl, fun i x => by kernel_rfl⟩
theorem R01_Cut_go : FnOK pg (R01_Cut_T) io_R01_Cut f_R01_Cut (R01_Cut_P) [.cellRow 32 0 600032 3 tI, .cellRen 32 0 600032] (R01_Cut) := ⟨by kernel_rfl, by kernel_rfl, fun x => by kernel_rfl⟩
theorem ok_R01_Cut : io_R01_Cut.Okay pg (F_R01_Cut) := fn_ok pg_mixed (R01_Cut_To) (R01_Cut_go) ⟨R01_Cut_k28, trivial⟩
theorem cut16_l {xs : List Int} (hl : xs.length ≤ 2 ^ 40) : ∀ m : Nat, m ≤ xs.length → lo R01_Cut_b28 xs (m : Int) = some ((cutN xs m : Nat) : Int)
  | 0, _ => by
    rw [lo_eq, R01_Cut_b28]
    simp [RT.run, inB, cutN]
  | m + 1, h => by
    rw [lo_eq, R01_Cut_b28]
    have w : w64 (((m + 1 : Nat) : Int) - 1) = (m : Int) := by rw [w64_in] <;> omega
    simp only [RT.run, w, gIn]
    rw [if_pos (by rw [inB_nat]; simp; omega), cutN]
    by_cases h0 : xs.getD m 0 = 0
    · rw [if_pos (by rw [h0]; simp), if_pos h0]
      exact cut16_l hl m (by omega)
    · rw [if_neg (by simp only [Bool.and_eq_true, decide_eq_true_eq, beq_iff_eq]; exact fun h => h0 h.2), if_neg h0]
def e_R01_Cut : Entry := io_R01_Cut.sp (fun d => okM 40 d) (fun d => digs B16 (val B16 d))
theorem sp_R01_Cut (h : ∀ (d : List Int), WfT [.sl tI] d → (okM 40 d) = true → (R01_Cut d).run (fun _ => none) = some (digs B16 (val B16 d))) : e_R01_Cut.ok pg := sp_ok ok_R01_Cut fun d hw hc => h d hw hc
theorem e_R01_Cut_ok : e_R01_Cut.ok pg := sp_R01_Cut fun d _ hc => by
  rw [okM_iff] at hc
  rw [R01_Cut]
  simp only [RT.run, cut16_l hc.1 d.length (Nat.le_refl _), Option.bind_some]
  have hc' := cutN_le d d.length
  have h1 : takeOK d (cutN d d.length : Int) = true := by simp [takeOK]; omega
  have h2 : takeI d (cutN d d.length : Int) = cut d := by simp [takeI, cut]
  rw [if_pos h1, h2, if_pos (apOK_small (by decide) (by show 0 + (d.take _).length ≤ _; rw [List.length_take]; omega)), ← cut_eq (by decide) hc.2]
  rfl
def R01_Of_b28 : Unit → (Int × (List Int)) → RT (Int × (List Int)) (List Int)
| _, (n, r3) =>
 .rq 2 (.ite (decide (0 < n))
 (.rq 5 (let t0 := [w64 (Int.tmod n 65536)];
 .req (apOK 8 r3 t0) (.rq 4 (.again (wu64 (Int.tdiv n 65536), r3 ++ t0)))))
 (.done r3))
def R01_Of_p28 : Piece := ⟨28, true, [], [tU, .sl tI], ⟨[.keep [0, 2, 3], .gc, .nilRow 3 800003 3 tI, .ren 3 700003, .ren 3 900003, .gc], [0, 2, 3], [.lf (qm 0), .lf (qp 32), .lf (qr 900003)], [(32, true, .cells [.fix (.nil)]), (900003, true, .arr 3 (qm 1))]⟩, [⟨2, ⟨[.keep [2, 3], .gc, .nilRow 3 800003 3 tI, .ren 3 700003, .ren 3 900003, .gc], [2, 3], [.lf (qp 32), .lf (qr 900003)], [(32, true, .cells [.fix (.nil)]), (900003, true, .arr 3 (qm 0))]⟩, [.sl tI]⟩], R01_Of_b28⟩
def R01_Of : Int → RT Unit (List Int)
| n =>
 .rq 2 (.call (lo R01_Of_b28 () (n, [])) default fun v0 =>
 .rq 3 (.done v0))
def F_R01_Of (x : Int) : Option (List Int) := (R01_Of x).run fun _ => none
def io_R01_Of : Io := ⟨n_R01_Of, [tU], [.lf (qm 0)], [], [[tU]], [.sl tI], .agg [qr 0], [], [(true, .arr 3 (qm 0))], false⟩
def R01_Of_P : List Piece := [R01_Of_p28]
def R01_Of_T : CallT := tab []
theorem R01_Of_To : SoundT pg R01_Of_T := tab_sound trivial
theorem R01_Of_k28 : (R01_Of_p28).OK pg (R01_Of_T) (tell 16 (R01_Of_P)) (codeOf f_R01_Of) 16 := ⟨by kernel_rfl, fun i x => by kernel_rfl⟩
theorem R01_Of_go : FnOK pg (R01_Of_T) io_R01_Of f_R01_Of (R01_Of_P) [.cellRow 32 0 600032 3 tI, .cellRen 32 0 600032] (R01_Of) := ⟨by kernel_rfl, by kernel_rfl, fun x => by kernel_rfl⟩
theorem ok_R01_Of : io_R01_Of.Okay pg (F_R01_Of) := fn_ok pg_mixed (R01_Of_To) (R01_Of_go) ⟨R01_Of_k28, trivial⟩
theorem of16_l : ∀ (x : Nat) (out : List Int), x < 2 ^ 64 → out.length + x < 2 ^ 64 + 10 → out.length ≤ 10000 → (x < 65536 ^ (10000 - out.length)) → lo R01_Of_b28 () ((x : Int), out) = some (out ++ digs B16 x) := by
  intro x
  induction x using Nat.strongRecOn with
  | ind x ih =>
    intro out hx ho hl hp
    rw [lo_eq, R01_Of_b28]
    by_cases h : x = 0
    · subst h
      simp [RT.run, digs_zero]
    · have hx0 := Nat.pos_of_ne_zero h
      have hl' : out.length < 10000 := by
        apply Nat.lt_of_le_of_ne hl
        intro e
        rw [e, Nat.sub_self, Nat.pow_zero] at hp
        omega
      have w1 : wu64 ((x / 65536 : Nat) : Int) = ((x / 65536 : Nat) : Int) := wu64_in ⟨Int.natCast_nonneg _, by omega⟩
      have w2 : w64 ((x % 65536 : Nat) : Int) = ((x % 65536 : Nat) : Int) := w64_in (by omega)
      simp only [RT.run, tdiv16, tmod16, w1, w2]
      rw [if_pos (by simp; omega), if_pos (apOK_small (by decide) (by simp; omega))]
      rw [ih (x / 65536) (by omega) _ (by omega) (by simp; omega) (by simp; omega) (by
        rw [List.length_append, List.length_singleton, Nat.div_lt_iff_lt_mul (by decide), ← Nat.pow_succ, show (10000 - (out.length + 1)).succ = 10000 - out.length by omega]
        exact hp), digs_pos (by decide) hx0, List.append_assoc]
      rfl
def e_R01_Of : Entry := io_R01_Of.sp (fun n => true) (fun n => digs B16 n.toNat)
theorem sp_R01_Of (h : ∀ (n : Int), WfT [tU] n → (R01_Of n).run (fun _ => none) = some (digs B16 n.toNat)) : e_R01_Of.ok pg := sp_ok ok_R01_Of fun n hw hc => h n hw
theorem e_R01_Of_ok : e_R01_Of.ok pg := sp_R01_Of fun n hw => by
  have hw' : 0 ≤ n ∧ n < 18446744073709551616 := hw
  obtain ⟨m, rfl⟩ := Int.eq_ofNat_of_zero_le hw'.1
  rw [R01_Of, Int.toNat_natCast]
  simp only [RT.run]
  rw [of16_l m [] (by omega) (by simp; omega) (by simp) (by
    refine Nat.lt_of_lt_of_le (show m < 65536 ^ 4 by omega) (Nat.pow_le_pow_right (by decide) (by simp)))]
  rfl
def R01_Cmp_b14 : (Int × (List Int)) → RT Unit Int
| (n, b) =>
 .rq 5 (.ite (decide (n < (b.length : Int)))
 (.rq 4 (.done (b.length : Int)))
 (.done n))
def R01_Cmp_p14 : Piece := ⟨14, false, [tI, .sl tI, .sl tI], [], ⟨[.keep [2, 3, 5], .gc], [2, 3, 5], [.lf (qp 32), .lf (qp 48), .lf (qi 0)], [(32, true, .cells [qi 1]), (48, true, .cells [qi 2])]⟩, [⟨0, ⟨[.keep [2, 3, 5], .gc], [2, 3, 5], [.lf (qp 32), .lf (qp 48), .lf (qm 0)], [(32, true, .cells [qi 1]), (48, true, .cells [qi 2])]⟩, [tI]⟩], (fun i _ => R01_Cmp_b14 (i.1, i.2.2))⟩
def R01_Cmp_b122 : ((List Int) × (List Int)) → Int → RT Int (LR Int Unit)
| (a, b), i =>
 .rq 2 (.ite (decide (0 ≤ i))
 (.rq 2 (.req (decide (0 ≤ i)) (.rq 2 (.req (decide (0 ≤ i)) (.rq 1 (.ite (decide ((dig a i) < (dig b i)))
 (.rq 1 (.done (.ex (-1))))
 (.rq 2 (.req (decide (0 ≤ i)) (.rq 2 (.req (decide (0 ≤ i)) (.rq 1 (.ite (decide ((dig b i) < (dig a i)))
 (.rq 1 (.done (.ex 1)))
 (.rq 3 (.again (w64 (i - 1))))))))))))))))
 (.done (.rt ())))
def R01_Cmp_p122 : Piece := ⟨122, true, [.sl tI, .sl tI], [tI], ⟨[.keep [2, 3, 6], .gc], [2, 3, 6], [.lf (qp 32), .lf (qp 48), .lf (qm 0)], [(32, true, .cells [qi 0]), (48, true, .cells [qi 1])]⟩, [⟨1, ⟨[.keep [4], .gc], [4], [.lf (qm 0)], []⟩, [tI]⟩, ⟨2, ⟨[.keep [], .gc], [], [], []⟩, []⟩], R01_Cmp_b122⟩
def R01_Cmp : ((List Int) × (List Int)) → RT Unit Int
| (a_0, b_0) =>
 .rq 7 (.call (on R01_Cmp_b14 ((a_0.length : Int), b_0)) default fun v0 =>
 .rq 3 (.call (lo R01_Cmp_b122 (a_0, b_0) (w64 (v0 - 1))) default fun v1 =>
 .ite v1.isRt
 (.rq 1 (.done 0))
 (.done v1.getX)))
def F_R01_Cmp (x : (List Int) × (List Int)) : Option Int := (R01_Cmp x).run fun _ => none
def io_R01_Cmp : Io := ⟨n_R01_Cmp, [.sl tI, .sl tI], [.agg [qm 0], .agg [qm 1]], [], [[.sl tI], [.sl tI]], [tI], .lf (qm 0), [], [], false⟩
def R01_Cmp_P : List Piece := [R01_Cmp_p14, R01_Cmp_p122]
def R01_Cmp_T : CallT := tab [e_R01_digit]
theorem R01_Cmp_To : SoundT pg R01_Cmp_T := tab_sound ⟨e_R01_digit_ok, trivial⟩
theorem R01_Cmp_k14 : (R01_Cmp_p14).OK pg (R01_Cmp_T) (tell 38 (R01_Cmp_P)) (codeOf f_R01_Cmp) 38 := ⟨by kernel_rfl, fun i x => by kernel_rfl⟩
theorem R01_Cmp_k122 : (R01_Cmp_p122).OK pg (R01_Cmp_T) (tell 38 (R01_Cmp_P)) (codeOf f_R01_Cmp) 38 := ⟨by kernel_rfl, fun i x => by kernel_rfl⟩
theorem R01_Cmp_go : FnOK pg (R01_Cmp_T) io_R01_Cmp f_R01_Cmp (R01_Cmp_P) [] (R01_Cmp) := ⟨by kernel_rfl, by kernel_rfl, fun x => by kernel_rfl⟩
theorem ok_R01_Cmp : io_R01_Cmp.Okay pg (F_R01_Cmp) := fn_ok pg_mixed (R01_Cmp_To) (R01_Cmp_go) ⟨R01_Cmp_k14, R01_Cmp_k122, trivial⟩
theorem cmp16_l {a b : List Int} : ∀ m : Nat, m ≤ 2 ^ 63 - 1 → lo R01_Cmp_b122 (a, b) ((m : Int) - 1) = some (if cmpN a b m = 0 then .rt () else .ex (cmpN a b m))
  | 0, _ => by
    rw [lo_eq, R01_Cmp_b122]
    simp [RT.run, cmpN]
  | m + 1, hm => by
    rw [lo_eq, R01_Cmp_b122]
    have e0 : (((m + 1 : Nat) : Int) - 1) = (m : Int) := by omega
    have w : w64 ((m : Int) - 1) = (m : Int) - 1 := w64_in (by omega)
    have hp : decide ((0 : Int) ≤ (m : Int)) = true := by simp
    simp only [RT.run, e0, w, hp, if_true]
    have hcn : cmpN a b (m + 1) = if cmpI (dig a m) (dig b m) = 0 then cmpN a b m else cmpI (dig a m) (dig b m) := rfl
    by_cases h1 : dig a (m : Int) < dig b (m : Int)
    · have : cmpI (dig a (m : Int)) (dig b (m : Int)) = -1 := by unfold cmpI; rw [if_pos h1]
      rw [if_pos (decide_eq_true h1), hcn, this]
      simp
    · rw [if_neg (by simpa using h1)]
      by_cases h2 : dig b (m : Int) < dig a (m : Int)
      · have : cmpI (dig a (m : Int)) (dig b (m : Int)) = 1 := by unfold cmpI; rw [if_neg h1, if_pos h2]
        rw [if_pos (decide_eq_true h2), hcn, this]
        simp
      · have : cmpI (dig a (m : Int)) (dig b (m : Int)) = 0 := by unfold cmpI; rw [if_neg h1, if_neg h2]
        rw [if_neg (by simpa using h2), hcn, this]
        simp only [if_true]
        exact cmp16_l m (by omega)
theorem cmp16_val {a b : List Int} (ha : wfd B16 a = true) (hb : wfd B16 b = true) {m : Nat} (h1 : a.length ≤ m) (h2 : b.length ≤ m) : cmpN a b m = cmpI (val B16 a : Int) (val B16 b : Int) := by
  rw [cmpN_val (by decide) ha hb, Nat.mod_eq_of_lt (Nat.lt_of_lt_of_le (val_lt (by decide) ha) (Nat.pow_le_pow_right (by decide) h1)), Nat.mod_eq_of_lt (Nat.lt_of_lt_of_le (val_lt (by decide) hb) (Nat.pow_le_pow_right (by decide) h2))]
def e_R01_Cmp : Entry := io_R01_Cmp.sp (fun (a, b) => wfd B16 a && wfd B16 b) (fun (a, b) => cmpI ((val B16 a : Nat) : Int) ((val B16 b : Nat) : Int))
theorem sp_R01_Cmp (h : ∀ (a : List Int) (b : List Int), WfT [.sl tI, .sl tI] (a, b) → (wfd B16 a && wfd B16 b) = true → (R01_Cmp (a, b)).run (fun _ => none) = some (cmpI ((val B16 a : Nat) : Int) ((val B16 b : Nat) : Int))) : e_R01_Cmp.ok pg := sp_ok ok_R01_Cmp fun (a, b) hw hc => h a b hw hc
theorem e_R01_Cmp_ok : e_R01_Cmp.ok pg := sp_R01_Cmp fun a b hw hc => by
  have ha : Wf (.sl tI) a := hw.1
  have hb : Wf (.sl tI) b := hw.2
  have la := ha.1
  have lb := hb.1
  rw [Bool.and_eq_true] at hc
  rw [R01_Cmp]
  have fin : ∀ m : Nat, a.length ≤ m → b.length ≤ m → m ≤ 2 ^ 63 - 1 →
      ((lo R01_Cmp_b122 (a, b) (w64 ((m : Int) - 1))).bind fun v => if v.isRt = true then some 0 else some v.getX) = some (cmpI (val B16 a : Int) (val B16 b : Int)) := by
    intro m h1 h2 h4
    rw [w64_in (by omega), cmp16_l m h4, ← cmp16_val hc.1 hc.2 h1 h2]
    split
    · rename_i h
      rw [h]; rfl
    · rfl
  simp only [RT.run, on, R01_Cmp_b14, decide_eq_true_eq]
  split
  · exact fin b.length (by omega) (Nat.le_refl _) (by omega)
  · exact fin a.length (Nat.le_refl _) (by omega) (by omega)
def R01_Add_b122 : ((List Int) × (List Int)) → (Int × Int × (List Int)) → RT (Int × Int × (List Int)) (List Int)
| (a, b), (over, i, r5) =>
 .rq 16 (.ite (((decide (i < (a.length : Int))) || (decide (i < (b.length : Int)))) || (decide (0 < over)))
 (.rq 2 (.req (decide (0 ≤ i)) (.rq 2 (.req (decide (0 ≤ i)) (.rq 8 (let t0 := w64 ((w64 ((dig a i) + (dig b i))) + over);
 let t1 := [Int.tmod t0 65536];
 .req (apOK 8 r5 t1) (.rq 7 (.again (w64 (Int.tdiv t0 65536), w64 (i + 1), r5 ++ t1)))))))))
 (.done r5))
def R01_Add_p122 : Piece := ⟨122, true, [.sl tI, .sl tI], [tI, tI, .sl tI], ⟨[.keep [2, 3, 4, 5, 6, 7], .gc, .nilRow 5 800005 3 tI, .ren 5 700005, .ren 5 900005, .gc], [2, 3, 4, 5, 6, 7], [.lf (qp 32), .lf (qp 48), .lf (qp 64), .lf (qr 900005), .lf (qm 0), .lf (qm 1)], [(32, true, .cells [qi 0]), (48, true, .cells [qi 1]), (64, true, .cells [.fix (.nil)]), (900005, true, .arr 3 (qm 2))]⟩, [⟨2, ⟨[.keep [4, 5], .gc, .nilRow 5 800005 3 tI, .ren 5 700005, .ren 5 900005, .gc], [4, 5], [.lf (qp 64), .lf (qr 900005)], [(64, true, .cells [.fix (.nil)]), (900005, true, .arr 3 (qm 0))]⟩, [.sl tI]⟩], R01_Add_b122⟩
def R01_Add : ((List Int) × (List Int)) → RT Unit (List Int)
| (a_0, b_0) =>
 .rq 6 (.call (lo R01_Add_b122 (a_0, b_0) (0, 0, [])) default fun v0 =>
 .rq 1 (.req (okM 40 v0) (.rq 1 (.done (digs B16 (val B16 v0))))))
def F_R01_Add (x : (List Int) × (List Int)) : Option (List Int) := (R01_Add x).run fun _ => none
def io_R01_Add : Io := ⟨n_R01_Add, [.sl tI, .sl tI], [.agg [qm 0], .agg [qm 1]], [], [[.sl tI], [.sl tI]], [.sl tI], .agg [qr 0], [], [(true, .arr 3 (qm 0))], false⟩
def R01_Add_P : List Piece := [R01_Add_p122]
def R01_Add_T : CallT := tab [e_R01_Cut, e_R01_digit]
theorem R01_Add_To : SoundT pg R01_Add_T := tab_sound ⟨e_R01_Cut_ok, e_R01_digit_ok, trivial⟩
theorem R01_Add_k122 : (R01_Add_p122).OK pg (R01_Add_T) (tell 45 (R01_Add_P)) (codeOf f_R01_Add) 45 := ⟨by kernel_rfl, fun i x => by kernel_rfl⟩
theorem R01_Add_go : FnOK pg (R01_Add_T) io_R01_Add f_R01_Add (R01_Add_P) [.cellRow 64 0 600064 3 tI, .cellRen 64 0 600064] (R01_Add) := ⟨by kernel_rfl, by kernel_rfl, fun x => by kernel_rfl⟩
theorem ok_R01_Add : io_R01_Add.Okay pg (F_R01_Add) := fn_ok pg_mixed (R01_Add_To) (R01_Add_go) ⟨R01_Add_k122, trivial⟩
theorem div_pow_zero {xs : List Int} (h : wfd B16 xs = true) {i : Nat} (hi : xs.length ≤ i) : val B16 xs / B16 ^ i = 0 :=
  Nat.div_eq_of_lt (Nat.lt_of_lt_of_le (val_lt (by decide) h) (Nat.pow_le_pow_right (by decide) hi))
theorem div_step (x i : Nat) : x / B16 ^ i = x / B16 ^ i % B16 + B16 * (x / B16 ^ (i + 1)) := by
  rw [Nat.pow_succ, ← Nat.div_div_eq_div_mul]
  exact (Nat.mod_add_div _ _).symm
theorem add16_l {a b : List Int} (ha : wfd B16 a = true) (hb : wfd B16 b = true) (la : a.length ≤ 2 ^ 39) (lb : b.length ≤ 2 ^ 39) : ∀ (r i o : Nat) (out : List Int), i + r = max a.length b.length + 1 → o ≤ 1 → (r = 0 → o = 0) →
    out.length ≤ i → ∃ D, lo R01_Add_b122 (a, b) ((o : Int), (i : Int), out) = some (out ++ D) ∧ wfd B16 D = true ∧ val B16 D = o + val B16 a / B16 ^ i + val B16 b / B16 ^ i ∧ D.length ≤ r := by
  intro r
  induction r with
  | zero =>
    intro i o out hi ho hz hl
    have := hz rfl
    subst this
    refine ⟨[], ?_, rfl, by rw [div_pow_zero ha (by omega), div_pow_zero hb (by omega)]; rfl, Nat.le_refl _⟩
    rw [lo_eq, R01_Add_b122]
    simp only [RT.run]
    rw [if_neg (by simp; omega)]
    simp
  | succ r ih =>
    intro i o out hi ho _ hl
    rw [lo_eq, R01_Add_b122]
    obtain ⟨da, ea, ba, va⟩ := dig16 ha i
    obtain ⟨db, eb, bb, vb⟩ := dig16 hb i
    have w1 : w64 ((da : Int) + (db : Int)) = ((da + db : Nat) : Int) := by rw [w64_in] <;> omega
    have w2 : w64 (((da + db : Nat) : Int) + (o : Int)) = ((da + db + o : Nat) : Int) := by rw [w64_in] <;> omega
    have w3 : w64 (((da + db + o) / 65536 : Nat) : Int) = (((da + db + o) / 65536 : Nat) : Int) := by rw [w64_in]; omega
    have w4 : w64 ((i : Int) + 1) = ((i + 1 : Nat) : Int) := by rw [w64_in] <;> omega
    have hp : decide ((0 : Int) ≤ (i : Int)) = true := by simp
    have hq : apOK 8 out [(((da + db + o) % 65536 : Nat) : Int)] = true := apOK_small (by decide) (by simp; omega)
    simp only [RT.run, ea, eb, w1, w2, w3, w4, hp, if_true, tdiv16, tmod16, hq]
    have step : ∃ D, lo R01_Add_b122 (a, b) ((((da + db + o) / 65536 : Nat) : Int), ((i + 1 : Nat) : Int), out ++ [(((da + db + o) % 65536 : Nat) : Int)]) = some (out ++ D) ∧ wfd B16 D = true ∧ val B16 D = o + val B16 a / B16 ^ i + val B16 b / B16 ^ i ∧ D.length ≤ r + 1 := by
      obtain ⟨D, h1, h2, h3, h4⟩ := ih (i + 1) ((da + db + o) / 65536) (out ++ [(((da + db + o) % 65536 : Nat) : Int)]) (by omega) (by omega) (fun h => by
        subst h
        have z1 := div_pow_zero ha (i := i) (by omega)
        have z2 := div_pow_zero hb (i := i) (by omega)
        rw [z1] at va
        rw [z2] at vb
        simp at va vb
        omega) (by simp; omega)
      refine ⟨(((da + db + o) % 65536 : Nat) : Int) :: D, by rw [h1, List.append_assoc]; rfl, wfd_cons.2 ⟨⟨Int.natCast_nonneg _, Int.ofNat_lt.2 (Nat.mod_lt _ (by decide))⟩, h2⟩, ?_, by simp; omega⟩
      rw [val, Int.toNat_natCast, h3]
      have s1 := div_step (val B16 a) i
      have s2 := div_step (val B16 b) i
      rw [← va] at s1
      rw [← vb] at s2
      have hB : B16 = 65536 := rfl
      simp only [hB] at *
      omega
    by_cases h1 : ((decide ((i : Int) < (a.length : Int)) || decide ((i : Int) < (b.length : Int))) || decide ((0 : Int) < (o : Int))) = true
    · rw [if_pos h1]; exact step
    · rw [if_neg h1]
      simp only [Bool.or_eq_true, decide_eq_true_eq, not_or] at h1
      refine ⟨[], by simp, rfl, ?_, by simp⟩
      rw [div_pow_zero ha (by omega), div_pow_zero hb (by omega)]
      show 0 = _
      omega
def e_R01_Add : Entry := io_R01_Add.sp (fun (a, b) => okM 39 a && okM 39 b) (fun (a, b) => digs B16 (val B16 a + val B16 b))
theorem sp_R01_Add (h : ∀ (a : List Int) (b : List Int), WfT [.sl tI, .sl tI] (a, b) → (okM 39 a && okM 39 b) = true → (R01_Add (a, b)).run (fun _ => none) = some (digs B16 (val B16 a + val B16 b))) : e_R01_Add.ok pg := sp_ok ok_R01_Add fun (a, b) hw hc => h a b hw hc
theorem e_R01_Add_ok : e_R01_Add.ok pg := sp_R01_Add fun a b _ hc => by
  rw [Bool.and_eq_true, okM_iff, okM_iff] at hc
  obtain ⟨ha, hb⟩ := hc
  rw [R01_Add]
  simp only [RT.run]
  obtain ⟨D, h1, h2, h3, h4⟩ := add16_l ha.2 hb.2 ha.1 hb.1 (max a.length b.length + 1) 0 0 [] (by omega) (by omega) (by simp) (by simp)
  change (lo R01_Add_b122 (a, b) (((0 : Nat) : Int), ((0 : Nat) : Int), [])).bind _ = _
  rw [h1]
  simp only [Option.bind_some, List.nil_append]
  rw [if_pos (okM_iff.2 ⟨by omega, h2⟩), h3]
  simp
def R01_Sub_b122 : ((List Int) × (List Int)) → (Int × Int × (List Int)) → RT (Int × Int × (List Int)) (List Int)
| (a, b), (under, i, r5) =>
 .rq 5 (.ite (decide (i < (a.length : Int)))
 (.rq 2 (.req (decide (0 ≤ i)) (.rq 2 (.req (decide (0 ≤ i)) (.rq 7 (let t0 := w64 (i + 1);
 let t1 := w64 ((w64 ((dig a i) - (dig b i))) - under);
 .ite (decide (t1 < 0))
 (.rq 7 (let t2 := [w64 (t1 + 65536)];
 .req (apOK 8 r5 t2) (.rq 4 (.again (1, t0, r5 ++ t2)))))
 (.rq 3 (let t3 := [t1];
 .req (apOK 8 r5 t3) (.rq 4 (.again (0, t0, r5 ++ t3)))))))))))
 (.done r5))
def R01_Sub_p122 : Piece := ⟨122, true, [.sl tI, .sl tI], [tI, tI, .sl tI], ⟨[.keep [2, 3, 4, 5, 6, 7], .gc, .nilRow 5 800005 3 tI, .ren 5 700005, .ren 5 900005, .gc], [2, 3, 4, 5, 6, 7], [.lf (qp 32), .lf (qp 48), .lf (qp 64), .lf (qr 900005), .lf (qm 0), .lf (qm 1)], [(32, true, .cells [qi 0]), (48, true, .cells [qi 1]), (64, true, .cells [.fix (.nil)]), (900005, true, .arr 3 (qm 2))]⟩, [⟨2, ⟨[.keep [4, 5], .gc, .nilRow 5 800005 3 tI, .ren 5 700005, .ren 5 900005, .gc], [4, 5], [.lf (qp 64), .lf (qr 900005)], [(64, true, .cells [.fix (.nil)]), (900005, true, .arr 3 (qm 0))]⟩, [.sl tI]⟩], R01_Sub_b122⟩
def R01_Sub : ((List Int) × (List Int)) → RT Unit (List Int)
| (a_0, b_0) =>
 .rq 6 (.call (lo R01_Sub_b122 (a_0, b_0) (0, 0, [])) default fun v0 =>
 .rq 1 (.req (okM 40 v0) (.rq 1 (.done (digs B16 (val B16 v0))))))
def F_R01_Sub (x : (List Int) × (List Int)) : Option (List Int) := (R01_Sub x).run fun _ => none
def io_R01_Sub : Io := ⟨n_R01_Sub, [.sl tI, .sl tI], [.agg [qm 0], .agg [qm 1]], [], [[.sl tI], [.sl tI]], [.sl tI], .agg [qr 0], [], [(true, .arr 3 (qm 0))], false⟩
def R01_Sub_P : List Piece := [R01_Sub_p122]
def R01_Sub_T : CallT := tab [e_R01_Cut, e_R01_digit]
theorem R01_Sub_To : SoundT pg R01_Sub_T := tab_sound ⟨e_R01_Cut_ok, e_R01_digit_ok, trivial⟩
theorem R01_Sub_k122 : (R01_Sub_p122).OK pg (R01_Sub_T) (tell 35 (R01_Sub_P)) (codeOf f_R01_Sub) 35 := ⟨by kernel_rfl, fun i x => by kernel_rfl⟩
theorem R01_Sub_go : FnOK pg (R01_Sub_T) io_R01_Sub f_R01_Sub (R01_Sub_P) [.cellRow 64 0 600064 3 tI, .cellRen 64 0 600064] (R01_Sub) := ⟨by kernel_rfl, by kernel_rfl, fun x => by kernel_rfl⟩
theorem ok_R01_Sub : io_R01_Sub.Okay pg (F_R01_Sub) := fn_ok pg_mixed (R01_Sub_To) (R01_Sub_go) ⟨R01_Sub_k122, trivial⟩
theorem sub16_l {a b : List Int} (ha : wfd B16 a = true) (hb : wfd B16 b = true) (la : a.length ≤ 2 ^ 39) : ∀ (r i u : Nat) (out : List Int), i + r = a.length → u ≤ 1 → out.length ≤ i →
    ∃ D uf, lo R01_Sub_b122 (a, b) ((u : Int), (i : Int), out) = some (out ++ D) ∧ wfd B16 D = true ∧ D.length = r ∧ uf ≤ 1 ∧ val B16 D + val B16 b / B16 ^ i % B16 ^ r + u = val B16 a / B16 ^ i % B16 ^ r + B16 ^ r * uf := by
  intro r
  induction r with
  | zero =>
    intro i u out hi hu hl
    refine ⟨[], u, ?_, rfl, rfl, hu, by simp [val, Nat.mod_one]⟩
    rw [lo_eq, R01_Sub_b122]
    simp only [RT.run]
    rw [if_neg (by simp; omega)]
    simp
  | succ r ih =>
    intro i u out hi hu hl
    rw [lo_eq, R01_Sub_b122]
    obtain ⟨da, ea, ba, va⟩ := dig16 ha i
    obtain ⟨db, eb, bb, vb⟩ := dig16 hb i
    have w1 : w64 ((da : Int) - (db : Int)) = (da : Int) - (db : Int) := by rw [w64_in]; omega
    have w2 : w64 ((da : Int) - (db : Int) - (u : Int)) = (da : Int) - (db : Int) - (u : Int) := by rw [w64_in]; omega
    have w3 : w64 ((da : Int) - (db : Int) - (u : Int) + 65536) = (da : Int) - (db : Int) - (u : Int) + 65536 := by rw [w64_in]; omega
    have w4 : w64 ((i : Int) + 1) = ((i + 1 : Nat) : Int) := by rw [w64_in] <;> omega
    have hp : decide ((0 : Int) ≤ (i : Int)) = true := by simp
    have hq : ∀ x : Int, apOK 8 out [x] = true := fun x => apOK_small (by decide) (by simp; omega)
    simp only [RT.run, ea, eb, w1, w2, w3, w4, hp, if_true, hq]
    rw [if_pos (by simp; omega)]
    have m1 := mod_step B16 (val B16 a / B16 ^ i) r
    have m2 := mod_step B16 (val B16 b / B16 ^ i) r
    rw [Nat.div_div_eq_div_mul, ← Nat.pow_succ, ← va] at m1
    rw [Nat.div_div_eq_div_mul, ← Nat.pow_succ, ← vb] at m2
    have step : ∀ (x u' : Nat), x < 65536 → u' ≤ 1 → x + db + u = da + 65536 * u' → ∃ D uf, lo R01_Sub_b122 (a, b) ((u' : Int), ((i + 1 : Nat) : Int), out ++ [(x : Int)]) = some (out ++ D) ∧ wfd B16 D = true ∧ D.length = r + 1 ∧ uf ≤ 1 ∧
        val B16 D + val B16 b / B16 ^ i % B16 ^ (r + 1) + u = val B16 a / B16 ^ i % B16 ^ (r + 1) + B16 ^ (r + 1) * uf := by
      intro x u' hx hu' hxe
      obtain ⟨D, uf, h1, h2, h3, h4, h5⟩ := ih (i + 1) u' (out ++ [(x : Int)]) (by omega) hu' (by simp; omega)
      refine ⟨(x : Int) :: D, uf, by rw [h1, List.append_assoc]; rfl, wfd_cons.2 ⟨⟨Int.natCast_nonneg _, Int.ofNat_lt.2 hx⟩, h2⟩, by simp [h3], h4, ?_⟩
      have pr : B16 ^ (r + 1) = B16 * B16 ^ r := by rw [Nat.pow_succ, Nat.mul_comm]
      rw [val, Int.toNat_natCast, m1, m2, pr, Nat.mul_assoc, show i.succ = i + 1 from rfl]
      have hB : B16 = 65536 := rfl
      generalize val B16 a / B16 ^ (i + 1) % B16 ^ r = P at *
      generalize val B16 b / B16 ^ (i + 1) % B16 ^ r = Q at *
      generalize B16 ^ r * uf = W at *
      generalize val B16 D = V at *
      rw [hB] at *
      omega
    by_cases h : da < db + u
    · rw [if_pos (by simp; omega)]
      have e : (da : Int) - (db : Int) - (u : Int) + 65536 = ((da + 65536 - db - u : Nat) : Int) := by omega
      rw [e]
      exact step _ 1 (by omega) (by omega) (by omega)
    · rw [if_neg (by simp; omega)]
      have e : (da : Int) - (db : Int) - (u : Int) = ((da - db - u : Nat) : Int) := by omega
      rw [e]
      exact step _ 0 (by omega) (by omega) (by omega)
def e_R01_Sub : Entry := io_R01_Sub.sp (fun (a, b) => okM 39 a && (okM 39 b && decide (val B16 b ≤ val B16 a))) (fun (a, b) => digs B16 (val B16 a - val B16 b))
theorem sp_R01_Sub (h : ∀ (a : List Int) (b : List Int), WfT [.sl tI, .sl tI] (a, b) → (okM 39 a && (okM 39 b && decide (val B16 b ≤ val B16 a))) = true → (R01_Sub (a, b)).run (fun _ => none) = some (digs B16 (val B16 a - val B16 b))) : e_R01_Sub.ok pg := sp_ok ok_R01_Sub fun (a, b) hw hc => h a b hw hc
theorem e_R01_Sub_ok : e_R01_Sub.ok pg := sp_R01_Sub fun a b _ hc => by
  simp only [Bool.and_eq_true, okM_iff, decide_eq_true_eq] at hc
  obtain ⟨ha, hb, hle⟩ := hc
  rw [R01_Sub]
  simp only [RT.run]
  obtain ⟨D, uf, h1, h2, h3, h4, h5⟩ := sub16_l ha.2 hb.2 ha.1 a.length 0 0 [] (by omega) (by omega) (by simp)
  change (lo R01_Sub_b122 (a, b) (((0 : Nat) : Int), ((0 : Nat) : Int), [])).bind _ = _
  rw [h1]
  simp only [Option.bind_some, List.nil_append]
  have hv := val_lt (by decide : 0 < B16) ha.2
  have hd := val_lt (by decide : 0 < B16) h2
  rw [h3] at hd
  rw [Nat.pow_zero, Nat.div_one, Nat.div_one, Nat.mod_eq_of_lt hv, Nat.mod_eq_of_lt (Nat.lt_of_le_of_lt hle hv)] at h5
  have hz : uf = 0 := by
    have : uf ≠ 1 := by
      rintro rfl
      omega
    omega
  subst hz
  rw [if_pos (okM_iff.2 ⟨by omega, h2⟩), show val B16 D = val B16 a - val B16 b by omega]
end
end Go.Proofs.YtlfdidaeachpoaaGreat

namespace Go.Proofs.YtlfdidaeachpoaaGreat
open Go Go.RowKit
set_option maxRecDepth 100000
noncomputable section
def R01_Mul_b7462 : (Int × (List Int) × (List Int)) → (Int × Int × (List Int)) → RT (Int × Int × (List Int)) (List Int)
| (x6, i_2, s), (L, i, r5) =>
 .rq 9 (.ite ((decide (i < (s.length : Int))) || (decide (0 < L)))
 (.rq 4 (let t0 := w64 (x6 + i);
 let t1 := inB r5 t0;
 .req t1 (.rq 4 (.req (inB i_2 x6) (.rq 3 (.req (decide (0 ≤ i)) (.rq 11 (.req t1 (.rq 7 (let t2 := w64 ((w64 ((gI r5 t0) + (w64 ((gI i_2 x6) * (dig s i))))) + L);
 .again (w64 (Int.tdiv t2 65536), w64 (i + 1), sI r5 t0 (Int.tmod t2 65536))))))))))))
 (.done r5))
def R01_Mul_p7462 : Piece := ⟨7462, true, [tI, .sl tI, .sl tI], [tI, tI, .sl tI], ⟨[.keep [2, 3, 4, 5, 6, 7, 8], .gc, .nilRow 5 800005 3 tI, .ren 5 700005, .ren 5 900005, .gc], [2, 3, 4, 5, 6, 7, 8], [.lf (qp 32), .lf (qp 48), .lf (qp 64), .lf (qr 900005), .lf (qi 0), .lf (qm 0), .lf (qm 1)], [(32, true, .cells [qi 1]), (48, true, .cells [qi 2]), (64, true, .cells [.fix (.nil)]), (900005, true, .arr 3 (qm 2))]⟩, [⟨4, ⟨[.keep [2, 3, 4, 5, 6], .gc, .nilRow 5 800005 3 tI, .ren 5 700005, .ren 5 900005, .gc], [2, 3, 4, 5, 6], [.lf (qp 32), .lf (qp 48), .lf (qp 64), .lf (qr 900005), .lf (qi 0)], [(32, true, .cells [qi 1]), (48, true, .cells [qi 2]), (64, true, .cells [.fix (.nil)]), (900005, true, .arr 3 (qm 0))]⟩, [.sl tI]⟩], R01_Mul_b7462⟩
def R01_Mul_b58 : ((List Int) × (List Int)) → (Int × (List Int)) → RT (Int × (List Int)) (List Int)
| (i, s), (x6, r5) =>
 .rq 5 (.ite (decide (x6 < (i.length : Int)))
 (.rq 2 (.call (lo R01_Mul_b7462 (x6, i, s) (0, 0, r5)) default fun v0 =>
 .rq 3 (.again (w64 (x6 + 1), v0))))
 (.done r5))
def R01_Mul_p58 : Piece := ⟨58, true, [.sl tI, .sl tI], [tI, .sl tI], ⟨[.keep [2, 3, 4, 5, 6], .gc, .nilRow 5 800005 3 tI, .ren 5 700005, .ren 5 900005, .gc], [2, 3, 4, 5, 6], [.lf (qp 32), .lf (qp 48), .lf (qp 64), .lf (qr 900005), .lf (qm 0)], [(32, true, .cells [qi 0]), (48, true, .cells [qi 1]), (64, true, .cells [.fix (.nil)]), (900005, true, .arr 3 (qm 1))]⟩, [⟨2, ⟨[.keep [4, 5], .gc, .nilRow 5 800005 3 tI, .ren 5 700005, .ren 5 900005, .gc], [4, 5], [.lf (qp 64), .lf (qr 900005)], [(64, true, .cells [.fix (.nil)]), (900005, true, .arr 3 (qm 0))]⟩, [.sl tI]⟩], R01_Mul_b58⟩
def R01_Mul : ((List Int) × (List Int)) → RT Unit (List Int)
| (a0_0, l_0) =>
 .rq 11 (let t0 := w64 ((w64 ((a0_0.length : Int) + (l_0.length : Int))) + 1);
 .req (mkOK 8 t0) (.rq 2 (.call (lo R01_Mul_b58 (a0_0, l_0) (0, repI t0 0)) default fun v1 =>
 .rq 1 (.req (okM 40 v1) (.rq 1 (.done (digs B16 (val B16 v1))))))))
def F_R01_Mul (x : (List Int) × (List Int)) : Option (List Int) := (R01_Mul x).run fun _ => none
def io_R01_Mul : Io := ⟨n_R01_Mul, [.sl tI, .sl tI], [.agg [qm 0], .agg [qm 1]], [], [[.sl tI], [.sl tI]], [.sl tI], .agg [qr 0], [], [(true, .arr 3 (qm 0))], false⟩
def R01_Mul_P : List Piece := [R01_Mul_p7462, R01_Mul_p58]
def R01_Mul_T : CallT := tab [e_R01_Cut, e_R01_digit]
theorem R01_Mul_To : SoundT pg R01_Mul_T := tab_sound ⟨e_R01_Cut_ok, e_R01_digit_ok, trivial⟩
theorem R01_Mul_k7462 : (R01_Mul_p7462).OK pg (R01_Mul_T) (tell 66 (R01_Mul_P)) (codeOf f_R01_Mul) 66 := ⟨by kernel_rfl, fun i x => by kernel_rfl⟩
theorem R01_Mul_k58 : (R01_Mul_p58).OK pg (R01_Mul_T) (tell 66 (R01_Mul_P)) (codeOf f_R01_Mul) 66 := ⟨by kernel_rfl, fun i x => by kernel_rfl⟩
theorem R01_Mul_go : FnOK pg (R01_Mul_T) io_R01_Mul f_R01_Mul (R01_Mul_P) [.cellRow 64 0 600064 3 tI, .cellRen 64 0 600064] (R01_Mul) := ⟨by kernel_rfl, by kernel_rfl, fun x => by kernel_rfl⟩
theorem ok_R01_Mul : io_R01_Mul.Okay pg (F_R01_Mul) := fn_ok pg_mixed (R01_Mul_To) (R01_Mul_go) ⟨R01_Mul_k7462, R01_Mul_k58, trivial⟩
theorem getD_zero16 {xs : List Int} (h : wfd B16 xs = true) {t s : Nat} (hv : val B16 xs < B16 ^ s) (ht : s ≤ t) : xs.getD t 0 = 0 := by
  rw [← val_digit (by decide : 0 < B16) t h, Nat.div_eq_of_lt (Nat.lt_of_lt_of_le hv (Nat.pow_le_pow_right (by decide) ht))]
  rfl
theorem mul16_in {a b : List Int} {i : Nat} (ha : wfd B16 a = true) (hb : wfd B16 b = true) (hi : i < a.length) (la : a.length ≤ 2 ^ 38) (lb : b.length ≤ 2 ^ 38) : ∀ (r j o : Nat) (d : List Int), j + r = b.length + 1 → o < 65536 → (r = 0 → o = 0) →
    i + b.length + 1 ≤ d.length → d.length ≤ 2 ^ 40 → wfd B16 d = true → (0 < r → d.getD (i + b.length) 0 = 0) →
    ∃ d', lo R01_Mul_b7462 ((i : Int), a, b) ((o : Int), (j : Int), d) = some d' ∧ wfd B16 d' = true ∧ d'.length = d.length ∧ val B16 d' = val B16 d + B16 ^ (i + j) * (o + (a.getD i 0).toNat * (val B16 b / B16 ^ j)) := by
  intro r
  induction r with
  | zero =>
    intro j o d hj ho hz hl hl2 hd _
    have := hz rfl
    subst this
    refine ⟨d, ?_, hd, rfl, by rw [div_pow_zero hb (by omega)]; simp⟩
    rw [lo_eq, R01_Mul_b7462]
    simp only [RT.run]
    rw [if_neg (by simp; omega)]
  | succ r ih =>
    intro j o d hj ho _ hl hl2 hd hzero
    rw [lo_eq, R01_Mul_b7462]
    obtain ⟨ai, ea, ba⟩ := getD16 ha i
    obtain ⟨db, eb, bb, vb⟩ := dig16 hb j
    obtain ⟨x0, ex, bx⟩ := getD16 hd (i + j)
    have hab : ai * db ≤ 65535 * 65535 := Nat.mul_le_mul (by omega) (by omega)
    have w0 : w64 ((i : Int) + (j : Int)) = ((i + j : Nat) : Int) := by rw [w64_in] <;> omega
    have w1 : w64 ((ai : Int) * (db : Int)) = ((ai * db : Nat) : Int) := by rw [← Int.natCast_mul, w64_in]; omega
    have w2 : w64 ((x0 : Int) + ((ai * db : Nat) : Int)) = ((x0 + ai * db : Nat) : Int) := by rw [← Int.natCast_add, w64_in]; omega
    have w3 : w64 (((x0 + ai * db : Nat) : Int) + (o : Int)) = ((x0 + ai * db + o : Nat) : Int) := by rw [← Int.natCast_add, w64_in]; omega
    have w4 : w64 (((x0 + ai * db + o) / 65536 : Nat) : Int) = (((x0 + ai * db + o) / 65536 : Nat) : Int) := by rw [w64_in]; omega
    have w5 : w64 ((j : Int) + 1) = ((j + 1 : Nat) : Int) := by rw [w64_in] <;> omega
    have q1 : inB d ((i + j : Nat) : Int) = true := inB_t (by omega)
    have q2 : inB a (i : Int) = true := inB_t (by omega)
    have q3 : decide ((0 : Int) ≤ (j : Int)) = true := by simp
    simp only [RT.run, w0, q1, q2, q3, if_true, gIn, sIn, ea, eb, ex, w1, w2, w3, w4, w5, tdiv16, tmod16]
    have step : ∃ d', lo R01_Mul_b7462 ((i : Int), a, b) ((((x0 + ai * db + o) / 65536 : Nat) : Int), ((j + 1 : Nat) : Int), d.set (i + j) (((x0 + ai * db + o) % 65536 : Nat) : Int)) = some d' ∧ wfd B16 d' = true ∧ d'.length = d.length ∧
        val B16 d' = val B16 d + B16 ^ (i + j) * (o + ai * (val B16 b / B16 ^ j)) := by
      have hlt : (x0 + ai * db + o) / 65536 < 65536 := by omega
      obtain ⟨d', h1, h2, h3, h4⟩ := ih (j + 1) ((x0 + ai * db + o) / 65536) (d.set (i + j) (((x0 + ai * db + o) % 65536 : Nat) : Int)) (by omega) hlt (fun h => by
        subst h
        have ej : j = b.length := by omega
        have z := hzero (by omega)
        rw [← ej, ex] at z
        have z2 := div_pow_zero hb (i := j) (by omega)
        rw [z2] at vb
        simp at vb
        subst vb
        have : x0 = 0 := by omega
        subst this
        simp
        omega) (by rw [List.length_set]; omega) (by rw [List.length_set]; omega) (wfd_set hd ⟨Int.natCast_nonneg _, Int.ofNat_lt.2 (Nat.mod_lt _ (by decide))⟩) (fun h => by
        rw [List.getD, List.getElem?_set, if_neg (by omega)]
        exact hzero (by omega))
      refine ⟨d', h1, h2, by rw [h3, List.length_set], ?_⟩
      have hv := val_set (b := B16) (xs := d) (i := i + j) (d := (((x0 + ai * db + o) % 65536 : Nat) : Int)) (by omega)
      rw [ex, Int.toNat_natCast, Int.toNat_natCast] at hv
      rw [h4, ea, Int.toNat_natCast]
      have s2 := div_step (val B16 b) j
      rw [← vb] at s2
      rw [s2, show i + (j + 1) = (i + j) + 1 by omega, Nat.pow_succ]
      have hx := Nat.mod_add_div (x0 + ai * db + o) 65536
      generalize val B16 (d.set (i + j) (((x0 + ai * db + o) % 65536 : Nat) : Int)) = V' at *
      generalize val B16 b / B16 ^ (j + 1) = T at *
      generalize (x0 + ai * db + o) / 65536 = qd at *
      generalize (x0 + ai * db + o) % 65536 = md at *
      generalize B16 ^ (i + j) = P at *
      have hB : B16 = 65536 := rfl
      have e1 : P * (md + 65536 * qd) = P * (x0 + ai * db + o) := by rw [hx]
      simp only [Nat.mul_add, ← Nat.mul_assoc, hB] at e1 hv ⊢
      rw [Nat.mul_right_comm P ai 65536]
      omega
    by_cases h1 : (decide ((j : Int) < (b.length : Int)) || decide ((0 : Int) < (o : Int))) = true
    · rw [if_pos h1]
      exact step
    · rw [if_neg h1]
      simp only [Bool.or_eq_true, decide_eq_true_eq, not_or] at h1
      refine ⟨d, rfl, hd, rfl, ?_⟩
      rw [div_pow_zero hb (by omega)]
      have : o = 0 := by omega
      subst this
      simp
theorem mul16_l {a b : List Int} (ha : wfd B16 a = true) (hb : wfd B16 b = true) (la : a.length ≤ 2 ^ 38) (lb : b.length ≤ 2 ^ 38) : ∀ (r i : Nat) (d : List Int), i + r = a.length →
    d.length = a.length + b.length + 1 → wfd B16 d = true → val B16 d < B16 ^ (i + b.length) →
    ∃ d', lo R01_Mul_b58 (a, b) ((i : Int), d) = some d' ∧ wfd B16 d' = true ∧ d'.length = d.length ∧ val B16 d' = val B16 d + B16 ^ i * ((val B16 a / B16 ^ i) * val B16 b) := by
  intro r
  induction r with
  | zero =>
    intro i d hi hl hd hv
    refine ⟨d, ?_, hd, rfl, by rw [div_pow_zero ha (by omega)]; simp⟩
    rw [lo_eq, R01_Mul_b58]
    simp only [RT.run]
    rw [if_neg (by simp; omega)]
  | succ r ih =>
    intro i d hi hl hd hv
    rw [lo_eq, R01_Mul_b58]
    obtain ⟨ai, ea, ba⟩ := getD16 ha i
    have va : val B16 a / B16 ^ i % B16 = ai := by
      have := val_digit (by decide : 0 < B16) i ha
      rw [ea] at this; exact Int.ofNat_inj.1 this
    obtain ⟨d1, g1, g2, g3, g4⟩ := mul16_in ha hb (i := i) (by omega) la lb (b.length + 1) 0 0 d (by omega) (by omega) (by omega) (by omega) (by omega) hd (fun _ => getD_zero16 hd hv (Nat.le_refl _))
    rw [ea, Int.toNat_natCast, Nat.pow_zero, Nat.div_one, Nat.zero_add, Nat.add_zero] at g4
    have w : w64 ((i : Int) + 1) = ((i + 1 : Nat) : Int) := by rw [w64_in] <;> omega
    simp only [RT.run]
    rw [if_pos (by simp; omega)]
    have g1' : lo R01_Mul_b7462 ((i : Int), a, b) ((0 : Int), (0 : Int), d) = some d1 := g1
    rw [g1']
    simp only [Option.bind_some, w]
    have hbl := val_lt (by decide : 0 < B16) hb
    have pi : 0 < B16 ^ i := Nat.pow_pos (by decide)
    have hv1 : val B16 d1 < B16 ^ (i + 1 + b.length) := by
      rw [g4]
      have e1 : B16 ^ (i + 1 + b.length) = B16 ^ i * (B16 ^ b.length * B16) := by rw [show i + 1 + b.length = i + (b.length + 1) by omega, Nat.pow_add, Nat.pow_succ]
      have e2 : ai * val B16 b ≤ 65535 * val B16 b := Nat.mul_le_mul_right _ (by omega)
      have e3 : B16 ^ i * (ai * val B16 b) ≤ B16 ^ i * (65535 * B16 ^ b.length) := Nat.mul_le_mul_left _ (Nat.le_trans e2 (Nat.mul_le_mul_left _ (Nat.le_of_lt hbl)))
      rw [Nat.pow_add] at hv
      rw [e1]
      have hB : B16 = 65536 := rfl
      have e4 : B16 ^ i * (B16 ^ b.length * B16) = B16 ^ i * B16 ^ b.length + B16 ^ i * (65535 * B16 ^ b.length) := by
        rw [← Nat.mul_add, Nat.mul_comm (B16 ^ b.length) B16]
        congr 1
        generalize B16 ^ b.length = Z
        rw [hB]
        omega
      omega
    obtain ⟨d', h1, h2, h3, h4⟩ := ih (i + 1) d1 (by omega) (by omega) g2 hv1
    refine ⟨d', h1, h2, by omega, ?_⟩
    have s1 := div_step (val B16 a) i
    rw [va] at s1
    rw [h4, g4, s1, Nat.pow_succ]
    generalize val B16 a / B16 ^ (i + 1) = T
    generalize B16 ^ i = P
    simp only [Nat.add_mul, Nat.mul_add, Nat.mul_assoc, Nat.add_assoc]
def e_R01_Mul : Entry := io_R01_Mul.sp (fun (a, b) => okM 38 a && okM 38 b) (fun (a, b) => digs B16 (val B16 a * val B16 b))
theorem sp_R01_Mul (h : ∀ (a : List Int) (b : List Int), WfT [.sl tI, .sl tI] (a, b) → (okM 38 a && okM 38 b) = true → (R01_Mul (a, b)).run (fun _ => none) = some (digs B16 (val B16 a * val B16 b))) : e_R01_Mul.ok pg := sp_ok ok_R01_Mul fun (a, b) hw hc => h a b hw hc
theorem e_R01_Mul_ok : e_R01_Mul.ok pg := sp_R01_Mul fun a b _ hc => by
  rw [Bool.and_eq_true, okM_iff, okM_iff] at hc
  obtain ⟨ha, hb⟩ := hc
  rw [R01_Mul]
  have w1 : w64 ((a.length : Int) + (b.length : Int)) = ((a.length + b.length : Nat) : Int) := by rw [w64_in] <;> omega
  have w2 : w64 (((a.length + b.length : Nat) : Int) + 1) = ((a.length + b.length + 1 : Nat) : Int) := by rw [w64_in] <;> omega
  simp only [RT.run, w1, w2, repI, Int.toNat_natCast]
  rw [if_pos (by rw [mkOK_iff]; omega)]
  have z : val B16 (List.replicate (a.length + b.length + 1) 0) = 0 := val_replicate _ _
  obtain ⟨d', h1, h2, h3, h4⟩ := mul16_l ha.2 hb.2 ha.1 hb.1 a.length 0 (List.replicate (a.length + b.length + 1) 0) (by omega) (by simp) (wfd_replicate (by decide)) (by rw [z]; exact Nat.pow_pos (by decide))
  have h1' : lo R01_Mul_b58 (a, b) ((0 : Int), List.replicate (a.length + b.length + 1) 0) = some d' := h1
  rw [h1']
  simp only [Option.bind_some]
  rw [List.length_replicate] at h3
  rw [if_pos (okM_iff.2 ⟨by omega, h2⟩), h4, z]
  simp
def R01_Div_b62620 : ((List Int) × (List Int)) → (Int × Int) → RT (Int × Int) Int
| (s_2, r112), (s, t) =>
 .rq 3 (.ite (decide (s < t))
 (.rq 10 (let t0 := w64 (Int.tdiv (w64 ((w64 (s + t)) + 1)) 2);
 let t1 := digs B16 (wu64 t0).toNat;
 .req (okM 38 s_2 && okM 38 t1) (.rq 1 (let t2 := digs B16 (val B16 s_2 * val B16 t1);
 .req (wfd B16 t2 && wfd B16 r112) (.rq 1 (.ite (decide ((cmpI ((val B16 t2 : Nat) : Int) ((val B16 r112 : Nat) : Int)) ≤ 0))
 (.rq 2 (.again (t0, t)))
 (.rq 3 (.again (s, w64 (t0 - 1))))))))))
 (.done s))
def R01_Div_p62620 : Piece := ⟨62620, true, [tI, .sl tI, .sl tI, .sl tI, .sl tI], [tI, tI], ⟨[.keep [2, 3, 4, 5, 6, 7, 8, 9, 10], .gc, .nilRow 6 800006 3 tI, .ren 6 700006, .ren 6 900006, .cellRow 112 0 600112 3 tI, .cellRen 112 0 600112, .gc], [2, 3, 4, 5, 6, 7, 8, 9, 10], [.lf (qp 32), .lf (qp 48), .lf (qp 64), .lf (qp 80), .lf (qr 900006), .lf (qp 112), .lf (qi 0), .lf (qm 0), .lf (qm 1)], [(32, true, .cells [qi 1]), (48, true, .cells [qi 2]), (64, true, .cells [.fix (.nil)]), (80, true, .cells [.fix (.nil)]), (900006, true, .arr 3 (qi 3)), (112, true, .cells [qr 600112]), (600112, true, .arr 3 (qi 4))]⟩, [⟨4, ⟨[.keep [2, 3, 4, 5, 6, 7, 8, 9], .gc, .nilRow 6 800006 3 tI, .ren 6 700006, .ren 6 900006, .cellRow 112 0 600112 3 tI, .cellRen 112 0 600112, .gc], [2, 3, 4, 5, 6, 7, 8, 9], [.lf (qp 32), .lf (qp 48), .lf (qp 64), .lf (qp 80), .lf (qr 900006), .lf (qp 112), .lf (qi 0), .lf (qm 0)], [(32, true, .cells [qi 1]), (48, true, .cells [qi 2]), (64, true, .cells [.fix (.nil)]), (80, true, .cells [.fix (.nil)]), (900006, true, .arr 3 (qi 3)), (112, true, .cells [qr 600112]), (600112, true, .arr 3 (qi 4))]⟩, [tI]⟩], (fun i => R01_Div_b62620 (i.2.2.1, i.2.2.2.2))⟩
def R01_Div_b122 : ((List Int) × (List Int)) → (Int × (List Int) × (List Int)) → RT (Int × (List Int) × (List Int)) ((List Int) × (List Int))
| (i_2, s), (i, r6, r112) =>
 .rq 2 (.ite (decide (0 ≤ i))
 (.rq 3 (.req (inB i_2 i) (.rq 4 (let t0 := [gI i_2 i];
 .req (apOK 8 t0 r112) (let t1 := t0 ++ r112;
 .req (okM 40 t1) (.rq 3 (let t2 := digs B16 (val B16 t1);
 .call (lo R01_Div_b62620 (s, t2) (0, 65535)) default fun v1 =>
 .rq 3 (.req (inB r6 i) (.rq 6 (.req (okM 38 s && okM 38 (digs B16 (wu64 v1).toNat)) (let t3 := digs B16 (val B16 s * val B16 (digs B16 (wu64 v1).toNat));
 .req (okM 39 t2 && (okM 39 t3 && decide (val B16 t3 ≤ val B16 t2))) (.rq 4 (.again (w64 (i - 1), sI r6 i v1, digs B16 (val B16 t2 - val B16 t3)))))))))))))))
 (.done (r6, r112)))
def R01_Div_p122 : Piece := ⟨122, true, [.sl tI, .sl tI], [tI, .sl tI, .sl tI], ⟨[.keep [2, 3, 4, 5, 6, 7, 8], .gc, .nilRow 6 800006 3 tI, .ren 6 700006, .ren 6 900006, .cellRow 112 0 600112 3 tI, .cellRen 112 0 600112, .gc], [2, 3, 4, 5, 6, 7, 8], [.lf (qp 32), .lf (qp 48), .lf (qp 64), .lf (qp 80), .lf (qr 900006), .lf (qp 112), .lf (qm 0)], [(32, true, .cells [qi 0]), (48, true, .cells [qi 1]), (64, true, .cells [.fix (.nil)]), (80, true, .cells [.fix (.nil)]), (900006, true, .arr 3 (qm 1)), (112, true, .cells [qr 600112]), (600112, true, .arr 3 (qm 2))]⟩, [⟨2, ⟨[.keep [4, 5, 6, 7], .gc, .nilRow 6 800006 3 tI, .ren 6 700006, .ren 6 900006, .cellRow 112 0 600112 3 tI, .cellRen 112 0 600112, .gc], [4, 5, 6, 7], [.lf (qp 64), .lf (qp 80), .lf (qr 900006), .lf (qp 112)], [(64, true, .cells [.fix (.nil)]), (80, true, .cells [.fix (.nil)]), (900006, true, .arr 3 (qm 0)), (112, true, .cells [qr 600112]), (600112, true, .arr 3 (qm 1))]⟩, [.sl tI, .sl tI]⟩], R01_Div_b122⟩
def R01_Div : ((List Int) × (List Int)) → RT Unit ((List Int) × (List Int))
| (a0_0, l_0) =>
 .rq 7 (.req (mkOK 8 (a0_0.length : Int)) (.rq 9 (.call (lo R01_Div_b122 (a0_0, l_0) (w64 ((a0_0.length : Int) - 1), repI (a0_0.length : Int) 0, [])) default fun v2 =>
 .rq 1 (.req (okM 40 v2.1) (.rq 3 (.done (digs B16 (val B16 v2.1), v2.2)))))))
def F_R01_Div (x : (List Int) × (List Int)) : Option ((List Int) × (List Int)) := (R01_Div x).run fun _ => none
def io_R01_Div : Io := ⟨n_R01_Div, [.sl tI, .sl tI], [.agg [qm 0], .agg [qm 1]], [], [[.sl tI], [.sl tI]], [.sl tI, .sl tI], .tup [(true, [qr 0]), (true, [qr 1])], [], [(true, .arr 3 (qm 0)), (true, .arr 3 (qm 1))], false⟩
def R01_Div_P : List Piece := [R01_Div_p62620, R01_Div_p122]
def R01_Div_T : CallT := tab [e_R01_Mul, e_R01_Sub, e_R01_Cmp, e_R01_Of, e_R01_Cut]
theorem R01_Div_To : SoundT pg R01_Div_T := tab_sound ⟨e_R01_Mul_ok, e_R01_Sub_ok, e_R01_Cmp_ok, e_R01_Of_ok, e_R01_Cut_ok, trivial⟩
theorem R01_Div_k62620 : (R01_Div_p62620).OK pg (R01_Div_T) (tell 68 (R01_Div_P)) (codeOf f_R01_Div) 68 := ⟨by kernel_rfl, fun i x => by kernel_rfl⟩
theorem R01_Div_k122 : (R01_Div_p122).OK pg (R01_Div_T) (tell 68 (R01_Div_P)) (codeOf f_R01_Div) 68 := ⟨by kernel_rfl, fun i x => by kernel_rfl⟩
theorem R01_Div_go : FnOK pg (R01_Div_T) io_R01_Div f_R01_Div (R01_Div_P) [.cellRow 64 0 600064 3 tI, .cellRow 80 0 600080 3 tI, .cellRen 64 0 600064, .cellRen 80 0 600080] (R01_Div) := ⟨by kernel_rfl, by kernel_rfl, fun x => by kernel_rfl⟩
theorem ok_R01_Div : io_R01_Div.Okay pg (F_R01_Div) := fn_ok pg_mixed (R01_Div_To) (R01_Div_go) ⟨R01_Div_k62620, R01_Div_k122, trivial⟩
theorem digs16_lt {x m : Nat} (h : x < B16 ^ m) : (digs B16 x).length ≤ m := by
  by_cases hx : x = 0
  · subst hx
    rw [digs_zero]
    exact Nat.zero_le _
  obtain ⟨k, h1, h2, h3⟩ := digs_size (b := B16) (by decide) (Nat.pos_of_ne_zero hx)
  have := (Nat.pow_lt_pow_iff_right (by decide : 1 < B16)).1 (Nat.lt_of_le_of_lt h2 h)
  omega
theorem okM_lt {x m k : Nat} (h : x < B16 ^ m) (hm : m ≤ 2 ^ k) : okM k (digs B16 x) = true := okM_iff.2 ⟨Nat.le_trans (digs16_lt h) hm, wfd_digs (by decide) _⟩
theorem div16_in {b : List Int} {R V : Nat} (hb : wfd B16 b = true) (lb : b.length ≤ 2 ^ 37) (hV : val B16 b = V) (hV0 : 0 < V) (hR : R < B16 * V) : ∀ (s l hi : Nat), hi - l = s → l ≤ hi → hi ≤ 65535 → l * V ≤ R → R < (hi + 1) * V →
    lo R01_Div_b62620 (b, digs B16 R) ((l : Int), (hi : Int)) = some ((R / V : Nat) : Int) := by
  have hVl : V < B16 ^ b.length := by rw [← hV]; exact val_lt (by decide) hb
  have hRl : R < B16 ^ (b.length + 1) := by
    refine Nat.lt_trans hR ?_
    rw [Nat.pow_succ, Nat.mul_comm (B16 ^ b.length)]
    exact (Nat.mul_lt_mul_left (by decide)).2 hVl
  intro s
  induction s using Nat.strongRecOn with
  | ind s ih =>
    intro l hi hs hle hhi h1 h2
    rw [lo_eq, R01_Div_b62620]
    by_cases hlt : l < hi
    · obtain ⟨m, hm⟩ : ∃ m, m = (l + hi + 1) / 2 := ⟨_, rfl⟩
      have w1 : w64 ((l : Int) + (hi : Int)) = ((l + hi : Nat) : Int) := by rw [w64_in] <;> omega
      have w2 : w64 (((l + hi : Nat) : Int) + 1) = ((l + hi + 1 : Nat) : Int) := by rw [w64_in] <;> omega
      have w3 : ((l + hi + 1 : Nat) : Int).tdiv 2 = (m : Int) := by rw [hm]; exact tdivN _ 2
      have w4 : w64 (m : Int) = (m : Int) := w64_in (by omega)
      have w5 : wu64 (m : Int) = (m : Int) := wu64_in (by omega)
      have w6 : w64 ((m : Int) - 1) = ((m - 1 : Nat) : Int) := by rw [w64_in] <;> omega
      have hmB : m < B16 := by have hB : B16 = 65536 := rfl; omega
      have hVm : V * m < B16 ^ (b.length + 1) := by
        rw [Nat.pow_succ]
        exact Nat.lt_of_lt_of_le ((Nat.mul_lt_mul_right (by omega)).2 hVl) (Nat.mul_le_mul_left _ (Nat.le_of_lt hmB))
      have vm : val B16 (digs B16 m) = m := val_digs (by decide) _
      have vVm : val B16 (digs B16 (V * m)) = V * m := val_digs (by decide) _
      have vR : val B16 (digs B16 R) = R := val_digs (by decide) _
      have c2 : (okM 38 b && okM 38 (digs B16 m)) = true := by rw [okM_iff.2 ⟨by omega, hb⟩, okM_lt (m := 1) (by simpa using hmB) (by decide)]; rfl
      have c3 : (wfd B16 (digs B16 (V * m)) && wfd B16 (digs B16 R)) = true := by rw [wfd_digs (by decide), wfd_digs (by decide)]; rfl
      simp only [RT.run, w1, w2, w3, w4, w5, w6, Int.toNat_natCast, c2, hV, vm, c3, vVm, vR, if_true]
      rw [if_pos (by simp; omega)]
      by_cases hc : m * V ≤ R
      · rw [if_pos (by
          have : cmpI ((V * m : Nat) : Int) (R : Int) ≤ 0 := by
            unfold cmpI
            rw [Nat.mul_comm]
            split
            · omega
            · rw [if_neg (by omega)]; omega
          simpa using this)]
        exact ih (hi - m) (by omega) m hi rfl (by omega) hhi hc h2
      · rw [if_neg (by
          have : ¬ cmpI ((V * m : Nat) : Int) (R : Int) ≤ 0 := by
            unfold cmpI
            rw [Nat.mul_comm]
            rw [if_neg (by omega), if_pos (by omega)]
            omega
          simpa using this)]
        exact ih (m - 1 - l) (by omega) l (m - 1) rfl (by omega) (by omega) h1 (by rw [show m - 1 + 1 = m by omega]; omega)
    · have : l = hi := by omega
      subst this
      simp only [RT.run]
      rw [if_neg (by simp)]
      congr 2
      rw [Nat.div_eq_of_lt_le h1 h2]
theorem div16_l {a b : List Int} {V : Nat} (ha : wfd B16 a = true) (hb : wfd B16 b = true) (la : a.length ≤ 2 ^ 37) (lb : b.length ≤ 2 ^ 37) (hV : val B16 b = V) (hV0 : 0 < V) : ∀ (m : Nat) (q : List Int) (R : Nat), m ≤ a.length →
    R < V → q.length = a.length → wfd B16 q = true → (∀ i, i < m → q.getD i 0 = 0) →
    ∃ q' D, lo R01_Div_b122 (a, b) ((m : Int) - 1, q, digs B16 R) = some (q', digs B16 ((val B16 a % B16 ^ m + B16 ^ m * R) % V)) ∧ wfd B16 q' = true ∧ q'.length = a.length ∧ val B16 q' = val B16 q + D ∧ D = (val B16 a % B16 ^ m + B16 ^ m * R) / V := by
  intro m
  induction m with
  | zero =>
    intro q R _ hR hl hq _
    refine ⟨q, 0, ?_, hq, hl, rfl, by simp [Nat.mod_one, Nat.div_eq_of_lt hR]⟩
    rw [lo_eq, R01_Div_b122]
    simp [RT.run, Nat.mod_one, Nat.mod_eq_of_lt hR]
  | succ m ih =>
    intro q R hm hR hl hq hz
    rw [lo_eq, R01_Div_b122]
    obtain ⟨am, ea, ba⟩ := getD16 ha m
    have va : val B16 a / B16 ^ m % B16 = am := by
      have := val_digit (by decide : 0 < B16) m ha
      rw [ea] at this; exact Int.ofNat_inj.1 this
    have hVl : V < B16 ^ b.length := by rw [← hV]; exact val_lt (by decide) hb
    have hB : B16 = 65536 := rfl
    obtain ⟨R', hR'⟩ : ∃ R', R' = am + B16 * R := ⟨_, rfl⟩
    have hR'V : R' < B16 * V := by
      have : B16 * (R + 1) ≤ B16 * V := Nat.mul_le_mul_left _ hR
      rw [Nat.mul_add, Nat.mul_one] at this
      omega
    have hR'l : R' < B16 ^ (b.length + 1) := by
      refine Nat.lt_trans hR'V ?_
      rw [Nat.pow_succ, Nat.mul_comm (B16 ^ b.length)]
      exact (Nat.mul_lt_mul_left (by decide)).2 hVl
    have hRl : R < B16 ^ b.length := Nat.lt_trans hR hVl
    have wx : wfd B16 ((am : Int) :: digs B16 R) = true := wfd_cons.2 ⟨⟨Int.natCast_nonneg _, by omega⟩, wfd_digs (by decide) _⟩
    have vx : val B16 ((am : Int) :: digs B16 R) = R' := by rw [val, Int.toNat_natCast, val_digs (by decide), hR']
    have lR := digs16_lt hRl
    obtain ⟨Q, hQ⟩ : ∃ Q, Q = R' / V := ⟨_, rfl⟩
    have hQB : Q < B16 := by rw [hQ, Nat.div_lt_iff_lt_mul hV0]; exact hR'V
    have hdm := Nat.div_add_mod R' V
    rw [← hQ] at hdm
    have hin := div16_in hb lb hV hV0 hR'V 65535 0 65535 rfl (by omega) (Nat.le_refl _) (by omega) hR'V
    rw [← hQ] at hin
    have hin' : lo R01_Div_b62620 (b, digs B16 R') ((0 : Int), (65535 : Int)) = some (Q : Int) := hin
    have e0 : (((m + 1 : Nat) : Int) - 1) = (m : Int) := by omega
    have w1 : wu64 (Q : Int) = (Q : Int) := wu64_in (by omega)
    have w2 : w64 ((m : Int) - 1) = (m : Int) - 1 := w64_in (by omega)
    have vQ : val B16 (digs B16 Q) = Q := val_digs (by decide) _
    have vVQ : val B16 (digs B16 (V * Q)) = V * Q := val_digs (by decide) _
    have vR' : val B16 (digs B16 R') = R' := val_digs (by decide) _
    have hVQ : V * Q ≤ R' := Nat.le.intro hdm
    have c0 : decide ((0 : Int) ≤ (m : Int)) = true := by simp
    have c1 : inB a (m : Int) = true := inB_t (by omega)
    have c2 : apOK 8 [(am : Int)] (digs B16 R) = true := apOK_small (by decide) (by simp; omega)
    have c3 : okM 40 ([(am : Int)] ++ digs B16 R) = true := okM_iff.2 ⟨by simp; omega, wx⟩
    have c4 : inB q (m : Int) = true := inB_t (by omega)
    have c6 : (okM 38 b && okM 38 (digs B16 Q)) = true := by rw [okM_iff.2 ⟨by omega, hb⟩, okM_lt (m := 1) (by simpa using hQB) (by decide)]; rfl
    have c7 : (okM 39 (digs B16 R') && (okM 39 (digs B16 (V * Q)) && decide (V * Q ≤ R'))) = true := by
      rw [okM_lt hR'l (by omega), okM_lt (Nat.lt_of_le_of_lt hVQ hR'l) (by omega), decide_eq_true hVQ]; rfl
    have vx' : val B16 ([(am : Int)] ++ digs B16 R) = R' := vx
    simp only [RT.run, e0, gIn, sIn, ea]
    rw [if_pos c0, if_pos c1, if_pos c2, if_pos c3, vx', hin']
    simp only [Option.bind_some, w1, w2, Int.toNat_natCast, hV, vQ, vVQ, vR']
    rw [if_pos c4, if_pos c6, if_pos c7]
    have hRm : R' - V * Q = R' % V := by omega
    rw [hRm]
    have hq1 : wfd B16 (q.set m (Q : Int)) = true := wfd_set hq ⟨Int.natCast_nonneg _, Int.ofNat_lt.2 hQB⟩
    have hqv := val_set (b := B16) (xs := q) (i := m) (d := (Q : Int)) (by omega)
    rw [hz m (by omega)] at hqv
    simp only [Int.toNat_natCast, Int.toNat_zero, Nat.mul_zero, Nat.add_zero] at hqv
    obtain ⟨q', D, h1, h2, h3, h4, h5⟩ := ih (q.set m (Q : Int)) (R' % V) (by omega) (Nat.mod_lt _ hV0) (by rw [List.length_set]; exact hl) hq1
      (fun i hi => by rw [List.getD, List.getElem?_set]; rw [if_neg (by omega)]; exact hz i (by omega))
    have key : val B16 a % B16 ^ (m + 1) + B16 ^ (m + 1) * R = (val B16 a % B16 ^ m + B16 ^ m * (R' % V)) + B16 ^ m * Q * V := by
      rw [mod_top B16 (val B16 a) m, va, Nat.pow_succ, Nat.mul_assoc (B16 ^ m) B16 R, Nat.mul_assoc (B16 ^ m) Q V]
      have : B16 ^ m * (V * Q + R' % V) = B16 ^ m * (am + B16 * R) := by rw [hdm, hR']
      rw [Nat.mul_add, Nat.mul_add, Nat.mul_comm V Q] at this
      omega
    refine ⟨q', D + B16 ^ m * Q, ?_, h2, h3, by rw [h4]; omega, ?_⟩
    · rw [h1, key, Nat.add_mul_mod_self_right]
    · rw [key, Nat.add_mul_div_right _ _ hV0, h5]
def e_R01_Div : Entry := io_R01_Div.sp (fun (a, b) => okM 37 a && (okM 37 b && decide (0 < val B16 b))) (fun (a, b) => (digs B16 (val B16 a / val B16 b), digs B16 (val B16 a % val B16 b)))
theorem sp_R01_Div (h : ∀ (a : List Int) (b : List Int), WfT [.sl tI, .sl tI] (a, b) → (okM 37 a && (okM 37 b && decide (0 < val B16 b))) = true → (R01_Div (a, b)).run (fun _ => none) = some (digs B16 (val B16 a / val B16 b), digs B16 (val B16 a % val B16 b))) : e_R01_Div.ok pg := sp_ok ok_R01_Div fun (a, b) hw hc => h a b hw hc
theorem e_R01_Div_ok : e_R01_Div.ok pg := sp_R01_Div fun a b _ hc => by
  simp only [Bool.and_eq_true, okM_iff, decide_eq_true_eq] at hc
  obtain ⟨ha, hb, hV⟩ := hc
  rw [R01_Div]
  have w1 : w64 ((a.length : Int) - 1) = (a.length : Int) - 1 := w64_in (by omega)
  simp only [RT.run, w1, repI, Int.toNat_natCast]
  rw [if_pos (by rw [mkOK_iff]; omega)]
  obtain ⟨q', D, h1, h2, h3, h4, h5⟩ := div16_l ha.2 hb.2 ha.1 hb.1 rfl hV a.length (List.replicate a.length 0) 0 (Nat.le_refl _) hV (by simp) (wfd_replicate (by decide)) (fun i hi => by simp [List.getD, hi])
  rw [digs_zero, Nat.mul_zero, Nat.add_zero, Nat.mod_eq_of_lt (val_lt (by decide) ha.2)] at h1
  rw [Nat.mul_zero, Nat.add_zero, Nat.mod_eq_of_lt (val_lt (by decide) ha.2)] at h5
  rw [h1]
  simp only [Option.bind_some]
  rw [if_pos (okM_iff.2 ⟨by omega, h2⟩), h4, val_replicate, Nat.zero_add, h5]
end
end Go.Proofs.YtlfdidaeachpoaaGreat

namespace Go.Proofs.YtlfdidaeachpoaaGreat
open Go Go.RowKit
def rq (q : Rat) : List Int × List Int := (digs B32 q.num.toNat, digs B32 q.den)
def rQ (q : Rat) : List Int × List Int := (digs 65536 q.num.toNat, digs 65536 q.den)
def toQ (n d : List Int) : Rat := mkRat (val B32 n : Nat) (val B32 d)
def toQ16 (n d : List Int) : Rat := mkRat (val 65536 n : Nat) (val 65536 d)
theorem mkRat_num {n d : Nat} (hd : d ≠ 0) : (mkRat (n : Int) d).num = ((n / Nat.gcd n d : Nat) : Int) ∧ (mkRat (n : Int) d).den = d / Nat.gcd n d := by
  rw [mkRat, dif_neg hd, Rat.normalize_eq]
  simp
theorem mkRat_nonneg (n d : Nat) : 0 ≤ mkRat (n : Int) d := by
  by_cases hd : d = 0
  · subst hd; simp [mkRat]
  · rw [← Rat.num_nonneg, (mkRat_num hd).1]; exact Int.natCast_nonneg _
theorem rq_mkRat {n d : Nat} (hd : d ≠ 0) : rq (mkRat (n : Int) d) = (digs B32 (n / Nat.gcd n d), digs B32 (d / Nat.gcd n d)) := by
  unfold rq
  rw [(mkRat_num hd).1, (mkRat_num hd).2, Int.toNat_natCast]
theorem rQ_mkRat {n d : Nat} (hd : d ≠ 0) : rQ (mkRat (n : Int) d) = (digs 65536 (n / Nat.gcd n d), digs 65536 (d / Nat.gcd n d)) := by
  unfold rQ
  rw [(mkRat_num hd).1, (mkRat_num hd).2, Int.toNat_natCast]
theorem mkRat_self {q : Rat} (h : 0 ≤ q) : mkRat ((q.num.toNat : Nat) : Int) q.den = q := by
  rw [Int.toNat_of_nonneg (Rat.num_nonneg.2 h)]
  exact Rat.mkRat_self q
theorem toQ_rq {q : Rat} (h : 0 ≤ q) : toQ (rq q).1 (rq q).2 = q := by
  unfold toQ rq
  simp only [val_digs (show 2 ≤ B32 by decide)]
  exact mkRat_self h
theorem toQ16_rQ {q : Rat} (h : 0 ≤ q) : toQ16 (rQ q).1 (rQ q).2 = q := by
  unfold toQ16 rQ
  simp only [val_digs (show 2 ≤ 65536 by decide)]
  exact mkRat_self h
theorem rq_den {q : Rat} : val B32 (rq q).2 = q.den := val_digs (by decide) _
theorem rQ_den {q : Rat} : val 65536 (rQ q).2 = q.den := val_digs (by decide) _
theorem rQ_num {q : Rat} : val 65536 (rQ q).1 = q.num.toNat := val_digs (by decide) _
def sm (n : Nat) (q : Rat) : Prop := q.num.toNat < 2 ^ n ∧ q.den < 2 ^ n
theorem sm_mono {n m : Nat} {q : Rat} (h : n ≤ m) (hq : sm n q) : sm m q :=
  ⟨Nat.lt_of_lt_of_le hq.1 (Nat.pow_le_pow_right (by decide) h), Nat.lt_of_lt_of_le hq.2 (Nat.pow_le_pow_right (by decide) h)⟩
theorem sm_mkRat {n d k : Nat} (hd : d ≠ 0) (h1 : n < 2 ^ k) (h2 : d < 2 ^ k) : sm k (mkRat (n : Int) d) := by
  obtain ⟨e1, e2⟩ := mkRat_num (n := n) hd
  refine ⟨?_, ?_⟩
  · rw [e1, Int.toNat_natCast]; exact Nat.lt_of_le_of_lt (Nat.div_le_self _ _) h1
  · rw [e2]; exact Nat.lt_of_le_of_lt (Nat.div_le_self _ _) h2
theorem add_mk {p q : Rat} (hp : 0 ≤ p) (hq : 0 ≤ q) : p + q = mkRat ((p.num.toNat * q.den + q.num.toNat * p.den : Nat) : Int) (p.den * q.den) := by
  have h := Rat.mkRat_add_mkRat (p.num.toNat : Int) (q.num.toNat : Int) p.den_nz q.den_nz
  rw [mkRat_self hp, mkRat_self hq] at h
  rw [h]
  simp only [Int.natCast_add, Int.natCast_mul]
theorem mul_mk {p q : Rat} (hp : 0 ≤ p) (hq : 0 ≤ q) : p * q = mkRat ((p.num.toNat * q.num.toNat : Nat) : Int) (p.den * q.den) := by
  have h := Rat.mkRat_mul_mkRat (p.num.toNat : Int) (q.num.toNat : Int) p.den q.den
  rw [mkRat_self hp, mkRat_self hq] at h
  rw [h, Int.natCast_mul]
theorem sm_mul {n m : Nat} {p q : Rat} (hp : 0 ≤ p) (hq : 0 ≤ q) (h1 : sm n p) (h2 : sm m q) : sm (n + m) (p * q) := by
  rw [mul_mk hp hq]
  refine sm_mkRat (Nat.mul_ne_zero p.den_nz q.den_nz) ?_ ?_
  · rw [Nat.pow_add]; exact Nat.mul_lt_mul'' h1.1 h2.1
  · rw [Nat.pow_add]; exact Nat.mul_lt_mul'' h1.2 h2.2
theorem sm_add {n m : Nat} {p q : Rat} (hp : 0 ≤ p) (hq : 0 ≤ q) (h1 : sm n p) (h2 : sm m q) : sm (n + m + 1) (p + q) := by
  rw [add_mk hp hq]
  have a := Nat.mul_lt_mul'' h1.1 h2.2
  have b := Nat.mul_lt_mul'' h2.1 h1.2
  have c := Nat.mul_lt_mul'' h1.2 h2.2
  rw [Nat.mul_comm (2 ^ m)] at b
  rw [← Nat.pow_add] at a b c
  have e : 2 ^ (n + m + 1) = 2 ^ (n + m) * 2 := Nat.pow_succ ..
  exact sm_mkRat (Nat.mul_ne_zero p.den_nz q.den_nz) (by omega) (by omega)
theorem digs_len2 {b v n : Nat} (hb : 2 ≤ b) (hv : v < 2 ^ n) : (digs b v).length ≤ n := by
  by_cases h0 : v = 0
  · rw [h0, digs_zero]; exact Nat.zero_le _
  obtain ⟨m, h1, h2, h3⟩ := digs_size hb (Nat.pos_of_ne_zero h0)
  have h4 : 2 ^ m ≤ b ^ m := Nat.pow_le_pow_left hb m
  have := (Nat.pow_lt_pow_iff_right (by decide : 1 < 2)).1 (Nat.lt_of_le_of_lt (Nat.le_trans h4 h2) hv)
  omega
end Go.Proofs.YtlfdidaeachpoaaGreat

namespace Go.Proofs.YtlfdidaeachpoaaGreat
open Go Go.RowKit
set_option maxRecDepth 100000
noncomputable section
def R03_Out_b58 : (List Int) → (Int × (List Int)) → RT (Int × (List Int)) (List Int)
| a, (i, r3) =>
 .rq 5 (.ite (decide (i < (a.length : Int)))
 (.rq 3 (.req (inB a i) (.rq 9 (let t0 := w64 (i + 1);
 let t1 := wu32 (gI a i);
 let t2 := w64 (i + 2);
 .ite (decide (t0 < (a.length : Int)))
 (.rq 5 (.req (inB a t0) (.rq 8 (let t3 := [wu32 (t1 + (wu32 ((wu32 (gI a t0)) * 65536)))];
 .req (apOK 4 r3 t3) (.rq 4 (.again (t2, r3 ++ t3)))))))
 (.rq 3 (let t4 := [t1];
 .req (apOK 4 r3 t4) (.rq 4 (.again (t2, r3 ++ t4)))))))))
 (.done r3))
def R03_Out_p58 : Piece := ⟨58, true, [.sl tI], [tI, .sl tV], ⟨[.keep [1, 3, 4], .gc, .nilRow 3 800003 122 tV, .ren 3 700003, .ren 3 900003, .gc], [1, 3, 4], [.lf (qp 16), .lf (qr 900003), .lf (qm 0)], [(16, true, .cells [qi 0]), (900003, true, .arr 122 (qm 1))]⟩, [⟨2, ⟨[.keep [3], .gc, .nilRow 3 800003 122 tV, .ren 3 700003, .ren 3 900003, .gc], [3], [.lf (qr 900003)], [(900003, true, .arr 122 (qm 0))]⟩, [.sl tV]⟩], R03_Out_b58⟩
def R03_Out : (List Int) → RT Unit (List Int)
| a_0 =>
 .rq 4 (.call (lo R03_Out_b58 a_0 (0, [])) default fun v0 =>
 .rq 2 (.done v0))
def F_R03_Out (x : (List Int)) : Option (List Int) := (R03_Out x).run fun _ => none
def io_R03_Out : Io := ⟨n_R03_Out, [.sl tI], [.agg [qm 0]], [], [[.sl tI]], [.sl tV], .lf (qr 0), [], [(true, .arr 122 (qm 0))], false⟩
def R03_Out_P : List Piece := [R03_Out_p58]
def R03_Out_T : CallT := tab []
theorem R03_Out_To : SoundT pg R03_Out_T := tab_sound trivial
theorem R03_Out_k58 : (R03_Out_p58).OK pg (R03_Out_T) (tell 40 (R03_Out_P)) (codeOf f_R03_Out) 40 := ⟨by kernel_rfl, fun i x => by kernel_rfl⟩
theorem R03_Out_go : FnOK pg (R03_Out_T) io_R03_Out f_R03_Out (R03_Out_P) [.nilRow 2 800002 122 tV, .ren 2 700002, .ren 2 900002] (R03_Out) := ⟨by kernel_rfl, by kernel_rfl, fun x => by kernel_rfl⟩
theorem ok_R03_Out : io_R03_Out.Okay pg (F_R03_Out) := fn_ok pg_mixed (R03_Out_To) (R03_Out_go) ⟨R03_Out_k58, trivial⟩
theorem out32_l {a : List Int} (ha : wfd B16 a = true) (la : a.length ≤ 2 ^ 38) : ∀ (r i : Nat) (out : List Int), a.length ≤ i + 2 * r → i + 2 * r ≤ a.length + 1 → out.length ≤ i →
    ∃ D, lo R03_Out_b58 a ((i : Int), out) = some (out ++ D) ∧ wfd B32 D = true ∧ D.length = r ∧ val B32 D = val B16 a / B16 ^ i := by
  intro r
  induction r with
  | zero =>
    intro i out hi hi' _
    refine ⟨[], ?_, rfl, rfl, by rw [div_pow_zero ha (by omega)]; rfl⟩
    rw [lo_eq, R03_Out_b58]
    simp only [RT.run]
    rw [if_neg (by simp; omega)]
    simp
  | succ r ih =>
    intro i out hi hi' ho
    obtain ⟨d0, h0, b0⟩ := getD16 ha i
    obtain ⟨d1, h1, b1⟩ := getD16 ha (i + 1)
    have v0 : val B16 a / B16 ^ i % B16 = d0 := by
      have := val_digit (by decide : 0 < B16) i ha
      rw [h0] at this; exact Int.ofNat_inj.1 this
    have v1 : val B16 a / B16 ^ (i + 1) % B16 = d1 := by
      have := val_digit (by decide : 0 < B16) (i + 1) ha
      rw [h1] at this; exact Int.ofNat_inj.1 this
    have w0 : w64 ((i : Int) + 1) = ((i + 1 : Nat) : Int) := by rw [w64_in] <;> omega
    have w1 : w64 ((i : Int) + 2) = ((i + 2 : Nat) : Int) := by rw [w64_in] <;> omega
    have w2 : wu32 (d0 : Int) = (d0 : Int) := wu32_in (by omega)
    have w3 : wu32 (d1 : Int) = (d1 : Int) := wu32_in (by omega)
    have w4 : wu32 ((d1 : Int) * 65536) = ((d1 * 65536 : Nat) : Int) := by rw [wu32_in] <;> omega
    have w5 : wu32 ((d0 : Int) + ((d1 * 65536 : Nat) : Int)) = ((d0 + d1 * 65536 : Nat) : Int) := by rw [wu32_in] <;> omega
    have g0 : gI a (i : Int) = (d0 : Int) := by rw [gIn, h0]
    have g1 : gI a ((i + 1 : Nat) : Int) = (d1 : Int) := by rw [gIn, h1]
    have s0 := div_step (val B16 a) i
    have s1 := div_step (val B16 a) (i + 1)
    rw [v0] at s0
    rw [v1] at s1
    have hB : B16 = 65536 := rfl
    have hB2 : B32 = 4294967296 := rfl
    have step : ∀ x : Nat, x < 4294967296 → x + 4294967296 * (val B16 a / B16 ^ (i + 2)) = val B16 a / B16 ^ i → ∃ D, lo R03_Out_b58 a (((i + 2 : Nat) : Int), out ++ [(x : Int)]) = some (out ++ D) ∧ wfd B32 D = true ∧ D.length = r + 1 ∧ val B32 D = val B16 a / B16 ^ i := by
      intro x hx hxe
      obtain ⟨D, g1, g2, g3, g4⟩ := ih (i + 2) (out ++ [(x : Int)]) (by omega) (by omega) (by simp; omega)
      refine ⟨(x : Int) :: D, by rw [g1, List.append_assoc]; rfl, wfd_cons.2 ⟨⟨Int.natCast_nonneg _, by omega⟩, g2⟩, by simp [g3], ?_⟩
      rw [val, Int.toNat_natCast, g4, hB2]
      exact hxe
    rw [lo_eq, R03_Out_b58]
    simp only [RT.run, w0, w1, g0, g1, w2, w3, w4, w5]
    rw [if_pos (by simp; omega), if_pos (inB_t (by omega))]
    by_cases hlast : i + 1 < a.length
    · rw [if_pos (by simp; omega), if_pos (inB_t hlast), if_pos (apOK_small (by decide) (by simp; omega))]
      refine step _ (by omega) ?_
      have t0 : val B16 a / B16 ^ i = d0 + 65536 * (val B16 a / B16 ^ (i + 1)) := s0
      have t1 : val B16 a / B16 ^ (i + 1) = d1 + 65536 * (val B16 a / B16 ^ (i + 2)) := s1
      rw [t0, t1]
      omega
    · rw [if_neg (by simp; omega), if_pos (apOK_small (by decide) (by simp; omega))]
      refine step _ (by omega) ?_
      have z := div_pow_zero ha (i := i + 1) (by omega)
      have z2 := div_pow_zero ha (i := i + 2) (by omega)
      have t0 : val B16 a / B16 ^ i = d0 + 65536 * (val B16 a / B16 ^ (i + 1)) := s0
      rw [t0, z, z2]
theorem pow_B32 (k : Nat) : B32 ^ k = B16 ^ (2 * k) := by rw [Nat.pow_mul, show B16 ^ 2 = B32 by decide]
theorem digs_half (v : Nat) : (digs B32 v).length = ((digs B16 v).length + 1) / 2 := by
  by_cases hv : v = 0
  · subst hv; rfl
  obtain ⟨m, h1, h2, h3⟩ := digs_size (b := B16) (by decide) (Nat.pos_of_ne_zero hv)
  obtain ⟨k, h4, h5, h6⟩ := digs_size (b := B32) (by decide) (Nat.pos_of_ne_zero hv)
  rw [pow_B32] at h5 h6
  have a := (Nat.pow_lt_pow_iff_right (by decide : 1 < B16)).1 (Nat.lt_of_le_of_lt h5 h3)
  have b := (Nat.pow_lt_pow_iff_right (by decide : 1 < B16)).1 (Nat.lt_of_le_of_lt h2 h6)
  omega
def isM (k : Nat) (x : List Int) : Bool := decide (x.length ≤ 2 ^ k) && decide (digs B16 (val B16 x) = x)
theorem isM_iff {k : Nat} {x : List Int} : isM k x = true ↔ x.length ≤ 2 ^ k ∧ digs B16 (val B16 x) = x := by simp [isM]
theorem isM_digs {k v : Nat} (h : (digs B16 v).length ≤ 2 ^ k) : isM k (digs B16 v) = true := isM_iff.2 ⟨h, by rw [val_digs (by decide)]⟩
theorem isM_wfd {k : Nat} {x : List Int} (h : isM k x = true) : wfd B16 x = true := by
  rw [isM_iff] at h
  rw [← h.2]
  exact wfd_digs (by decide) _
def e_R03_Out : Entry := io_R03_Out.sp (fun a => isM 38 a) (fun a => digs B32 (val B16 a))
theorem sp_R03_Out (h : ∀ (a : List Int), WfT [.sl tI] a → (isM 38 a) = true → (R03_Out a).run (fun _ => none) = some (digs B32 (val B16 a))) : e_R03_Out.ok pg := sp_ok ok_R03_Out fun a hw hc => h a hw hc
theorem e_R03_Out_ok : e_R03_Out.ok pg := sp_R03_Out fun a _ hc => by
  have hw := isM_wfd hc
  rw [isM_iff] at hc
  rw [R03_Out]
  simp only [RT.run]
  obtain ⟨D, h1, h2, h3, h4⟩ := out32_l hw hc.1 ((a.length + 1) / 2) 0 [] (by omega) (by omega) (by simp)
  have h1' : lo R03_Out_b58 a ((0 : Int), []) = some D := h1
  rw [h1']
  simp only [Option.bind_some]
  rw [Nat.pow_zero, Nat.div_one] at h4
  have e1 := fixd_eq (b := B32) (by decide) h2
  have e2 := fixd_eq (b := B32) (by decide) (wfd_digs (b := B32) (by decide) (val B16 a))
  rw [val_digs (by decide), digs_half, hc.2] at e2
  rw [h4, h3] at e1
  rw [← e1, e2]
def R03_Same_b58 : ((List Int) × (List Int)) → Int → RT Int (LR Unit Unit)
| (a, b), i =>
 .rq 4 (.ite (decide (i < (a.length : Int)))
 (.rq 2 (.req (inB a i) (.rq 3 (.req (inB b i) (.rq 2 (.ite ((gI a i) != (gI b i))
 (.rq 1 (.done (.ex ())))
 (.rq 3 (.again (w64 (i + 1))))))))))
 (.done (.rt ())))
def R03_Same_p58 : Piece := ⟨58, true, [.sl tV, .sl tV], [tI], ⟨[.keep [0, 1, 5], .gc], [0, 1, 5], [.lf (qi 0), .lf (qi 1), .lf (qm 0)], []⟩, [⟨1, ⟨[.keep [4], .gc], [4], [.lf (.fix (.bool false))], []⟩, []⟩, ⟨2, ⟨[.keep [], .gc], [], [], []⟩, []⟩], R03_Same_b58⟩
def R03_Same : ((List Int) × (List Int)) → RT Unit Bool
| (a, b) =>
 .rq 6 (.ite ((a.length : Int) != (b.length : Int))
 (.rq 1 (.done false))
 (.rq 1 (.call (lo R03_Same_b58 (a, b) 0) default fun v0 =>
 .ite v0.isRt
 (.rq 1 (.done true))
 (.done false))))
def F_R03_Same (x : (List Int) × (List Int)) : Option Bool := (R03_Same x).run fun _ => none
def io_R03_Same : Io := ⟨n_R03_Same, [.sl tV, .sl tV], [.lf (qm 0), .lf (qm 1)], [], [[.sl tV], [.sl tV]], [tB], .lf (qm 0), [], [], false⟩
def R03_Same_P : List Piece := [R03_Same_p58]
def R03_Same_T : CallT := tab []
theorem R03_Same_To : SoundT pg R03_Same_T := tab_sound trivial
theorem R03_Same_k58 : (R03_Same_p58).OK pg (R03_Same_T) (tell 26 (R03_Same_P)) (codeOf f_R03_Same) 26 := ⟨by kernel_rfl, fun i x => by kernel_rfl⟩
theorem R03_Same_go : FnOK pg (R03_Same_T) io_R03_Same f_R03_Same (R03_Same_P) [] (R03_Same) := ⟨by kernel_rfl, by kernel_rfl, fun x => by kernel_rfl⟩
theorem ok_R03_Same : io_R03_Same.Okay pg (F_R03_Same) := fn_ok pg_mixed (R03_Same_To) (R03_Same_go) ⟨R03_Same_k58, trivial⟩
theorem same_l {a b : List Int} (hl : a.length = b.length) (la : a.length ≤ 2 ^ 63 - 1) : ∀ (r i : Nat), i + r = a.length → lo R03_Same_b58 (a, b) (i : Int) = some (if a.drop i = b.drop i then .rt () else .ex ()) := by
  intro r
  induction r with
  | zero =>
    intro i hi
    rw [lo_eq, R03_Same_b58]
    simp only [RT.run]
    rw [if_neg (by simp; omega), if_pos (by rw [List.drop_of_length_le (by omega), List.drop_of_length_le (by omega)])]
  | succ r ih =>
    intro i hi
    have w : w64 ((i : Int) + 1) = ((i + 1 : Nat) : Int) := by rw [w64_in] <;> omega
    have ha : a.drop i = a.getD i 0 :: a.drop (i + 1) := by rw [List.drop_eq_getElem_cons (by omega)]; simp [List.getD, show i < a.length by omega]
    have hb : b.drop i = b.getD i 0 :: b.drop (i + 1) := by rw [List.drop_eq_getElem_cons (by omega)]; simp [List.getD, show i < b.length by omega]
    rw [lo_eq, ha, hb, R03_Same_b58]
    simp only [RT.run, gIn, w]
    rw [if_pos (by simp; omega), if_pos (inB_t (by omega)), if_pos (inB_t (by omega))]
    by_cases h : a.getD i 0 = b.getD i 0
    · rw [h]
      simp only [bne_self_eq_false, Bool.false_eq_true, if_false, List.cons.injEq, true_and]
      exact ih (i + 1) (by omega)
    · rw [if_pos (by simpa using h), if_neg (fun e => h (List.cons.inj e).1)]
def e_R03_Same : Entry := io_R03_Same.sp (fun (a, b) => true) (fun (a, b) => decide (a = b))
theorem sp_R03_Same (h : ∀ (a : List Int) (b : List Int), WfT [.sl tV, .sl tV] (a, b) → (R03_Same (a, b)).run (fun _ => none) = some (decide (a = b))) : e_R03_Same.ok pg := sp_ok ok_R03_Same fun (a, b) hw hc => h a b hw
theorem e_R03_Same_ok : e_R03_Same.ok pg := sp_R03_Same fun a b hw => by
  have ha : Wf (.sl tV) a := hw.1
  have la := ha.1
  rw [R03_Same]
  simp only [RT.run]
  by_cases hl : a.length = b.length
  · rw [if_neg (by simp; omega)]
    have h' : lo R03_Same_b58 (a, b) (0 : Int) = _ := same_l hl (by omega) a.length 0 (by omega)
    rw [h']
    simp only [List.drop_zero]
    by_cases h : a = b
    · rw [if_pos h]; simp [h, LR.isRt]
    · rw [if_neg h]; simp [h, LR.isRt]
  · rw [if_pos (by simp; omega)]
    have : a ≠ b := fun e => hl (by rw [e])
    simp [this]
def R03_Gcd_b12 : Unit → ((List Int) × (List Int)) → RT ((List Int) × (List Int)) (List Int)
| _, (a, b) =>
 .rq 4 (.ite (decide (0 < (b.length : Int)))
 (.rq 2 (.req (okM 37 a && (okM 37 b && decide (0 < val B16 b))) (.rq 11 (.again (b, digs B16 (val B16 a % val B16 b))))))
 (.done a))
def R03_Gcd_p12 : Piece := ⟨12, true, [], [.sl tI, .sl tI], ⟨[.keep [2, 3, 4], .gc, .cellDat 48, .cellDen 48 [.sl tI], .gc], [2, 3, 4], [.lf (qp 32), .lf (qp 48), .lf (qp 64)], [(32, true, .cells [qm 0]), (48, true, .cells [qm 1]), (64, true, .cells [.fix (.nil)])]⟩, [⟨2, ⟨[.keep [2, 4], .gc], [2, 4], [.lf (qp 32), .lf (qp 64)], [(32, true, .cells [qm 0]), (64, true, .cells [.fix (.nil)])]⟩, [.sl tI]⟩], R03_Gcd_b12⟩
def R03_Gcd : ((List Int) × (List Int)) → RT Unit (List Int)
| (a_0, b_0) =>
 .rq 3 (.call (lo R03_Gcd_b12 () (a_0, b_0)) default fun v0 =>
 .rq 2 (.done v0))
def F_R03_Gcd (x : (List Int) × (List Int)) : Option (List Int) := (R03_Gcd x).run fun _ => none
def io_R03_Gcd : Io := ⟨n_R03_Gcd, [.sl tI, .sl tI], [.agg [qm 0], .agg [qm 1]], [], [[.sl tI], [.sl tI]], [.sl tI], .agg [qm 0], [], [], true⟩
def R03_Gcd_P : List Piece := [R03_Gcd_p12]
def R03_Gcd_T : CallT := tab [e_R01_Div]
theorem R03_Gcd_To : SoundT pg R03_Gcd_T := tab_sound ⟨e_R01_Div_ok, trivial⟩
theorem R03_Gcd_k12 : (R03_Gcd_p12).OK pg (R03_Gcd_T) (tell 20 (R03_Gcd_P)) (codeOf f_R03_Gcd) 20 := ⟨by kernel_rfl, fun i x => by kernel_rfl⟩
theorem R03_Gcd_go : FnOK pg (R03_Gcd_T) io_R03_Gcd f_R03_Gcd (R03_Gcd_P) [] (R03_Gcd) := ⟨by kernel_rfl, by kernel_rfl, fun x => by kernel_rfl⟩
theorem ok_R03_Gcd : io_R03_Gcd.Okay pg (F_R03_Gcd) := fn_ok pg_mixed (R03_Gcd_To) (R03_Gcd_go) ⟨R03_Gcd_k12, trivial⟩
theorem gcd16_l {m : Nat} (hm : m ≤ 2 ^ 37) : ∀ (V A : Nat), A < B16 ^ m → V < B16 ^ m → lo R03_Gcd_b12 () (digs B16 A, digs B16 V) = some (digs B16 (Nat.gcd A V)) := by
  intro V
  induction V using Nat.strongRecOn with
  | ind V ih =>
    intro A hA hV
    rw [lo_eq, R03_Gcd_b12]
    simp only [RT.run]
    by_cases h : V = 0
    · subst h
      rw [if_neg (by simp [digs_zero]), Nat.gcd_zero_right]
    · have hV0 := Nat.pos_of_ne_zero h
      have hl : 0 < (digs B16 V).length := by rw [digs_pos (by decide) hV0]; simp
      have hml := Nat.mod_lt A hV0
      rw [val_digs (by decide), val_digs (by decide)]
      rw [if_pos (by simp only [decide_eq_true_eq]; omega), if_pos (by rw [okM_lt hA hm, okM_lt hV hm, decide_eq_true hV0]; rfl)]
      rw [ih (A % V) hml V hV (Nat.lt_trans hml hV), Nat.gcd_comm A V, Nat.gcd_rec V A, Nat.gcd_comm]
def e_R03_Gcd : Entry := io_R03_Gcd.sp (fun (a, b) => isM 37 a && isM 37 b) (fun (a, b) => digs B16 (Nat.gcd (val B16 a) (val B16 b)))
theorem sp_R03_Gcd (h : ∀ (a : List Int) (b : List Int), WfT [.sl tI, .sl tI] (a, b) → (isM 37 a && isM 37 b) = true → (R03_Gcd (a, b)).run (fun _ => none) = some (digs B16 (Nat.gcd (val B16 a) (val B16 b)))) : e_R03_Gcd.ok pg := sp_ok ok_R03_Gcd fun (a, b) hw hc => h a b hw hc
theorem e_R03_Gcd_ok : e_R03_Gcd.ok pg := sp_R03_Gcd fun a b _ h => by
  rw [Bool.and_eq_true] at h
  have w1 := isM_wfd h.1
  have w2 := isM_wfd h.2
  rw [isM_iff, isM_iff] at h
  rw [R03_Gcd]
  simp only [RT.run]
  have l1 : val B16 a < B16 ^ (max a.length b.length) := Nat.lt_of_lt_of_le (val_lt (by decide) w1) (Nat.pow_le_pow_right (by decide) (by omega))
  have l2 : val B16 b < B16 ^ (max a.length b.length) := Nat.lt_of_lt_of_le (val_lt (by decide) w2) (Nat.pow_le_pow_right (by decide) (by omega))
  have := gcd16_l (m := max a.length b.length) (by omega) (val B16 b) (val B16 a) l1 l2
  rw [h.1.2, h.2.2] at this
  rw [this]
  rfl
theorem isM_mul {a b : List Int} {k : Nat} (ha : isM k a = true) (hb : isM k b = true) : isM (k + 1) (digs B16 (val B16 a * val B16 b)) = true := by
  have w1 := isM_wfd ha
  have w2 := isM_wfd hb
  rw [isM_iff] at ha hb
  refine isM_digs ?_
  have lt1 := val_lt (by decide : 0 < B16) w1
  have lt2 := val_lt (by decide : 0 < B16) w2
  have lp : val B16 a * val B16 b < B16 ^ (a.length + b.length) := by
    rw [Nat.pow_add]
    exact Nat.mul_lt_mul'' lt1 lt2
  have := digs16_lt lp
  rw [Nat.pow_succ]
  omega
theorem isM_add {m n k : Nat} (ha : isM k (digs B16 m) = true) (hb : isM k (digs B16 n) = true) : isM (k + 1) (digs B16 (m + n)) = true := by
  rw [isM_iff] at ha hb
  refine isM_digs ?_
  have lt1 := val_lt (b := B16) (by decide) (wfd_digs (by decide) m)
  have lt2 := val_lt (b := B16) (by decide) (wfd_digs (by decide) n)
  rw [val_digs (by decide)] at lt1 lt2
  obtain ⟨M, hM⟩ : ∃ M, M = max (digs B16 m).length (digs B16 n).length := ⟨_, rfl⟩
  have l1 : m < B16 ^ M := Nat.lt_of_lt_of_le lt1 (Nat.pow_le_pow_right (by decide) (by omega))
  have l2 : n < B16 ^ M := Nat.lt_of_lt_of_le lt2 (Nat.pow_le_pow_right (by decide) (by omega))
  have l3 : m + n < B16 ^ (M + 1) := by
    rw [Nat.pow_succ]
    generalize B16 ^ M = z at *
    rw [show B16 = 65536 from rfl]
    omega
  have := digs16_lt l3
  have p : 1 ≤ 2 ^ k := Nat.one_le_two_pow
  rw [Nat.pow_succ]
  omega
theorem isM_okM {k m : Nat} {a : List Int} (h : k ≤ m) (ha : isM k a = true) : okM m a = true := by
  have w := isM_wfd ha
  rw [isM_iff] at ha
  exact okM_iff.2 ⟨Nat.le_trans ha.1 (Nat.pow_le_pow_right (by decide) h), w⟩
theorem isM_up {k m : Nat} {a : List Int} (h : k ≤ m) (ha : isM k a = true) : isM m a = true := by
  rw [isM_iff] at *
  exact ⟨Nat.le_trans ha.1 (Nat.pow_le_pow_right (by decide) h), ha.2⟩
def R04_Low : ((List Int) × (List Int)) → RT Unit ((List Int) × (List Int))
| (q_0, q_1) =>
 .rq 6 (.req (isM 37 q_0 && isM 37 q_1) (.rq 5 (.req (okM 37 q_0 && (okM 37 (digs B16 (Nat.gcd (val B16 q_0) (val B16 q_1))) && decide (0 < val B16 (digs B16 (Nat.gcd (val B16 q_0) (val B16 q_1)))))) (.rq 10 (.req (okM 37 q_1 && (okM 37 (digs B16 (Nat.gcd (val B16 q_0) (val B16 q_1))) && decide (0 < val B16 (digs B16 (Nat.gcd (val B16 q_0) (val B16 q_1)))))) (.rq 11 (.done (digs B16 (val B16 q_0 / val B16 (digs B16 (Nat.gcd (val B16 q_0) (val B16 q_1)))), digs B16 (val B16 q_1 / val B16 (digs B16 (Nat.gcd (val B16 q_0) (val B16 q_1))))))))))))
def F_R04_Low (x : (List Int) × (List Int)) : Option ((List Int) × (List Int)) := (R04_Low x).run fun _ => none
def io_R04_Low : Io := ⟨n_R04_Low, [.sl tI, .sl tI], [.agg [qm 0, qm 1]], [], [[.sl tI, .sl tI]], [.sl tI, .sl tI], .agg [qr 0, qr 1], [], [(true, .arr 3 (qm 0)), (true, .arr 3 (qm 1))], false⟩
def R04_Low_P : List Piece := []
def R04_Low_T : CallT := tab [e_R03_Gcd, e_R01_Div]
theorem R04_Low_To : SoundT pg R04_Low_T := tab_sound ⟨e_R03_Gcd_ok, e_R01_Div_ok, trivial⟩
theorem R04_Low_go : FnOK pg (R04_Low_T) io_R04_Low f_R04_Low (R04_Low_P) [.cellRow 32 0 600032 3 tI, .cellRow 32 1 600033 3 tI, .cellRen 32 0 600032, .cellRen 32 1 600033] (R04_Low) := ⟨by kernel_rfl, by kernel_rfl, fun x => by kernel_rfl⟩
theorem ok_R04_Low : io_R04_Low.Okay pg (F_R04_Low) := fn_ok pg_mixed (R04_Low_To) (R04_Low_go) trivial
def e_R04_Low : Entry := io_R04_Low.sp (fun (n, d) => isM 36 n && (isM 36 d && decide (val B16 d ≠ 0))) (fun (n, d) => rQ (toQ16 n d))
theorem sp_R04_Low (h : ∀ (n : List Int) (d : List Int), WfT [.sl tI, .sl tI] (n, d) → (isM 36 n && (isM 36 d && decide (val B16 d ≠ 0))) = true → (R04_Low (n, d)).run (fun _ => none) = some (rQ (toQ16 n d))) : e_R04_Low.ok pg := sp_ok ok_R04_Low fun (n, d) hw hc => h n d hw hc
theorem e_R04_Low_ok : e_R04_Low.ok pg := sp_R04_Low fun n d _ h => by
  simp only [Bool.and_eq_true, decide_eq_true_eq] at h
  obtain ⟨h1, h2, h3⟩ := h
  have w1 := isM_wfd h1
  have w2 := isM_wfd h2
  rw [R04_Low]
  have hg : 0 < Nat.gcd (val B16 n) (val B16 d) := Nat.gcd_pos_of_pos_right _ (Nat.pos_of_ne_zero h3)
  have lg : Nat.gcd (val B16 n) (val B16 d) < B16 ^ d.length := Nat.lt_of_le_of_lt (Nat.gcd_le_right _ (Nat.pos_of_ne_zero h3)) (val_lt (by decide) w2)
  have og : okM 37 (digs B16 (Nat.gcd (val B16 n) (val B16 d))) = true := okM_lt lg (Nat.le_trans (isM_iff.1 h2).1 (by decide))
  simp only [RT.run]
  rw [if_pos (by rw [isM_up (by decide) h1, isM_up (by decide) h2]; rfl), val_digs (by decide), if_pos (by rw [isM_okM (by decide) h1, og, decide_eq_true hg]; rfl), if_pos (by rw [isM_okM (by decide) h2, og, decide_eq_true hg]; rfl)]
  rw [toQ16, rQ_mkRat h3]
def R04_Of : (Int × Int) → RT Unit ((List Int) × (List Int))
| (n, d) =>
 .rq 6 (.req (isM 36 (digs B16 n.toNat) && (isM 36 (digs B16 d.toNat) && decide (val B16 (digs B16 d.toNat) ≠ 0))) (.rq 1 (let t0 := rQ (toQ16 (digs B16 n.toNat) (digs B16 d.toNat));
 .done (t0.1, t0.2))))
def F_R04_Of (x : Int × Int) : Option ((List Int) × (List Int)) := (R04_Of x).run fun _ => none
def io_R04_Of : Io := ⟨n_R04_Of, [tU, tU], [.lf (qm 0), .lf (qm 1)], [], [[tU], [tU]], [.sl tI, .sl tI], .agg [qr 0, qr 1], [], [(true, .arr 3 (qm 0)), (true, .arr 3 (qm 1))], false⟩
def R04_Of_P : List Piece := []
def R04_Of_T : CallT := tab [e_R04_Low, e_R01_Of]
theorem R04_Of_To : SoundT pg R04_Of_T := tab_sound ⟨e_R04_Low_ok, e_R01_Of_ok, trivial⟩
theorem R04_Of_go : FnOK pg (R04_Of_T) io_R04_Of f_R04_Of (R04_Of_P) [.cellRow 64 0 600064 3 tI, .cellRow 64 1 600065 3 tI, .cellRen 64 0 600064, .cellRen 64 1 600065] (R04_Of) := ⟨by kernel_rfl, by kernel_rfl, fun x => by kernel_rfl⟩
theorem ok_R04_Of : io_R04_Of.Okay pg (F_R04_Of) := fn_ok pg_mixed (R04_Of_To) (R04_Of_go) trivial
theorem isM_word {n : Int} (h : 0 ≤ n ∧ n < 18446744073709551616) : isM 2 (digs B16 n.toNat) = true := by
  refine isM_digs ?_
  have : n.toNat < B16 ^ 4 := by rw [show B16 ^ 4 = 18446744073709551616 from rfl]; omega
  exact digs16_lt this
def e_R04_Of : Entry := io_R04_Of.sp (fun (n, d) => decide (d ≠ 0)) (fun (n, d) => rQ (mkRat ((n.toNat : Nat) : Int) d.toNat))
theorem sp_R04_Of (h : ∀ (n : Int) (d : Int), WfT [tU, tU] (n, d) → (decide (d ≠ 0)) = true → (R04_Of (n, d)).run (fun _ => none) = some (rQ (mkRat ((n.toNat : Nat) : Int) d.toNat))) : e_R04_Of.ok pg := sp_ok ok_R04_Of fun (n, d) hw hc => h n d hw hc
theorem e_R04_Of_ok : e_R04_Of.ok pg := sp_R04_Of fun n d hw hc => by
  have hn : 0 ≤ n ∧ n < 18446744073709551616 := hw.1
  have hd : 0 ≤ d ∧ d < 18446744073709551616 := hw.2
  rw [decide_eq_true_eq] at hc
  rw [R04_Of]
  simp only [RT.run]
  rw [if_pos (by rw [isM_up (by decide) (isM_word hn), isM_up (by decide) (isM_word hd), val_digs (by decide)]; simp; omega)]
  rw [toQ16, val_digs (by decide), val_digs (by decide)]
def R04_Int : Int → RT Unit ((List Int) × (List Int))
| n =>
 .rq 6 (.done (digs B16 n.toNat, digs B16 (1 : Int).toNat))
def F_R04_Int (x : Int) : Option ((List Int) × (List Int)) := (R04_Int x).run fun _ => none
def io_R04_Int : Io := ⟨n_R04_Int, [tU], [.lf (qm 0)], [], [[tU]], [.sl tI, .sl tI], .agg [qr 0, qr 1], [], [(true, .arr 3 (qm 0)), (true, .arr 3 (qm 1))], false⟩
def R04_Int_P : List Piece := []
def R04_Int_T : CallT := tab [e_R01_Of]
theorem R04_Int_To : SoundT pg R04_Int_T := tab_sound ⟨e_R01_Of_ok, trivial⟩
theorem R04_Int_go : FnOK pg (R04_Int_T) io_R04_Int f_R04_Int (R04_Int_P) [.cellRow 32 0 600032 3 tI, .cellRow 32 1 600033 3 tI, .cellRen 32 0 600032, .cellRen 32 1 600033] (R04_Int) := ⟨by kernel_rfl, by kernel_rfl, fun x => by kernel_rfl⟩
theorem ok_R04_Int : io_R04_Int.Okay pg (F_R04_Int) := fn_ok pg_mixed (R04_Int_To) (R04_Int_go) trivial
theorem rQ_nat (n : Nat) : rQ (n : Rat) = (digs B16 n, digs B16 1) := by
  unfold rQ
  simp
def e_R04_Int : Entry := io_R04_Int.sp (fun n => true) (fun n => rQ ((n.toNat : Nat) : Rat))
theorem sp_R04_Int (h : ∀ (n : Int), WfT [tU] n → (R04_Int n).run (fun _ => none) = some (rQ ((n.toNat : Nat) : Rat))) : e_R04_Int.ok pg := sp_ok ok_R04_Int fun n hw hc => h n hw
theorem e_R04_Int_ok : e_R04_Int.ok pg := sp_R04_Int fun n _ => by
  rw [R04_Int, rQ_nat]
  rfl
def okq (n d : List Int) : Bool := isM 30 n && (isM 30 d && decide (val B16 d ≠ 0))
theorem okq_iff {n d : List Int} : okq n d = true ↔ isM 30 n = true ∧ isM 30 d = true ∧ val B16 d ≠ 0 := by simp [okq]
theorem toQ16_add {a0 a1 b0 b1 : List Int} (h1 : val B16 a1 ≠ 0) (h2 : val B16 b1 ≠ 0) : mkRat ((val B16 a0 * val B16 b1 + val B16 b0 * val B16 a1 : Nat) : Int) (val B16 a1 * val B16 b1) = toQ16 a0 a1 + toQ16 b0 b1 := by
  unfold toQ16
  rw [Rat.mkRat_add_mkRat _ _ h1 h2]
  simp only [Int.natCast_add, Int.natCast_mul]
def R04_Add : ((List Int) × (List Int) × (List Int) × (List Int)) → RT Unit ((List Int) × (List Int))
| (a_0, a_1, b_0, b_1) =>
 .rq 7 (.req (okM 38 a_0 && okM 38 b_1) (.rq 4 (.req (okM 38 b_0 && okM 38 a_1) (.req (okM 39 (digs B16 (val B16 a_0 * val B16 b_1)) && okM 39 (digs B16 (val B16 b_0 * val B16 a_1))) (.rq 4 (.req (okM 38 a_1 && okM 38 b_1) (.rq 1 (let t0 := digs B16 (val B16 (digs B16 (val B16 a_0 * val B16 b_1)) + val B16 (digs B16 (val B16 b_0 * val B16 a_1)));
 .req (isM 36 t0 && (isM 36 (digs B16 (val B16 a_1 * val B16 b_1)) && decide (val B16 (digs B16 (val B16 a_1 * val B16 b_1)) ≠ 0))) (.rq 1 (let t1 := rQ (toQ16 t0 (digs B16 (val B16 a_1 * val B16 b_1)));
 .done (t1.1, t1.2)))))))))))
def F_R04_Add (x : (List Int) × (List Int) × (List Int) × (List Int)) : Option ((List Int) × (List Int)) := (R04_Add x).run fun _ => none
def io_R04_Add : Io := ⟨n_R04_Add, [.sl tI, .sl tI, .sl tI, .sl tI], [.agg [qm 0, qm 1], .agg [qm 2, qm 3]], [], [[.sl tI, .sl tI], [.sl tI, .sl tI]], [.sl tI, .sl tI], .agg [qr 0, qr 1], [], [(true, .arr 3 (qm 0)), (true, .arr 3 (qm 1))], false⟩
def R04_Add_P : List Piece := []
def R04_Add_T : CallT := tab [e_R04_Low, e_R01_Mul, e_R01_Add]
theorem R04_Add_To : SoundT pg R04_Add_T := tab_sound ⟨e_R04_Low_ok, e_R01_Mul_ok, e_R01_Add_ok, trivial⟩
theorem R04_Add_go : FnOK pg (R04_Add_T) io_R04_Add f_R04_Add (R04_Add_P) [.cellRow 64 0 600064 3 tI, .cellRow 64 1 600065 3 tI, .cellRen 64 0 600064, .cellRen 64 1 600065] (R04_Add) := ⟨by kernel_rfl, by kernel_rfl, fun x => by kernel_rfl⟩
theorem ok_R04_Add : io_R04_Add.Okay pg (F_R04_Add) := fn_ok pg_mixed (R04_Add_To) (R04_Add_go) trivial
def e_R04_Add : Entry := io_R04_Add.sp (fun (a0, a1, b0, b1) => okq a0 a1 && okq b0 b1) (fun (a0, a1, b0, b1) => rQ (toQ16 a0 a1 + toQ16 b0 b1))
theorem sp_R04_Add (h : ∀ (a0 : List Int) (a1 : List Int) (b0 : List Int) (b1 : List Int), WfT [.sl tI, .sl tI, .sl tI, .sl tI] (a0, a1, b0, b1) → (okq a0 a1 && okq b0 b1) = true → (R04_Add (a0, a1, b0, b1)).run (fun _ => none) = some (rQ (toQ16 a0 a1 + toQ16 b0 b1))) : e_R04_Add.ok pg := sp_ok ok_R04_Add fun (a0, a1, b0, b1) hw hc => h a0 a1 b0 b1 hw hc
theorem e_R04_Add_ok : e_R04_Add.ok pg := sp_R04_Add fun a0 a1 b0 b1 _ h => by
  simp only [Bool.and_eq_true, okq_iff] at h
  obtain ⟨⟨p1, p2, p3⟩, q1, q2, q3⟩ := h
  rw [R04_Add]
  have m1 := isM_mul p1 q2
  have m2 := isM_mul q1 p2
  have m3 := isM_mul p2 q2
  have s := isM_add m1 m2
  simp only [RT.run, val_digs (show 2 ≤ B16 by decide)]
  rw [if_pos (by rw [isM_okM (by decide) p1, isM_okM (by decide) q2]; rfl), if_pos (by rw [isM_okM (by decide) q1, isM_okM (by decide) p2]; rfl), if_pos (by rw [isM_okM (by decide) m1, isM_okM (by decide) m2]; rfl),
    if_pos (by rw [isM_okM (by decide) p2, isM_okM (by decide) q2]; rfl), if_pos (by rw [isM_up (by decide) s, isM_up (by decide) m3, decide_eq_true (Nat.mul_ne_zero p3 q3)]; rfl)]
  rw [← toQ16_add p3 q3, toQ16, val_digs (by decide), val_digs (by decide)]
def R04_Mul : ((List Int) × (List Int) × (List Int) × (List Int)) → RT Unit ((List Int) × (List Int))
| (a_0, a_1, b_0, b_1) =>
 .rq 7 (.req (okM 38 a_0 && okM 38 b_0) (.rq 4 (.req (okM 38 a_1 && okM 38 b_1) (.rq 1 (.req (isM 36 (digs B16 (val B16 a_0 * val B16 b_0)) && (isM 36 (digs B16 (val B16 a_1 * val B16 b_1)) && decide (val B16 (digs B16 (val B16 a_1 * val B16 b_1)) ≠ 0))) (.rq 1 (let t0 := rQ (toQ16 (digs B16 (val B16 a_0 * val B16 b_0)) (digs B16 (val B16 a_1 * val B16 b_1)));
 .done (t0.1, t0.2))))))))
def F_R04_Mul (x : (List Int) × (List Int) × (List Int) × (List Int)) : Option ((List Int) × (List Int)) := (R04_Mul x).run fun _ => none
def io_R04_Mul : Io := ⟨n_R04_Mul, [.sl tI, .sl tI, .sl tI, .sl tI], [.agg [qm 0, qm 1], .agg [qm 2, qm 3]], [], [[.sl tI, .sl tI], [.sl tI, .sl tI]], [.sl tI, .sl tI], .agg [qr 0, qr 1], [], [(true, .arr 3 (qm 0)), (true, .arr 3 (qm 1))], false⟩
def R04_Mul_P : List Piece := []
def R04_Mul_T : CallT := tab [e_R04_Low, e_R01_Mul]
theorem R04_Mul_To : SoundT pg R04_Mul_T := tab_sound ⟨e_R04_Low_ok, e_R01_Mul_ok, trivial⟩
theorem R04_Mul_go : FnOK pg (R04_Mul_T) io_R04_Mul f_R04_Mul (R04_Mul_P) [.cellRow 64 0 600064 3 tI, .cellRow 64 1 600065 3 tI, .cellRen 64 0 600064, .cellRen 64 1 600065] (R04_Mul) := ⟨by kernel_rfl, by kernel_rfl, fun x => by kernel_rfl⟩
theorem ok_R04_Mul : io_R04_Mul.Okay pg (F_R04_Mul) := fn_ok pg_mixed (R04_Mul_To) (R04_Mul_go) trivial
def e_R04_Mul : Entry := io_R04_Mul.sp (fun (a0, a1, b0, b1) => okq a0 a1 && okq b0 b1) (fun (a0, a1, b0, b1) => rQ (toQ16 a0 a1 * toQ16 b0 b1))
theorem sp_R04_Mul (h : ∀ (a0 : List Int) (a1 : List Int) (b0 : List Int) (b1 : List Int), WfT [.sl tI, .sl tI, .sl tI, .sl tI] (a0, a1, b0, b1) → (okq a0 a1 && okq b0 b1) = true → (R04_Mul (a0, a1, b0, b1)).run (fun _ => none) = some (rQ (toQ16 a0 a1 * toQ16 b0 b1))) : e_R04_Mul.ok pg := sp_ok ok_R04_Mul fun (a0, a1, b0, b1) hw hc => h a0 a1 b0 b1 hw hc
theorem e_R04_Mul_ok : e_R04_Mul.ok pg := sp_R04_Mul fun a0 a1 b0 b1 _ h => by
  simp only [Bool.and_eq_true, okq_iff] at h
  obtain ⟨⟨p1, p2, p3⟩, q1, q2, q3⟩ := h
  rw [R04_Mul]
  have m1 := isM_mul p1 q1
  have m3 := isM_mul p2 q2
  simp only [RT.run, val_digs (show 2 ≤ B16 by decide)]
  rw [if_pos (by rw [isM_okM (by decide) p1, isM_okM (by decide) q1]; rfl), if_pos (by rw [isM_okM (by decide) p2, isM_okM (by decide) q2]; rfl), if_pos (by rw [isM_up (by decide) m1, isM_up (by decide) m3, decide_eq_true (Nat.mul_ne_zero p3 q3)]; rfl)]
  unfold toQ16
  rw [Rat.mkRat_mul_mkRat, val_digs (by decide), val_digs (by decide), Int.natCast_mul]
def R04_Same_b6 : ((List Int) × (List Int) × (List Int) × (List Int)) → RT Unit Bool
| (a_0, a_1, q_0, q_1) =>
 .rq 4 (.req (isM 38 q_0) (.rq 2 (.ite (decide (a_0 = (digs B32 (val B16 q_0))))
 (.rq 4 (.req (isM 38 q_1) (.rq 3 (.done (decide (a_1 = (digs B32 (val B16 q_1))))))))
 (.rq 2 (.done false)))))
def R04_Same_p6 : Piece := ⟨6, false, [.sl tV, .sl tV, .sl tI, .sl tI], [], ⟨[.keep [2, 3], .gc], [2, 3], [.lf (qp 32), .lf (qp 48)], [(32, true, .cells [qi 0, qi 1]), (48, true, .cells [qi 2, qi 3])]⟩, [⟨0, ⟨[.keep [4], .gc], [4], [.lf (qm 0)], []⟩, [tB]⟩], (fun i _ => R04_Same_b6 i)⟩
def R04_Same : ((List Int) × (List Int) × (List Int) × (List Int)) → RT Unit Bool
| (a_0, a_1, q_0, q_1) =>
 .rq 3 (.call (on R04_Same_b6 (a_0, a_1, q_0, q_1)) default fun v0 =>
 .done v0)
def F_R04_Same (x : (List Int) × (List Int) × (List Int) × (List Int)) : Option Bool := (R04_Same x).run fun _ => none
def io_R04_Same : Io := ⟨n_R04_Same, [.sl tV, .sl tV, .sl tI, .sl tI], [.agg [qm 0, qm 1], .agg [qm 2, qm 3]], [], [[.sl tV, .sl tV], [.sl tI, .sl tI]], [tB], .lf (qm 0), [], [], false⟩
def R04_Same_P : List Piece := [R04_Same_p6]
def R04_Same_T : CallT := tab [e_R03_Same, e_R03_Out]
theorem R04_Same_To : SoundT pg R04_Same_T := tab_sound ⟨e_R03_Same_ok, e_R03_Out_ok, trivial⟩
theorem R04_Same_k6 : (R04_Same_p6).OK pg (R04_Same_T) (tell 19 (R04_Same_P)) (codeOf f_R04_Same) 19 := ⟨by kernel_rfl, fun i x => by kernel_rfl⟩
theorem R04_Same_go : FnOK pg (R04_Same_T) io_R04_Same f_R04_Same (R04_Same_P) [] (R04_Same) := ⟨by kernel_rfl, by kernel_rfl, fun x => by kernel_rfl⟩
theorem ok_R04_Same : io_R04_Same.Okay pg (F_R04_Same) := fn_ok pg_mixed (R04_Same_To) (R04_Same_go) ⟨R04_Same_k6, trivial⟩
def e_R04_Same : Entry := io_R04_Same.sp (fun (a0, a1, q0, q1) => isM 38 q0 && isM 38 q1) (fun (a0, a1, q0, q1) => decide (a0 = digs B32 (val B16 q0)) && decide (a1 = digs B32 (val B16 q1)))
theorem sp_R04_Same (h : ∀ (a0 : List Int) (a1 : List Int) (q0 : List Int) (q1 : List Int), WfT [.sl tV, .sl tV, .sl tI, .sl tI] (a0, a1, q0, q1) → (isM 38 q0 && isM 38 q1) = true → (R04_Same (a0, a1, q0, q1)).run (fun _ => none) = some (decide (a0 = digs B32 (val B16 q0)) && decide (a1 = digs B32 (val B16 q1)))) : e_R04_Same.ok pg := sp_ok ok_R04_Same fun (a0, a1, q0, q1) hw hc => h a0 a1 q0 q1 hw hc
theorem e_R04_Same_ok : e_R04_Same.ok pg := sp_R04_Same fun a0 a1 q0 q1 _ h => by
  rw [Bool.and_eq_true] at h
  rw [R04_Same]
  simp only [RT.run, on, R04_Same_b6, h.1, h.2, if_true]
  by_cases h1 : a0 = digs B32 (val B16 q0)
  · simp [h1]
  · simp [h1]
end
end Go.Proofs.YtlfdidaeachpoaaGreat
