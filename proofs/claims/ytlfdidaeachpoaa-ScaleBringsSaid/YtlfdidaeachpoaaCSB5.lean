/- The program's scale of fractions: what it tells, The program's scale of fractions: the whole, The statement ScaleBrings: its functions, The statement ScaleBrings, as a law of plain functions, Reading an argument: data that can be read is represented. -/
import Derived.Test.YtlfdidaeachpoaaCSB4
import Derived.Test.YtlfdidaeachpoaaCSB2
import Derived.Below
import Derived.ChangeArms
import Derived.DataReads
/- The program's scale of fractions: what it tells. -/
namespace Go.Proofs.Ytlfdidaeachpoaa
open Go Go.RowKit
set_option maxRecDepth 100000

theorem digs32_lt {x m : Nat} (h : x < B32 ^ m) : (digs B32 x).length ≤ m := by
  by_cases hx : x = 0
  · subst hx
    rw [digs_zero]
    exact Nat.zero_le _
  obtain ⟨k, h1, h2, h3⟩ := digs_size (b := B32) (by decide) (Nat.pos_of_ne_zero hx)
  have := (Nat.pow_lt_pow_iff_right (by decide : 1 < B32)).1 (Nat.lt_of_le_of_lt h2 h)
  omega

theorem digs32_of16 {x m : Nat} (h : x < B16 ^ m) : (digs B32 x).length ≤ m := by
  rw [digs_half]
  have := digs16_lt h
  omega

theorem okN_digs16 {x m k : Nat} (h : x < B16 ^ m) (hm : m ≤ 2 ^ k) : okN k (digs B32 x) = true := okN_iff.2 ⟨Nat.le_trans (digs32_of16 h) hm, wfd_digs (by decide) _⟩

theorem lcm32_l (n : Nat) {ns : List (Nat × Nat)} (G : Good ns) : ∀ (r i m k : Nat), r < k → i + r = ns.length → m < B16 ^ (12 * i + 1) → 0 < m → ratio_Common_l0 n (rs ns, rs ns, (ns.length : Int)) k (digs B32 m, (i : Int)) = some (digs B32 (lcmF m (ns.drop i))) := by
  intro r
  induction r with
  | zero =>
    intro i m k hk hi _ _
    obtain ⟨k, rfl⟩ : ∃ k', k = k' + 1 := ⟨k - 1, by omega⟩
    rw [ratio_Common_l0_s]
    unfold ratio_Common_b0
    simp only [RT.run]
    rw [if_neg (by simp; omega), List.drop_of_length_le (by omega)]
    rfl
  | succ r ih =>
    intro i m k hk hi hm hm0
    obtain ⟨k, rfl⟩ : ∃ k', k = k' + 1 := ⟨k - 1, by omega⟩
    have hlen := G.len
    have hi' : i < ns.length := by omega
    obtain ⟨g1, g2, g3⟩ := G.at hi'
    have w : IntKind.i64.wrap ((i : Int) + 1) = ((i + 1 : Nat) : Int) := by rw [i64_in] <;> omega
    have b := lcm_bd hm hm0 g2 g3
    rw [ratio_Common_l0_s]
    unfold ratio_Common_b0
    simp only [RT.run, Int.toNat_natCast, w, rs_get hi']
    rw [val_digs (by decide), val_digs (by decide)]
    rw [if_pos (by simp; omega), if_pos (by simp [rs_len]; omega), if_pos (by
      rw [okN_digs16 hm (by omega), okN_digs16 g2 (by decide), decide_eq_true hm0]; rfl)]
    rw [ih (i + 1) (Nat.lcm m ns[i].2) k (by omega) (by omega) (by rw [show 12 * (i + 1) + 1 = 12 * i + 1 + 12 by omega]; exact b.1) b.2, List.drop_eq_getElem_cons hi']
    rfl

/-- All denominators divide their common number. -/
theorem dvd_lcmF : ∀ (l : List (Nat × Nat)) (m : Nat), m ∣ lcmF m l ∧ ∀ x ∈ l, x.2 ∣ lcmF m l
  | [], m => ⟨Nat.dvd_refl _, fun _ h => by cases h⟩
  | y :: l, m => by
    have := dvd_lcmF l (Nat.lcm m y.2)
    refine ⟨Nat.dvd_trans (Nat.dvd_lcm_left _ _) this.1, fun x hx => ?_⟩
    rcases List.mem_cons.1 hx with rfl | h
    · exact Nat.dvd_trans (Nat.dvd_lcm_right _ _) this.1
    · exact this.2 x h

theorem up_eq {m : Nat} {x : Nat × Nat} (h : x.2 ∣ m) (h0 : 0 < x.2) : m / x.2 * x.1 = up m x := by
  unfold up
  obtain ⟨c, rfl⟩ := h
  rw [Nat.mul_div_cancel_left _ h0, Nat.mul_left_comm, Nat.mul_div_cancel_left _ h0, Nat.mul_comm]

theorem ups32_l (n : Nat) {ns : List (Nat × Nat)} (G : Good ns) : ∀ (r i k : Nat) (out : List (List Int)), r < k → i + r = ns.length → out.length ≤ i →
    ratio_Common_l2 n (digs B32 (lcmL ns), rs ns, (ns.length : Int)) k ((i : Int), out) = some (out ++ (ns.drop i).map fun x => digs B32 (up (lcmL ns) x)) := by
  intro r
  induction r with
  | zero =>
    intro i k out hk hi _
    obtain ⟨k, rfl⟩ : ∃ k', k = k' + 1 := ⟨k - 1, by omega⟩
    rw [ratio_Common_l2_s]
    unfold ratio_Common_b2
    simp only [RT.run]
    rw [if_neg (by simp; omega), List.drop_of_length_le (by omega)]
    simp
  | succ r ih =>
    intro i k out hk hi ho
    obtain ⟨k, rfl⟩ : ∃ k', k = k' + 1 := ⟨k - 1, by omega⟩
    have hlen := G.len
    have hi' : i < ns.length := by omega
    obtain ⟨g1, g2, g3⟩ := G.at hi'
    have w : IntKind.i64.wrap ((i : Int) + 1) = ((i + 1 : Nat) : Int) := by rw [i64_in] <;> omega
    have hL := (lcmL_bd G).1
    have hdv : ns[i].2 ∣ lcmL ns := (dvd_lcmF ns 1).2 _ (List.getElem_mem hi')
    have hd : divRes (lcmL ns) ns[i].2 = (digs B32 (lcmL ns / ns[i].2), digs B32 (lcmL ns % ns[i].2), true) := if_neg (by omega)
    have lq : (digs B32 (lcmL ns / ns[i].2)).length ≤ 145 := digs32_of16 (Nat.lt_of_le_of_lt (Nat.div_le_self _ _) hL)
    have ln : (digs B32 ns[i].1).length ≤ 12 := digs32_of16 g1
    rw [ratio_Common_l2_s]
    unfold ratio_Common_b2
    have r1 : ∀ x : List Int, (List.replicate 1 (nilD (Ty.int IntKind.u32).den)).set 0 x = [x] := fun _ => rfl
    have r2 : ∀ x y : List Int, ((List.replicate 2 (nilD (Ty.int IntKind.u32).den)).set 0 x).set 1 y = [x, y] := fun _ _ => rfl
    simp only [RT.run, Int.toNat_natCast, w, rs_get hi']
    rw [val_digs (by decide), val_digs (by decide)]
    simp only [hd, r1, r2]
    have hp : prodv [digs B32 (lcmL ns / ns[i].2), digs B32 ns[i].1] = up (lcmL ns) ns[i] := by
      simp only [prodv, List.foldl_cons, List.foldl_nil, val_digs (show 2 ≤ B32 by decide), Nat.one_mul]
      exact up_eq hdv g3
    simp only [hp]
    rw [if_pos (by simp; omega), if_pos (by simp [rs_len]; omega), if_pos (by rw [okN_digs16 hL (by decide), okN_digs16 g2 (by decide)]; rfl), if_pos (by
      simp only [lens, List.map_cons, List.map_nil, List.sum_cons, List.sum_nil, List.length_cons, List.length_nil, List.all_cons, List.all_nil, Bool.and_true, Bool.and_eq_true, decide_eq_true_eq]
      exact ⟨⟨by omega, by omega⟩, wfd_digs (by decide) _, wfd_digs (by decide) _⟩), if_pos (by simp <;> omega)]
    rw [ih (i + 1) k _ (by omega) (by omega) (by simp; omega), List.drop_eq_getElem_cons hi', List.append_assoc]
    rfl

theorem Common_F {ns : List (Nat × Nat)} (G : Good ns) (n : Nat) (hn : 12 < n) : F_ratio_Common n (rs ns) = some (digs B32 (lcmL ns), ns.map fun x => digs B32 (up (lcmL ns) x)) := by
  have hlen := G.len
  unfold F_ratio_Common ratio_Common
  simp only [RT.run, rs_len, nilD]
  have h1 := lcm32_l n G ns.length 0 1 n (by omega) (by omega) (by decide) (by decide)
  have h1' : ratio_Common_l0 n (rs ns, rs ns, (ns.length : Int)) n (digs B32 1, (0 : Int)) = some (digs B32 (lcmL ns)) := h1
  rw [h1']
  simp only [Option.bind_some]
  have h2 := ups32_l n G ns.length 0 n [] (by omega) (by omega) (by simp)
  have h2' : ratio_Common_l2 n (digs B32 (lcmL ns), rs ns, (ns.length : Int)) n ((0 : Int), []) = some (ns.map fun x => digs B32 (up (lcmL ns) x)) := h2
  rw [h2']
  rfl

/-! sums of words -/
theorem wadd_F {a b : Nat} (ha : a < 2 ^ 64) (hb : b < 2 ^ 64) (n : Nat) : F_wide_Add n ((a : Int), (b : Int)) = some (if a + b < 2 ^ 64 then (((a + b : Nat) : Int), true) else (0, false)) := by
  unfold F_wide_Add wide_Add
  simp only [RT.run, wrap_u64]
  by_cases h : a + b < 2 ^ 64
  · rw [if_pos h, if_neg (by simp; omega)]
    congr 2
    omega
  · rw [if_neg h, if_pos (by simp; omega)]

def ints (ws : List Nat) : List Int := ws.map fun (w : Nat) => (w : Int)

def sumN : List Nat → Nat
  | [] => 0
  | x :: l => x + sumN l

theorem spans_l (n : Nat) {ws : List Nat} (hw : ∀ w ∈ ws, w < 2 ^ 64) (hl : ws.length ≤ 2 ^ 20) : ∀ (r i a k : Nat) (out : List (Int × Int)), r < k → i + r = ws.length → a < 2 ^ 64 → out.length = i →
    (a + sumN (ws.drop i) < 2 ^ 64 → ∃ D : List (Int × Int), span_Spans_l0 n (ints ws, (ws.length : Int)) k ((a : Int), (i : Int), out) = some (.ex (out ++ D)) ∧ D.length = r ∧
      (0 < r → ∃ f m : Nat, D.getD (r - 1) (0, 0) = ((f : Int), (m : Int)) ∧ f + m = a + sumN (ws.drop i))) ∧
    (¬ a + sumN (ws.drop i) < 2 ^ 64 → span_Spans_l0 n (ints ws, (ws.length : Int)) k ((a : Int), (i : Int), out) = some (.rt false)) := by
  intro r
  induction r with
  | zero =>
    intro i a k out hk hi ha ho
    obtain ⟨k, rfl⟩ : ∃ k', k = k' + 1 := ⟨k - 1, by omega⟩
    rw [List.drop_of_length_le (by omega)]
    refine ⟨fun _ => ⟨[], ?_, rfl, fun h => absurd h (Nat.lt_irrefl _)⟩, fun h => absurd (by simpa [sumN] using ha) h⟩
    rw [span_Spans_l0_s]
    unfold span_Spans_b0
    simp only [RT.run]
    rw [if_neg (by simp; omega)]
    simp
  | succ r ih =>
    intro i a k out hk hi ha ho
    obtain ⟨k, rfl⟩ : ∃ k', k = k' + 1 := ⟨k - 1, by omega⟩
    have hi' : i < ws.length := by omega
    have hwi : ws[i] < 2 ^ 64 := hw _ (List.getElem_mem hi')
    have w : IntKind.i64.wrap ((i : Int) + 1) = ((i + 1 : Nat) : Int) := by rw [i64_in] <;> omega
    have g : (ints ws).getD i 0 = (ws[i] : Int) := by simp [ints, List.getD, hi']
    have r1 : ∀ x : Int × Int, (List.replicate 1 ((0 : Int), (0 : Int))).set 0 x = [x] := fun _ => rfl
    rw [span_Spans_l0_s, List.drop_eq_getElem_cons hi']
    unfold span_Spans_b0
    simp only [RT.run, Int.toNat_natCast, w, g, wadd_F ha hwi, Option.bind_some, r1, sumN]
    rw [if_pos (by simp; omega), if_pos (by simp [ints] <;> omega), if_pos (by simp <;> omega)]
    by_cases h : a + ws[i] < 2 ^ 64
    · rw [if_pos h]
      simp only [Bool.not_true, Bool.false_eq_true, if_false]
      obtain ⟨h1, h2⟩ := ih (i + 1) (a + ws[i]) k (out ++ [((a : Int), (ws[i] : Int))]) (by omega) (by omega) h (by simp [ho])
      refine ⟨fun hs => ?_, fun hs => h2 (by omega)⟩
      obtain ⟨D, h3, h4, h5⟩ := h1 (by omega)
      refine ⟨((a : Int), (ws[i] : Int)) :: D, by rw [h3, List.append_assoc]; rfl, by simp [h4], fun _ => ?_⟩
      rw [Nat.add_sub_cancel]
      by_cases hr : r = 0
      · subst hr
        refine ⟨a, ws[i], rfl, ?_⟩
        rw [List.drop_of_length_le (by omega)]
        rfl
      · obtain ⟨f, m, h6, h7⟩ := h5 (by omega)
        refine ⟨f, m, ?_, by omega⟩
        obtain ⟨r', rfl⟩ : ∃ r', r = r' + 1 := ⟨r - 1, by omega⟩
        rw [List.getD_cons_succ]
        exact h6
    · rw [if_neg h]
      simp only [Bool.not_false, if_true]
      exact ⟨fun hs => absurd hs (by omega), fun _ => trivial⟩

theorem Total_F {ws : List Nat} (hw : ∀ w ∈ ws, w < 2 ^ 64) (hl : ws.length ≤ 2 ^ 20) (n : Nat) (hn : ws.length < n) : F_span_Total n (ints ws) = some (if sumN ws < 2 ^ 64 then ((sumN ws : Int), true) else (0, false)) := by
  obtain ⟨h1, h2⟩ := spans_l n hw hl ws.length 0 0 n [] hn (by omega) (by decide) rfl
  rw [List.drop_zero, Nat.zero_add] at h1 h2
  have len : (ints ws).length = ws.length := by simp [ints]
  by_cases h : sumN ws < 2 ^ 64
  · obtain ⟨D, h3, h4, h5⟩ := h1 h
    have hS : F_span_Spans n (ints ws) = some (true, D) := by
      unfold F_span_Spans span_Spans
      simp only [RT.run, len, nilD]
      have h3' : span_Spans_l0 n (ints ws, (ws.length : Int)) n ((0 : Int), (0 : Int), []) = some (.ex D) := h3
      rw [h3']
      rfl
    unfold F_span_Total span_Total
    simp only [RT.run, hS, Option.bind_some, Bool.not_true, Bool.false_eq_true, if_false]
    rw [if_pos h]
    by_cases h0 : ws.length = 0
    · rw [if_pos (by simp [h4, h0])]
      rw [List.eq_nil_of_length_eq_zero h0]
      rfl
    · obtain ⟨f, m, h6, h7⟩ := h5 (by omega)
      have w1 : IntKind.i64.wrap ((D.length : Int) - 1) = ((ws.length - 1 : Nat) : Int) := by rw [h4, i64_in] <;> omega
      rw [if_neg (by rw [h4]; simpa using h0)]
      simp only [w1, Int.toNat_natCast]
      have h6' : D.getD (ws.length - 1) ((Ty.int IntKind.u64).pair (Ty.int IntKind.u64)).dflt = ((f : Int), (m : Int)) := h6
      have hq : (decide ((0 : Int) ≤ ((ws.length - 1 : Nat) : Int)) && decide (((ws.length - 1 : Nat) : Int) < (D.length : Int))) = true := by
        rw [h4]
        simp <;> omega
      rw [h6', if_pos hq]
      have w2 : IntKind.u64.wrap ((f : Int) + (m : Int)) = (sumN ws : Int) := by rw [u64_in] <;> omega
      simp only [w2]
  · have h3 := h2 h
    have hS : F_span_Spans n (ints ws) = some (false, []) := by
      unfold F_span_Spans span_Spans
      simp only [RT.run, len, nilD]
      have h3' : span_Spans_l0 n (ints ws, (ws.length : Int)) n ((0 : Int), (0 : Int), []) = some (.rt false) := h3
      rw [h3']
      rfl
    unfold F_span_Total span_Total
    simp only [RT.run, hS, Option.bind_some, Bool.not_false, if_true]
    rw [if_neg h]

end Go.Proofs.Ytlfdidaeachpoaa

/- The program's scale of fractions: the whole. -/
namespace Go.Proofs.Ytlfdidaeachpoaa
open Go Go.RowKit
set_option maxRecDepth 100000

theorem weights_l (n : Nat) {us : List Nat} {c : Int} (hl : us.length ≤ 2 ^ 20) (hu : ∀ u ∈ us, (digs B32 u).length ≤ 2 ^ 40) : ∀ (r i k : Nat) (out : List Int), r < k → i + r = us.length → out.length = i →
    scale_Bring_l0 n ((us.length : Int), 0, 0, c, 0, us.map fun u => digs B32 u) k ((i : Int), out) = some (if (us.drop i).all (fun u => decide (u < 2 ^ 64)) = true then .ex (out ++ ints (us.drop i)) else .rt (10, 0, 0)) := by
  intro r
  induction r with
  | zero =>
    intro i k out hk hi ho
    obtain ⟨k, rfl⟩ : ∃ k', k = k' + 1 := ⟨k - 1, by omega⟩
    rw [scale_Bring_l0_s]
    unfold scale_Bring_b0
    simp only [RT.run]
    rw [if_neg (by simp; omega), List.drop_of_length_le (by omega)]
    simp [ints]
  | succ r ih =>
    intro i k out hk hi ho
    obtain ⟨k, rfl⟩ : ∃ k', k = k' + 1 := ⟨k - 1, by omega⟩
    have hi' : i < us.length := by omega
    have w : IntKind.i64.wrap ((i : Int) + 1) = ((i + 1 : Nat) : Int) := by rw [i64_in] <;> omega
    have g : (us.map fun u => digs B32 u).getD i (nilD (Ty.int IntKind.u32).den) = digs B32 us[i] := by simp [List.getD, hi']
    have hlen := hu _ (List.getElem_mem hi')
    rw [scale_Bring_l0_s, List.drop_eq_getElem_cons hi']
    unfold scale_Bring_b0
    simp only [RT.run, Int.toNat_natCast, w, g, rep1]
    rw [val_digs (by decide)]
    rw [if_pos (by simp; omega), if_pos (by simp <;> omega), if_pos (by simp only [Bool.and_eq_true, decide_eq_true_eq]; exact ⟨hlen, wfd_digs (by decide) _⟩)]
    by_cases h : us[i] < 2 ^ 64
    · have h' : us[i] < 18446744073709551616 := h
      rw [if_neg (by simpa using h'), if_pos (by simp <;> omega), if_pos h', ih (i + 1) k _ (by omega) (by omega) (by simp [ho])]
      simp only [List.all_cons, decide_eq_true h, Bool.true_and, List.append_assoc]
      rfl
    · have h' : ¬ us[i] < 18446744073709551616 := h
      rw [if_pos (by simpa using h')]
      simp only [List.all_cons, decide_eq_false h, Bool.false_and, Bool.false_eq_true, if_false]

theorem sumN_ups (m : Nat) : ∀ l : List (Nat × Nat), sumN (l.map (up m)) = sumU m l
  | [] => rfl
  | x :: l => by rw [List.map_cons, sumN, sumN_ups m l]; rfl

theorem Bring_F {ns : List (Nat × Nat)} (G : Good ns) (n : Nat) (hn : 12 < n) : F_scale_Bring n (rs ns) = some (scaleN ns) := by
  have hlen := G.len
  have hL := (lcmL_bd G).1
  have lL := digs32_of16 hL
  unfold F_scale_Bring scale_Bring
  simp only [RT.run, Common_F G n hn, Option.bind_some, nilD]
  rw [val_digs (by decide)]
  rw [if_pos (by simp only [Bool.and_eq_true, decide_eq_true_eq]; exact ⟨by omega, wfd_digs (by decide) _⟩)]
  unfold scaleN
  have hus : ∀ u ∈ ns.map (up (lcmL ns)), (digs B32 u).length ≤ 2 ^ 40 := fun u hu => by
    obtain ⟨x, hx, rfl⟩ := List.mem_map.1 hu
    have := digs32_of16 (up_bd G hx)
    omega
  by_cases h1 : lcmL ns < 2 ^ 64
  · have h1' : lcmL ns < 18446744073709551616 := h1
    rw [if_neg (by simpa using h1'), if_pos h1']
    have hw := weights_l n (us := ns.map (up (lcmL ns))) (c := (lcmL ns : Int)) (by simp; omega) hus (ns.map (up (lcmL ns))).length 0 n [] (by simp; omega) (by omega) rfl
    have e : (ns.map (up (lcmL ns))).map (fun u => digs B32 u) = ns.map fun x => digs B32 (up (lcmL ns) x) := by rw [List.map_map]; rfl
    rw [e, List.length_map, List.drop_zero, List.nil_append] at hw
    have hw' : scale_Bring_l0 n (((ns.map fun x => digs B32 (up (lcmL ns) x)).length : Int), (0 : Int), (0 : Int), (lcmL ns : Int), (0 : Int), ns.map fun x => digs B32 (up (lcmL ns) x)) n ((0 : Int), []) =
        some (if (ns.map (up (lcmL ns))).all (fun u => decide (u < 2 ^ 64)) = true then .ex (ints (ns.map (up (lcmL ns)))) else .rt (10, 0, 0)) := by
      rw [List.length_map]
      exact hw
    rw [hw']
    simp only [Option.bind_some]
    by_cases hall : (ns.map (up (lcmL ns))).all (fun u => decide (u < 2 ^ 64)) = true
    · rw [if_pos hall]
      simp only [LR.isRt, LR.getX, Bool.false_eq_true, if_false]
      have hlt : ∀ u ∈ ns.map (up (lcmL ns)), u < 2 ^ 64 := fun u hu => of_decide_eq_true (List.all_eq_true.1 hall u hu)
      rw [Total_F hlt (by simp; omega) n (by simp; omega), sumN_ups]
      simp only [Option.bind_some]
      by_cases h2 : sumU (lcmL ns) ns < 2 ^ 64
      · rw [if_pos h2]
        simp only [Bool.not_true, Bool.false_eq_true, if_false]
        rw [if_pos (⟨h1, h2⟩ : lcmL ns < 2 ^ 64 ∧ sumU (lcmL ns) ns < 2 ^ 64)]
        congr 4
        unfold ints
        rw [List.map_map]
        rfl
      · rw [if_neg h2]
        simp only [Bool.not_false, if_true]
        rw [if_neg (fun h : lcmL ns < 2 ^ 64 ∧ sumU (lcmL ns) ns < 2 ^ 64 => h2 h.2)]
    · rw [if_neg hall]
      simp only [LR.isRt, LR.getR, if_true]
      rw [if_neg (fun h : lcmL ns < 2 ^ 64 ∧ sumU (lcmL ns) ns < 2 ^ 64 => hall (List.all_eq_true.2 fun u hu => by
        obtain ⟨x, hx, rfl⟩ := List.mem_map.1 hu
        exact decide_eq_true (Nat.lt_of_le_of_lt (sumU_le _ _ _ hx) h.2)))]
  · have h1' : ¬ lcmL ns < 18446744073709551616 := h1
    rw [if_pos (by simpa using h1'), if_neg fun h => h1 h.1]

theorem Fits_F {ns : List (Nat × Nat)} (G : Good ns) (n : Nat) (hn : 12 < n) : F_scale_Fits n (rs ns) = some ((scaleN ns).2.2.1 == 0) := by
  unfold F_scale_Fits scale_Fits
  simp only [RT.run, Bring_F G n hn, Option.bind_some]

end Go.Proofs.Ytlfdidaeachpoaa

/- The statement ScaleBrings: its functions. -/
namespace Go.Proofs.Ytlfdidaeachpoaa
open Go Go.RowKit
set_option maxRecDepth 100000
noncomputable section

abbrev law21_same_T (n : Nat) : CallT := tab [e_R07_Words n]
def law21_same_told (n : Nat) : Nat → St → Option Tree := fun _ _ => none
def law21_same_res (y : Bool) : CallRes := ⟨true, .lf (.bool y), [], [], false⟩
def law21_same (n : Nat) (a0_0 : Int) (a0_1 : Int) (a0_2 : (List Int)) (a1 : Int) (a2_0 : Int) (a2_1 : Int) (a2_2 : (List Int)) (a3 : Int) : RT Unit Bool :=
  (.rq 7 (.ite (a1 == a3)
  (.rq 7 (.ite (a0_0 == a2_0)
  (.rq 7 (.ite (a0_1 == a2_1)
  (.rq 4 (.req (decide (a0_2.length ≤ (1152921504606846976 : Nat)))
  (.rq 2 (.done (decide (a0_2 = a2_2))))))
  (.rq 2 (.done false))))
  (.rq 2 (.ite (false)
  (.rq 4 (.req (decide (a0_2.length ≤ (1152921504606846976 : Nat)))
  (.rq 2 (.done (decide (a0_2 = a2_2))))))
  (.rq 2 (.done false))))))
  (.rq 2 (.ite (false)
  (.rq 7 (.ite (a0_1 == a2_1)
  (.rq 4 (.req (decide (a0_2.length ≤ (1152921504606846976 : Nat)))
  (.rq 2 (.done (decide (a0_2 = a2_2))))))
  (.rq 2 (.done false))))
  (.rq 2 (.ite (false)
  (.rq 4 (.req (decide (a0_2.length ≤ (1152921504606846976 : Nat)))
  (.rq 2 (.done (decide (a0_2 = a2_2))))))
  (.rq 2 (.done false))))))))
def F_law21_same (n : Nat) (x : (Int × (Int × ((List Int) × (Int × (Int × (Int × ((List Int) × Int)))))))) : Option Bool := (law21_same n x.1 x.2.1 x.2.2.1 x.2.2.2.1 x.2.2.2.2.1 x.2.2.2.2.2.1 x.2.2.2.2.2.2.1 x.2.2.2.2.2.2.2).run fun _ => none
def law21_same_ans (F : (Int × (Int × ((List Int) × (Int × (Int × (Int × ((List Int) × Int))))))) → Option Bool) : List TV → List Ent → Option CallRes
  | [.agg [.int IntKind.u64 a0_0, .int IntKind.u64 a0_1, .dat (Ty.int IntKind.u64) a0_2], .lf (.int IntKind.i64 a1), .agg [.int IntKind.u64 a2_0, .int IntKind.u64 a2_1, .dat (Ty.int IntKind.u64) a2_2], .lf (.int IntKind.i64 a3)], [] => some (callAns (F (a0_0, a0_1, a0_2, a1, a2_0, a2_1, a2_2, a3)) law21_same_res)
  | _, _ => none
def en_law21_same (F : (Int × (Int × ((List Int) × (Int × (Int × (Int × ((List Int) × Int))))))) → Option Bool) : Entry := .data n_law21_same [[Ty.int IntKind.u64, Ty.int IntKind.u64, Ty.sl (Ty.int IntKind.u64)], [Ty.int IntKind.i64], [Ty.int IntKind.u64, Ty.int IntKind.u64, Ty.sl (Ty.int IntKind.u64)], [Ty.int IntKind.i64]] (law21_same_ans F)
abbrev e_law21_same (n : Nat) : Entry := en_law21_same (F_law21_same n)
theorem law21_same_T_ok (n : Nat) : SoundT pg (law21_same_T n) := tab_sound ⟨e_R07_Words_ok n, trivial⟩
theorem law21_same_e (n : Nat) (a0_0 : Int) (a0_1 : Int) (a0_2 : (List Int)) (a1 : Int) (a2_0 : Int) (a2_1 : Int) (a2_2 : (List Int)) (a3 : Int) : (evFn pg (law21_same_T n) (loopsTold (law21_same_told n)) f_law21_same (codeOf f_law21_same) [.agg [.int IntKind.u64 a0_0, .int IntKind.u64 a0_1, .dat (Ty.int IntKind.u64) a0_2], .lf (.int IntKind.i64 a1), .agg [.int IntKind.u64 a2_0, .int IntKind.u64 a2_1, .dat (Ty.int IntKind.u64) a2_2], .lf (.int IntKind.i64 a3)] []).pt (outEv pg f_law21_same 0 [] false) =
    (law21_same n a0_0 a0_1 a0_2 a1 a2_0 a2_1 a2_2 a3).pt (fun _ => .norm [] []) (fun y => .out (law21_same_res y)) := by kernel_rfl
theorem law21_same_call (n : Nat) (a0_0 : Int) (a0_1 : Int) (a0_2 : (List Int)) (a1 : Int) (a2_0 : Int) (a2_1 : Int) (a2_2 : (List Int)) (a3 : Int) (y : Bool) (hy : F_law21_same n (a0_0, a0_1, a0_2, a1, a2_0, a2_1, a2_2, a3) = some y) : Enters pg n_law21_same ∧ CallOK pg n_law21_same [.agg [.int IntKind.u64 a0_0, .int IntKind.u64 a0_1, .dat (Ty.int IntKind.u64) a0_2], .lf (.int IntKind.i64 a1), .agg [.int IntKind.u64 a2_0, .int IntKind.u64 a2_1, .dat (Ty.int IntKind.u64) a2_2], .lf (.int IntKind.i64 a3)] [] (law21_same_res y) := fn_lift (fn := f_law21_same) pg_mixed (T := law21_same_T n) (law21_same_T_ok n) (L := loopsTold (law21_same_told n)) (by kernel_rfl) (by kernel_rfl) (by kernel_rfl) regs_told (loops_told0 (by kernel_rfl)) (args := [.agg [.int IntKind.u64 a0_0, .int IntKind.u64 a0_1, .dat (Ty.int IntKind.u64) a0_2], .lf (.int IntKind.i64 a1), .agg [.int IntKind.u64 a2_0, .int IntKind.u64 a2_1, .dat (Ty.int IntKind.u64) a2_2], .lf (.int IntKind.i64 a3)]) (es := []) law21_same_res [] false (fun _ => rfl) (law21_same n a0_0 a0_1 a0_2 a1 a2_0 a2_1 a2_2 a3) (law21_same_e n a0_0 a0_1 a0_2 a1 a2_0 a2_1 a2_2 a3) hy
theorem en_law21_same_ok (n : Nat) : (en_law21_same (F_law21_same n)).ok pg := Entry.data_ok <| by
  intro args es r h hv
  unfold law21_same_ans at h
  simp only at h
  split at h
  · rename_i a0_0 a0_1 a0_2 a1 a2_0 a2_1 a2_2 a3
    cases h
    exact callAns_ok (fun y hy => law21_same_call n a0_0 a0_1 a0_2 a1 a2_0 a2_1 a2_2 a3 y hy) hv
  · cases h
/-- The function, by what it is known to tell. -/
def sp_law21_same (C : (Int × (Int × ((List Int) × (Int × (Int × (Int × ((List Int) × Int))))))) → Bool) (V : (Int × (Int × ((List Int) × (Int × (Int × (Int × ((List Int) × Int))))))) → Bool) : Entry := .data n_law21_same [[Ty.int IntKind.u64, Ty.int IntKind.u64, Ty.sl (Ty.int IntKind.u64)], [Ty.int IntKind.i64], [Ty.int IntKind.u64, Ty.int IntKind.u64, Ty.sl (Ty.int IntKind.u64)], [Ty.int IntKind.i64]] fun args es => match args, es with
  | [.agg [.int IntKind.u64 a0_0, .int IntKind.u64 a0_1, .dat (Ty.int IntKind.u64) a0_2], .lf (.int IntKind.i64 a1), .agg [.int IntKind.u64 a2_0, .int IntKind.u64 a2_1, .dat (Ty.int IntKind.u64) a2_2], .lf (.int IntKind.i64 a3)], [] => some { law21_same_res (V (a0_0, a0_1, a0_2, a1, a2_0, a2_1, a2_2, a3)) with vc := C (a0_0, a0_1, a0_2, a1, a2_0, a2_1, a2_2, a3) }
  | _, _ => none
theorem sp_law21_same_ok {C : (Int × (Int × ((List Int) × (Int × (Int × (Int × ((List Int) × Int))))))) → Bool} {V : (Int × (Int × ((List Int) × (Int × (Int × (Int × ((List Int) × Int))))))) → Bool} (H : ∀ x, C x = true → ∃ n, F_law21_same n x = some (V x)) : (sp_law21_same C V).ok pg := Entry.data_ok <| by
  intro args es r h hv
  simp only at h
  split at h
  · rename_i a0_0 a0_1 a0_2 a1 a2_0 a2_1 a2_2 a3
    cases h
    obtain ⟨n, hn⟩ := H (a0_0, a0_1, a0_2, a1, a2_0, a2_1, a2_2, a3) hv
    exact ⟨(law21_same_call n a0_0 a0_1 a0_2 a1 a2_0 a2_1 a2_2 a3 _ hn).1, (law21_same_call n a0_0 a0_1 a0_2 a1 a2_0 a2_1 a2_2 a3 _ hn).2.vc⟩
  · cases h
theorem e_law21_same_ok (n : Nat) : (e_law21_same n).ok pg := en_law21_same_ok n


abbrev law21_alive_T (n : Nat) : CallT := tab [e_R04_Of n, e_R04_Out n, e_scale_Bring n, e_R07_Words n, e_scale_Fits n]
def law21_alive_told (n : Nat) : Nat → St → Option Tree := fun _ _ => none
def law21_alive_res (y : Bool) : CallRes := ⟨true, .lf (.bool y), [], [], false⟩
def law21_alive (n : Nat) : RT Unit Bool :=
  (.rq 1 (.call (F_R04_Of n ((10 : Int), (3 : Int))) default fun v0 =>
  (.call (F_R04_Out n (v0.fst, v0.snd)) default fun v1 =>
  (.call (F_R04_Of n ((20 : Int), (3 : Int))) default fun v2 =>
  (.call (F_R04_Out n (v2.fst, v2.snd)) default fun v3 =>
  (.rq 1 (.call (F_scale_Bring n (((List.replicate (2 : Nat) (nilD (Ty.int IntKind.u32).den, nilD (Ty.int IntKind.u32).den)).set (0 : Nat) (v1.fst, v1.snd)).set (1 : Nat) (v3.fst, v3.snd))) default fun v4 =>
  (.rq 9 (.ite (v4.snd.snd.fst == (0 : Int))
  (.rq 5 (.ite (v4.fst == (3 : Int))
  (.rq 5 (.ite (v4.snd.fst == (30 : Int))
  (.rq 3 (.req (decide (v4.snd.snd.snd.length ≤ (1152921504606846976 : Nat)))
  (.rq 2 (.ite (decide (v4.snd.snd.snd = ((List.replicate (2 : Nat) (0 : Int)).set (0 : Nat) (10 : Int)).set (1 : Nat) (20 : Int)))
  (.rq 4 (.call (F_scale_Fits n
  ((List.replicate (1 : Nat) (nilD (Ty.int IntKind.u32).den, nilD (Ty.int IntKind.u32).den)).set (0 : Nat)
    ((((List.replicate (3 : Nat) (0 : Int)).set (0 : Nat) (0 : Int)).set (1 : Nat) (0 : Int)).set (2 : Nat) (1 : Int), (List.replicate (1 : Nat) (0 : Int)).set (0 : Nat) (1 : Int)))) default fun v5 =>
  (.rq 3 (.done !v5))))
  (.rq 2 (.done false))))))
  (.rq 2 (.ite (false)
  (.rq 4 (.call (F_scale_Fits n
  ((List.replicate (1 : Nat) (nilD (Ty.int IntKind.u32).den, nilD (Ty.int IntKind.u32).den)).set (0 : Nat)
    ((((List.replicate (3 : Nat) (0 : Int)).set (0 : Nat) (0 : Int)).set (1 : Nat) (0 : Int)).set (2 : Nat) (1 : Int), (List.replicate (1 : Nat) (0 : Int)).set (0 : Nat) (1 : Int)))) default fun v5 =>
  (.rq 3 (.done !v5))))
  (.rq 2 (.done false))))))
  (.rq 2 (.ite (false)
  (.rq 3 (.req (decide (v4.snd.snd.snd.length ≤ (1152921504606846976 : Nat)))
  (.rq 2 (.ite (decide (v4.snd.snd.snd = ((List.replicate (2 : Nat) (0 : Int)).set (0 : Nat) (10 : Int)).set (1 : Nat) (20 : Int)))
  (.rq 4 (.call (F_scale_Fits n
  ((List.replicate (1 : Nat) (nilD (Ty.int IntKind.u32).den, nilD (Ty.int IntKind.u32).den)).set (0 : Nat)
    ((((List.replicate (3 : Nat) (0 : Int)).set (0 : Nat) (0 : Int)).set (1 : Nat) (0 : Int)).set (2 : Nat) (1 : Int), (List.replicate (1 : Nat) (0 : Int)).set (0 : Nat) (1 : Int)))) default fun v5 =>
  (.rq 3 (.done !v5))))
  (.rq 2 (.done false))))))
  (.rq 2 (.ite (false)
  (.rq 4 (.call (F_scale_Fits n
  ((List.replicate (1 : Nat) (nilD (Ty.int IntKind.u32).den, nilD (Ty.int IntKind.u32).den)).set (0 : Nat)
    ((((List.replicate (3 : Nat) (0 : Int)).set (0 : Nat) (0 : Int)).set (1 : Nat) (0 : Int)).set (2 : Nat) (1 : Int), (List.replicate (1 : Nat) (0 : Int)).set (0 : Nat) (1 : Int)))) default fun v5 =>
  (.rq 3 (.done !v5))))
  (.rq 2 (.done false))))))))
  (.rq 2 (.ite (false)
  (.rq 5 (.ite (v4.snd.fst == (30 : Int))
  (.rq 3 (.req (decide (v4.snd.snd.snd.length ≤ (1152921504606846976 : Nat)))
  (.rq 2 (.ite (decide (v4.snd.snd.snd = ((List.replicate (2 : Nat) (0 : Int)).set (0 : Nat) (10 : Int)).set (1 : Nat) (20 : Int)))
  (.rq 4 (.call (F_scale_Fits n
  ((List.replicate (1 : Nat) (nilD (Ty.int IntKind.u32).den, nilD (Ty.int IntKind.u32).den)).set (0 : Nat)
    ((((List.replicate (3 : Nat) (0 : Int)).set (0 : Nat) (0 : Int)).set (1 : Nat) (0 : Int)).set (2 : Nat) (1 : Int), (List.replicate (1 : Nat) (0 : Int)).set (0 : Nat) (1 : Int)))) default fun v5 =>
  (.rq 3 (.done !v5))))
  (.rq 2 (.done false))))))
  (.rq 2 (.ite (false)
  (.rq 4 (.call (F_scale_Fits n
  ((List.replicate (1 : Nat) (nilD (Ty.int IntKind.u32).den, nilD (Ty.int IntKind.u32).den)).set (0 : Nat)
    ((((List.replicate (3 : Nat) (0 : Int)).set (0 : Nat) (0 : Int)).set (1 : Nat) (0 : Int)).set (2 : Nat) (1 : Int), (List.replicate (1 : Nat) (0 : Int)).set (0 : Nat) (1 : Int)))) default fun v5 =>
  (.rq 3 (.done !v5))))
  (.rq 2 (.done false))))))
  (.rq 2 (.ite (false)
  (.rq 3 (.req (decide (v4.snd.snd.snd.length ≤ (1152921504606846976 : Nat)))
  (.rq 2 (.ite (decide (v4.snd.snd.snd = ((List.replicate (2 : Nat) (0 : Int)).set (0 : Nat) (10 : Int)).set (1 : Nat) (20 : Int)))
  (.rq 4 (.call (F_scale_Fits n
  ((List.replicate (1 : Nat) (nilD (Ty.int IntKind.u32).den, nilD (Ty.int IntKind.u32).den)).set (0 : Nat)
    ((((List.replicate (3 : Nat) (0 : Int)).set (0 : Nat) (0 : Int)).set (1 : Nat) (0 : Int)).set (2 : Nat) (1 : Int), (List.replicate (1 : Nat) (0 : Int)).set (0 : Nat) (1 : Int)))) default fun v5 =>
  (.rq 3 (.done !v5))))
  (.rq 2 (.done false))))))
  (.rq 2 (.ite (false)
  (.rq 4 (.call (F_scale_Fits n
  ((List.replicate (1 : Nat) (nilD (Ty.int IntKind.u32).den, nilD (Ty.int IntKind.u32).den)).set (0 : Nat)
    ((((List.replicate (3 : Nat) (0 : Int)).set (0 : Nat) (0 : Int)).set (1 : Nat) (0 : Int)).set (2 : Nat) (1 : Int), (List.replicate (1 : Nat) (0 : Int)).set (0 : Nat) (1 : Int)))) default fun v5 =>
  (.rq 3 (.done !v5))))
  (.rq 2 (.done false)))))))))))))))))
def F_law21_alive (n : Nat) (x : Unit) : Option Bool := (law21_alive n).run fun _ => none
def law21_alive_ans (F : Unit → Option Bool) : List TV → List Ent → Option CallRes
  | [], [] => some (callAns (F ()) law21_alive_res)
  | _, _ => none
def en_law21_alive (F : Unit → Option Bool) : Entry := .data n_law21_alive [] (law21_alive_ans F)
abbrev e_law21_alive (n : Nat) : Entry := en_law21_alive (F_law21_alive n)
theorem law21_alive_T_ok (n : Nat) : SoundT pg (law21_alive_T n) := tab_sound ⟨e_R04_Of_ok n, e_R04_Out_ok n, e_scale_Bring_ok n, e_R07_Words_ok n, e_scale_Fits_ok n, trivial⟩
theorem law21_alive_e (n : Nat) : (evFn pg (law21_alive_T n) (loopsTold (law21_alive_told n)) f_law21_alive (codeOf f_law21_alive) [] []).pt (outEv pg f_law21_alive 0 [.cellRow 16 2 600018 25 (Ty.int IntKind.u64), .cellRen 16 2 600018] false) =
    (law21_alive n).pt (fun _ => .norm [] []) (fun y => .out (law21_alive_res y)) := by kernel_rfl
theorem law21_alive_call (n : Nat) (y : Bool) (hy : F_law21_alive n () = some y) : Enters pg n_law21_alive ∧ CallOK pg n_law21_alive [] [] (law21_alive_res y) := fn_lift (fn := f_law21_alive) pg_mixed (T := law21_alive_T n) (law21_alive_T_ok n) (L := loopsTold (law21_alive_told n)) (by kernel_rfl) (by kernel_rfl) (by kernel_rfl) regs_told (loops_told0 (by kernel_rfl)) (args := []) (es := []) law21_alive_res [.cellRow 16 2 600018 25 (Ty.int IntKind.u64), .cellRen 16 2 600018] false (fun _ => rfl) (law21_alive n) (law21_alive_e n) hy
theorem en_law21_alive_ok (n : Nat) : (en_law21_alive (F_law21_alive n)).ok pg := Entry.data_ok <| by
  intro args es r h hv
  unfold law21_alive_ans at h
  simp only at h
  split at h
  · cases h
    exact callAns_ok (fun y hy => law21_alive_call n y hy) hv
  · cases h
/-- The function, by what it is known to tell. -/
def sp_law21_alive (C : Unit → Bool) (V : Unit → Bool) : Entry := .data n_law21_alive [] fun args es => match args, es with
  | [], [] => some { law21_alive_res (V ()) with vc := C () }
  | _, _ => none
theorem sp_law21_alive_ok {C : Unit → Bool} {V : Unit → Bool} (H : ∀ x, C x = true → ∃ n, F_law21_alive n x = some (V x)) : (sp_law21_alive C V).ok pg := Entry.data_ok <| by
  intro args es r h hv
  simp only at h
  split at h
  · cases h
    obtain ⟨n, hn⟩ := H () hv
    exact ⟨(law21_alive_call n _ hn).1, (law21_alive_call n _ hn).2.vc⟩
  · cases h
theorem e_law21_alive_ok (n : Nat) : (e_law21_alive n).ok pg := en_law21_alive_ok n


abbrev law21_ScaleBrings_T (n : Nat) : CallT := tab [e_law21_alive n, e_R04_Right n, e_R04_In n, e_scale_Bring n, e_R21_Bring n, e_law21_same n, e_scale_Fits n]
abbrev law21_ScaleBrings_h0 : Cut := ⟨[.keep [0, 3, 4], .gc, .nilRow 3 800003 49 (Ty.pair (Ty.sl (Ty.int IntKind.i64)) (Ty.sl (Ty.int IntKind.i64))), .ren 3 700003, .ren 3 900003, .gc], [0, 3, 4]⟩
abbrev law21_ScaleBrings_x0 : Cut := ⟨[.keep [0, 3], .gc, .nilRow 3 800003 49 (Ty.pair (Ty.sl (Ty.int IntKind.i64)) (Ty.sl (Ty.int IntKind.i64))), .ren 3 700003, .ren 3 900003, .gc], [0, 3]⟩
abbrev law21_ScaleBrings_y0 : Cut := ⟨[.keep [2], .gc], [2]⟩
def law21_ScaleBrings_mk0 (i : (List ((List Int) × (List Int)))) (x : (Int × (List ((List Int) × (List Int))))) : List TV × List (Nat × Ent) := ([.lf (.dat (Ty.pair (Ty.sl (Ty.int IntKind.u32)) (Ty.sl (Ty.int IntKind.u32))) i), .lf (.ref 900003), .lf (.int IntKind.i64 x.1)], [(900003, ⟨true, .arr 49 (Ty.pair (Ty.sl (Ty.int IntKind.i64)) (Ty.sl (Ty.int IntKind.i64))) x.2⟩)])
def law21_ScaleBrings_pt0 : List TV → List (Nat × Ent) → Option ((List ((List Int) × (List Int))) × (Int × (List ((List Int) × (List Int)))))
  | [.lf (.dat (Ty.pair (Ty.sl (Ty.int IntKind.u32)) (Ty.sl (Ty.int IntKind.u32))) x0), .lf (.ref 900003), .lf (.int IntKind.i64 x4)], [(900003, ⟨true, .arr 49 (Ty.pair (Ty.sl (Ty.int IntKind.i64)) (Ty.sl (Ty.int IntKind.i64))) h0⟩)] => some (x0, (x4, h0))
  | _, _ => none
def law21_ScaleBrings_ev0 (i : (List ((List Int) × (List Int)))) : (LR (List ((List Int) × (List Int))) Bool) → PE
  | .ex z => .exit 0 [.lf (.dat (Ty.pair (Ty.sl (Ty.int IntKind.u32)) (Ty.sl (Ty.int IntKind.u32))) i), .lf (.ref 900003)] [(900003, ⟨true, .arr 49 (Ty.pair (Ty.sl (Ty.int IntKind.i64)) (Ty.sl (Ty.int IntKind.i64))) z⟩)]
  | .rt z => .ret [.lf (.bool z)] []
def law21_ScaleBrings_an0 (i : (List ((List Int) × (List Int)))) (r : (LR (List ((List Int) × (List Int))) Bool)) : Tree := .ite r.isRt (.leaf (.ret (spSt 77 [2] [.lf (.bool r.getR)] []))) (.leaf (.exit 0 (spSt 77 [0, 3] [.lf (.dat (Ty.pair (Ty.sl (Ty.int IntKind.u32)) (Ty.sl (Ty.int IntKind.u32))) i), .lf (.ref 900003)] [(900003, ⟨true, .arr 49 (Ty.pair (Ty.sl (Ty.int IntKind.i64)) (Ty.sl (Ty.int IntKind.i64))) r.getX⟩)])))
def law21_ScaleBrings_b0 (n : Nat) (x0 : (List ((List Int) × (List Int)))) (x4 : Int) (h0 : (List ((List Int) × (List Int)))) : RT (Int × (List ((List Int) × (List Int)))) (LR (List ((List Int) × (List Int))) Bool) :=
  (.rq 4 (.ite (decide (x4 < (↑x0.length : Int)))
  (.rq 2 (.req (decide ((0 : Int) ≤ x4) && decide (x4 < (↑x0.length : Int)))
  (.rq 5 (.ite (decide ((6 : Int) < (↑(List.length (x0.getD x4.toNat ((Ty.int IntKind.u32).sl.pair (Ty.int IntKind.u32).sl).dflt).fst) : Int)))
  (.rq 2 (.ite (true)
  (.rq 1 (.ite (true)
  (.call (F_law21_alive n ()) default fun v0 =>
  (.rq 1 (.done (.rt v0))))
  (.rq 3 (.req (decide ((0 : Int) ≤ x4) && decide (x4 < (↑x0.length : Int)))
  (.rq 1 (.call (F_R04_In n ((x0.getD x4.toNat ((Ty.int IntKind.u32).sl.pair (Ty.int IntKind.u32).sl).dflt).fst, (x0.getD x4.toNat ((Ty.int IntKind.u32).sl.pair (Ty.int IntKind.u32).sl).dflt).snd)) default fun v0 =>
  (.rq 1 (.req (decide ((h0.length + ((List.replicate (1 : Nat) (nilD (Ty.int IntKind.i64).den, nilD (Ty.int IntKind.i64).den)).set (0 : Nat) (v0.fst, v0.snd)).length) * (48 : Nat) ≤ (140737488355328 : Nat)) &&
  decide (h0.length + ((List.replicate (1 : Nat) (nilD (Ty.int IntKind.i64).den, nilD (Ty.int IntKind.i64).den)).set (0 : Nat) (v0.fst, v0.snd)).length ≤ (9223372036854775807 : Nat)))
  (.rq 4 (.again ((IntKind.i64.wrap (x4 + (1 : Int)), h0 ++ (List.replicate (1 : Nat) (nilD (Ty.int IntKind.i64).den, nilD (Ty.int IntKind.i64).den)).set (0 : Nat) (v0.fst, v0.snd)))))))))))))
  (.rq 2 (.req (decide ((0 : Int) ≤ x4) && decide (x4 < (↑x0.length : Int)))
  (.rq 1 (.call (F_R04_Right n ((x0.getD x4.toNat ((Ty.int IntKind.u32).sl.pair (Ty.int IntKind.u32).sl).dflt).fst, (x0.getD x4.toNat ((Ty.int IntKind.u32).sl.pair (Ty.int IntKind.u32).sl).dflt).snd)) default fun v0 =>
  (.rq 2 (.ite (!v0)
  (.call (F_law21_alive n ()) default fun v1 =>
  (.rq 1 (.done (.rt v1))))
  (.rq 3 (.req (decide ((0 : Int) ≤ x4) && decide (x4 < (↑x0.length : Int)))
  (.rq 1 (.call (F_R04_In n ((x0.getD x4.toNat ((Ty.int IntKind.u32).sl.pair (Ty.int IntKind.u32).sl).dflt).fst, (x0.getD x4.toNat ((Ty.int IntKind.u32).sl.pair (Ty.int IntKind.u32).sl).dflt).snd)) default fun v1 =>
  (.rq 1 (.req (decide ((h0.length + ((List.replicate (1 : Nat) (nilD (Ty.int IntKind.i64).den, nilD (Ty.int IntKind.i64).den)).set (0 : Nat) (v1.fst, v1.snd)).length) * (48 : Nat) ≤ (140737488355328 : Nat)) &&
  decide (h0.length + ((List.replicate (1 : Nat) (nilD (Ty.int IntKind.i64).den, nilD (Ty.int IntKind.i64).den)).set (0 : Nat) (v1.fst, v1.snd)).length ≤ (9223372036854775807 : Nat)))
  (.rq 4 (.again ((IntKind.i64.wrap (x4 + (1 : Int)), h0 ++ (List.replicate (1 : Nat) (nilD (Ty.int IntKind.i64).den, nilD (Ty.int IntKind.i64).den)).set (0 : Nat) (v1.fst, v1.snd)))))))))))))))))))
  (.rq 2 (.req (decide ((0 : Int) ≤ x4) && decide (x4 < (↑x0.length : Int)))
  (.rq 6 (.ite (decide ((6 : Int) < (↑(List.length (x0.getD x4.toNat ((Ty.int IntKind.u32).sl.pair (Ty.int IntKind.u32).sl).dflt).snd) : Int)))
  (.rq 1 (.ite (true)
  (.call (F_law21_alive n ()) default fun v0 =>
  (.rq 1 (.done (.rt v0))))
  (.rq 3 (.req (decide ((0 : Int) ≤ x4) && decide (x4 < (↑x0.length : Int)))
  (.rq 1 (.call (F_R04_In n ((x0.getD x4.toNat ((Ty.int IntKind.u32).sl.pair (Ty.int IntKind.u32).sl).dflt).fst, (x0.getD x4.toNat ((Ty.int IntKind.u32).sl.pair (Ty.int IntKind.u32).sl).dflt).snd)) default fun v0 =>
  (.rq 1 (.req (decide ((h0.length + ((List.replicate (1 : Nat) (nilD (Ty.int IntKind.i64).den, nilD (Ty.int IntKind.i64).den)).set (0 : Nat) (v0.fst, v0.snd)).length) * (48 : Nat) ≤ (140737488355328 : Nat)) &&
  decide (h0.length + ((List.replicate (1 : Nat) (nilD (Ty.int IntKind.i64).den, nilD (Ty.int IntKind.i64).den)).set (0 : Nat) (v0.fst, v0.snd)).length ≤ (9223372036854775807 : Nat)))
  (.rq 4 (.again ((IntKind.i64.wrap (x4 + (1 : Int)), h0 ++ (List.replicate (1 : Nat) (nilD (Ty.int IntKind.i64).den, nilD (Ty.int IntKind.i64).den)).set (0 : Nat) (v0.fst, v0.snd)))))))))))))
  (.rq 2 (.req (decide ((0 : Int) ≤ x4) && decide (x4 < (↑x0.length : Int)))
  (.rq 1 (.call (F_R04_Right n ((x0.getD x4.toNat ((Ty.int IntKind.u32).sl.pair (Ty.int IntKind.u32).sl).dflt).fst, (x0.getD x4.toNat ((Ty.int IntKind.u32).sl.pair (Ty.int IntKind.u32).sl).dflt).snd)) default fun v0 =>
  (.rq 2 (.ite (!v0)
  (.call (F_law21_alive n ()) default fun v1 =>
  (.rq 1 (.done (.rt v1))))
  (.rq 3 (.req (decide ((0 : Int) ≤ x4) && decide (x4 < (↑x0.length : Int)))
  (.rq 1 (.call (F_R04_In n ((x0.getD x4.toNat ((Ty.int IntKind.u32).sl.pair (Ty.int IntKind.u32).sl).dflt).fst, (x0.getD x4.toNat ((Ty.int IntKind.u32).sl.pair (Ty.int IntKind.u32).sl).dflt).snd)) default fun v1 =>
  (.rq 1 (.req (decide ((h0.length + ((List.replicate (1 : Nat) (nilD (Ty.int IntKind.i64).den, nilD (Ty.int IntKind.i64).den)).set (0 : Nat) (v1.fst, v1.snd)).length) * (48 : Nat) ≤ (140737488355328 : Nat)) &&
  decide (h0.length + ((List.replicate (1 : Nat) (nilD (Ty.int IntKind.i64).den, nilD (Ty.int IntKind.i64).den)).set (0 : Nat) (v1.fst, v1.snd)).length ≤ (9223372036854775807 : Nat)))
  (.rq 4 (.again ((IntKind.i64.wrap (x4 + (1 : Int)), h0 ++ (List.replicate (1 : Nat) (nilD (Ty.int IntKind.i64).den, nilD (Ty.int IntKind.i64).den)).set (0 : Nat) (v1.fst, v1.snd)))))))))))))))))))))))))
  (.done (.ex h0))))
def law21_ScaleBrings_l0 (n : Nat) (i : (List ((List Int) × (List Int)))) : Nat → (Int × (List ((List Int) × (List Int)))) → Option (LR (List ((List Int) × (List Int))) Bool) := loopN (fun rec x => (law21_ScaleBrings_b0 n i x.1 x.2).run rec)
theorem law21_ScaleBrings_l0_s (n : Nat) (i : (List ((List Int) × (List Int)))) (k : Nat) (x : (Int × (List ((List Int) × (List Int))))) : law21_ScaleBrings_l0 n i (k + 1) x = (law21_ScaleBrings_b0 n i x.1 x.2).run (law21_ScaleBrings_l0 n i k) := rfl
def law21_ScaleBrings_t0 (n : Nat) (σ : St) : Option Tree := match seeSt law21_ScaleBrings_h0.plan law21_ScaleBrings_h0.ts 77 σ with
  | some y => (match law21_ScaleBrings_pt0 y.1 y.2 with
    | some x => some (loopAns (law21_ScaleBrings_l0 n x.1 n x.2) (law21_ScaleBrings_an0 x.1))
    | none => none)
  | none => none
def law21_ScaleBrings_told (n : Nat) : Nat → St → Option Tree
  | 0, σ => law21_ScaleBrings_t0 n σ
  | _, _ => none
def law21_ScaleBrings_res (y : Bool) : CallRes := ⟨true, .lf (.bool y), [], [], false⟩
def law21_ScaleBrings (n : Nat) (a0 : (List ((List Int) × (List Int)))) : RT Unit Bool :=
  (.rq 4 (.ite (decide ((12 : Int) < (↑a0.length : Int)))
  (.call (F_law21_alive n ()) default fun v0 =>
  (.rq 1 (.done v0)))
  (.rq 2 (.call (law21_ScaleBrings_l0 n a0 n ((0 : Int), nilD ((Ty.int IntKind.i64).sl.pair (Ty.int IntKind.i64).sl).den)) default fun v0 =>
  (.ite (v0.isRt)
  (.done v0.getR)
  (.rq 1 (.call (F_scale_Bring n a0) default fun v1 =>
  (.rq 7 (.call (F_R21_Bring n v0.getX) default fun v2 =>
  (.rq 10 (.call (F_law21_same n (v1.fst, v1.snd.fst, v1.snd.snd.snd, v1.snd.snd.fst, v2.fst, v2.snd.fst, v2.snd.snd.snd, v2.snd.snd.fst)) default fun v3 =>
  (.rq 1 (.ite (v3)
  (.rq 1 (.call (F_scale_Fits n a0) default fun v4 =>
  (.rq 5 (.ite ((v4 == (v2.snd.snd.fst == (0 : Int))) != false)
  (.call (F_law21_alive n ()) default fun v5 =>
  (.rq 2 (.done v5)))
  (.rq 2 (.done false))))))
  (.rq 2 (.ite (false)
  (.call (F_law21_alive n ()) default fun v4 =>
  (.rq 2 (.done v4)))
  (.rq 2 (.done false)))))))))))))))))
def F_law21_ScaleBrings (n : Nat) (x : (List ((List Int) × (List Int)))) : Option Bool := (law21_ScaleBrings n x).run fun _ => none
def law21_ScaleBrings_ans (F : (List ((List Int) × (List Int))) → Option Bool) : List TV → List Ent → Option CallRes
  | [.lf (.dat (Ty.pair (Ty.sl (Ty.int IntKind.u32)) (Ty.sl (Ty.int IntKind.u32))) a0)], [] => some (callAns (F a0) law21_ScaleBrings_res)
  | _, _ => none
def en_law21_ScaleBrings (F : (List ((List Int) × (List Int))) → Option Bool) : Entry := .data n_law21_ScaleBrings [[Ty.sl (Ty.pair (Ty.sl (Ty.int IntKind.u32)) (Ty.sl (Ty.int IntKind.u32)))]] (law21_ScaleBrings_ans F)
abbrev e_law21_ScaleBrings (n : Nat) : Entry := en_law21_ScaleBrings (F_law21_ScaleBrings n)
theorem law21_ScaleBrings_T_ok (n : Nat) : SoundT pg (law21_ScaleBrings_T n) := tab_sound ⟨e_law21_alive_ok n, e_R04_Right_ok n, e_R04_In_ok n, e_scale_Bring_ok n, e_R21_Bring_ok n, e_law21_same_ok n, e_scale_Fits_ok n, trivial⟩
theorem law21_ScaleBrings_r0 (n : Nat) (x0 : (List ((List Int) × (List Int)))) (x4 : Int) (h0 : (List ((List Int) × (List Int)))) : (evCode pg (law21_ScaleBrings_T n) (loopsTold (law21_ScaleBrings_told n)) 0 (lp 0 (codeOf f_law21_ScaleBrings) 0).2 (spSt 77 law21_ScaleBrings_h0.ts [.lf (.dat (Ty.pair (Ty.sl (Ty.int IntKind.u32)) (Ty.sl (Ty.int IntKind.u32))) x0), .lf (.ref 900003), .lf (.int IntKind.i64 x4)] [(900003, ⟨true, .arr 49 (Ty.pair (Ty.sl (Ty.int IntKind.i64)) (Ty.sl (Ty.int IntKind.i64))) h0⟩)])).pt (seeEv 77 law21_ScaleBrings_h0 law21_ScaleBrings_x0 law21_ScaleBrings_y0) =
    (law21_ScaleBrings_b0 n x0 x4 h0).pt (fun x' => .norm (law21_ScaleBrings_mk0 x0 x').1 (law21_ScaleBrings_mk0 x0 x').2) (law21_ScaleBrings_ev0 x0) := by kernel_rfl
theorem law21_ScaleBrings_pm0 : ∀ vs hp x, law21_ScaleBrings_pt0 vs hp = some x → law21_ScaleBrings_mk0 x.1 x.2 = (vs, hp) := by
  intro vs hp x h
  unfold law21_ScaleBrings_pt0 at h
  split at h <;> first | (cases h; rfl) | cases h
theorem law21_ScaleBrings_k0 (n : Nat) : LoopOK pg (loopsTold (law21_ScaleBrings_told n)) (lp 0 (codeOf f_law21_ScaleBrings) 0) :=
  loop_lift pg_mixed (T := (law21_ScaleBrings_T n)) (law21_ScaleBrings_T_ok n) (b := 0) (len := 77) (body := (lp 0 (codeOf f_law21_ScaleBrings) 0).2) (ch := law21_ScaleBrings_h0) (cx := law21_ScaleBrings_x0) (cr := law21_ScaleBrings_y0) law21_ScaleBrings_mk0 law21_ScaleBrings_ev0 law21_ScaleBrings_an0 (fun i x => law21_ScaleBrings_b0 n i x.1 x.2) n law21_ScaleBrings_pt0 law21_ScaleBrings_pm0 (fun i r K h => by cases r with | ex z => exact h.2 rfl | rt z => exact h.1 rfl)
    regs_told (loops_told0 (by kernel_rfl)) (fun _ => by kernel_rfl) (fun i x => law21_ScaleBrings_r0 n i x.1 x.2)
theorem law21_ScaleBrings_e (n : Nat) (a0 : (List ((List Int) × (List Int)))) : (evFn pg (law21_ScaleBrings_T n) (loopsTold (law21_ScaleBrings_told n)) f_law21_ScaleBrings (codeOf f_law21_ScaleBrings) [.lf (.dat (Ty.pair (Ty.sl (Ty.int IntKind.u32)) (Ty.sl (Ty.int IntKind.u32))) a0)] []).pt (outEv pg f_law21_ScaleBrings 0 [] false) =
    (law21_ScaleBrings n a0).pt (fun _ => .norm [] []) (fun y => .out (law21_ScaleBrings_res y)) := by kernel_rfl
theorem law21_ScaleBrings_call (n : Nat) (a0 : (List ((List Int) × (List Int)))) (y : Bool) (hy : F_law21_ScaleBrings n a0 = some y) : Enters pg n_law21_ScaleBrings ∧ CallOK pg n_law21_ScaleBrings [.lf (.dat (Ty.pair (Ty.sl (Ty.int IntKind.u32)) (Ty.sl (Ty.int IntKind.u32))) a0)] [] (law21_ScaleBrings_res y) := fn_lift (fn := f_law21_ScaleBrings) pg_mixed (T := law21_ScaleBrings_T n) (law21_ScaleBrings_T_ok n) (L := loopsTold (law21_ScaleBrings_told n)) (by kernel_rfl) (by kernel_rfl) (by kernel_rfl) regs_told (loops_told1 (by kernel_rfl) (law21_ScaleBrings_k0 n)) (args := [.lf (.dat (Ty.pair (Ty.sl (Ty.int IntKind.u32)) (Ty.sl (Ty.int IntKind.u32))) a0)]) (es := []) law21_ScaleBrings_res [] false (fun _ => rfl) (law21_ScaleBrings n a0) (law21_ScaleBrings_e n a0) hy
theorem en_law21_ScaleBrings_ok (n : Nat) : (en_law21_ScaleBrings (F_law21_ScaleBrings n)).ok pg := Entry.data_ok <| by
  intro args es r h hv
  unfold law21_ScaleBrings_ans at h
  simp only at h
  split at h
  · rename_i a0
    cases h
    exact callAns_ok (fun y hy => law21_ScaleBrings_call n a0 y hy) hv
  · cases h
/-- The function, by what it is known to tell. -/
def sp_law21_ScaleBrings (C : (List ((List Int) × (List Int))) → Bool) (V : (List ((List Int) × (List Int))) → Bool) : Entry := .data n_law21_ScaleBrings [[Ty.sl (Ty.pair (Ty.sl (Ty.int IntKind.u32)) (Ty.sl (Ty.int IntKind.u32)))]] fun args es => match args, es with
  | [.lf (.dat (Ty.pair (Ty.sl (Ty.int IntKind.u32)) (Ty.sl (Ty.int IntKind.u32))) a0)], [] => some { law21_ScaleBrings_res (V a0) with vc := C a0 }
  | _, _ => none
theorem sp_law21_ScaleBrings_ok {C : (List ((List Int) × (List Int))) → Bool} {V : (List ((List Int) × (List Int))) → Bool} (H : ∀ x, C x = true → ∃ n, F_law21_ScaleBrings n x = some (V x)) : (sp_law21_ScaleBrings C V).ok pg := Entry.data_ok <| by
  intro args es r h hv
  simp only at h
  split at h
  · rename_i a0
    cases h
    obtain ⟨n, hn⟩ := H a0 hv
    exact ⟨(law21_ScaleBrings_call n a0 _ hn).1, (law21_ScaleBrings_call n a0 _ hn).2.vc⟩
  · cases h
theorem e_law21_ScaleBrings_ok (n : Nat) : (e_law21_ScaleBrings n).ok pg := en_law21_ScaleBrings_ok n



end
end Go.Proofs.Ytlfdidaeachpoaa

/- The statement ScaleBrings, as a law of plain functions. -/
namespace Go.Proofs.Ytlfdidaeachpoaa
open Go Go.RowKit
set_option maxRecDepth 100000

theorem good1 : Good [(10, 3), (20, 3)] := ⟨by decide, by decide, by decide, by decide⟩
theorem good2 : Good [(18446744073709551616, 1)] := ⟨by decide, by decide, by decide, by decide⟩

theorem alive21 (n : Nat) (hn : 12 < n) : F_law21_alive n () = some true := by
  unfold F_law21_alive law21_alive
  have h1 : F_R04_Of n ((10 : Int), (3 : Int)) = some (digs B16 10, digs B16 3) := by kernel_rfl
  have h2 : F_R04_Out n (digs B16 10, digs B16 3) = some (digs B32 10, digs B32 3) := by kernel_rfl
  have h3 : F_R04_Of n ((20 : Int), (3 : Int)) = some (digs B16 20, digs B16 3) := by kernel_rfl
  have h4 : F_R04_Out n (digs B16 20, digs B16 3) = some (digs B32 20, digs B32 3) := by kernel_rfl
  have h5 := Bring_F good1 n hn
  have e5 : rs [(10, 3), (20, 3)] = (((List.replicate (2 : Nat) (nilD (Ty.int IntKind.u32).den, nilD (Ty.int IntKind.u32).den)).set (0 : Nat) (digs B32 10, digs B32 3)).set (1 : Nat) (digs B32 20, digs B32 3)) := rfl
  have s5 : scaleN [(10, 3), (20, 3)] = (3, 30, 0, [10, 20]) := by kernel_rfl
  rw [e5, s5] at h5
  have h6 := Fits_F good2 n hn
  have e6 : rs [(18446744073709551616, 1)] = ((List.replicate (1 : Nat) (nilD (Ty.int IntKind.u32).den, nilD (Ty.int IntKind.u32).den)).set (0 : Nat)
    ((((List.replicate (3 : Nat) (0 : Int)).set (0 : Nat) (0 : Int)).set (1 : Nat) (0 : Int)).set (2 : Nat) (1 : Int), (List.replicate (1 : Nat) (0 : Int)).set (0 : Nat) (1 : Int))) := by kernel_rfl
  have s6 : scaleN [(18446744073709551616, 1)] = (0, 0, 10, []) := by kernel_rfl
  rw [e6, s6] at h6
  simp only [RT.run, h1, h2, h3, h4, Option.bind_some]
  rw [h5]
  simp only [Option.bind_some]
  rw [h6]
  rfl

theorem Right_F {a b : List Int} (ha : wfd B32 a = true) (hb : wfd B32 b = true) (la : a.length ≤ 6) (lb : b.length ≤ 6) (n : Nat) :
    ∃ q, F_R04_Right n (a, b) = some q ∧ (q = true → 0 < val B32 b ∧ a = digs B32 (val B32 a) ∧ b = digs B32 (val B32 b)) := by
  have va := val_lt (by decide : 0 < B32) ha
  have vb := val_lt (by decide : 0 < B32) hb
  have va' : val B32 a < B16 ^ 12 := Nat.lt_of_lt_of_le va (by rw [show (12 : Nat) = 2 * 6 from rfl, ← pow_B32]; exact Nat.pow_le_pow_right (by decide) la)
  have vb' : val B32 b < B16 ^ 12 := Nat.lt_of_lt_of_le vb (by rw [show (12 : Nat) = 2 * 6 from rfl, ← pow_B32]; exact Nat.pow_le_pow_right (by decide) lb)
  have lA := digs16_lt va'
  have lB := digs16_lt vb'
  have hin : F_R04_In n (a, b) = some (digs B16 (val B32 a), digs B16 (val B32 b)) := by
    unfold F_R04_In R04_In
    simp only [RT.run]
    rw [if_pos (okN_iff.2 ⟨by omega, ha⟩), if_pos (okN_iff.2 ⟨by omega, hb⟩)]
  have i1 : ∀ k, 4 ≤ k → isM k (digs B16 (val B32 a)) = true := fun k hk => isM_digs (Nat.le_trans lA (Nat.le_trans (by decide : 12 ≤ 2 ^ 4) (Nat.pow_le_pow_right (by decide) hk)))
  have i2 : ∀ k, 4 ≤ k → isM k (digs B16 (val B32 b)) = true := fun k hk => isM_digs (Nat.le_trans lB (Nat.le_trans (by decide : 12 ≤ 2 ^ 4) (Nat.pow_le_pow_right (by decide) hk)))
  unfold F_R04_Right R04_Right
  simp only [RT.run, hin, Option.bind_some, val_digs (show 2 ≤ B16 by decide), i1 38 (by decide), i2 38 (by decide), i1 37 (by decide), i2 37 (by decide), Bool.and_true, if_true]
  by_cases h0 : val B32 b = 0
  · rw [if_pos (by rw [h0]; rfl)]
    exact ⟨false, rfl, fun h => by cases h⟩
  have hb0 := Nat.pos_of_ne_zero h0
  have hl : (digs B16 (val B32 b)).length ≠ 0 := by rw [digs_pos (by decide) hb0]; simp
  rw [if_neg (by simpa using hl), if_pos (decide_eq_true (by omega))]
  by_cases h1 : a = digs B32 (val B32 a)
  · rw [if_neg (by simpa using h1), if_pos (decide_eq_true (by omega))]
    by_cases h2 : b = digs B32 (val B32 b)
    · have hg : Nat.gcd (val B32 a) (val B32 b) < B16 ^ 12 := Nat.lt_of_le_of_lt (Nat.gcd_le_right _ hb0) vb'
      rw [if_neg (by simpa using h2), if_pos (by rw [okM_lt hg (by decide)]; rfl)]
      exact ⟨_, rfl, fun _ => ⟨hb0, h1, h2⟩⟩
    · rw [if_pos (by simpa using h2)]
      exact ⟨false, rfl, fun h => by cases h⟩
  · rw [if_pos (by simpa using h1)]
    exact ⟨false, rfl, fun h => by cases h⟩

def wfQ (l : List (List Int × List Int)) : Prop := ∀ x ∈ l, wfd B32 x.1 = true ∧ wfd B32 x.2 = true

theorem brings_l (n : Nat) (hn : 12 < n) {l : List (List Int × List Int)} (hw : wfQ l) (hl : l.length ≤ 12) : ∀ (r i k : Nat) (out : List (List Int × List Int)), r < k → i + r = l.length → out.length = i →
    law21_ScaleBrings_l0 n l k ((i : Int), out) = some (.rt true) ∨
    ∃ ns : List (Nat × Nat), l.drop i = rs ns ∧ (∀ x ∈ ns, x.1 < B16 ^ 12) ∧ (∀ x ∈ ns, x.2 < B16 ^ 12) ∧ (∀ x ∈ ns, 0 < x.2) ∧ law21_ScaleBrings_l0 n l k ((i : Int), out) = some (.ex (out ++ qs ns)) := by
  intro r
  induction r with
  | zero =>
    intro i k out hk hi ho
    obtain ⟨k, rfl⟩ : ∃ k', k = k' + 1 := ⟨k - 1, by omega⟩
    right
    refine ⟨[], by rw [List.drop_of_length_le (by omega)]; rfl, (fun _ h => by cases h), (fun _ h => by cases h), (fun _ h => by cases h), ?_⟩
    rw [law21_ScaleBrings_l0_s]
    unfold law21_ScaleBrings_b0
    simp only [RT.run]
    rw [if_neg (by simp; omega)]
    simp [qs]
  | succ r ih =>
    intro i k out hk hi ho
    obtain ⟨k, rfl⟩ : ∃ k', k = k' + 1 := ⟨k - 1, by omega⟩
    have hi' : i < l.length := by omega
    obtain ⟨ha, hb⟩ := hw _ (List.getElem_mem hi')
    have g : l.getD i ((Ty.int IntKind.u32).sl.pair (Ty.int IntKind.u32).sl).dflt = l[i] := by simp [List.getD, hi']
    have w : IntKind.i64.wrap ((i : Int) + 1) = ((i + 1 : Nat) : Int) := by rw [i64_in] <;> omega
    have c1 : (decide ((0 : Int) ≤ (i : Int)) && decide ((i : Int) < (l.length : Int))) = true := by simp <;> omega
    rw [law21_ScaleBrings_l0_s]
    unfold law21_ScaleBrings_b0
    simp only [RT.run, Int.toNat_natCast, w, g, alive21 n hn, Option.bind_some, c1, if_true]
    rw [if_pos (by simp; omega)]
    by_cases h1 : 6 < l[i].1.length
    · left
      rw [if_pos (by simp; omega)]
    rw [if_neg (by simp; omega)]
    by_cases h2 : 6 < l[i].2.length
    · left
      rw [if_pos (by simp; omega)]
    rw [if_neg (by simp; omega)]
    obtain ⟨q, hq, hq'⟩ := Right_F ha hb (by omega) (by omega) n
    have hq0 : F_R04_Right n (l[i].1, l[i].2) = some q := hq
    rw [hq0]
    simp only [Option.bind_some]
    cases q with
    | false => left; rfl
    | true =>
      obtain ⟨p1, p2, p3⟩ := hq' rfl
      have va := val_lt (by decide : 0 < B32) ha
      have vb := val_lt (by decide : 0 < B32) hb
      have va' : val B32 l[i].1 < B16 ^ 12 := Nat.lt_of_lt_of_le va (by rw [show (12 : Nat) = 2 * 6 from rfl, ← pow_B32]; exact Nat.pow_le_pow_right (by decide) (by omega))
      have vb' : val B32 l[i].2 < B16 ^ 12 := Nat.lt_of_lt_of_le vb (by rw [show (12 : Nat) = 2 * 6 from rfl, ← pow_B32]; exact Nat.pow_le_pow_right (by decide) (by omega))
      have hin : F_R04_In n (l[i].1, l[i].2) = some (digs B16 (val B32 l[i].1), digs B16 (val B32 l[i].2)) := by
        unfold F_R04_In R04_In
        simp only [RT.run]
        rw [if_pos (okN_iff.2 ⟨by omega, ha⟩), if_pos (okN_iff.2 ⟨by omega, hb⟩)]
      have r1 : ∀ x : List Int × List Int, (List.replicate 1 (nilD (Ty.int IntKind.i64).den, nilD (Ty.int IntKind.i64).den)).set 0 x = [x] := fun _ => rfl
      rw [hin]
      simp only [Option.bind_some, r1, Bool.not_true, Bool.false_eq_true, if_false]
      rw [if_pos (by simp <;> omega)]
      rcases ih (i + 1) k (out ++ [(digs B16 (val B32 l[i].1), digs B16 (val B32 l[i].2))]) (by omega) (by omega) (by simp [ho]) with h3 | ⟨ns, h3, h4, h5, h6, h7⟩
      · exact .inl h3
      · right
        refine ⟨(val B32 l[i].1, val B32 l[i].2) :: ns, ?_, ?_, ?_, ?_, ?_⟩
        · rw [List.drop_eq_getElem_cons hi', h3]
          show _ = (digs B32 (val B32 l[i].1), digs B32 (val B32 l[i].2)) :: rs ns
          rw [← p2, ← p3]
        · intro x hx
          rcases List.mem_cons.1 hx with rfl | hx
          · exact va'
          · exact h4 x hx
        · intro x hx
          rcases List.mem_cons.1 hx with rfl | hx
          · exact vb'
          · exact h5 x hx
        · intro x hx
          rcases List.mem_cons.1 hx with rfl | hx
          · exact p1
          · exact h6 x hx
        · rw [h7, List.append_assoc]
          rfl

theorem same21 (n : Nat) (c t e : Int) (w : List Int) (hw : w.length ≤ 2 ^ 60) : F_law21_same n (c, t, w, e, c, t, w, e) = some true := by
  unfold F_law21_same law21_same
  simp only [RT.run]
  rw [if_pos (by simp), if_pos (by simp), if_pos (by simp), if_pos (decide_eq_true hw)]
  simp

theorem scaleN_len (ns : List (Nat × Nat)) (h : ns.length ≤ 12) : (scaleN ns).2.2.2.length ≤ 12 := by
  unfold scaleN
  split
  · simpa using h
  · exact Nat.zero_le _

theorem ScaleBrings_F {l : List (List Int × List Int)} (hw : wfQ l) : F_law21_ScaleBrings 13 l = some true := by
  unfold F_law21_ScaleBrings law21_ScaleBrings
  simp only [RT.run, alive21 13 (by decide), Option.bind_some, nilD]
  by_cases hl : 12 < l.length
  · rw [if_pos (by simp; omega)]
  rw [if_neg (by simp; omega)]
  rcases brings_l 13 (by decide) hw (by omega) l.length 0 13 [] (by omega) (by omega) rfl with h | ⟨ns, h1, h2, h3, h4, h5⟩
  · have h' : law21_ScaleBrings_l0 13 l 13 ((0 : Int), []) = some (.rt true) := h
    rw [h']
    rfl
  · rw [List.drop_zero] at h1
    have h5' : law21_ScaleBrings_l0 13 l 13 ((0 : Int), []) = some (.ex (qs ns)) := h5
    have len : ns.length ≤ 12 := by rw [h1, rs_len] at hl; omega
    have G : Good ns := ⟨len, h2, h3, h4⟩
    have hs := same21 13 (scaleN ns).1 (scaleN ns).2.1 (scaleN ns).2.2.1 (scaleN ns).2.2.2 (Nat.le_trans (scaleN_len ns len) (by decide))
    rw [h5', h1]
    simp only [Option.bind_some, LR.isRt, LR.getX, Bool.false_eq_true, if_false]
    rw [Bring_F G 13 (by decide), Bring16_F G 13 (by decide)]
    simp only [Option.bind_some]
    rw [hs, Fits_F G 13 (by decide)]
    simp only [Option.bind_some, if_true]
    rw [if_pos (by simp)]

end Go.Proofs.Ytlfdidaeachpoaa

/- Reading an argument: data that can be read is represented. -/
namespace Go.Proofs.Ytlfdidaeachpoaa
open Go Go.RowKit

theorem exists_list {α : Type} {Q : Nat → α → Prop} : ∀ (n : Nat), (∀ i, i < n → ∃ x, Q i x) → ∃ xs : List α, xs.length = n ∧ ∀ i (h : i < xs.length), Q i xs[i]
  | 0, _ => ⟨[], rfl, fun i hi => absurd hi (Nat.not_lt_zero i)⟩
  | n + 1, h => by
    obtain ⟨xs, h1, h2⟩ := exists_list n fun i hi => h i (by omega)
    obtain ⟨x, hx⟩ := h n (by omega)
    refine ⟨xs ++ [x], by simp [h1], fun i hi => ?_⟩
    by_cases hin : i < xs.length
    · rw [List.getElem_append_left hin]
      exact h2 i hin
    · have : i = n := by simp at hi; omega
      subst this
      rw [List.getElem_append_right (by omega)]
      simpa [h1] using hx

theorem cell_at {w : World} {a : Addr} {u : Value} (h : w.cell? a = some u) : a.spot = none ∧ a.block < w.heap.size := by
  unfold World.cell? at h
  split at h
  · rename_i c _ _ hb
    split at h
    · cases h
    · rename_i hs
      refine ⟨by simpa using hs, ?_⟩
      apply Decidable.byContradiction
      intro hlt
      rw [Array.getElem?_eq_none (Nat.le_of_not_lt hlt)] at hb
      cases hb
  · cases h

theorem add_block (a : Addr) (n : Nat) : (a.add n).block = a.block := by
  unfold Addr.add
  split <;> rfl
theorem add_plain (b o n : Nat) : Addr.add ⟨b, o, none⟩ n = ⟨b, o + n, none⟩ := by
  unfold Addr.add
  split
  · rename_i h; subst h; rfl
  · rfl

/-- All that is there. -/
def inHeap (w : World) : Nat → Prop := fun b => b < w.heap.size

section
variable {H : Type} {enc : TypeId × Value → H} {P : Program} {w : World} {held : Bool}

theorem fields_rep {g : TypeId → Option Ty} {fuel : Nat} {cs : List Value}
    (ih : ∀ (t : TypeId) (ty : Ty) (cs : List Value) (y : DataW H × List MemPlace), g t = some ty → P.cellsOf t = ty.size → DataW.trod enc P w 0 (fun _ => true) held fuel t cs = some y → ∃ x, RepD w (inHeap w) ty cs x) :
    ∀ (fs : List Field) (off : Nat) (ty : Ty), tyFs P g fs off = some ty → (∀ f ∈ fs, ∃ y, DataW.trod enc P w 0 (fun _ => true) held fuel f.type ((cs.drop f.offset).take (P.cellsOf f.type)) = some y) →
      ∃ x, RepD w (inHeap w) ty ((cs.drop off).take ty.size) x
  | [], _, _, h, _ => by cases h
  | f :: fs, off, ty, h, hf => by
    unfold tyFs at h
    split at h
    · cases h
    · rename_i a ha
      split at h
      · rename_i hc
        obtain ⟨y, hy⟩ := hf f (List.mem_cons_self ..)
        rw [hc.1, hc.2] at hy
        obtain ⟨x, hx⟩ := ih f.type a _ y ha hc.2 hy
        split at h
        · cases h
          exact ⟨x, hx⟩
        · rename_i f' fs'
          split at h
          · rename_i b hb
            cases h
            obtain ⟨x', hx'⟩ := fields_rep ih (f' :: fs') (off + a.size) b hb fun z hz => hf z (List.mem_cons_of_mem _ hz)
            refine ⟨(x, x'), _, _, ?_, hx, hx'⟩
            show (cs.drop off).take (a.size + b.size) = _
            rw [List.take_add, List.drop_drop]
          · cases h
      · cases h

theorem trod_rep : ∀ (n : Nat) (t : TypeId) (ty : Ty) (fuel : Nat) (cs : List Value) (y : DataW H × List MemPlace), tyOf P n t = some ty → P.cellsOf t = ty.size → DataW.trod enc P w 0 (fun _ => true) held fuel t cs = some y → ∃ x, RepD w (inHeap w) ty cs x := by
  intro n
  induction n with
  | zero => intro t ty fuel cs y h; cases h
  | succ n ih =>
    intro t ty fuel cs y ht hsz h
    unfold tyOf at ht
    split at ht
    · rename_i k hu
      cases ht
      obtain ⟨m, rfl, _, hw⟩ := DataW.trod_int hu h
      exact ⟨m, rfl, hw⟩
    · rename_i hu
      cases ht
      obtain ⟨b, rfl, _⟩ := DataW.trod_bool hu h
      exact ⟨b, rfl⟩
    · rename_i hu
      cases ht
      obtain ⟨s, rfl, _, hs⟩ := DataW.trod_string hu h
      exact ⟨s, rfl, hs⟩
    · rename_i e hu
      split at ht
      · rename_i a ha
        split at ht
        · rename_i hc
          cases ht
          rcases DataW.trod_slice hu h with ⟨rfl, _⟩ | ⟨ad, len, cap, elems, rest, m, _, rfl, _, _, hlc, hcm, hlen, hel, _, _⟩
          · exact ⟨[], none, 0, rfl, Nat.le_refl _, Nat.zero_le _, fun _ => rfl, fun i hi => absurd hi (Nat.not_lt_zero i)⟩
          · have hpos := a.size_pos
            have had : 0 < len → ad.spot = none := by
              intro h0
              have h1 := hel 0 h0
              rw [List.getElem?_eq_getElem (by omega), Option.bind_eq_some_iff] at h1
              obtain ⟨us, hus, _⟩ := h1
              obtain ⟨_, hl, hcell⟩ := World.cells?_some hus
              have c0 := hcell 0 (by omega)
              rw [List.getElem?_eq_getElem (by omega), Nat.zero_mul] at c0
              exact (cell_at c0).1
            have each : ∀ i, i < len → ∃ x : a.den, ∃ b o us, (some ad : Option Addr) = some ⟨b, o, none⟩ ∧ inHeap w b ∧ us.length = a.size ∧ Mem w b (o + i * a.size) us ∧ RepD w (inHeap w) a us x := by
              intro i hi
              have h1 := hel i hi
              rw [List.getElem?_eq_getElem (by omega), Option.bind_eq_some_iff] at h1
              obtain ⟨us, hus, hy⟩ := h1
              obtain ⟨_, hl, hcell⟩ := World.cells?_some hus
              obtain ⟨x, hx⟩ := ih e a m us _ ha hc hy
              have c0 := hcell 0 (by omega)
              rw [List.getElem?_eq_getElem (by omega)] at c0
              have hb := (cell_at c0).2
              rw [add_block, add_block] at hb
              have hsp := had (by omega)
              obtain ⟨b, o, sp⟩ := ad
              simp only at hsp
              subst hsp
              refine ⟨x, b, o, us, rfl, hb, by omega, fun j u hu' => ?_, hx⟩
              have hj : j < us.length := by
                apply Decidable.byContradiction
                intro hn
                rw [List.getElem?_eq_none (by omega)] at hu'
                cases hu'
              have := hcell j (by omega)
              rw [hu', add_plain, add_plain] at this
              rw [← hc]
              exact this
            obtain ⟨xs, hxl, hxs⟩ := exists_list len each
            refine ⟨xs, some ad, cap, by rw [hxl], by omega, hcm, (fun h => by cases h), fun i hi => ?_⟩
            obtain ⟨b, o, us, h1, h2, h3, h4, h5⟩ := hxs i hi
            exact ⟨b, o, us, h1, h2, h3, h4, h5⟩
        · cases ht
      · cases ht
    · rename_i fs hu
      obtain ⟨xs, m, _, _, hl, hxl, hf⟩ := DataW.trod_struct hu h
      obtain ⟨x, hx⟩ := fields_rep (enc := enc) (held := held) (fuel := m) (cs := cs) (fun t ty cs y h1 h2 h3 => ih t ty m cs y h1 h2 h3) fs.toList 0 ty ht (fun f hf' => by
        obtain ⟨i, hi, rfl⟩ := List.mem_iff_getElem.1 hf'
        have hi' : i < fs.size := by simpa using hi
        have := hf i fs.toList[i] (by simp [hi'])
        rw [List.getElem?_eq_getElem (by omega)] at this
        exact ⟨_, this⟩)
      refine ⟨x, ?_⟩
      rw [List.drop_zero, List.take_of_length_le (by omega)] at hx
      exact hx
    · cases ht
end

/-- What is known of data that is represented. -/
def wfT : (t : Ty) → t.den → Prop
  | .int k, n => (Lit.int k n).wf = true
  | .bool, _ => True
  | .str, s => s.size ≤ maxLen
  | .sl t, xs => ∀ i (h : i < xs.length), wfT t xs[i]
  | .pair a b, x => wfT a x.1 ∧ wfT b x.2

theorem RepD.wf {w : World} {ok : Nat → Prop} : (t : Ty) → {vs : List Value} → {x : t.den} → RepD w ok t vs x → wfT t x
  | .int _, _, _, h => h.2
  | .bool, _, _, _ => trivial
  | .str, _, _, h => h.2
  | .sl t, _, xs, h => by
    obtain ⟨A, cap, _, _, _, _, h3⟩ := h
    intro i hi
    obtain ⟨b, o, us, _, _, _, _, hr⟩ := h3 i hi
    exact RepD.wf t hr
  | .pair a b, _, _, h => by
    obtain ⟨us, us', _, h1, h2⟩ := h
    exact ⟨RepD.wf a h1, RepD.wf b h2⟩

theorem callPost_below {w : World} {ok : Nat → Prop} {n : Nat} {r : CallRes} {v : Value} {w' : World} {β' : Nat → Option Value} {ok' : Nat → Prop} (h : CallPost w (fun _ => none) ok n r v w' β' ok') : Below w.heap.size w w' :=
  ⟨h.os, h.tape, h.output, h.size, fun k hk => h.block k hk (fun _ _ _ e => by cases e)⟩

end Go.Proofs.Ytlfdidaeachpoaa
