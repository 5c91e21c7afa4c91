/- Part 6 of the walk and of the plain law. -/
import Derived.Test.YtlfdidaeachpoaaGreatCLC5
import Derived.Test.YtlfdidaeachpoaaGreatCLC2
import Derived.Below
import Derived.ChangeArms
import Derived.DataReads
set_option linter.unusedSimpArgs false
set_option linter.unusedVariables false
namespace Go.Proofs.YtlfdidaeachpoaaGreat
open Go Go.RowKit
set_option maxRecDepth 100000
noncomputable section
def zcN : List Nat → Nat → Nat → Int
 | [], _, _ => -1
 | w :: l, r, i => if r < w then (i : Int) else zcN l (r - w) (i + 1)
theorem pickG_lt : ∀ (l : List Nat) (r i : Nat), (0 ≤ zcN l r i ↔ r < l.sum) ∧ (r < l.sum → ∃ j : Nat, zcN l r i = ((i + j : Nat) : Int) ∧ j < l.length ∧ 0 < l.getD j 0)
 | [], r, i => by simp [zcN]
 | w :: l, r, i => by
  unfold zcN
  by_cases h : r < w
  ·rw [if_pos h]
   refine ⟨⟨fun _ => by rw [List.sum_cons]; omega, fun _ => by omega⟩, fun _ => ⟨0, rfl, by simp, ?_⟩⟩
   show 0 < w
   omega
  ·rw [if_neg h]
   obtain ⟨h1, h2⟩ := pickG_lt l (r - w) (i + 1)
   refine ⟨by rw [h1, List.sum_cons]; omega, fun hr => ?_⟩
   obtain ⟨j, h3, h4, h5⟩ := h2 (by rw [List.sum_cons] at hr; omega)
   exact ⟨j + 1, by rw [h3]; congr 1; omega, by simp; omega, by simpa using h5⟩
def zdD (l : List Int) : List Nat := l.map Int.toNat
theorem toNs_toI {l : List Int} (h : ∀ x ∈ l, 0 ≤ x ∧ x < 18446744073709551616) : (zdD l).map toI = l ∧ ∀ w ∈ zdD l, w < 18446744073709551616 := by
 refine ⟨?_, fun w hw => ?_⟩
 ·unfold zdD toI
  rw [List.map_map]
  conv => rhs; rw [← List.map_id l]
  exact List.map_congr_left fun x hx => by
   show ((x.toNat : Nat) : Int) = x
   exact Int.toNat_of_nonneg (h x hx).1
 ·obtain ⟨x, hx, rfl⟩ := List.mem_map.1 hw
  have := h x hx
  omega
theorem toNs_toI' (l : List Nat) : zdD (l.map toI) = l := by
 unfold zdD
 rw [List.map_map]
 conv => rhs; rw [← List.map_id l]
 exact List.map_congr_left fun x _ => Int.toNat_natCast x
def zbH : (Int × Int × Int) → RT Unit Bool
| (s_0, s_1, r) =>
 .rq 16 (.done ((decide (s_0 ≤ r)) && (decide ((zcn (r - s_0)) < s_1))))
def F_zbH (x : Int × Int × Int) : Option Bool := (zbH x).run fun _ => none
def io_zbH : Io := ⟨n_zbH, [tU, tU, tU], [.agg [qm 0, qm 1], .lf (qm 2)], [], [[tU, tU], [tU]], [tB], .lf (qm 0), [], [], false⟩
def zbH_P : List zbV := []
def zbH_T : zca := tab []
theorem zbH_To : zbZ pg zbH_T := zbW trivial
theorem zbH_go : zcm pg (zbH_T) io_zbH f_zbH (zbH_P) [] (zbH) := ⟨by kernel_rfl, by kernel_rfl, fun x => by kernel_rfl⟩
theorem ok_zbH : io_zbH.Okay pg (F_zbH) := zcj zbY (zbH_To) (zbH_go) trivial
def e_zbH : zcg := io_zbH.sp (fun (x, y, r) => true) (fun (x, y, r) => ((decide (x ≤ r)) && (decide ((zcn (r - x)) < y))))
theorem sp_zbH (h : ∀ (x : Int) (y : Int) (r : Int), WfT [tU, tU, tU] (x, y, r) → (zbH (x, y, r)).run (fun _ => none) = some ((decide (x ≤ r)) && (decide ((zcn (r - x)) < y)))) : e_zbH.ok pg := zcl ok_zbH fun (x, y, r) hw hc => h x y r hw
theorem e_zbH_ok : e_zbH.ok pg := sp_zbH fun x y r _ => by
 rw [zbH]; rfl
def zaU : (Int × Int × Int) → RT Unit (Bool × Int)
| (x_0, x_1, a1) =>
 .rq 6 (.done (((decide (x_0 ≤ a1)) && (decide ((zcn (a1 - x_0)) < x_1))), a1))
def F_zaU (x : Int × Int × Int) : Option (Bool × Int) := (zaU x).run fun _ => none
def io_zaU : Io := ⟨n_zaU, [tU, tU, tU], [.agg [qm 0, qm 1], .lf (qp 0)], [.cells [qm 2]], [[tU, tU], []], [tB, tU], .lf (qm 0), [(true, .cells [qm 1])], [], false⟩
def zaU_P : List zbV := []
def zaU_T : zca := tab [e_zbH]
theorem zaU_To : zbZ pg zaU_T := zbW ⟨e_zbH_ok, trivial⟩
theorem zaU_go : zcm pg (zaU_T) io_zaU f_zaU (zaU_P) [] (zaU) := ⟨by kernel_rfl, by kernel_rfl, fun x => by kernel_rfl⟩
theorem ok_zaU : io_zaU.Okay pg (F_zaU) := zcj zbY (zaU_To) (zaU_go) trivial
def e_zaU : zcg := io_zaU.sp (fun (x, y, r) => true) (fun (x, y, r) => ((decide (x ≤ r)) && (decide ((zcn (r - x)) < y)), r))
theorem sp_zaU (h : ∀ (x : Int) (y : Int) (r : Int), WfT [tU, tU, tU] (x, y, r) → (zaU (x, y, r)).run (fun _ => none) = some ((decide (x ≤ r)) && (decide ((zcn (r - x)) < y)), r)) : e_zaU.ok pg := zcl ok_zaU fun (x, y, r) hw hc => h x y r hw
theorem e_zaU_ok : e_zaU.ok pg := sp_zaU fun x y r _ => by
 rw [zaU]; rfl
def zd_b26 : ((List (Int × Int)) × Int × Int) → Int → RT Int (LR Int Unit)
| (s, x7, p0), x8 =>
 .rq 1 (.ite (decide (x8 < x7))
 (.rq 5 (.req (inB s x8) (.rq 2 (.ite ((decide ((gI s x8).1 ≤ p0)) && (decide ((zcn (p0 - (gI s x8).1)) < (gI s x8).2)))
 (.rq 2 (.done (.ex x8)))
 (.rq 2 (.again (w64 (x8 + 1))))))))
 (.done (.rt ())))
def zd_p26 : zbV := ⟨26, true, [.sl (.pair tU tU), tI, tU], [tI], ⟨[.keep [0, 1, 7, 8], .gc], [0, 1, 7, 8], [.lf (qi 0), .lf (.fix (.fn 152 [1048576])), .lf (qi 1), .lf (qm 0)], [(1048576, true, .cells [qi 2])]⟩, [⟨1, ⟨[.keep [4], .gc], [4], [.lf (qm 0)], [(1048576, true, .cells [qi 2])]⟩, [tI]⟩, ⟨2, ⟨[.keep [], .gc], [], [], [(1048576, true, .cells [qi 2])]⟩, []⟩], zd_b26⟩
def zd : ((List (Int × Int)) × Int) → RT Unit (Int × Int)
| (s, f_0) =>
 .rq 4 (.call (lo zd_b26 (s, (s.length : Int), f_0) 0) default fun v0 =>
 .ite v0.isRt
 (.rq 1 (.done ((-1), f_0)))
 (.done (v0.getX, f_0)))
def F_zd (x : (List (Int × Int)) × Int) : Option (Int × Int) := (zd x).run fun _ => none
def io_zd : Io := ⟨n_zd, [.sl (.pair tU tU), tU], [.lf (qm 0), .lf (.fix (.fn 152 [0]))], [.cells [qm 1]], [[.sl (.pair tU tU)], []], [tI, tU], .lf (qm 0), [(true, .cells [qm 1])], [], false⟩
def zd_P : List zbV := [zd_p26]
def zd_T : zca := tab [e_zaU]
theorem zd_To : zbZ pg zd_T := zbW ⟨e_zaU_ok, trivial⟩
theorem zd_k26 : (zd_p26).OK pg (zd_T) (zcr 19 (zd_P)) (zci f_zd) 19 := ⟨by kernel_rfl, fun i x => by kernel_rfl⟩
theorem zd_go : zcm pg (zd_T) io_zd f_zd (zd_P) [] (zd) := ⟨by kernel_rfl, by kernel_rfl, fun x => by kernel_rfl⟩
theorem ok_zd : io_zd.Okay pg (F_zd) := zcj zbY (zd_To) (zd_go) ⟨zd_k26, trivial⟩
def e_zd : zcg := io_zd.en F_zd
theorem e_zd_ok : e_zd.ok pg := zfo ok_zd
theorem pidx_loop (L : List (Int × Int)) (r : Nat) (hL : L.length ≤ 100000) (hr : r < 18446744073709551616) : ∀ (l : List Nat) (s i : Nat), L.drop i = zeM s l → i ≤ L.length → s ≤ r →
  lo zd_b26 (L, (L.length : Int), (r : Int)) (i : Int) = some (if 0 ≤ zcN l (r - s) i then .ex (zcN l (r - s) i) else .rt ())
 | [], s, i, h, hi, hs => by
  have hlen : L.length ≤ i := by
   have := congrArg List.length h
   rw [List.length_drop] at this
   simp [zeM] at this
   omega
  rw [zcf, zd_b26]
  simp only [RT.run]
  rw [if_neg (by simp; omega)]
  rfl
 | w :: l, s, i, h, hi, hs => by
  have hlt : i < L.length := by
   have := congrArg List.length h
   rw [List.length_drop] at this
   simp [zeM] at this
   omega
  rw [List.drop_eq_getElem_cons hlt, zeM] at h
  obtain ⟨h1, h2⟩ := List.cons.inj h
  rw [zcf, zd_b26]
  simp only [RT.run, zcA hlt, h1]
  rw [if_pos (by simp; omega), if_pos (zcd.2 ⟨by omega, by omega⟩), decide_eq_true (show (s : Int) ≤ (r : Int) by omega), Bool.true_and, zcv (by omega), zcc (by omega), show (i : Int) + 1 = ((i + 1 : Nat) : Int) by omega]
  unfold zcN
  by_cases hw : r - s < w
  ·rw [if_pos (by simp; omega), if_pos hw, if_pos (by omega)]
  ·rw [if_neg (by simp; omega), if_neg hw, pidx_loop L r hL hr l (s + w) (i + 1) h2 hlt (by omega), show r - (s + w) = r - s - w by omega]
def zH : ((List Int) × Int) → RT Unit (Int × Bool)
| (l, r) =>
 .rq 4 (.call (F_zac l) default fun v0 =>
 .rq 7 (.call (F_zd (v0.2, r)) default fun v1 =>
 .rq 6 (.done (v1.1, decide (0 ≤ v1.1)))))
def F_zH (x : (List Int) × Int) : Option (Int × Bool) := (zH x).run fun _ => none
def io_zH : Io := ⟨n_zH, [.sl tU, tU], [.lf (qm 0), .lf (qm 1)], [], [[.sl tU], [tU]], [tI, tB], .tup [(false, [qm 0]), (false, [qm 1])], [], [], false⟩
def zH_P : List zbV := []
def zH_T : zca := tab [e_zd, e_zac]
theorem zH_To : zbZ pg zH_T := zbW ⟨e_zd_ok, e_zac_ok, trivial⟩
theorem zH_go : zcm pg (zH_T) io_zH f_zH (zH_P) [] (zH) := ⟨by kernel_rfl, by kernel_rfl, fun x => by kernel_rfl⟩
theorem ok_zH : io_zH.Okay pg (F_zH) := zcj zbY (zH_To) (zH_go) trivial
def e_zH : zcg := io_zH.sp (fun (l, r) => (decide (l.length ≤ 100000) && decide ((zdD l).sum < 18446744073709551616))) (fun (l, r) => (zcN (zdD l) r.toNat 0, decide (0 ≤ zcN (zdD l) r.toNat 0)))
theorem sp_zH (h : ∀ (l : List Int) (r : Int), WfT [.sl tU, tU] (l, r) → ((decide (l.length ≤ 100000) && decide ((zdD l).sum < 18446744073709551616))) = true → (zH (l, r)).run (fun _ => none) = some (zcN (zdD l) r.toNat 0, decide (0 ≤ zcN (zdD l) r.toNat 0))) : e_zH.ok pg := zcl ok_zH fun (l, r) hw hc => h l r hw hc
theorem e_zH_ok : e_zH.ok pg := sp_zH fun l r hw hc => by
 rw [Bool.and_eq_true, decide_eq_true_eq, decide_eq_true_eq] at hc
 have hr : 0 ≤ r ∧ r < 18446744073709551616 := hw.2
 have hll : ∀ x ∈ l, 0 ≤ x ∧ x < 18446744073709551616 := fun x hx => hw.1.2 x hx
 obtain ⟨e1, e2⟩ := toNs_toI hll
 have hlen : (zdD l).length = l.length := by simp [zdD]
 obtain ⟨m, rfl⟩ := Int.eq_ofNat_of_zero_le hr.1
 rw [zH]
 simp only [RT.run]
 have hs := spans_F (zdD l) (by omega) e2
 rw [e1, if_pos hc.2] at hs
 have hi := pidx_loop (zeM 0 (zdD l)) m (by rw [ziB]; omega) (by omega) (zdD l) 0 0 (by rw [List.drop_zero]) (by omega) (by omega)
 rw [Nat.sub_zero, show ((0 : Nat) : Int) = 0 from rfl] at hi
 have hf : F_zd (zeM 0 (zdD l), (m : Int)) = some (zcN (zdD l) m 0, (m : Int)) := by
  show (zd _).run _ = _
  rw [zd]
  simp only [RT.run]
  rw [hi, Option.bind_some]
  by_cases h : 0 ≤ zcN (zdD l) m 0
  ·rw [if_pos h]; rfl
  ·rw [if_neg h]
   have : zcN (zdD l) m 0 = -1 := by
    have hn : ∀ (l : List Nat) (r i : Nat), zcN l r i = -1 ∨ 0 ≤ zcN l r i := by
     intro l
     induction l with
     | nil => intro r i; exact .inl rfl
     | cons w l ih =>
      intro r i
      unfold zcN
      split
      ·exact .inr (by omega)
      ·exact ih _ _
    rcases hn (zdD l) m 0 with h' | h'
    ·exact h'
    ·exact absurd h' h
   rw [this]; rfl
 rw [hs, Option.bind_some, hf, Option.bind_some, Int.toNat_natCast]
abbrev Br := Int × Int × Int × List Int
def atB (x : Br) (r : Int) : Int × Int := if (x.2.2.1 != 0) = true then (-1, x.2.2.1) else if (x.2.1 == 0) = true then (-1, 16) else if decide (x.2.1 ≤ r) = true then (-1, 1) else (zcN (zdD x.2.2.2) r.toNat 0, 0)
theorem brV_sum (L : List Rat) (hL : L.length ≤ 100) : (brV L).2.2.2.length ≤ 100000 ∧ (zdD (brV L).2.2.2).sum < 18446744073709551616 ∧ ((brV L).2.2.1 = 0 → ((zdD (brV L).2.2.2).sum : Int) = (brV L).2.1 ∧ (brV L).2.2.2.length = L.length ∧ ∀ x ∈ (brV L).2.2.2, 0 ≤ x ∧ x < 18446744073709551616) := by
 unfold brV
 by_cases h : zec L < 18446744073709551616 ∧ (zcK L).sum < 18446744073709551616
 ·rw [if_pos h]
  have e : zdD (i64s (zcK L)) = zcK L := toNs_toI' _
  simp only
  rw [e]
  refine ⟨by simp [i64s, zcK]; omega, h.2, fun _ => ⟨rfl, by simp [i64s, zcK], fun x hx => ?_⟩⟩
  obtain ⟨w, hw, rfl⟩ := List.mem_map.1 hx
  have := sum_ge hw
  omega
 ·rw [if_neg h]
  exact ⟨by simp, by decide, fun h => by cases h⟩
def zat : ((List Bool) × (List Tk) × (List Th) × (List Lk) × (List Int) × Int) → RT Unit (Int × Int)
| (s_0, s_1, s_2, s_3, s_4, s_5) =>
 .rq 4 (.req ((wOK s_0 s_1 s_2 s_3 s_4 s_5)) (.rq 11 (let t0 := (brV (wgV s_0 s_1 s_2 s_3 s_4 s_5));
 .done (t0.2.1, t0.2.2.1))))
def F_zat (x : (List Bool) × (List Tk) × (List Th) × (List Lk) × (List Int) × Int) : Option (Int × Int) := (zat x).run fun _ => none
def io_zat : Io := ⟨n_zat, [.sl tB, .sl yK, .sl yH, .sl yL, .sl tI, tI], [.agg [qm 0, qm 1, qm 2, qm 3, qm 4, qm 5]], [], [[.sl tB, .sl yK, .sl yH, .sl yL, .sl tI, tI]], [tU, tI], .tup [(false, [qm 0]), (false, [qm 1])], [], [], false⟩
def zat_P : List zbV := []
def zat_T : zca := tab [e_zbB]
theorem zat_To : zbZ pg zat_T := zbW ⟨e_zbB_ok, trivial⟩
theorem zat_go : zcm pg (zat_T) io_zat f_zat (zat_P) [] (zat) := ⟨by kernel_rfl, by kernel_rfl, fun x => by kernel_rfl⟩
theorem ok_zat : io_zat.Okay pg (F_zat) := zcj zbY (zat_To) (zat_go) trivial
def e_zat : zcg := io_zat.sp (fun (a, b, c, d, e, f) => (wOK a b c d e f)) (fun (a, b, c, d, e, f) => ((brV (wgV a b c d e f)).2.1, (brV (wgV a b c d e f)).2.2.1))
theorem sp_zat (h : ∀ (a : List Bool) (b : List Tk) (c : List Th) (d : List Lk) (e : List Int) (f : Int), WfT [.sl tB, .sl yK, .sl yH, .sl yL, .sl tI, tI] (a, b, c, d, e, f) → ((wOK a b c d e f)) = true → (zat (a, b, c, d, e, f)).run (fun _ => none) = some ((brV (wgV a b c d e f)).2.1, (brV (wgV a b c d e f)).2.2.1)) : e_zat.ok pg := zcl ok_zat fun (a, b, c, d, e, f) hw hc => h a b c d e f hw hc
theorem e_zat_ok : e_zat.ok pg := sp_zat fun a b c d e f _ hc => by
 rw [zat]
 simp only [RT.run]
 rw [if_pos hc]
def zay : ((List Bool) × (List Tk) × (List Th) × (List Lk) × (List Int) × Int) → RT Unit (Int × Int × Int × (List Int))
| (s_0, s_1, s_2, s_3, s_4, s_5) =>
 .rq 4 (.req ((wOK s_0 s_1 s_2 s_3 s_4 s_5)) (.rq 13 (let t0 := (brV (wgV s_0 s_1 s_2 s_3 s_4 s_5));
 .ite ((t0.2.2.1 == 0) && (t0.2.1 == 0))
 (.rq 5 (.done (t0.1, t0.2.1, 16, t0.2.2.2)))
 (.rq 4 (.done (t0.1, t0.2.1, t0.2.2.1, t0.2.2.2))))))
def F_zay (x : (List Bool) × (List Tk) × (List Th) × (List Lk) × (List Int) × Int) : Option (Int × Int × Int × (List Int)) := (zay x).run fun _ => none
def io_zay : Io := ⟨n_zay, [.sl tB, .sl yK, .sl yH, .sl yL, .sl tI, tI], [.agg [qm 0, qm 1, qm 2, qm 3, qm 4, qm 5]], [], [[.sl tB, .sl yK, .sl yH, .sl yL, .sl tI, tI]], [tU, tU, tI, .sl tU], .tup [(true, [qm 0, qm 1, qr 0]), (false, [qm 2])], [], [(true, .arr 48 (qm 3))], false⟩
def zay_P : List zbV := []
def zay_T : zca := tab [e_zbB]
theorem zay_To : zbZ pg zay_T := zbW ⟨e_zbB_ok, trivial⟩
theorem zay_go : zcm pg (zay_T) io_zay f_zay (zay_P) [.cellRow 32 2 600034 48 tU, .cellRen 32 2 600034] (zay) := ⟨by kernel_rfl, by kernel_rfl, fun x => by kernel_rfl⟩
theorem ok_zay : io_zay.Okay pg (F_zay) := zcj zbY (zay_To) (zay_go) trivial
def opB (x : Br) : Br := if ((x.2.2.1 == 0) && (x.2.1 == 0)) = true then (x.1, x.2.1, 16, x.2.2.2) else x
def e_zay : zcg := io_zay.sp (fun (a, b, c, d, e, f) => (wOK a b c d e f)) (fun (a, b, c, d, e, f) => (opB (brV (wgV a b c d e f))))
theorem sp_zay (h : ∀ (a : List Bool) (b : List Tk) (c : List Th) (d : List Lk) (e : List Int) (f : Int), WfT [.sl tB, .sl yK, .sl yH, .sl yL, .sl tI, tI] (a, b, c, d, e, f) → ((wOK a b c d e f)) = true → (zay (a, b, c, d, e, f)).run (fun _ => none) = some (opB (brV (wgV a b c d e f)))) : e_zay.ok pg := zcl ok_zay fun (a, b, c, d, e, f) hw hc => h a b c d e f hw hc
theorem e_zay_ok : e_zay.ok pg := sp_zay fun a b c d e f _ hc => by
 rw [zay]
 simp only [RT.run]
 rw [if_pos hc]
 unfold opB
 split <;> rfl
def zaX : ((List Bool) × (List Tk) × (List Th) × (List Lk) × (List Int) × Int × Int) → RT Unit (Int × Int)
| (s_0, s_1, s_2, s_3, s_4, s_5, r) =>
 .rq 4 (.req ((wOK s_0 s_1 s_2 s_3 s_4 s_5)) (.rq 8 (let t0 := (opB (brV (wgV s_0 s_1 s_2 s_3 s_4 s_5)));
 .ite (t0.2.2.1 != 0)
 (.rq 3 (.done ((-1), t0.2.2.1)))
 (.rq 3 (.req ((decide (t0.2.2.2.length ≤ 100000) && decide ((zdD t0.2.2.2).sum < 18446744073709551616))) (.rq 7 (.ite (!(decide (0 ≤ zcN (zdD t0.2.2.2) r.toNat 0)))
 (.rq 2 (.done ((-1), 1)))
 (.rq 3 (.done (zcN (zdD t0.2.2.2) r.toNat 0, 0))))))))))
def F_zaX (x : (List Bool) × (List Tk) × (List Th) × (List Lk) × (List Int) × Int × Int) : Option (Int × Int) := (zaX x).run fun _ => none
def io_zaX : Io := ⟨n_zaX, [.sl tB, .sl yK, .sl yH, .sl yL, .sl tI, tI, tU], [.agg [qm 0, qm 1, qm 2, qm 3, qm 4, qm 5], .lf (qm 6)], [], [[.sl tB, .sl yK, .sl yH, .sl yL, .sl tI, tI], [tU]], [tI, tI], .tup [(false, [qm 0]), (false, [qm 1])], [], [], false⟩
def zaX_P : List zbV := []
def zaX_T : zca := tab [e_zay, e_zH]
theorem zaX_To : zbZ pg zaX_T := zbW ⟨e_zay_ok, e_zH_ok, trivial⟩
theorem zaX_go : zcm pg (zaX_T) io_zaX f_zaX (zaX_P) [] (zaX) := ⟨by kernel_rfl, by kernel_rfl, fun x => by kernel_rfl⟩
theorem ok_zaX : io_zaX.Okay pg (F_zaX) := zcj zbY (zaX_To) (zaX_go) trivial
def e_zaX : zcg := io_zaX.sp (fun (a, b, c, d, e, f, r) => (wOK a b c d e f)) (fun (a, b, c, d, e, f, r) => (atB (brV (wgV a b c d e f)) r))
theorem sp_zaX (h : ∀ (a : List Bool) (b : List Tk) (c : List Th) (d : List Lk) (e : List Int) (f : Int) (r : Int), WfT [.sl tB, .sl yK, .sl yH, .sl yL, .sl tI, tI, tU] (a, b, c, d, e, f, r) → ((wOK a b c d e f)) = true → (zaX (a, b, c, d, e, f, r)).run (fun _ => none) = some (atB (brV (wgV a b c d e f)) r)) : e_zaX.ok pg := zcl ok_zaX fun (a, b, c, d, e, f, r) hw hc => h a b c d e f r hw hc
theorem e_zaX_ok : e_zaX.ok pg := sp_zaX fun a b c d e f r hw hc => by
 obtain ⟨H, h8⟩ := zdk hc
 have hr : 0 ≤ r ∧ r < 18446744073709551616 := hw.2.2.2.2.2.2
 obtain ⟨b1, b2, b3⟩ := brV_sum (wgV a b c d e f) (wg_hyp H).2
 rw [zaX]
 simp only [RT.run]
 rw [if_pos hc]
 generalize brV (wgV a b c d e f) = x at *
 unfold atB
 by_cases h1 : x.2.2.1 = 0
 ·have e1 : (x.2.2.1 == 0) = true := by simpa using h1
  have e2 : ¬ (x.2.2.1 != 0) = true := by simpa using h1
  obtain ⟨t1, t2, t3⟩ := b3 h1
  rw [if_neg e2]
  by_cases h2 : (x.2.1 == 0) = true
  ·have ho : opB x = (x.1, x.2.1, 16, x.2.2.2) := by unfold opB; rw [e1, h2]; rfl
   rw [ho, if_pos h2, if_pos (show ((16 : Int) != 0) = true by decide)]
  ·have ho : opB x = x := by unfold opB; rw [e1, Bool.eq_false_iff.2 h2]; rfl
   rw [ho, if_neg h2, if_neg e2, if_pos (by rw [decide_eq_true b1, decide_eq_true b2]; rfl)]
   have hp := (pickG_lt (zdD x.2.2.2) r.toNat 0).1
   by_cases h3 : x.2.1 ≤ r
   ·have : ¬ 0 ≤ zcN (zdD x.2.2.2) r.toNat 0 := fun h => by
     have := hp.1 h
     omega
    rw [decide_eq_true h3, decide_eq_false this, if_pos (by decide), if_pos rfl]
   ·have : 0 ≤ zcN (zdD x.2.2.2) r.toNat 0 := hp.2 (by omega)
    rw [decide_eq_false h3, decide_eq_true this, if_neg (by decide), if_neg (by decide)]
 ·have e1 : (x.2.2.1 == 0) = false := by simpa using h1
  have e2 : (x.2.2.1 != 0) = true := by simpa using h1
  have ho : opB x = x := by unfold opB; rw [e1]; rfl
  rw [ho, if_pos e2, if_pos e2]
def chM (p q : Rat) : Rat := mkRat ((p.num.toNat * q.den : Nat) : Int) (p.den * q.num.toNat)
def chV (L : List Rat) (i : Int) : Rat := if (inB L i && decide (zcy L ≠ 0)) = true then chM (gI L i) (zcy L) else 0
theorem wg_sum {a : List Bool} {b : List Tk} {c : List Th} {d : List Lk} {e : List Int} {f : Int} (H : zck a b c d e f) : 0 ≤ zcy (wgV a b c d e f) ∧ sm 20000 (zcy (wgV a b c d e f)) := by
 obtain ⟨h1, h2⟩ := rsum_sm H.wg_mem
 have hlc := H.lenC
 exact ⟨h1, zeF (by rw [zeY]; omega) h2⟩
theorem num_zero {q : Rat} (h : 0 ≤ q) : q.num.toNat = 0 ↔ q = 0 := by
 have h1 := Rat.num_nonneg.2 h
 rw [← Rat.num_eq_zero]
 omega
theorem chM_sm {p q : Rat} {m n : Nat} (hp : sm m p) (hq0 : 0 ≤ q) (hq : sm n q) (hne : q ≠ 0) : 0 ≤ chM p q ∧ sm (m + n) (chM p q) := by
 have h1 := Nat.mul_lt_mul'' hp.1 hq.2
 have h2 := Nat.mul_lt_mul'' hp.2 hq.1
 rw [← Nat.pow_add] at h1 h2
 exact ⟨zeT _ _, zfO (Nat.mul_ne_zero p.den_nz (fun h => hne ((num_zero hq0).1 h))) h1 h2⟩
theorem ch_sm {a : List Bool} {b : List Tk} {c : List Th} {d : List Lk} {e : List Int} {f : Int} (H : zck a b c d e f) (i : Int) : 0 ≤ chV (wgV a b c d e f) i ∧ sm 21000 (chV (wgV a b c d e f) i) := by
 unfold chV
 split
 ·rename_i h
  rw [Bool.and_eq_true, decide_eq_true_eq] at h
  obtain ⟨s1, s2⟩ := wg_sum H
  have hi := zcd.1 h.1
  rw [zeY] at hi
  obtain ⟨h1, h2⟩ := chM_sm (H.wg_sm hi).2 s1 s2 h.2
  exact ⟨h1, zeF (by decide) h2⟩
 ·exact ⟨by decide, zhf _ (by decide)⟩
def zbp : ((List Int) × (List Int) × (List Int) × (List Int)) → RT Unit (Bool × (List Int) × (List Int))
| (a_0, a_1, b_0, b_1) =>
 .rq 9 (.req (okMs [a_0, b_1]) (.rq 5 (.req (okMs [a_1, b_0]) (let t0 := zbX B32 (zeD [a_0, b_1]);
 let t1 := zbX B32 (zeD [a_1, b_0]);
 .req (okL 36 t0 && okL 36 t1) (.rq 4 (let t2 := mkR (val B32 t0) (val B32 t1);
 .done (t2.1, t2.2.1, t2.2.2)))))))
def F_zbp (x : (List Int) × (List Int) × (List Int) × (List Int)) : Option (Bool × (List Int) × (List Int)) := (zbp x).run fun _ => none
def io_zbp : Io := ⟨n_zbp, [.sl tV, .sl tV, .sl tV, .sl tV], [.agg [qm 0, qm 1], .agg [qm 2, qm 3]], [], [[.sl tV, .sl tV], [.sl tV, .sl tV]], [tB, .sl tV, .sl tV], .tup [(true, [qr 0, qr 1]), (false, [qm 0])], [], [(true, .arr 122 (qm 1)), (true, .arr 122 (qm 2))], false⟩
def zbp_P : List zbV := []
def zbp_T : zca := tab [e_zaF, e_zaK]
theorem zbp_To : zbZ pg zbp_T := zbW ⟨e_zaF_ok, e_zaK_ok, trivial⟩
theorem zbp_go : zcm pg (zbp_T) io_zbp f_zbp (zbp_P) [.cellRow 64 0 600064 122 tV, .cellRow 64 1 600065 122 tV, .cellRen 64 0 600064, .cellRen 64 1 600065] (zbp) := ⟨by kernel_rfl, by kernel_rfl, fun x => by kernel_rfl⟩
theorem ok_zbp : io_zbp.Okay pg (F_zbp) := zcj zbY (zbp_To) (zbp_go) trivial
theorem div_F {p q : Rat} {m n : Nat} (hp : sm m p) (hq : sm n q) (hm : m ≤ 1000000) (hn : n ≤ 1000000) : F_zbp ((rq p).1, (rq p).2, (rq q).1, (rq q).2) = some (mkR (p.num.toNat * q.den) (p.den * q.num.toNat)) := by
 have l1 := rq_len hp
 have l2 := rq_len hq
 have m1 := zhJ (a := (rq p).1) (b := (rq q).2) (zcY (by decide) _) (zcY (by decide) _)
 have m2 := zhJ (a := (rq p).2) (b := (rq q).1) (zcY (by decide) _) (zcY (by decide) _)
 rw [rq_num, rq_den] at m1 m2
 show (zbp _).run _ = _
 rw [zbp]
 simp only [RT.run, prod2, zct (show 2 ≤ B32 by decide), rq_num, rq_den]
 rw [if_pos (by rw [zfy]; simp [lenS]; omega), if_pos (by rw [zfy]; simp [lenS]; omega), if_pos (by rw [Bool.and_eq_true, okL36, okL36]; omega)]
def e_zbp : zcg := io_zbp.en F_zbp
theorem e_zbp_ok : e_zbp.ok pg := zfo ok_zbp
def zak : ((List Bool) × (List Tk) × (List Th) × (List Lk) × (List Int) × Int × Int) → RT Unit ((List Int) × (List Int))
| (s_0, s_1, s_2, s_3, s_4, s_5, i) =>
 .rq 3 (.req ((wOK s_0 s_1 s_2 s_3 s_4 s_5)) (.rq 9 (let t0 := ((wgV s_0 s_1 s_2 s_3 s_4 s_5).map rq);
 .ite ((decide (i < 0)) || (decide ((t0.length : Int) ≤ i)))
 (.rq 2 (.done ([], zbX B32 1)))
 (.rq 2 (.req (inB t0 i) (.rq 2 (.req (okS t0) (let t1 := rq (sumQ t0);
 let t2 := gI t0 i;
 .call (F_zbp (t2.1, t2.2, t1.1, t1.2)) default fun v0 =>
 .rq 8 (.ite (!v0.1)
 (.rq 2 (.done ([], zbX B32 1)))
 (.rq 2 (.done (v0.2.1, v0.2.2))))))))))))
def F_zak (x : (List Bool) × (List Tk) × (List Th) × (List Lk) × (List Int) × Int × Int) : Option ((List Int) × (List Int)) := (zak x).run fun _ => none
def io_zak : Io := ⟨n_zak, [.sl tB, .sl yK, .sl yH, .sl yL, .sl tI, tI, tI], [.agg [qm 0, qm 1, qm 2, qm 3, qm 4, qm 5], .lf (qm 6)], [], [[.sl tB, .sl yK, .sl yH, .sl yL, .sl tI, tI], [tI]], [.sl tV, .sl tV], .agg [qr 0, qr 1], [], [(true, .arr 122 (qm 0)), (true, .arr 122 (qm 1))], false⟩
def zak_P : List zbV := []
def zak_T : zca := tab [e_zbp, e_zA, e_zaa, e_zao]
theorem zak_To : zbZ pg zak_T := zbW ⟨e_zbp_ok, e_zA_ok, e_zaa_ok, zgY, trivial⟩
theorem zak_go : zcm pg (zak_T) io_zak f_zak (zak_P) [.cellRow 64 0 600064 122 tV, .cellRow 64 1 600065 122 tV, .cellRen 64 0 600064, .cellRen 64 1 600065] (zak) := ⟨by kernel_rfl, by kernel_rfl, fun x => by kernel_rfl⟩
theorem ok_zak : io_zak.Okay pg (F_zak) := zcj zbY (zak_To) (zak_go) trivial
def e_zak : zcg := io_zak.sp (fun (a, b, c, d, e, f, i) => (wOK a b c d e f)) (fun (a, b, c, d, e, f, i) => (rq (chV (wgV a b c d e f) i)))
theorem sp_zak (h : ∀ (a : List Bool) (b : List Tk) (c : List Th) (d : List Lk) (e : List Int) (f : Int) (i : Int), WfT [.sl tB, .sl yK, .sl yH, .sl yL, .sl tI, tI, tI] (a, b, c, d, e, f, i) → ((wOK a b c d e f)) = true → (zak (a, b, c, d, e, f, i)).run (fun _ => none) = some (rq (chV (wgV a b c d e f) i))) : e_zak.ok pg := zcl ok_zak fun (a, b, c, d, e, f, i) hw hc => h a b c d e f i hw hc
theorem e_zak_ok : e_zak.ok pg := sp_zak fun a b c d e f i _ hc => by
 obtain ⟨H, h8⟩ := zdk hc
 have hlc := H.lenC
 obtain ⟨s1, s2⟩ := wg_sum H
 rw [zak]
 simp only [RT.run]
 rw [if_pos hc, List.length_map]
 unfold chV
 cases hin : inB (wgV a b c d e f) i with
 | false =>
  rw [if_pos]
  ·rfl
  ·unfold inB at hin
   simp only [Bool.and_eq_false_iff, decide_eq_false_iff_not] at hin
   simp only [Bool.or_eq_true, decide_eq_true_eq]
   omega
 | true =>
  have hi := zcd.1 hin
  have hi' : 0 ≤ i ∧ i < (c.length : Int) := by rw [← zeY (a := a) (b := b) (c := c) (d := d) (e := e) (f := f)]; exact hi
  rw [if_neg (by simp; omega), if_pos (zcd.2 (by rw [List.length_map]; exact hi)), okS_map (n := 510) (fun q hq => (H.wg_mem q hq).2) (wg_hyp H).2 (by decide), if_pos rfl, sumQ_map fun q hq => (H.wg_mem q hq).1, zdZ rq hi, div_F (H.wg_sm hi').2 s2 (by decide) (by decide), Option.bind_some]
  unfold mkR chM
  by_cases hz : zcy (wgV a b c d e f) = 0
  ·have hd : (gI (wgV a b c d e f) i).den * (zcy (wgV a b c d e f)).num.toNat = 0 := by rw [hz]; simp
   rw [if_pos hd, if_pos (by decide), if_neg (by rw [decide_eq_false (fun h => h hz)]; decide)]
   rfl
  ·have hne : (gI (wgV a b c d e f) i).den * (zcy (wgV a b c d e f)).num.toNat ≠ 0 := Nat.mul_ne_zero (gI (wgV a b c d e f) i).den_nz (fun h => hz ((num_zero s1).1 h))
   rw [if_neg hne, if_neg (by simp), if_pos (by rw [decide_eq_true hz]; rfl)]
def zbF : ((List Int) × (List Int)) → RT Unit Bool
| (q_0, q_1) =>
 .rq 8 (.done ((q_0.length : Int) == 0))
def F_zbF (x : (List Int) × (List Int)) : Option Bool := (zbF x).run fun _ => none
def io_zbF : Io := ⟨n_zbF, [.sl tI, .sl tI], [.agg [qm 0, qm 1]], [], [[.sl tI, .sl tI]], [tB], .lf (qm 0), [], [], false⟩
def zbF_P : List zbV := []
def zbF_T : zca := tab []
theorem zbF_To : zbZ pg zbF_T := zbW trivial
theorem zbF_go : zcm pg (zbF_T) io_zbF f_zbF (zbF_P) [] (zbF) := ⟨by kernel_rfl, by kernel_rfl, fun x => by kernel_rfl⟩
theorem ok_zbF : io_zbF.Okay pg (F_zbF) := zcj zbY (zbF_To) (zbF_go) trivial
def e_zbF : zcg := io_zbF.sp (fun (x, y) => true) (fun (x, y) => ((x.length : Int) == 0))
theorem sp_zbF (h : ∀ (x : List Int) (y : List Int), WfT [.sl tI, .sl tI] (x, y) → (zbF (x, y)).run (fun _ => none) = some ((x.length : Int) == 0)) : e_zbF.ok pg := zcl ok_zbF fun (x, y) hw hc => h x y hw
theorem e_zbF_ok : e_zbF.ok pg := sp_zbF fun x y _ => by
 rw [zbF]; rfl
def zbS : ((List Int) × (List Int) × (List Int) × (List Int)) → RT Unit ((List Int) × (List Int))
| (a_0, a_1, b_0, b_1) =>
 .rq 7 (.req (okM 38 a_0 && okM 38 b_1) (.rq 4 (.req (okM 38 a_1 && okM 38 b_0) (.rq 1 (.req (isM 36 (zbX B16 (val B16 a_0 * val B16 b_1)) && (isM 36 (zbX B16 (val B16 a_1 * val B16 b_0)) && decide (val B16 (zbX B16 (val B16 a_1 * val B16 b_0)) ≠ 0))) (.rq 1 (let t0 := rQ (zda (zbX B16 (val B16 a_0 * val B16 b_1)) (zbX B16 (val B16 a_1 * val B16 b_0)));
 .done (t0.1, t0.2))))))))
def F_zbS (x : (List Int) × (List Int) × (List Int) × (List Int)) : Option ((List Int) × (List Int)) := (zbS x).run fun _ => none
def io_zbS : Io := ⟨n_zbS, [.sl tI, .sl tI, .sl tI, .sl tI], [.agg [qm 0, qm 1], .agg [qm 2, qm 3]], [], [[.sl tI, .sl tI], [.sl tI, .sl tI]], [.sl tI, .sl tI], .agg [qr 0, qr 1], [], [(true, .arr 3 (qm 0)), (true, .arr 3 (qm 1))], false⟩
def zbS_P : List zbV := []
def zbS_T : zca := tab [e_zbD, e_zab]
theorem zbS_To : zbZ pg zbS_T := zbW ⟨e_zbD_ok, e_zab_ok, trivial⟩
theorem zbS_go : zcm pg (zbS_T) io_zbS f_zbS (zbS_P) [.cellRow 64 0 600064 3 tI, .cellRow 64 1 600065 3 tI, .cellRen 64 0 600064, .cellRen 64 1 600065] (zbS) := ⟨by kernel_rfl, by kernel_rfl, fun x => by kernel_rfl⟩
theorem ok_zbS : io_zbS.Okay pg (F_zbS) := zcj zbY (zbS_To) (zbS_go) trivial
theorem divR_F {p q : Rat} {m n : Nat} (hp : sm m p) (hq : sm n q) (hm : m ≤ 1000000) (hn : n ≤ 1000000) (h0 : 0 ≤ q) (hne : q ≠ 0) : F_zbS ((rQ p).1, (rQ p).2, (rQ q).1, (rQ q).2) = some (rQ (chM p q)) := by
 have l1 := zfC hp.1
 have l2 := zfC hp.2
 have l3 := zfC hq.1
 have l4 := zfC hq.2
 have h1 := Nat.mul_lt_mul'' hp.1 hq.2
 have h2 := Nat.mul_lt_mul'' hp.2 hq.1
 rw [← Nat.pow_add] at h1 h2
 have l5 := zfC h1
 have l6 := zfC h2
 have w : ∀ v, wfd B16 (zbX B16 v) = true := fun v => zcY (by decide) v
 have hz : p.den * q.num.toNat ≠ 0 := Nat.mul_ne_zero p.den_nz (fun h => hne ((num_zero h0).1 h))
 show (zbS (zbX B16 p.num.toNat, zbX B16 p.den, zbX B16 q.num.toNat, zbX B16 q.den)).run _ = _
 rw [zbS]
 simp only [RT.run, zct (show 2 ≤ B16 by decide)]
 rw [if_pos (by rw [Bool.and_eq_true, zdA, zdA]; exact ⟨⟨by omega, w _⟩, by omega, w _⟩), if_pos (by rw [Bool.and_eq_true, zdA, zdA]; exact ⟨⟨by omega, w _⟩, by omega, w _⟩),
  if_pos (by rw [zha (by omega), zha (by omega), decide_eq_true hz]; rfl)]
 unfold zda chM
 rw [zct (by decide), zct (by decide)]
def e_zbS : zcg := io_zbS.en F_zbS
theorem e_zbS_ok : e_zbS.ok pg := zfo ok_zbS
def zhN : ((List Bool) × (List Tk) × (List Th) × (List Lk) × (List Int) × Int) → (Int × (List Int) × (List Int)) → RT (Int × (List Int) × (List Int)) ((List Int) × (List Int))
| (s_0, s_1, s_2, s_3, s_4, s_5), (k, r80, r81) =>
 .rq 5 (.ite (decide (k < (s_2.length : Int)))
 (.rq 3 (.req ((wOK s_0 s_1 s_2 s_3 s_4 s_5 && inB s_2 k)) (let t0 := (rQ (gI (wgV s_0 s_1 s_2 s_3 s_4 s_5) k));
 .req (okq r80 r81 && okq t0.1 t0.2) (.rq 4 (let t1 := rQ (zda r80 r81 + zda t0.1 t0.2);
 .again (w64 (k + 1), t1.1, t1.2))))))
 (.done (r80, r81)))
def zad_p58 : zbV := ⟨58, true, [tI, .sl tB, .sl yK, .sl yH, .sl yL, .sl tI, tI], [tI, .sl tI, .sl tI], ⟨[.keep [1, 2, 4, 5, 6], .gc, .cellRow 80 0 600080 3 tI, .cellRow 80 1 600081 3 tI, .cellRen 80 0 600080, .cellRen 80 1 600081, .gc], [1, 2, 4, 5, 6], [.lf (qi 0), .lf (qp 32), .lf (qp 64), .lf (qp 80), .lf (qm 0)], [(32, true, .cells [qi 1, qi 2, qi 3, qi 4, qi 5, qi 6]), (64, true, .cells [.fix (.nil), .fix (.nil)]), (80, true, .cells [qr 600080, qr 600081]), (600080, true, .arr 3 (qm 1)), (600081, true, .arr 3 (qm 2))]⟩, [⟨2, ⟨[.keep [1, 2, 4, 5], .gc, .cellRow 80 0 600080 3 tI, .cellRow 80 1 600081 3 tI, .cellRen 80 0 600080, .cellRen 80 1 600081, .gc], [1, 2, 4, 5], [.lf (qi 0), .lf (qp 32), .lf (qp 64), .lf (qp 80)], [(32, true, .cells [qi 1, qi 2, qi 3, qi 4, qi 5, qi 6]), (64, true, .cells [.fix (.nil), .fix (.nil)]), (80, true, .cells [qr 600080, qr 600081]), (600080, true, .arr 3 (qm 0)), (600081, true, .arr 3 (qm 1))]⟩, [.sl tI, .sl tI]⟩], (fun i => zhN (i.2.1, i.2.2.1, i.2.2.2.1, i.2.2.2.2.1, i.2.2.2.2.2.1, i.2.2.2.2.2.2))⟩
def zad : ((List Bool) × (List Tk) × (List Th) × (List Lk) × (List Int) × Int × Int) → RT Unit ((List Int) × (List Int))
| (s_0, s_1, s_2, s_3, s_4, s_5, i) =>
 .rq 6 (.call (lo zhN (s_0, s_1, s_2, s_3, s_4, s_5) (0, (rQ (((0 : Int).toNat : Nat) : Rat)).1, (rQ (((0 : Int).toNat : Nat) : Rat)).2)) default fun v0 =>
 .rq 13 (.ite (((decide (i < 0)) || (decide ((s_2.length : Int) ≤ i))) || (((v0.1.length : Int) == 0)))
 (.rq 2 (.done ((rQ (((0 : Int).toNat : Nat) : Rat)).1, (rQ (((0 : Int).toNat : Nat) : Rat)).2)))
 (.rq 2 (.req ((wOK s_0 s_1 s_2 s_3 s_4 s_5 && inB s_2 i)) (.rq 1 (let t0 := (rQ (gI (wgV s_0 s_1 s_2 s_3 s_4 s_5) i));
 .call (F_zbS (t0.1, t0.2, v0.1, v0.2)) default fun v1 =>
 .rq 1 (.done (v1.1, v1.2))))))))
def F_zad (x : (List Bool) × (List Tk) × (List Th) × (List Lk) × (List Int) × Int × Int) : Option ((List Int) × (List Int)) := (zad x).run fun _ => none
def io_zad : Io := ⟨n_zad, [.sl tB, .sl yK, .sl yH, .sl yL, .sl tI, tI, tI], [.agg [qm 0, qm 1, qm 2, qm 3, qm 4, qm 5], .lf (qm 6)], [], [[.sl tB, .sl yK, .sl yH, .sl yL, .sl tI, tI], [tI]], [.sl tI, .sl tI], .agg [qr 0, qr 1], [], [(true, .arr 3 (qm 0)), (true, .arr 3 (qm 1))], false⟩
def zad_P : List zbV := [zad_p58]
def zad_T : zca := tab [e_zbS, e_zbF, e_zbi, e_zbC, e_zby]
theorem zad_To : zbZ pg zad_T := zbW ⟨e_zbS_ok, e_zbF_ok, e_zbi_ok, e_zbC_ok, e_zby_ok, trivial⟩
theorem zad_k58 : (zad_p58).OK pg (zad_T) (zcr 39 (zad_P)) (zci f_zad) 39 := ⟨by kernel_rfl, fun i x => by kernel_rfl⟩
theorem zad_go : zcm pg (zad_T) io_zad f_zad (zad_P) [.cellRow 64 0 600064 3 tI, .cellRow 64 1 600065 3 tI, .cellRen 64 0 600064, .cellRen 64 1 600065] (zad) := ⟨by kernel_rfl, by kernel_rfl, fun x => by kernel_rfl⟩
theorem ok_zad : io_zad.Okay pg (F_zad) := zcj zbY (zad_To) (zad_go) ⟨zad_k58, trivial⟩
theorem chR_loop {a : List Bool} {b : List Tk} {c : List Th} {d : List Lk} {e : List Int} {f : Int} (hw : wOK a b c d e f = true) : ∀ (n i m : Nat) (q : Rat), i + n = c.length → 0 ≤ q → sm m q → m + 511 * n ≤ 100000 →
  lo zhN (a, b, c, d, e, f) ((i : Int), (rQ q).1, (rQ q).2) = some (rQ (q + zcy ((wgV a b c d e f).drop i)))
 | 0, i, m, q, h, _, _, _ => by
  rw [zcf, zhN]
  simp only [RT.run]
  rw [if_neg (by simp; omega), List.drop_eq_nil_of_le (by rw [zeY]; omega)]
  show some (rQ q) = some (rQ (q + 0))
  rw [Rat.add_zero]
 | n + 1, i, m, q, h, h0, hm, hb => by
  obtain ⟨H, h8⟩ := zdk hw
  have hlc := H.lenC
  have hi : 0 ≤ (i : Int) ∧ (i : Int) < (c.length : Int) := by omega
  have hil : i < (wgV a b c d e f).length := by rw [zeY]; omega
  obtain ⟨s2, s3⟩ := H.wg_sm hi
  have ih := chR_loop hw n (i + 1) _ (q + gI (wgV a b c d e f) (i : Int)) (by omega) (Rat.add_nonneg h0 s2) (sm_add h0 s2 hm s3) (by omega)
  rw [zcf, zhN]
  simp only [RT.run]
  rw [if_pos (by simp; omega), hw, zcd.2 hi, if_pos (by decide), zfK hm (by omega), zfK s3 (by decide), if_pos (by decide), zcc (by omega), show (i : Int) + 1 = ((i + 1 : Nat) : Int) by omega, zeG h0, zeG s2]
  show lo zhN _ (_, (rQ (q + gI (wgV a b c d e f) (i : Int))).1, (rQ (q + gI (wgV a b c d e f) (i : Int))).2) = _
  rw [ih, List.drop_eq_getElem_cons hil, zcF, zcA hil, Rat.add_assoc]
def e_zad : zcg := io_zad.sp (fun (a, b, c, d, e, f, i) => (wOK a b c d e f)) (fun (a, b, c, d, e, f, i) => (rQ (chV (wgV a b c d e f) i)))
theorem sp_zad (h : ∀ (a : List Bool) (b : List Tk) (c : List Th) (d : List Lk) (e : List Int) (f : Int) (i : Int), WfT [.sl tB, .sl yK, .sl yH, .sl yL, .sl tI, tI, tI] (a, b, c, d, e, f, i) → ((wOK a b c d e f)) = true → (zad (a, b, c, d, e, f, i)).run (fun _ => none) = some (rQ (chV (wgV a b c d e f) i))) : e_zad.ok pg := zcl ok_zad fun (a, b, c, d, e, f, i) hw hc => h a b c d e f i hw hc
theorem e_zad_ok : e_zad.ok pg := sp_zad fun a b c d e f i _ hc => by
 obtain ⟨H, h8⟩ := zdk hc
 have hlc := H.lenC
 obtain ⟨s1, s2⟩ := wg_sum H
 have hl := chR_loop hc c.length 0 1 0 (by omega) (by decide) (zhf _ (by decide)) (by omega)
 rw [show ((0 : Nat) : Int) = 0 from rfl, List.drop_zero, Rat.zero_add] at hl
 rw [zad]
 simp only [RT.run]
 show (lo zhN _ (0, (rQ 0).1, (rQ 0).2)).bind _ = _
 rw [hl, Option.bind_some]
 have hzz : (((rQ (zcy (wgV a b c d e f))).1.length : Int) == 0) = decide (zcy (wgV a b c d e f) = 0) := by
  rw [Bool.eq_iff_iff, beq_iff_eq, decide_eq_true_eq, ← num_zero s1]
  show ((zbX 65536 (zcy (wgV a b c d e f)).num.toNat).length : Int) = 0 ↔ _
  rw [show ((zbX 65536 (zcy (wgV a b c d e f)).num.toNat).length : Int) = 0 ↔ (zbX 65536 (zcy (wgV a b c d e f)).num.toNat).length = 0 by omega]
  exact digs_nil (by decide)
 simp only [hzz]
 unfold chV
 have hinn : inB (wgV a b c d e f) i = inB c i := by unfold inB; rw [zeY]
 rw [hinn]
 cases hin : inB c i with
 | false =>
  have ho : (decide (i < 0) || decide ((c.length : Int) ≤ i)) = true := by
   unfold inB at hin
   simp only [Bool.and_eq_false_iff, decide_eq_false_iff_not] at hin
   simp only [Bool.or_eq_true, decide_eq_true_eq]
   omega
  rw [ho]
  simp
 | true =>
  have hi := zcd.1 hin
  have ho : (decide (i < 0) || decide ((c.length : Int) ≤ i)) = false := by simp; omega
  rw [ho]
  by_cases hz : zcy (wgV a b c d e f) = 0
  ·simp [hz]
  ·have hd : decide (zcy (wgV a b c d e f) = 0) = false := decide_eq_false hz
   rw [hd, hc]
   simp only [Bool.not_false, Bool.or_true, Bool.or_self, Bool.and_self, if_true, Bool.false_eq_true, if_false]
   rw [divR_F (H.wg_sm hi).2 s2 (by decide) (by decide) s1 hz, if_pos (by simp [hz])]
   rfl
end
end Go.Proofs.YtlfdidaeachpoaaGreat
namespace Go.Proofs.YtlfdidaeachpoaaGreat
open Go
abbrev n_zM : Nat := 46
noncomputable abbrev f_zM : Func := Tryz.f46
abbrev n_zW : Nat := 49
noncomputable abbrev f_zW : Func := Tryz.f49
abbrev n_zO : Nat := 148
noncomputable abbrev f_zO : Func := Tryz.f148
abbrev n_zN : Nat := 183
noncomputable abbrev f_zN : Func := Tryz.f183
end Go.Proofs.YtlfdidaeachpoaaGreat
namespace Go.Proofs.YtlfdidaeachpoaaGreat
open Go Go.RowKit
set_option maxRecDepth 100000
noncomputable section
def zp : (List Int) → RT Unit (List Int)
| s =>
 .rq 2 (let t0 := zdG 8 [] s;
 .may (List.isEmpty s)
 (.ite true
 (.rq 1 (.done []))
 (.rq 2 (.req t0 (.rq 1 (.done ([] ++ s))))))
 (.ite false
 (.rq 1 (.done []))
 (.rq 2 (.req t0 (.rq 1 (.done ([] ++ s)))))))
def F_zp (x : (List Int)) : Option (List Int) := (zp x).run fun _ => none
def io_zp : Io := ⟨n_zp, [.sl tU], [.lf (qm 0)], [], [[.sl tU]], [.sl tU], .lf (qr 0), [], [(true, .arr 48 (qm 0))], false⟩
def zp_P : List zbV := []
def zp_T : zca := tab []
theorem zp_To : zbZ pg zp_T := zbW trivial
theorem zp_go : zcm pg (zp_T) io_zp f_zp (zp_P) [.nilRow 2 800002 48 tU, .ren 2 700002, .ren 2 900002] (zp) := ⟨by kernel_rfl, by kernel_rfl, fun x => by kernel_rfl⟩
theorem ok_zp : io_zp.Okay pg (F_zp) := zcj zbY (zp_To) (zp_go) trivial
def e_zp : zcg := io_zp.sp (fun s => (okL 40 s)) (fun s => s)
theorem sp_zp (h : ∀ (s : List Int), WfT [.sl tU] s → ((okL 40 s)) = true → (zp s).run (fun _ => none) = some s) : e_zp.ok pg := zcl ok_zp fun s hw hc => h s hw hc
theorem e_zp_ok : e_zp.ok pg := sp_zp fun s _ hc => by
 replace hc := okL40.1 hc
 have h : zdG 8 [] s = true := by rw [zej, zii]; simp; omega
 unfold zp
 simp only [RT.run, h, List.nil_append, if_true, if_false, Bool.false_eq_true]
 cases s with
 | nil => simp [bothR]
 | cons a s => simp
def zbt : (List Int) → RT Unit ((List Int) × Int)
| l =>
 .rq 2 (.req ((okL 40 l)) (.rq 3 (.done (l, 0))))
def F_zbt (x : (List Int)) : Option ((List Int) × Int) := (zbt x).run fun _ => none
def io_zbt : Io := ⟨n_zbt, [.sl tU], [.lf (qm 0)], [], [[.sl tU]], [.sl tU, tI], .lf (qp 0), [], [(true, .cells [qm 0, qm 1])], true⟩
def zbt_P : List zbV := []
def zbt_T : zca := tab [e_zp]
theorem zbt_To : zbZ pg zbt_T := zbW ⟨e_zp_ok, trivial⟩
theorem zbt_go : zcm pg (zbt_T) io_zbt f_zbt (zbt_P) [.cellDat 96, .cellDen 96 [.sl tU]] (zbt) := ⟨by kernel_rfl, by kernel_rfl, fun x => by kernel_rfl⟩
theorem ok_zbt : io_zbt.Okay pg (F_zbt) := zcj zbY (zbt_To) (zbt_go) trivial
def e_zbt : zcg := io_zbt.sp (fun l => (okL 40 l)) (fun l => (l, 0))
theorem sp_zbt (h : ∀ (l : List Int), WfT [.sl tU] l → ((okL 40 l)) = true → (zbt l).run (fun _ => none) = some (l, 0)) : e_zbt.ok pg := zcl ok_zbt fun l hw hc => h l hw hc
theorem e_zbt_ok : e_zbt.ok pg := sp_zbt fun l _ hc => by
 rw [zbt]
 simp only [RT.run]
 rw [if_pos hc]
def zM : (Int × (List Int) × Int) → RT Unit (Int × (List Int) × Int)
| (a1, s_0, s_1) =>
 .rq 4 (.ite false
 (.rq 1 (.done (2, s_0, s_1)))
 (.rq 12 (.ite ((decide (a1 < 0)) || (decide ((s_0.length : Int) < a1)))
 (.rq 1 (.done (6, s_0, s_1)))
 (.rq 6 (.done (0, s_0, a1))))))
def F_zM (x : Int × (List Int) × Int) : Option (Int × (List Int) × Int) := (zM x).run fun _ => none
def io_zM : Io := ⟨n_zM, [tI, .sl tU, tI], [.lf (qp 0), .lf (qm 0)], [.cells [qm 1, qm 2]], [[], [tI]], [tI, .sl tU, tI], .lf (qm 0), [(true, .cells [qm 1, qm 2])], [], true⟩
def zM_P : List zbV := []
def zM_T : zca := tab []
theorem zM_To : zbZ pg zM_T := zbW trivial
theorem zM_go : zcm pg (zM_T) io_zM f_zM (zM_P) [] (zM) := ⟨by kernel_rfl, by kernel_rfl, fun x => by kernel_rfl⟩
theorem ok_zM : io_zM.Okay pg (F_zM) := zcj zbY (zM_To) (zM_go) trivial
def seekV (k : Int) (l : List Int) (at_ : Int) : Int × List Int × Int := if (decide (k < 0) || decide ((l.length : Int) < k)) = true then (6, l, at_) else (0, l, k)
def e_zM : zcg := io_zM.sp (fun (k, l, at_) => true) (fun (k, l, at_) => (seekV k l at_))
theorem sp_zM (h : ∀ (k : Int) (l : List Int) (at_ : Int), WfT [tI, .sl tU, tI] (k, l, at_) → (zM (k, l, at_)).run (fun _ => none) = some (seekV k l at_)) : e_zM.ok pg := zcl ok_zM fun (k, l, at_) hw hc => h k l at_ hw
theorem e_zM_ok : e_zM.ok pg := sp_zM fun k l at_ _ => by
 rw [zM]
 simp only [RT.run]
 unfold seekV
 rw [if_neg (by decide)]
 by_cases h : (decide (k < 0) || decide ((l.length : Int) < k)) = true
 ·rw [if_pos h, if_pos h]
 ·rw [if_neg h, if_neg h]
def zW : ((List Int) × Int) → RT Unit (Int × (List Int) × Int)
| (s_0, s_1) =>
 .rq 3 (.ite false
 (.rq 1 (.done (0, s_0, s_1)))
 (.rq 5 (.done (s_1, s_0, s_1))))
def F_zW (x : (List Int) × Int) : Option (Int × (List Int) × Int) := (zW x).run fun _ => none
def io_zW : Io := ⟨n_zW, [.sl tU, tI], [.lf (qp 0)], [.cells [qm 0, qm 1]], [[]], [tI, .sl tU, tI], .lf (qm 0), [(true, .cells [qm 1, qm 2])], [], true⟩
def zW_P : List zbV := []
def zW_T : zca := tab []
theorem zW_To : zbZ pg zW_T := zbW trivial
theorem zW_go : zcm pg (zW_T) io_zW f_zW (zW_P) [] (zW) := ⟨by kernel_rfl, by kernel_rfl, fun x => by kernel_rfl⟩
theorem ok_zW : io_zW.Okay pg (F_zW) := zcj zbY (zW_To) (zW_go) trivial
def e_zW : zcg := io_zW.sp (fun (l, at_) => true) (fun (l, at_) => (at_, l, at_))
theorem sp_zW (h : ∀ (l : List Int) (at_ : Int), WfT [.sl tU, tI] (l, at_) → (zW (l, at_)).run (fun _ => none) = some (at_, l, at_)) : e_zW.ok pg := zcl ok_zW fun (l, at_) hw hc => h l at_ hw
theorem e_zW_ok : e_zW.ok pg := sp_zW fun l at_ _ => by
 rw [zW]; rfl
def zN : ((List Int) × Int) → RT Unit (Int × Int × (List Int) × Int)
| (s_0, s_1) =>
 .rq 5 (.ite false
 (.rq 2 (.done (0, 2, s_0, s_1)))
 (.rq 11 (.ite (s_1 == (s_0.length : Int))
 (.rq 2 (.done (0, 11, s_0, s_1)))
 (.rq 8 (.req (inB s_0 s_1) (.rq 3 (.done (gI s_0 s_1, 0, s_0, s_1))))))))
def F_zN (x : (List Int) × Int) : Option (Int × Int × (List Int) × Int) := (zN x).run fun _ => none
def io_zN : Io := ⟨n_zN, [.sl tU, tI], [.lf (qp 0)], [.cells [qm 0, qm 1]], [[]], [tU, tI, .sl tU, tI], .tup [(false, [qm 0]), (false, [qm 1])], [(true, .cells [qm 2, qm 3])], [], true⟩
def zN_P : List zbV := []
def zN_T : zca := tab []
theorem zN_To : zbZ pg zN_T := zbW trivial
theorem zN_go : zcm pg (zN_T) io_zN f_zN (zN_P) [] (zN) := ⟨by kernel_rfl, by kernel_rfl, fun x => by kernel_rfl⟩
theorem ok_zN : io_zN.Okay pg (F_zN) := zcj zbY (zN_To) (zN_go) trivial
def peekV (l : List Int) (at_ : Int) : Int × Int × List Int × Int := if (at_ == (l.length : Int)) = true then (0, 11, l, at_) else (gI l at_, 0, l, at_)
def e_zN : zcg := io_zN.sp (fun (l, at_) => (decide (0 ≤ at_) && decide (at_ ≤ (l.length : Int)))) (fun (l, at_) => (peekV l at_))
theorem sp_zN (h : ∀ (l : List Int) (at_ : Int), WfT [.sl tU, tI] (l, at_) → ((decide (0 ≤ at_) && decide (at_ ≤ (l.length : Int)))) = true → (zN (l, at_)).run (fun _ => none) = some (peekV l at_)) : e_zN.ok pg := zcl ok_zN fun (l, at_) hw hc => h l at_ hw hc
theorem e_zN_ok : e_zN.ok pg := sp_zN fun l at_ _ hc => by
 rw [Bool.and_eq_true, decide_eq_true_eq, decide_eq_true_eq] at hc
 rw [zN]
 simp only [RT.run]
 unfold peekV
 rw [if_neg (by decide)]
 by_cases h : at_ = (l.length : Int)
 ·have hb : (at_ == (l.length : Int)) = true := by simpa using h
  rw [hb, if_pos rfl, if_pos rfl]
 ·have hb : (at_ == (l.length : Int)) = false := by simpa using h
  rw [hb, if_neg (by decide), if_pos (zcd.2 (by omega)), if_neg (by decide)]
def zO : ((List Int) × Int) → RT Unit (Int × Int × (List Int) × Int)
| (s_0, s_1) =>
 .rq 3 (.req ((decide (0 ≤ s_1) && decide (s_1 ≤ (s_0.length : Int)))) (.rq 7 (.ite (((peekV s_0 s_1)).2.1 == 0)
 (.rq 12 (.done (((peekV s_0 s_1)).1, ((peekV s_0 s_1)).2.1, ((peekV s_0 s_1)).2.2.1, w64 (((peekV s_0 s_1)).2.2.2 + 1))))
 (.rq 4 (.done (((peekV s_0 s_1)).1, ((peekV s_0 s_1)).2.1, ((peekV s_0 s_1)).2.2.1, ((peekV s_0 s_1)).2.2.2))))))
def F_zO (x : (List Int) × Int) : Option (Int × Int × (List Int) × Int) := (zO x).run fun _ => none
def io_zO : Io := ⟨n_zO, [.sl tU, tI], [.lf (qp 0)], [.cells [qm 0, qm 1]], [[]], [tU, tI, .sl tU, tI], .tup [(false, [qm 0]), (false, [qm 1])], [(true, .cells [qm 2, qm 3])], [], true⟩
def zO_P : List zbV := []
def zO_T : zca := tab [e_zN]
theorem zO_To : zbZ pg zO_T := zbW ⟨e_zN_ok, trivial⟩
theorem zO_go : zcm pg (zO_T) io_zO f_zO (zO_P) [] (zO) := ⟨by kernel_rfl, by kernel_rfl, fun x => by kernel_rfl⟩
theorem ok_zO : io_zO.Okay pg (F_zO) := zcj zbY (zO_To) (zO_go) trivial
def zfB (l : List Int) (at_ : Int) : Int × Int × List Int × Int := if (at_ == (l.length : Int)) = true then (0, 11, l, at_) else (gI l at_, 0, l, at_ + 1)
def e_zO : zcg := io_zO.sp (fun (l, at_) => (decide (0 ≤ at_) && decide (at_ ≤ (l.length : Int)))) (fun (l, at_) => (zfB l at_))
theorem sp_zO (h : ∀ (l : List Int) (at_ : Int), WfT [.sl tU, tI] (l, at_) → ((decide (0 ≤ at_) && decide (at_ ≤ (l.length : Int)))) = true → (zO (l, at_)).run (fun _ => none) = some (zfB l at_)) : e_zO.ok pg := zcl ok_zO fun (l, at_) hw hc => h l at_ hw hc
theorem e_zO_ok : e_zO.ok pg := sp_zO fun l at_ hw hc => by
 have hl : l.length ≤ 9223372036854775807 := hw.1.1
 have hc' := hc
 rw [Bool.and_eq_true, decide_eq_true_eq, decide_eq_true_eq] at hc'
 rw [zO]
 simp only [RT.run]
 rw [if_pos hc]
 unfold peekV zfB
 by_cases h : at_ = (l.length : Int)
 ·have hb : (at_ == (l.length : Int)) = true := by simpa using h
  simp only [hb, if_true]
  rfl
 ·have hb : (at_ == (l.length : Int)) = false := by simpa using h
  simp only [hb, Bool.false_eq_true, if_false]
  rw [if_pos (by decide), zcc (by omega)]
def zbr : Int → RT Unit Int
| t =>
 .rq 3 (.ite (t == 0)
 (.rq 1 (.done 0))
 (.rq 3 (.req (t != 0) (.rq 1 (.done (Int.tmod (zcn (0 - t)) t))))))
def F_zbr (x : Int) : Option Int := (zbr x).run fun _ => none
def io_zbr : Io := ⟨n_zbr, [tU], [.lf (qm 0)], [], [[tU]], [tU], .lf (qm 0), [], [], false⟩
def zbr_P : List zbV := []
def zbr_T : zca := tab []
theorem zbr_To : zbZ pg zbr_T := zbW trivial
theorem zbr_go : zcm pg (zbr_T) io_zbr f_zbr (zbr_P) [] (zbr) := ⟨by kernel_rfl, by kernel_rfl, fun x => by kernel_rfl⟩
theorem ok_zbr : io_zbr.Okay pg (F_zbr) := zcj zbY (zbr_To) (zbr_go) trivial
def restV (t : Int) : Int := if (t == 0) = true then 0 else 18446744073709551616 % t
theorem restV_lt {t : Int} (h : 0 ≤ t) : 0 ≤ restV t ∧ (0 < t → restV t < t) := by
 unfold restV
 by_cases h0 : t = 0
 ·rw [if_pos (by simpa using h0)]; omega
 ·rw [if_neg (by simpa using h0)]
  exact ⟨Int.emod_nonneg _ h0, fun hp => Int.emod_lt_of_pos _ hp⟩
def e_zbr : zcg := io_zbr.sp (fun t => true) (fun t => (restV t))
theorem sp_zbr (h : ∀ (t : Int), WfT [tU] t → (zbr t).run (fun _ => none) = some (restV t)) : e_zbr.ok pg := zcl ok_zbr fun t hw hc => h t hw
theorem e_zbr_ok : e_zbr.ok pg := sp_zbr fun t hw => by
 have ht : 0 ≤ t ∧ t < 18446744073709551616 := hw
 rw [zbr]
 simp only [RT.run]
 unfold restV
 by_cases h0 : t = 0
 ·have hb : (t == 0) = true := by simpa using h0
  rw [hb, if_pos rfl, if_pos rfl]
 ·have hb : (t == 0) = false := by simpa using h0
  rw [hb, if_neg (by decide), if_pos (by simpa using h0), if_neg (by decide)]
  have e1 : zcn (0 - t) = 18446744073709551616 - t := by rw [wu64_eq]; omega
  rw [e1, Int.tmod_eq_emod_of_nonneg (by omega), Int.sub_emod_right]
def zbj : (Int × Int) → RT Unit Bool
| (t, w) =>
 .rq 11 (.done ((decide (0 < t)) && (decide (w ≤ (zcn (18446744073709551615 - ((restV t))))))))
def F_zbj (x : Int × Int) : Option Bool := (zbj x).run fun _ => none
def io_zbj : Io := ⟨n_zbj, [tU, tU], [.lf (qm 0), .lf (qm 1)], [], [[tU], [tU]], [tB], .lf (qm 0), [], [], false⟩
def zbj_P : List zbV := []
def zbj_T : zca := tab [e_zbr]
theorem zbj_To : zbZ pg zbj_T := zbW ⟨e_zbr_ok, trivial⟩
theorem zbj_go : zcm pg (zbj_T) io_zbj f_zbj (zbj_P) [] (zbj) := ⟨by kernel_rfl, by kernel_rfl, fun x => by kernel_rfl⟩
theorem ok_zbj : io_zbj.Okay pg (F_zbj) := zcj zbY (zbj_To) (zbj_go) trivial
def zgu (t w : Int) : Bool := decide (0 < t) && decide (w ≤ 18446744073709551615 - restV t)
def e_zbj : zcg := io_zbj.sp (fun (t, w) => true) (fun (t, w) => (zgu t w))
theorem sp_zbj (h : ∀ (t : Int) (w : Int), WfT [tU, tU] (t, w) → (zbj (t, w)).run (fun _ => none) = some (zgu t w)) : e_zbj.ok pg := zcl ok_zbj fun (t, w) hw hc => h t w hw
theorem e_zbj_ok : e_zbj.ok pg := sp_zbj fun t w hw => by
 have ht : 0 ≤ t ∧ t < 18446744073709551616 := hw.1
 have hr := restV_lt ht.1
 rw [zbj]
 simp only [RT.run]
 unfold zgu
 by_cases h0 : 0 < t
 ·have := hr.2 h0
  rw [zcv (by omega)]
 ·rw [decide_eq_false h0, Bool.false_and, Bool.false_and]
def zbs : (Int × Int) → RT Unit (Int × Bool)
| (t, w) =>
 .rq 6 (.ite (!((zgu t w)))
 (.rq 2 (.done (0, false)))
 (.rq 2 (.req (t != 0) (.rq 2 (.done (Int.tmod w t, true))))))
def F_zbs (x : Int × Int) : Option (Int × Bool) := (zbs x).run fun _ => none
def io_zbs : Io := ⟨n_zbs, [tU, tU], [.lf (qm 0), .lf (qm 1)], [], [[tU], [tU]], [tU, tB], .tup [(false, [qm 0]), (false, [qm 1])], [], [], false⟩
def zbs_P : List zbV := []
def zbs_T : zca := tab [e_zbj]
theorem zbs_To : zbZ pg zbs_T := zbW ⟨e_zbj_ok, trivial⟩
theorem zbs_go : zcm pg (zbs_T) io_zbs f_zbs (zbs_P) [] (zbs) := ⟨by kernel_rfl, by kernel_rfl, fun x => by kernel_rfl⟩
theorem ok_zbs : io_zbs.Okay pg (F_zbs) := zcj zbY (zbs_To) (zbs_go) trivial
def tellV (t w : Int) : Int × Bool := if zgu t w = true then (w % t, true) else (0, false)
def e_zbs : zcg := io_zbs.sp (fun (t, w) => true) (fun (t, w) => (tellV t w))
theorem sp_zbs (h : ∀ (t : Int) (w : Int), WfT [tU, tU] (t, w) → (zbs (t, w)).run (fun _ => none) = some (tellV t w)) : e_zbs.ok pg := zcl ok_zbs fun (t, w) hw hc => h t w hw
theorem e_zbs_ok : e_zbs.ok pg := sp_zbs fun t w hw => by
 have hw1 : 0 ≤ w ∧ w < 18446744073709551616 := hw.2
 rw [zbs]
 simp only [RT.run]
 unfold tellV
 cases h : zgu t w with
 | false => rfl
 | true =>
  have h0 : 0 < t := by unfold zgu at h; rw [Bool.and_eq_true] at h; exact of_decide_eq_true h.1
  rw [if_neg (by decide), if_pos (by simp; omega), if_pos rfl, Int.tmod_eq_emod_of_nonneg (by omega)]
def zaA_b30 : (Int × Int) → ((List Int) × Int) → RT ((List Int) × Int) (Int × Int × (List Int) × Int)
| (t, was), (p0_0, p0_1) =>
 .rq 1 (.req ((decide (0 ≤ p0_1) && decide (p0_1 ≤ (p0_0.length : Int)))) (.rq 7 (.ite (((zfB p0_0 p0_1)).2.1 != 0)
 (.rq 6 (let t0 := (seekV was ((zfB p0_0 p0_1)).2.2.1 ((zfB p0_0 p0_1)).2.2.2);
 .done (0, ((zfB p0_0 p0_1)).2.1, t0.2.1, t0.2.2)))
 (.rq 9 (let t1 := (tellV t ((zfB p0_0 p0_1)).1);
 .ite t1.2
 (.rq 3 (.done (t1.1, 0, ((zfB p0_0 p0_1)).2.2.1, ((zfB p0_0 p0_1)).2.2.2)))
 (.again (((zfB p0_0 p0_1)).2.2.1, ((zfB p0_0 p0_1)).2.2.2)))))))
def zaA_p30 : zbV := ⟨30, true, [tU, tI], [.sl tU, tI], ⟨[.keep [0, 1, 6], .gc], [0, 1, 6], [.lf (qp 1048576), .lf (qi 0), .lf (qi 1)], [(1048576, true, .cells [qm 0, qm 1])]⟩, [⟨1, ⟨[.keep [4, 5], .gc], [4, 5], [.lf (qm 0), .lf (qm 1)], [(1048576, true, .cells [qm 2, qm 3])]⟩, [tU, tI, .sl tU, tI]⟩], zaA_b30⟩
def zaA : (Int × (List Int) × Int) → RT Unit (Int × Int × (List Int) × Int)
| (t, s_0, s_1) =>
 .rq 5 (.ite false
 (.rq 2 (.done (0, 2, s_0, s_1)))
 (.rq 3 (.ite (t == 0)
 (.rq 2 (.done (0, 1, s_0, s_1)))
 (.rq 3 (.call (lo zaA_b30 (t, s_1) (s_0, s_1)) default fun v0 =>
 .done (v0.1, v0.2.1, v0.2.2.1, v0.2.2.2))))))
def F_zaA (x : Int × (List Int) × Int) : Option (Int × Int × (List Int) × Int) := (zaA x).run fun _ => none
def io_zaA : Io := ⟨n_zaA, [tU, .sl tU, tI], [.lf (qp 0), .lf (qm 0)], [.cells [qm 1, qm 2]], [[], [tU]], [tU, tI, .sl tU, tI], .tup [(false, [qm 0]), (false, [qm 1])], [(true, .cells [qm 2, qm 3])], [], true⟩
def zaA_P : List zbV := [zaA_p30]
def zaA_T : zca := tab [e_zbs, e_zO, e_zW, e_zM]
theorem zaA_To : zbZ pg zaA_T := zbW ⟨e_zbs_ok, e_zO_ok, e_zW_ok, e_zM_ok, trivial⟩
theorem zaA_k30 : (zaA_p30).OK pg (zaA_T) (zcr 38 (zaA_P)) (zci f_zaA) 38 := ⟨by kernel_rfl, fun i x => by kernel_rfl⟩
theorem zaA_go : zcm pg (zaA_T) io_zaA f_zaA (zaA_P) [] (zaA) := ⟨by kernel_rfl, by kernel_rfl, fun x => by kernel_rfl⟩
theorem ok_zaA : io_zaA.Okay pg (F_zaA) := zcj zbY (zaA_To) (zaA_go) ⟨zaA_k30, trivial⟩
def firstV (t : Int) (l : List Int) (at_ : Int) : Option Nat := (l.drop at_.toNat).findIdx? (zgu t)
def fromV (t : Int) (l : List Int) (at_ : Int) : Int × Int × List Int × Int := if (t == 0) = true then (0, 1, l, at_) else match firstV t l at_ with
 | some j => (gI l (at_ + (j : Int)) % t, 0, l, at_ + (j : Int) + 1)
 | none => (0, 11, l, at_)
theorem from_loop (t : Int) (l : List Int) (was : Int) (hw : 0 ≤ was ∧ was ≤ (l.length : Int)) (hl : l.length ≤ 9223372036854775807) : ∀ (n i : Nat), i + n = l.length →
  lo zaA_b30 (t, was) (l, (i : Int)) = some (match (l.drop i).findIdx? (zgu t) with
   | some j => (gI l ((i : Int) + (j : Int)) % t, 0, l, (i : Int) + (j : Int) + 1)
   | none => (0, 11, l, was))
 | 0, i, h => by
  have ht : zfB l (i : Int) = (0, 11, l, (i : Int)) := by unfold zfB; rw [if_pos (by simp; omega)]
  have hs : seekV was l (i : Int) = (0, l, was) := by unfold seekV; rw [if_neg (by simp; omega)]
  rw [zcf, zaA_b30]
  simp only [RT.run, ht, hs]
  rw [if_pos (by simp; omega), if_pos (by decide), List.drop_eq_nil_of_le (by omega)]
  rfl
 | n + 1, i, h => by
  have hi : i < l.length := by omega
  have ht : zfB l (i : Int) = (l[i], 0, l, (i : Int) + 1) := by unfold zfB; rw [if_neg (by simp; omega), zcA hi]
  rw [zcf, zaA_b30]
  simp only [RT.run, ht]
  rw [if_pos (by simp; omega), if_neg (by decide), List.drop_eq_getElem_cons hi, List.findIdx?_cons]
  unfold tellV
  cases hk : zgu t l[i] with
  | true =>
   simp only [if_true]
   rw [show (i : Int) + ((0 : Nat) : Int) = (i : Int) by omega, zcA hi]
  | false =>
   simp only [Bool.false_eq_true, if_false]
   rw [show (i : Int) + 1 = ((i + 1 : Nat) : Int) by omega, from_loop t l was hw hl n (i + 1) (by omega)]
   cases (l.drop (i + 1)).findIdx? (zgu t) with
   | none => rfl
   | some j =>
    simp only [Option.map_some]
    rw [show ((i + 1 : Nat) : Int) + (j : Int) = (i : Int) + ((j + 1 : Nat) : Int) by omega]
def e_zaA : zcg := io_zaA.sp (fun (t, l, at_) => (decide (0 ≤ at_) && decide (at_ ≤ (l.length : Int)))) (fun (t, l, at_) => (fromV t l at_))
theorem sp_zaA (h : ∀ (t : Int) (l : List Int) (at_ : Int), WfT [tU, .sl tU, tI] (t, l, at_) → ((decide (0 ≤ at_) && decide (at_ ≤ (l.length : Int)))) = true → (zaA (t, l, at_)).run (fun _ => none) = some (fromV t l at_)) : e_zaA.ok pg := zcl ok_zaA fun (t, l, at_) hw hc => h t l at_ hw hc
theorem e_zaA_ok : e_zaA.ok pg := sp_zaA fun t l at_ hw hc => by
 have hl : l.length ≤ 9223372036854775807 := hw.2.1.1
 have hc' := hc
 rw [Bool.and_eq_true, decide_eq_true_eq, decide_eq_true_eq] at hc'
 obtain ⟨i, rfl⟩ := Int.eq_ofNat_of_zero_le hc'.1
 have := from_loop t l (i : Int) hc' hl (l.length - i) i (by omega)
 rw [zaA]
 simp only [RT.run]
 unfold fromV firstV
 rw [if_neg (by decide), Int.toNat_natCast]
 by_cases h0 : (t == 0) = true
 ·rw [if_pos h0, if_pos h0]
 ·rw [if_neg h0, if_neg h0, this, Option.bind_some]
def zaD : ((List Bool) × (List Tk) × (List Th) × (List Lk) × (List Int) × Int × (List Int) × Int) → RT Unit (Int × Int × (List Int) × Int)
| (s_0, s_1, s_2, s_3, s_4, s_5, w_0, w_1) =>
 .rq 5 (.ite false
 (.rq 2 (.done ((-1), 2, w_0, w_1)))
 (.rq 1 (.req ((wOK s_0 s_1 s_2 s_3 s_4 s_5)) (.rq 8 (let t0 := (opB (brV (wgV s_0 s_1 s_2 s_3 s_4 s_5)));
 .ite (t0.2.2.1 != 0)
 (.rq 3 (.done ((-1), t0.2.2.1, w_0, w_1)))
 (.rq 3 (.req ((decide (0 ≤ w_1) && decide (w_1 ≤ (w_0.length : Int)))) (.rq 7 (let t1 := (fromV t0.2.1 w_0 w_1);
 .ite (t1.2.1 != 0)
 (.rq 3 (.done ((-1), t1.2.1, t1.2.2.1, t1.2.2.2)))
 (.rq 3 (.req ((decide (t0.2.2.2.length ≤ 100000) && decide ((zdD t0.2.2.2).sum < 18446744073709551616))) (.rq 8 (.done (zcN (zdD t0.2.2.2) t1.1.toNat 0, 0, t1.2.2.1, t1.2.2.2))))))))))))))
def F_zaD (x : (List Bool) × (List Tk) × (List Th) × (List Lk) × (List Int) × Int × (List Int) × Int) : Option (Int × Int × (List Int) × Int) := (zaD x).run fun _ => none
def io_zaD : Io := ⟨n_zaD, [.sl tB, .sl yK, .sl yH, .sl yL, .sl tI, tI, .sl tU, tI], [.agg [qm 0, qm 1, qm 2, qm 3, qm 4, qm 5], .lf (qp 0)], [.cells [qm 6, qm 7]], [[.sl tB, .sl yK, .sl yH, .sl yL, .sl tI, tI], []], [tI, tI, .sl tU, tI], .tup [(false, [qm 0]), (false, [qm 1])], [(true, .cells [qm 2, qm 3])], [], true⟩
def zaD_P : List zbV := []
def zaD_T : zca := tab [e_zaA, e_zay, e_zH]
theorem zaD_To : zbZ pg zaD_T := zbW ⟨e_zaA_ok, e_zay_ok, e_zH_ok, trivial⟩
theorem zaD_go : zcm pg (zaD_T) io_zaD f_zaD (zaD_P) [] (zaD) := ⟨by kernel_rfl, by kernel_rfl, fun x => by kernel_rfl⟩
theorem ok_zaD : io_zaD.Okay pg (F_zaD) := zcj zbY (zaD_To) (zaD_go) trivial
def drawV (x : Br) (l : List Int) (at_ : Int) : Int × Int × List Int × Int := if (x.2.2.1 != 0) = true then (-1, x.2.2.1, l, at_) else if (x.2.1 == 0) = true then (-1, 16, l, at_) else
 match firstV x.2.1 l at_ with
 | some j => (zcN (zdD x.2.2.2) (gI l (at_ + (j : Int)) % x.2.1).toNat 0, 0, l, at_ + (j : Int) + 1)
 | none => (-1, 11, l, at_)
def e_zaD : zcg := io_zaD.sp (fun (a, b, c, d, e, f, l, at_) => (wOK a b c d e f && (decide (0 ≤ at_) && decide (at_ ≤ (l.length : Int))))) (fun (a, b, c, d, e, f, l, at_) => (drawV (brV (wgV a b c d e f)) l at_))
theorem sp_zaD (h : ∀ (a : List Bool) (b : List Tk) (c : List Th) (d : List Lk) (e : List Int) (f : Int) (l : List Int) (at_ : Int), WfT [.sl tB, .sl yK, .sl yH, .sl yL, .sl tI, tI, .sl tU, tI] (a, b, c, d, e, f, l, at_) → ((wOK a b c d e f && (decide (0 ≤ at_) && decide (at_ ≤ (l.length : Int))))) = true → (zaD (a, b, c, d, e, f, l, at_)).run (fun _ => none) = some (drawV (brV (wgV a b c d e f)) l at_)) : e_zaD.ok pg := zcl ok_zaD fun (a, b, c, d, e, f, l, at_) hw hc => h a b c d e f l at_ hw hc
theorem e_zaD_ok : e_zaD.ok pg := sp_zaD fun a b c d e f l at_ _ hc => by
 rw [Bool.and_eq_true] at hc
 obtain ⟨H, h8⟩ := zdk hc.1
 obtain ⟨b1, b2, b3⟩ := brV_sum (wgV a b c d e f) (wg_hyp H).2
 rw [zaD]
 simp only [RT.run]
 rw [if_neg (by decide), if_pos hc.1]
 generalize brV (wgV a b c d e f) = x at *
 unfold drawV
 by_cases h1 : x.2.2.1 = 0
 ·have e1 : (x.2.2.1 == 0) = true := by simpa using h1
  have e2 : ¬ (x.2.2.1 != 0) = true := by simpa using h1
  rw [if_neg e2]
  by_cases h2 : (x.2.1 == 0) = true
  ·have ho : opB x = (x.1, x.2.1, 16, x.2.2.2) := by unfold opB; rw [e1, h2]; rfl
   rw [ho, if_pos h2, if_pos (show ((16 : Int) != 0) = true by decide)]
  ·have ho : opB x = x := by unfold opB; rw [e1, Bool.eq_false_iff.2 h2]; rfl
   rw [ho, if_neg h2, if_neg e2, if_pos hc.2]
   unfold fromV
   rw [if_neg h2]
   cases firstV x.2.1 l at_ with
   | none => rfl
   | some j =>
    dsimp only
    rw [if_neg (by decide), if_pos (by rw [decide_eq_true b1, decide_eq_true b2]; rfl)]
 ·have e1 : (x.2.2.1 == 0) = false := by simpa using h1
  have e2 : (x.2.2.1 != 0) = true := by simpa using h1
  have ho : opB x = x := by unfold opB; rw [e1]; rfl
  rw [ho, if_pos e2, if_pos e2]
def R08_whole : Unit → RT Unit (List Int)
| _ =>
 .rq 4 (.done [0, 0, 0, 0, 1])
def zaV : (Int × Int) → RT Unit (Bool × Int × Int × Int × Int × Bool)
| (amount, to) =>
 .rq 5 (.done (true, 0, amount, 1, to, true))
def F_zaV (x : Int × Int) : Option (Bool × Int × Int × Int × Int × Bool) := (zaV x).run fun _ => none
def io_zaV : Io := ⟨n_zaV, [tI, tI], [.lf (qm 0), .lf (qm 1)], [], [[tI], [tI]], [tB, tI, tI, tI, tI, tB], .agg [qm 0, qm 1, qm 2, qm 3, qm 4, qm 5], [], [], false⟩
def zaV_P : List zbV := []
def zaV_T : zca := tab []
theorem zaV_To : zbZ pg zaV_T := zbW trivial
theorem zaV_go : zcm pg (zaV_T) io_zaV f_zaV (zaV_P) [] (zaV) := ⟨by kernel_rfl, by kernel_rfl, fun x => by kernel_rfl⟩
theorem ok_zaV : io_zaV.Okay pg (F_zaV) := zcj zbY (zaV_To) (zaV_go) trivial
def e_zaV : zcg := io_zaV.sp (fun (a, b) => true) (fun (a, b) => ((true, 0, a, 1, b, true)))
theorem sp_zaV (h : ∀ (a : Int) (b : Int), WfT [tI, tI] (a, b) → (zaV (a, b)).run (fun _ => none) = some ((true, 0, a, 1, b, true))) : e_zaV.ok pg := zcl ok_zaV fun (a, b) hw hc => h a b hw
theorem e_zaV_ok : e_zaV.ok pg := sp_zaV fun a b _ => by
 rw [zaV]; rfl
def zbo : (Int × Int) → RT Unit (Int × (List Bool) × (List Tk) × (List Th))
| (a, b) =>
 .rq 15 (let t0 := (2, (-1), (-1), 1, 1);
 .done (5, [true], [((((true, 0, a, 1, (0 : Int), true))).1, (((true, 0, a, 1, (0 : Int), true))).2.1, (((true, 0, a, 1, (0 : Int), true))).2.2.1, (((true, 0, a, 1, (0 : Int), true))).2.2.2.1, (((true, 0, a, 1, (0 : Int), true))).2.2.2.2.1, (((true, 0, a, 1, (0 : Int), true))).2.2.2.2.2), ((((true, 0, b, 1, (1 : Int), true))).1, (((true, 0, b, 1, (1 : Int), true))).2.1, (((true, 0, b, 1, (1 : Int), true))).2.2.1, (((true, 0, b, 1, (1 : Int), true))).2.2.2.1, (((true, 0, b, 1, (1 : Int), true))).2.2.2.2.1, (((true, 0, b, 1, (1 : Int), true))).2.2.2.2.2)], [t0, t0]))
def F_zbo (x : Int × Int) : Option (Int × (List Bool) × (List Tk) × (List Th)) := (zbo x).run fun _ => none
def io_zbo : Io := ⟨n_zbo, [tI, tI], [.lf (qm 0), .lf (qm 1)], [], [[tI], [tI]], [tI, .sl tB, .sl yK, .sl yH], .agg [qr 0, qr 1, qr 2, .fix (.nil), .fix (.nil), qm 0], [], [(true, .arr 4 (qm 1)), (true, .arr 97 (qm 2)), (true, .arr 82 (qm 3))], false⟩
def zbo_P : List zbV := []
def zbo_T : zca := tab [e_zaV]
theorem zbo_To : zbZ pg zbo_T := zbW ⟨e_zaV_ok, trivial⟩
theorem zbo_go : zcm pg (zbo_T) io_zbo f_zbo (zbo_P) [.cellRow 64 0 600064 4 tB, .cellRow 64 1 600065 97 yK, .cellRow 64 2 600066 82 yH, .cellRen 64 0 600064, .cellRen 64 1 600065, .cellRen 64 2 600066] (zbo) := ⟨by kernel_rfl, by kernel_rfl, fun x => by kernel_rfl⟩
theorem ok_zbo : io_zbo.Okay pg (F_zbo) := zcj zbY (zbo_To) (zbo_go) trivial
def e_zbo : zcg := io_zbo.sp (fun (a, b) => true) (fun (a, b) => (5, [true], [(true, 0, a, 1, 0, true), (true, 0, b, 1, 1, true)], [(2, -1, -1, 1, 1), (2, -1, -1, 1, 1)]))
theorem sp_zbo (h : ∀ (a : Int) (b : Int), WfT [tI, tI] (a, b) → (zbo (a, b)).run (fun _ => none) = some (5, [true], [(true, 0, a, 1, 0, true), (true, 0, b, 1, 1, true)], [(2, -1, -1, 1, 1), (2, -1, -1, 1, 1)])) : e_zbo.ok pg := zcl ok_zbo fun (a, b) hw hc => h a b hw
theorem e_zbo_ok : e_zbo.ok pg := sp_zbo fun a b _ => by
 rw [zbo]; rfl
def zag_b510 : (Int × Int × Int × Int × Int × Int × Int × Int × Int × (List Bool) × (List Tk) × (List Th)) → RT Unit Bool
| (i, s, t, x5, L, i_2, t_2, l_5, p_1, x11, x11_2, x11_3) =>
 .rq 3 (let t0 := (wOK x11 x11_2 x11_3 [] [] l_5);
 let t1 := (rq (chV (wgV x11 x11_2 x11_3 [] [] l_5) (0 : Int)));
 let t2 := isM 38 (rQ (mkRat (((1 : Int).toNat : Nat) : Int) (3 : Int).toNat)).1 && isM 38 (rQ (mkRat (((1 : Int).toNat : Nat) : Int) (3 : Int).toNat)).2;
 let t3 := decide (t1.1 = zbX B32 (val B16 (rQ (mkRat (((1 : Int).toNat : Nat) : Int) (3 : Int).toNat)).1)) && decide (t1.2 = zbX B32 (val B16 (rQ (mkRat (((1 : Int).toNat : Nat) : Int) (3 : Int).toNat)).2));
 .ite (i == 0)
 (.rq 4 (.ite (s == 0)
 (.rq 4 (.ite (t == 1)
 (.rq 4 (.ite (x5 == 0)
 (.rq 4 (.ite (L == 1)
 (.rq 4 (.ite (i_2 == 0)
 (.rq 5 (.ite (p_1 == 1)
 (.rq 4 (.ite (t_2 == 1)
 (.rq 1 (.req t0 (.req (decide ((3 : Int) ≠ 0)) (.req t2 (.rq 2 (.done t3))))))
 (.rq 2 (.done false))))
 (.rq 2 (.ite false
 (.rq 1 (.req t0 (.req (decide ((3 : Int) ≠ 0)) (.req t2 (.rq 2 (.done t3))))))
 (.rq 2 (.done false))))))
 (.rq 2 (.ite false
 (.rq 4 (.ite (t_2 == 1)
 (.rq 1 (.req t0 (.req (decide ((3 : Int) ≠ 0)) (.req t2 (.rq 2 (.done t3))))))
 (.rq 2 (.done false))))
 (.rq 2 (.ite false
 (.rq 1 (.req t0 (.req (decide ((3 : Int) ≠ 0)) (.req t2 (.rq 2 (.done t3))))))
 (.rq 2 (.done false))))))))
 (.rq 2 (.ite false
 (.rq 5 (.ite (p_1 == 1)
 (.rq 4 (.ite (t_2 == 1)
 (.rq 1 (.req t0 (.req (decide ((3 : Int) ≠ 0)) (.req t2 (.rq 2 (.done t3))))))
 (.rq 2 (.done false))))
 (.rq 2 (.ite false
 (.rq 1 (.req t0 (.req (decide ((3 : Int) ≠ 0)) (.req t2 (.rq 2 (.done t3))))))
 (.rq 2 (.done false))))))
 (.rq 2 (.ite false
 (.rq 4 (.ite (t_2 == 1)
 (.rq 1 (.req t0 (.req (decide ((3 : Int) ≠ 0)) (.req t2 (.rq 2 (.done t3))))))
 (.rq 2 (.done false))))
 (.rq 2 (.ite false
 (.rq 1 (.req t0 (.req (decide ((3 : Int) ≠ 0)) (.req t2 (.rq 2 (.done t3))))))
 (.rq 2 (.done false))))))))))
 (.rq 2 (.ite false
 (.rq 4 (.ite (i_2 == 0)
 (.rq 5 (.ite (p_1 == 1)
 (.rq 4 (.ite (t_2 == 1)
 (.rq 1 (.req t0 (.req (decide ((3 : Int) ≠ 0)) (.req t2 (.rq 2 (.done t3))))))
 (.rq 2 (.done false))))
 (.rq 2 (.ite false
 (.rq 1 (.req t0 (.req (decide ((3 : Int) ≠ 0)) (.req t2 (.rq 2 (.done t3))))))
 (.rq 2 (.done false))))))
 (.rq 2 (.ite false
 (.rq 4 (.ite (t_2 == 1)
 (.rq 1 (.req t0 (.req (decide ((3 : Int) ≠ 0)) (.req t2 (.rq 2 (.done t3))))))
 (.rq 2 (.done false))))
 (.rq 2 (.ite false
 (.rq 1 (.req t0 (.req (decide ((3 : Int) ≠ 0)) (.req t2 (.rq 2 (.done t3))))))
 (.rq 2 (.done false))))))))
 (.rq 2 (.ite false
 (.rq 5 (.ite (p_1 == 1)
 (.rq 4 (.ite (t_2 == 1)
 (.rq 1 (.req t0 (.req (decide ((3 : Int) ≠ 0)) (.req t2 (.rq 2 (.done t3))))))
 (.rq 2 (.done false))))
 (.rq 2 (.ite false
 (.rq 1 (.req t0 (.req (decide ((3 : Int) ≠ 0)) (.req t2 (.rq 2 (.done t3))))))
 (.rq 2 (.done false))))))
 (.rq 2 (.ite false
 (.rq 4 (.ite (t_2 == 1)
 (.rq 1 (.req t0 (.req (decide ((3 : Int) ≠ 0)) (.req t2 (.rq 2 (.done t3))))))
 (.rq 2 (.done false))))
 (.rq 2 (.ite false
 (.rq 1 (.req t0 (.req (decide ((3 : Int) ≠ 0)) (.req t2 (.rq 2 (.done t3))))))
 (.rq 2 (.done false))))))))))))
 (.rq 2 (.ite false
 (.rq 4 (.ite (L == 1)
 (.rq 4 (.ite (i_2 == 0)
 (.rq 5 (.ite (p_1 == 1)
 (.rq 4 (.ite (t_2 == 1)
 (.rq 1 (.req t0 (.req (decide ((3 : Int) ≠ 0)) (.req t2 (.rq 2 (.done t3))))))
 (.rq 2 (.done false))))
 (.rq 2 (.ite false
 (.rq 1 (.req t0 (.req (decide ((3 : Int) ≠ 0)) (.req t2 (.rq 2 (.done t3))))))
 (.rq 2 (.done false))))))
 (.rq 2 (.ite false
 (.rq 4 (.ite (t_2 == 1)
 (.rq 1 (.req t0 (.req (decide ((3 : Int) ≠ 0)) (.req t2 (.rq 2 (.done t3))))))
 (.rq 2 (.done false))))
 (.rq 2 (.ite false
 (.rq 1 (.req t0 (.req (decide ((3 : Int) ≠ 0)) (.req t2 (.rq 2 (.done t3))))))
 (.rq 2 (.done false))))))))
 (.rq 2 (.ite false
 (.rq 5 (.ite (p_1 == 1)
 (.rq 4 (.ite (t_2 == 1)
 (.rq 1 (.req t0 (.req (decide ((3 : Int) ≠ 0)) (.req t2 (.rq 2 (.done t3))))))
 (.rq 2 (.done false))))
 (.rq 2 (.ite false
 (.rq 1 (.req t0 (.req (decide ((3 : Int) ≠ 0)) (.req t2 (.rq 2 (.done t3))))))
 (.rq 2 (.done false))))))
 (.rq 2 (.ite false
 (.rq 4 (.ite (t_2 == 1)
 (.rq 1 (.req t0 (.req (decide ((3 : Int) ≠ 0)) (.req t2 (.rq 2 (.done t3))))))
 (.rq 2 (.done false))))
 (.rq 2 (.ite false
 (.rq 1 (.req t0 (.req (decide ((3 : Int) ≠ 0)) (.req t2 (.rq 2 (.done t3))))))
 (.rq 2 (.done false))))))))))
 (.rq 2 (.ite false
 (.rq 4 (.ite (i_2 == 0)
 (.rq 5 (.ite (p_1 == 1)
 (.rq 4 (.ite (t_2 == 1)
 (.rq 1 (.req t0 (.req (decide ((3 : Int) ≠ 0)) (.req t2 (.rq 2 (.done t3))))))
 (.rq 2 (.done false))))
 (.rq 2 (.ite false
 (.rq 1 (.req t0 (.req (decide ((3 : Int) ≠ 0)) (.req t2 (.rq 2 (.done t3))))))
 (.rq 2 (.done false))))))
 (.rq 2 (.ite false
 (.rq 4 (.ite (t_2 == 1)
 (.rq 1 (.req t0 (.req (decide ((3 : Int) ≠ 0)) (.req t2 (.rq 2 (.done t3))))))
 (.rq 2 (.done false))))
 (.rq 2 (.ite false
 (.rq 1 (.req t0 (.req (decide ((3 : Int) ≠ 0)) (.req t2 (.rq 2 (.done t3))))))
 (.rq 2 (.done false))))))))
 (.rq 2 (.ite false
 (.rq 5 (.ite (p_1 == 1)
 (.rq 4 (.ite (t_2 == 1)
 (.rq 1 (.req t0 (.req (decide ((3 : Int) ≠ 0)) (.req t2 (.rq 2 (.done t3))))))
 (.rq 2 (.done false))))
 (.rq 2 (.ite false
 (.rq 1 (.req t0 (.req (decide ((3 : Int) ≠ 0)) (.req t2 (.rq 2 (.done t3))))))
 (.rq 2 (.done false))))))
 (.rq 2 (.ite false
 (.rq 4 (.ite (t_2 == 1)
 (.rq 1 (.req t0 (.req (decide ((3 : Int) ≠ 0)) (.req t2 (.rq 2 (.done t3))))))
 (.rq 2 (.done false))))
 (.rq 2 (.ite false
 (.rq 1 (.req t0 (.req (decide ((3 : Int) ≠ 0)) (.req t2 (.rq 2 (.done t3))))))
 (.rq 2 (.done false))))))))))))))
 (.rq 2 (.ite false
 (.rq 4 (.ite (x5 == 0)
 (.rq 4 (.ite (L == 1)
 (.rq 4 (.ite (i_2 == 0)
 (.rq 5 (.ite (p_1 == 1)
 (.rq 4 (.ite (t_2 == 1)
 (.rq 1 (.req t0 (.req (decide ((3 : Int) ≠ 0)) (.req t2 (.rq 2 (.done t3))))))
 (.rq 2 (.done false))))
 (.rq 2 (.ite false
 (.rq 1 (.req t0 (.req (decide ((3 : Int) ≠ 0)) (.req t2 (.rq 2 (.done t3))))))
 (.rq 2 (.done false))))))
 (.rq 2 (.ite false
 (.rq 4 (.ite (t_2 == 1)
 (.rq 1 (.req t0 (.req (decide ((3 : Int) ≠ 0)) (.req t2 (.rq 2 (.done t3))))))
 (.rq 2 (.done false))))
 (.rq 2 (.ite false
 (.rq 1 (.req t0 (.req (decide ((3 : Int) ≠ 0)) (.req t2 (.rq 2 (.done t3))))))
 (.rq 2 (.done false))))))))
 (.rq 2 (.ite false
 (.rq 5 (.ite (p_1 == 1)
 (.rq 4 (.ite (t_2 == 1)
 (.rq 1 (.req t0 (.req (decide ((3 : Int) ≠ 0)) (.req t2 (.rq 2 (.done t3))))))
 (.rq 2 (.done false))))
 (.rq 2 (.ite false
 (.rq 1 (.req t0 (.req (decide ((3 : Int) ≠ 0)) (.req t2 (.rq 2 (.done t3))))))
 (.rq 2 (.done false))))))
 (.rq 2 (.ite false
 (.rq 4 (.ite (t_2 == 1)
 (.rq 1 (.req t0 (.req (decide ((3 : Int) ≠ 0)) (.req t2 (.rq 2 (.done t3))))))
 (.rq 2 (.done false))))
 (.rq 2 (.ite false
 (.rq 1 (.req t0 (.req (decide ((3 : Int) ≠ 0)) (.req t2 (.rq 2 (.done t3))))))
 (.rq 2 (.done false))))))))))
 (.rq 2 (.ite false
 (.rq 4 (.ite (i_2 == 0)
 (.rq 5 (.ite (p_1 == 1)
 (.rq 4 (.ite (t_2 == 1)
 (.rq 1 (.req t0 (.req (decide ((3 : Int) ≠ 0)) (.req t2 (.rq 2 (.done t3))))))
 (.rq 2 (.done false))))
 (.rq 2 (.ite false
 (.rq 1 (.req t0 (.req (decide ((3 : Int) ≠ 0)) (.req t2 (.rq 2 (.done t3))))))
 (.rq 2 (.done false))))))
 (.rq 2 (.ite false
 (.rq 4 (.ite (t_2 == 1)
 (.rq 1 (.req t0 (.req (decide ((3 : Int) ≠ 0)) (.req t2 (.rq 2 (.done t3))))))
 (.rq 2 (.done false))))
 (.rq 2 (.ite false
 (.rq 1 (.req t0 (.req (decide ((3 : Int) ≠ 0)) (.req t2 (.rq 2 (.done t3))))))
 (.rq 2 (.done false))))))))
 (.rq 2 (.ite false
 (.rq 5 (.ite (p_1 == 1)
 (.rq 4 (.ite (t_2 == 1)
 (.rq 1 (.req t0 (.req (decide ((3 : Int) ≠ 0)) (.req t2 (.rq 2 (.done t3))))))
 (.rq 2 (.done false))))
 (.rq 2 (.ite false
 (.rq 1 (.req t0 (.req (decide ((3 : Int) ≠ 0)) (.req t2 (.rq 2 (.done t3))))))
 (.rq 2 (.done false))))))
 (.rq 2 (.ite false
 (.rq 4 (.ite (t_2 == 1)
 (.rq 1 (.req t0 (.req (decide ((3 : Int) ≠ 0)) (.req t2 (.rq 2 (.done t3))))))
 (.rq 2 (.done false))))
 (.rq 2 (.ite false
 (.rq 1 (.req t0 (.req (decide ((3 : Int) ≠ 0)) (.req t2 (.rq 2 (.done t3))))))
 (.rq 2 (.done false))))))))))))
 (.rq 2 (.ite false
 (.rq 4 (.ite (L == 1)
 (.rq 4 (.ite (i_2 == 0)
 (.rq 5 (.ite (p_1 == 1)
 (.rq 4 (.ite (t_2 == 1)
 (.rq 1 (.req t0 (.req (decide ((3 : Int) ≠ 0)) (.req t2 (.rq 2 (.done t3))))))
 (.rq 2 (.done false))))
 (.rq 2 (.ite false
 (.rq 1 (.req t0 (.req (decide ((3 : Int) ≠ 0)) (.req t2 (.rq 2 (.done t3))))))
 (.rq 2 (.done false))))))
 (.rq 2 (.ite false
 (.rq 4 (.ite (t_2 == 1)
 (.rq 1 (.req t0 (.req (decide ((3 : Int) ≠ 0)) (.req t2 (.rq 2 (.done t3))))))
 (.rq 2 (.done false))))
 (.rq 2 (.ite false
 (.rq 1 (.req t0 (.req (decide ((3 : Int) ≠ 0)) (.req t2 (.rq 2 (.done t3))))))
 (.rq 2 (.done false))))))))
 (.rq 2 (.ite false
 (.rq 5 (.ite (p_1 == 1)
 (.rq 4 (.ite (t_2 == 1)
 (.rq 1 (.req t0 (.req (decide ((3 : Int) ≠ 0)) (.req t2 (.rq 2 (.done t3))))))
 (.rq 2 (.done false))))
 (.rq 2 (.ite false
 (.rq 1 (.req t0 (.req (decide ((3 : Int) ≠ 0)) (.req t2 (.rq 2 (.done t3))))))
 (.rq 2 (.done false))))))
 (.rq 2 (.ite false
 (.rq 4 (.ite (t_2 == 1)
 (.rq 1 (.req t0 (.req (decide ((3 : Int) ≠ 0)) (.req t2 (.rq 2 (.done t3))))))
 (.rq 2 (.done false))))
 (.rq 2 (.ite false
 (.rq 1 (.req t0 (.req (decide ((3 : Int) ≠ 0)) (.req t2 (.rq 2 (.done t3))))))
 (.rq 2 (.done false))))))))))
 (.rq 2 (.ite false
 (.rq 4 (.ite (i_2 == 0)
 (.rq 5 (.ite (p_1 == 1)
 (.rq 4 (.ite (t_2 == 1)
 (.rq 1 (.req t0 (.req (decide ((3 : Int) ≠ 0)) (.req t2 (.rq 2 (.done t3))))))
 (.rq 2 (.done false))))
 (.rq 2 (.ite false
 (.rq 1 (.req t0 (.req (decide ((3 : Int) ≠ 0)) (.req t2 (.rq 2 (.done t3))))))
 (.rq 2 (.done false))))))
 (.rq 2 (.ite false
 (.rq 4 (.ite (t_2 == 1)
 (.rq 1 (.req t0 (.req (decide ((3 : Int) ≠ 0)) (.req t2 (.rq 2 (.done t3))))))
 (.rq 2 (.done false))))
 (.rq 2 (.ite false
 (.rq 1 (.req t0 (.req (decide ((3 : Int) ≠ 0)) (.req t2 (.rq 2 (.done t3))))))
 (.rq 2 (.done false))))))))
 (.rq 2 (.ite false
 (.rq 5 (.ite (p_1 == 1)
 (.rq 4 (.ite (t_2 == 1)
 (.rq 1 (.req t0 (.req (decide ((3 : Int) ≠ 0)) (.req t2 (.rq 2 (.done t3))))))
 (.rq 2 (.done false))))
 (.rq 2 (.ite false
 (.rq 1 (.req t0 (.req (decide ((3 : Int) ≠ 0)) (.req t2 (.rq 2 (.done t3))))))
 (.rq 2 (.done false))))))
 (.rq 2 (.ite false
 (.rq 4 (.ite (t_2 == 1)
 (.rq 1 (.req t0 (.req (decide ((3 : Int) ≠ 0)) (.req t2 (.rq 2 (.done t3))))))
 (.rq 2 (.done false))))
 (.rq 2 (.ite false
 (.rq 1 (.req t0 (.req (decide ((3 : Int) ≠ 0)) (.req t2 (.rq 2 (.done t3))))))
 (.rq 2 (.done false))))))))))))))))
 (.rq 2 (.ite false
 (.rq 4 (.ite (t == 1)
 (.rq 4 (.ite (x5 == 0)
 (.rq 4 (.ite (L == 1)
 (.rq 4 (.ite (i_2 == 0)
 (.rq 5 (.ite (p_1 == 1)
 (.rq 4 (.ite (t_2 == 1)
 (.rq 1 (.req t0 (.req (decide ((3 : Int) ≠ 0)) (.req t2 (.rq 2 (.done t3))))))
 (.rq 2 (.done false))))
 (.rq 2 (.ite false
 (.rq 1 (.req t0 (.req (decide ((3 : Int) ≠ 0)) (.req t2 (.rq 2 (.done t3))))))
 (.rq 2 (.done false))))))
 (.rq 2 (.ite false
 (.rq 4 (.ite (t_2 == 1)
 (.rq 1 (.req t0 (.req (decide ((3 : Int) ≠ 0)) (.req t2 (.rq 2 (.done t3))))))
 (.rq 2 (.done false))))
 (.rq 2 (.ite false
 (.rq 1 (.req t0 (.req (decide ((3 : Int) ≠ 0)) (.req t2 (.rq 2 (.done t3))))))
 (.rq 2 (.done false))))))))
 (.rq 2 (.ite false
 (.rq 5 (.ite (p_1 == 1)
 (.rq 4 (.ite (t_2 == 1)
 (.rq 1 (.req t0 (.req (decide ((3 : Int) ≠ 0)) (.req t2 (.rq 2 (.done t3))))))
 (.rq 2 (.done false))))
 (.rq 2 (.ite false
 (.rq 1 (.req t0 (.req (decide ((3 : Int) ≠ 0)) (.req t2 (.rq 2 (.done t3))))))
 (.rq 2 (.done false))))))
 (.rq 2 (.ite false
 (.rq 4 (.ite (t_2 == 1)
 (.rq 1 (.req t0 (.req (decide ((3 : Int) ≠ 0)) (.req t2 (.rq 2 (.done t3))))))
 (.rq 2 (.done false))))
 (.rq 2 (.ite false
 (.rq 1 (.req t0 (.req (decide ((3 : Int) ≠ 0)) (.req t2 (.rq 2 (.done t3))))))
 (.rq 2 (.done false))))))))))
 (.rq 2 (.ite false
 (.rq 4 (.ite (i_2 == 0)
 (.rq 5 (.ite (p_1 == 1)
 (.rq 4 (.ite (t_2 == 1)
 (.rq 1 (.req t0 (.req (decide ((3 : Int) ≠ 0)) (.req t2 (.rq 2 (.done t3))))))
 (.rq 2 (.done false))))
 (.rq 2 (.ite false
 (.rq 1 (.req t0 (.req (decide ((3 : Int) ≠ 0)) (.req t2 (.rq 2 (.done t3))))))
 (.rq 2 (.done false))))))
 (.rq 2 (.ite false
 (.rq 4 (.ite (t_2 == 1)
 (.rq 1 (.req t0 (.req (decide ((3 : Int) ≠ 0)) (.req t2 (.rq 2 (.done t3))))))
 (.rq 2 (.done false))))
 (.rq 2 (.ite false
 (.rq 1 (.req t0 (.req (decide ((3 : Int) ≠ 0)) (.req t2 (.rq 2 (.done t3))))))
 (.rq 2 (.done false))))))))
 (.rq 2 (.ite false
 (.rq 5 (.ite (p_1 == 1)
 (.rq 4 (.ite (t_2 == 1)
 (.rq 1 (.req t0 (.req (decide ((3 : Int) ≠ 0)) (.req t2 (.rq 2 (.done t3))))))
 (.rq 2 (.done false))))
 (.rq 2 (.ite false
 (.rq 1 (.req t0 (.req (decide ((3 : Int) ≠ 0)) (.req t2 (.rq 2 (.done t3))))))
 (.rq 2 (.done false))))))
 (.rq 2 (.ite false
 (.rq 4 (.ite (t_2 == 1)
 (.rq 1 (.req t0 (.req (decide ((3 : Int) ≠ 0)) (.req t2 (.rq 2 (.done t3))))))
 (.rq 2 (.done false))))
 (.rq 2 (.ite false
 (.rq 1 (.req t0 (.req (decide ((3 : Int) ≠ 0)) (.req t2 (.rq 2 (.done t3))))))
 (.rq 2 (.done false))))))))))))
 (.rq 2 (.ite false
 (.rq 4 (.ite (L == 1)
 (.rq 4 (.ite (i_2 == 0)
 (.rq 5 (.ite (p_1 == 1)
 (.rq 4 (.ite (t_2 == 1)
 (.rq 1 (.req t0 (.req (decide ((3 : Int) ≠ 0)) (.req t2 (.rq 2 (.done t3))))))
 (.rq 2 (.done false))))
 (.rq 2 (.ite false
 (.rq 1 (.req t0 (.req (decide ((3 : Int) ≠ 0)) (.req t2 (.rq 2 (.done t3))))))
 (.rq 2 (.done false))))))
 (.rq 2 (.ite false
 (.rq 4 (.ite (t_2 == 1)
 (.rq 1 (.req t0 (.req (decide ((3 : Int) ≠ 0)) (.req t2 (.rq 2 (.done t3))))))
 (.rq 2 (.done false))))
 (.rq 2 (.ite false
 (.rq 1 (.req t0 (.req (decide ((3 : Int) ≠ 0)) (.req t2 (.rq 2 (.done t3))))))
 (.rq 2 (.done false))))))))
 (.rq 2 (.ite false
 (.rq 5 (.ite (p_1 == 1)
 (.rq 4 (.ite (t_2 == 1)
 (.rq 1 (.req t0 (.req (decide ((3 : Int) ≠ 0)) (.req t2 (.rq 2 (.done t3))))))
 (.rq 2 (.done false))))
 (.rq 2 (.ite false
 (.rq 1 (.req t0 (.req (decide ((3 : Int) ≠ 0)) (.req t2 (.rq 2 (.done t3))))))
 (.rq 2 (.done false))))))
 (.rq 2 (.ite false
 (.rq 4 (.ite (t_2 == 1)
 (.rq 1 (.req t0 (.req (decide ((3 : Int) ≠ 0)) (.req t2 (.rq 2 (.done t3))))))
 (.rq 2 (.done false))))
 (.rq 2 (.ite false
 (.rq 1 (.req t0 (.req (decide ((3 : Int) ≠ 0)) (.req t2 (.rq 2 (.done t3))))))
 (.rq 2 (.done false))))))))))
 (.rq 2 (.ite false
 (.rq 4 (.ite (i_2 == 0)
 (.rq 5 (.ite (p_1 == 1)
 (.rq 4 (.ite (t_2 == 1)
 (.rq 1 (.req t0 (.req (decide ((3 : Int) ≠ 0)) (.req t2 (.rq 2 (.done t3))))))
 (.rq 2 (.done false))))
 (.rq 2 (.ite false
 (.rq 1 (.req t0 (.req (decide ((3 : Int) ≠ 0)) (.req t2 (.rq 2 (.done t3))))))
 (.rq 2 (.done false))))))
 (.rq 2 (.ite false
 (.rq 4 (.ite (t_2 == 1)
 (.rq 1 (.req t0 (.req (decide ((3 : Int) ≠ 0)) (.req t2 (.rq 2 (.done t3))))))
 (.rq 2 (.done false))))
 (.rq 2 (.ite false
 (.rq 1 (.req t0 (.req (decide ((3 : Int) ≠ 0)) (.req t2 (.rq 2 (.done t3))))))
 (.rq 2 (.done false))))))))
 (.rq 2 (.ite false
 (.rq 5 (.ite (p_1 == 1)
 (.rq 4 (.ite (t_2 == 1)
 (.rq 1 (.req t0 (.req (decide ((3 : Int) ≠ 0)) (.req t2 (.rq 2 (.done t3))))))
 (.rq 2 (.done false))))
 (.rq 2 (.ite false
 (.rq 1 (.req t0 (.req (decide ((3 : Int) ≠ 0)) (.req t2 (.rq 2 (.done t3))))))
 (.rq 2 (.done false))))))
 (.rq 2 (.ite false
 (.rq 4 (.ite (t_2 == 1)
 (.rq 1 (.req t0 (.req (decide ((3 : Int) ≠ 0)) (.req t2 (.rq 2 (.done t3))))))
 (.rq 2 (.done false))))
 (.rq 2 (.ite false
 (.rq 1 (.req t0 (.req (decide ((3 : Int) ≠ 0)) (.req t2 (.rq 2 (.done t3))))))
 (.rq 2 (.done false))))))))))))))
 (.rq 2 (.ite false
 (.rq 4 (.ite (x5 == 0)
 (.rq 4 (.ite (L == 1)
 (.rq 4 (.ite (i_2 == 0)
 (.rq 5 (.ite (p_1 == 1)
 (.rq 4 (.ite (t_2 == 1)
 (.rq 1 (.req t0 (.req (decide ((3 : Int) ≠ 0)) (.req t2 (.rq 2 (.done t3))))))
 (.rq 2 (.done false))))
 (.rq 2 (.ite false
 (.rq 1 (.req t0 (.req (decide ((3 : Int) ≠ 0)) (.req t2 (.rq 2 (.done t3))))))
 (.rq 2 (.done false))))))
 (.rq 2 (.ite false
 (.rq 4 (.ite (t_2 == 1)
 (.rq 1 (.req t0 (.req (decide ((3 : Int) ≠ 0)) (.req t2 (.rq 2 (.done t3))))))
 (.rq 2 (.done false))))
 (.rq 2 (.ite false
 (.rq 1 (.req t0 (.req (decide ((3 : Int) ≠ 0)) (.req t2 (.rq 2 (.done t3))))))
 (.rq 2 (.done false))))))))
 (.rq 2 (.ite false
 (.rq 5 (.ite (p_1 == 1)
 (.rq 4 (.ite (t_2 == 1)
 (.rq 1 (.req t0 (.req (decide ((3 : Int) ≠ 0)) (.req t2 (.rq 2 (.done t3))))))
 (.rq 2 (.done false))))
 (.rq 2 (.ite false
 (.rq 1 (.req t0 (.req (decide ((3 : Int) ≠ 0)) (.req t2 (.rq 2 (.done t3))))))
 (.rq 2 (.done false))))))
 (.rq 2 (.ite false
 (.rq 4 (.ite (t_2 == 1)
 (.rq 1 (.req t0 (.req (decide ((3 : Int) ≠ 0)) (.req t2 (.rq 2 (.done t3))))))
 (.rq 2 (.done false))))
 (.rq 2 (.ite false
 (.rq 1 (.req t0 (.req (decide ((3 : Int) ≠ 0)) (.req t2 (.rq 2 (.done t3))))))
 (.rq 2 (.done false))))))))))
 (.rq 2 (.ite false
 (.rq 4 (.ite (i_2 == 0)
 (.rq 5 (.ite (p_1 == 1)
 (.rq 4 (.ite (t_2 == 1)
 (.rq 1 (.req t0 (.req (decide ((3 : Int) ≠ 0)) (.req t2 (.rq 2 (.done t3))))))
 (.rq 2 (.done false))))
 (.rq 2 (.ite false
 (.rq 1 (.req t0 (.req (decide ((3 : Int) ≠ 0)) (.req t2 (.rq 2 (.done t3))))))
 (.rq 2 (.done false))))))
 (.rq 2 (.ite false
 (.rq 4 (.ite (t_2 == 1)
 (.rq 1 (.req t0 (.req (decide ((3 : Int) ≠ 0)) (.req t2 (.rq 2 (.done t3))))))
 (.rq 2 (.done false))))
 (.rq 2 (.ite false
 (.rq 1 (.req t0 (.req (decide ((3 : Int) ≠ 0)) (.req t2 (.rq 2 (.done t3))))))
 (.rq 2 (.done false))))))))
 (.rq 2 (.ite false
 (.rq 5 (.ite (p_1 == 1)
 (.rq 4 (.ite (t_2 == 1)
 (.rq 1 (.req t0 (.req (decide ((3 : Int) ≠ 0)) (.req t2 (.rq 2 (.done t3))))))
 (.rq 2 (.done false))))
 (.rq 2 (.ite false
 (.rq 1 (.req t0 (.req (decide ((3 : Int) ≠ 0)) (.req t2 (.rq 2 (.done t3))))))
 (.rq 2 (.done false))))))
 (.rq 2 (.ite false
 (.rq 4 (.ite (t_2 == 1)
 (.rq 1 (.req t0 (.req (decide ((3 : Int) ≠ 0)) (.req t2 (.rq 2 (.done t3))))))
 (.rq 2 (.done false))))
 (.rq 2 (.ite false
 (.rq 1 (.req t0 (.req (decide ((3 : Int) ≠ 0)) (.req t2 (.rq 2 (.done t3))))))
 (.rq 2 (.done false))))))))))))
 (.rq 2 (.ite false
 (.rq 4 (.ite (L == 1)
 (.rq 4 (.ite (i_2 == 0)
 (.rq 5 (.ite (p_1 == 1)
 (.rq 4 (.ite (t_2 == 1)
 (.rq 1 (.req t0 (.req (decide ((3 : Int) ≠ 0)) (.req t2 (.rq 2 (.done t3))))))
 (.rq 2 (.done false))))
 (.rq 2 (.ite false
 (.rq 1 (.req t0 (.req (decide ((3 : Int) ≠ 0)) (.req t2 (.rq 2 (.done t3))))))
 (.rq 2 (.done false))))))
 (.rq 2 (.ite false
 (.rq 4 (.ite (t_2 == 1)
 (.rq 1 (.req t0 (.req (decide ((3 : Int) ≠ 0)) (.req t2 (.rq 2 (.done t3))))))
 (.rq 2 (.done false))))
 (.rq 2 (.ite false
 (.rq 1 (.req t0 (.req (decide ((3 : Int) ≠ 0)) (.req t2 (.rq 2 (.done t3))))))
 (.rq 2 (.done false))))))))
 (.rq 2 (.ite false
 (.rq 5 (.ite (p_1 == 1)
 (.rq 4 (.ite (t_2 == 1)
 (.rq 1 (.req t0 (.req (decide ((3 : Int) ≠ 0)) (.req t2 (.rq 2 (.done t3))))))
 (.rq 2 (.done false))))
 (.rq 2 (.ite false
 (.rq 1 (.req t0 (.req (decide ((3 : Int) ≠ 0)) (.req t2 (.rq 2 (.done t3))))))
 (.rq 2 (.done false))))))
 (.rq 2 (.ite false
 (.rq 4 (.ite (t_2 == 1)
 (.rq 1 (.req t0 (.req (decide ((3 : Int) ≠ 0)) (.req t2 (.rq 2 (.done t3))))))
 (.rq 2 (.done false))))
 (.rq 2 (.ite false
 (.rq 1 (.req t0 (.req (decide ((3 : Int) ≠ 0)) (.req t2 (.rq 2 (.done t3))))))
 (.rq 2 (.done false))))))))))
 (.rq 2 (.ite false
 (.rq 4 (.ite (i_2 == 0)
 (.rq 5 (.ite (p_1 == 1)
 (.rq 4 (.ite (t_2 == 1)
 (.rq 1 (.req t0 (.req (decide ((3 : Int) ≠ 0)) (.req t2 (.rq 2 (.done t3))))))
 (.rq 2 (.done false))))
 (.rq 2 (.ite false
 (.rq 1 (.req t0 (.req (decide ((3 : Int) ≠ 0)) (.req t2 (.rq 2 (.done t3))))))
 (.rq 2 (.done false))))))
 (.rq 2 (.ite false
 (.rq 4 (.ite (t_2 == 1)
 (.rq 1 (.req t0 (.req (decide ((3 : Int) ≠ 0)) (.req t2 (.rq 2 (.done t3))))))
 (.rq 2 (.done false))))
 (.rq 2 (.ite false
 (.rq 1 (.req t0 (.req (decide ((3 : Int) ≠ 0)) (.req t2 (.rq 2 (.done t3))))))
 (.rq 2 (.done false))))))))
 (.rq 2 (.ite false
 (.rq 5 (.ite (p_1 == 1)
 (.rq 4 (.ite (t_2 == 1)
 (.rq 1 (.req t0 (.req (decide ((3 : Int) ≠ 0)) (.req t2 (.rq 2 (.done t3))))))
 (.rq 2 (.done false))))
 (.rq 2 (.ite false
 (.rq 1 (.req t0 (.req (decide ((3 : Int) ≠ 0)) (.req t2 (.rq 2 (.done t3))))))
 (.rq 2 (.done false))))))
 (.rq 2 (.ite false
 (.rq 4 (.ite (t_2 == 1)
 (.rq 1 (.req t0 (.req (decide ((3 : Int) ≠ 0)) (.req t2 (.rq 2 (.done t3))))))
 (.rq 2 (.done false))))
 (.rq 2 (.ite false
 (.rq 1 (.req t0 (.req (decide ((3 : Int) ≠ 0)) (.req t2 (.rq 2 (.done t3))))))
 (.rq 2 (.done false)))))))))))))))))
def zag_p510 : zbV := ⟨510, false, [tI, tI, tI, tI, tI, tI, tI, tI, .sl tU, tI, .sl tB, .sl yK, .sl yH], [], ⟨[.keep [1, 2, 3, 4, 5, 6, 7, 8, 10], .gc], [1, 2, 3, 4, 5, 6, 7, 8, 10], [.lf (qp 16), .lf (qi 0), .lf (qi 1), .lf (qi 2), .lf (qi 3), .lf (qp 369), .lf (qi 4), .lf (qi 5), .lf (qi 6)], [(16, true, .cells [qr 177, qr 178, qr 179, .fix (.nil), .fix (.nil), qi 7]), (369, true, .cells [qi 8, qi 9]), (177, false, .arr 4 (qi 10)), (178, false, .arr 97 (qi 11)), (179, false, .arr 82 (qi 12))]⟩, [⟨0, ⟨[.keep [0], .gc], [0], [.lf (qm 0)], []⟩, [tB]⟩], (fun i _ => zag_b510 (i.1, i.2.1, i.2.2.1, i.2.2.2.1, i.2.2.2.2.1, i.2.2.2.2.2.1, i.2.2.2.2.2.2.1, i.2.2.2.2.2.2.2.1, i.2.2.2.2.2.2.2.2.2.1, i.2.2.2.2.2.2.2.2.2.2.1, i.2.2.2.2.2.2.2.2.2.2.2.1, i.2.2.2.2.2.2.2.2.2.2.2.2))⟩
def zag : Unit → RT Unit Bool
| _ =>
 .rq 5 (.req ((wOK ([true]) ([(true, 0, (10 : Int), 1, 0, true), (true, 0, (20 : Int), 1, 1, true)]) ([(2, -1, -1, 1, 1), (2, -1, -1, 1, 1)]) [] [] (5))) (.rq 6 (.req ((wOK ([true]) ([(true, 0, (10 : Int), 1, 0, true), (true, 0, (20 : Int), 1, 1, true)]) ([(2, -1, -1, 1, 1), (2, -1, -1, 1, 1)]) [] [] (5))) (.rq 6 (.req ((okL 40 [10])) (.rq 3 (.req ((wOK ([true]) ([(true, 0, (10 : Int), 1, 0, true), (true, 0, (20 : Int), 1, 1, true)]) ([(2, -1, -1, 1, 1), (2, -1, -1, 1, 1)]) [] [] (5) && (decide (0 ≤ (0)) && decide ((0) ≤ ([10].length : Int))))) (.rq 6 (.req ((wOK ([true]) ([(true, 0, (10 : Int), 1, 0, true), (true, 0, (20 : Int), 1, 1, true)]) ([(2, -1, -1, 1, 1), (2, -1, -1, 1, 1)]) [] [] (5))) (.rq 5 (let t0 := (atB (brV (wgV ([true]) ([(true, 0, (10 : Int), 1, 0, true), (true, 0, (20 : Int), 1, 1, true)]) ([(2, -1, -1, 1, 1), (2, -1, -1, 1, 1)]) [] [] (5))) (9 : Int));
 let t1 := (atB (brV (wgV ([true]) ([(true, 0, (10 : Int), 1, 0, true), (true, 0, (20 : Int), 1, 1, true)]) ([(2, -1, -1, 1, 1), (2, -1, -1, 1, 1)]) [] [] (5))) (10 : Int));
 let t2 := (drawV (brV (wgV ([true]) ([(true, 0, (10 : Int), 1, 0, true), (true, 0, (20 : Int), 1, 1, true)]) ([(2, -1, -1, 1, 1), (2, -1, -1, 1, 1)]) [] [] (5))) [10] (0));
 .call (on zag_b510 (t0.1, t0.2, t1.1, t1.2, t2.1, t2.2.1, ((atB (brV (wgV ([true]) ([(true, 0, (10 : Int), 1, 0, true), (true, 0, (20 : Int), 1, 1, true)]) ([(2, -1, -1, 1, 1), (2, -1, -1, 1, 1)]) [] [] (5))) (30 : Int))).2, 5, t2.2.2.2, [true], [(true, 0, (10 : Int), 1, 0, true), (true, 0, (20 : Int), 1, 1, true)], [(2, -1, -1, 1, 1), (2, -1, -1, 1, 1)])) default fun v0 =>
 .done v0)))))))))))
def F_zag (x : Unit) : Option Bool := (zag x).run fun _ => none
def io_zag : Io := ⟨n_zag, [], [], [], [], [tB], .lf (qm 0), [], [], false⟩
def zag_P : List zbV := [zag_p510]
def zag_T : zca := tab [e_zbo, e_zaD, e_zW, e_zbt, e_zak, e_zaX, e_zaW, e_zbO]
theorem zag_To : zbZ pg zag_T := zbW ⟨e_zbo_ok, e_zaD_ok, e_zW_ok, e_zbt_ok, e_zak_ok, e_zaX_ok, e_zaW_ok, e_zbO_ok, trivial⟩
theorem zag_k510 : (zag_p510).OK pg (zag_T) (zcr 72 (zag_P)) (zci f_zag) 72 := ⟨by kernel_rfl, fun i x => by kernel_rfl⟩
theorem zag_go : zcm pg (zag_T) io_zag f_zag (zag_P) [] (zag) := ⟨by kernel_rfl, by kernel_rfl, fun x => by kernel_rfl⟩
theorem ok_zag : io_zag.Okay pg (F_zag) := zcj zbY (zag_To) (zag_go) ⟨zag_k510, trivial⟩
def e_zag : zcg := io_zag.sp (fun _ => true) (fun _ => true)
theorem sp_zag (h : (zag ()).run (fun _ => none) = some true) : e_zag.ok pg := zcl ok_zag fun _ _ hc => h
theorem e_zag_ok : e_zag.ok pg := sp_zag (by kernel_rfl)
end
end Go.Proofs.YtlfdidaeachpoaaGreat
namespace Go.Proofs.YtlfdidaeachpoaaGreat
open Go Go.RowKit
set_option maxRecDepth 100000
noncomputable section
theorem cnt_pick : ∀ (l : List Nat) (i0 j : Nat), j < l.length → ((List.range l.sum).countP fun k => zcN l k i0 == ((i0 + j : Nat) : Int)) = l.getD j 0
 | [], _, _, h => by simp at h
 | w :: l, i0, j, h => by
  rw [List.sum_cons, List.range_add, List.countP_append, List.countP_map]
  have h1 : ∀ k ∈ List.range w, zcN (w :: l) k i0 = (i0 : Int) := fun k hk => by
   unfold zcN
   rw [if_pos (List.mem_range.1 hk)]
  have h2 : ∀ k, zcN (w :: l) (w + k) i0 = zcN l k (i0 + 1) := fun k => by
   conv => lhs; unfold zcN
   rw [if_neg (by omega), show w + k - w = k by omega]
  have e2 : ((fun k => zcN (w :: l) k i0 == ((i0 + j : Nat) : Int)) ∘ fun x => w + x) = fun k => zcN l k (i0 + 1) == ((i0 + j : Nat) : Int) := by
   funext k
   show (zcN (w :: l) (w + k) i0 == _) = _
   rw [h2]
  rw [e2]
  cases j with
  | zero =>
   have c1 : (List.range w).countP (fun k => zcN (w :: l) k i0 == ((i0 + 0 : Nat) : Int)) = w := by
    rw [List.countP_eq_length.2 (fun k hk => by rw [h1 k hk]; simp)]
    simp
   have c2 : (List.range l.sum).countP (fun k => zcN l k (i0 + 1) == ((i0 + 0 : Nat) : Int)) = 0 := by
    rw [List.countP_eq_zero]
    intro k hk
    obtain ⟨j, h3, _⟩ := (pickG_lt l k (i0 + 1)).2 (List.mem_range.1 hk)
    rw [h3]
    simp; omega
   rw [c1, c2]
   rfl
  | succ j =>
   have c1 : (List.range w).countP (fun k => zcN (w :: l) k i0 == ((i0 + (j + 1) : Nat) : Int)) = 0 := by
    rw [List.countP_eq_zero]
    intro k hk
    rw [h1 k hk]
    simp
    omega
   have c2 := cnt_pick l (i0 + 1) j (by simpa using h)
   rw [c1, show i0 + (j + 1) = i0 + 1 + j by omega, c2, Nat.zero_add]
   rfl
def zj_b506 : (Int × (List Bool) × (List Tk) × (List Th) × (List Lk) × (List Int) × Int) → (Int × (List Int)) → RT (Int × (List Int)) (LR Unit (List Int))
| (s, l_0, l_1, l_2, l_3, l_4, l_5), (x6, r5) =>
 .rq 3 (.ite (decide (x6 < s))
 (.rq 2 (.req ((wOK l_0 l_1 l_2 l_3 l_4 l_5)) (.rq 21 (let t0 := (atB (brV (wgV l_0 l_1 l_2 l_3 l_4 l_5)) x6);
 let t1 := ((t0.2 != 0) || (decide (t0.1 < 0))) || (decide ((r5.length : Int) ≤ t0.1));
 .req ((inB l_2 t0.1) || (!(!t1))) (.rq 4 (.ite (t1 || ((gI l_2 t0.1).1 != 2))
 (.rq 1 (.done (.ex ())))
 (.rq 2 (let t2 := inB r5 t0.1;
 .req t2 (.rq 2 (.req t2 (.rq 4 (.again (zcn (x6 + 1), sI r5 t0.1 (zcn ((gI r5 t0.1) + 1)))))))))))))))
 (.done (.rt r5)))
def zj_p506 : zbV := ⟨506, true, [tU, .sl tB, .sl yK, .sl yH, .sl yL, .sl tI, tI], [tU, .sl tU], ⟨[.keep [1, 3, 5, 6], .gc, .nilRow 5 800005 48 tU, .ren 5 700005, .ren 5 900005, .gc], [1, 3, 5, 6], [.lf (qp 16), .lf (qi 0), .lf (qr 900005), .lf (qm 0)], [(16, true, .cells [qi 1, qi 2, qi 3, qi 4, qi 5, qi 6]), (900005, true, .arr 48 (qm 1))]⟩, [⟨1, ⟨[.keep [2], .gc], [2], [.lf (.fix (.bool false))], []⟩, []⟩, ⟨2, ⟨[.keep [1, 3, 5], .gc, .nilRow 5 800005 48 tU, .ren 5 700005, .ren 5 900005, .gc], [1, 3, 5], [.lf (qp 16), .lf (qi 0), .lf (qr 900005)], [(16, true, .cells [qi 1, qi 2, qi 3, qi 4, qi 5, qi 6]), (900005, true, .arr 48 (qm 0))]⟩, [.sl tU]⟩], zj_b506⟩
def zj_b1018 : (Int × (List Bool) × (List Tk) × (List Th) × (List Lk) × (List Int) × Int × (List Int)) → Int → RT Int (LR Unit Unit)
| (s, l_0, l_1, l_2, l_3, l_4, l_5, r5), s_2 =>
 .rq 4 (.ite (decide (s_2 < (r5.length : Int)))
 (.rq 2 (.ite (s == 0)
 (.done (.rt ()))
 (.rq 2 (.req (inB r5 s_2) (.rq 2 (.req (decide (s ≠ 0)) (.rq 2 (.req ((wOK l_0 l_1 l_2 l_3 l_4 l_5)) (let t0 := rQ (mkRat (((gI r5 s_2).toNat : Nat) : Int) s.toNat);
 let t1 := (rQ (chV (wgV l_0 l_1 l_2 l_3 l_4 l_5) s_2));
 .req ((okq t0.1 t0.2 && okq t1.1 t1.2)) (.rq 1 (.ite (((zdb ((val B16 t0.1 * val B16 t1.2 : Nat) : Int) ((val B16 t1.1 * val B16 t0.2 : Nat) : Int))) != 0)
 (.rq 1 (.done (.ex ())))
 (.rq 3 (.again (w64 (s_2 + 1)))))))))))))))
 (.done (.rt ())))
def zj_p1018 : zbV := ⟨1018, true, [tU, .sl tB, .sl yK, .sl yH, .sl yL, .sl tI, tI, .sl tU], [tI], ⟨[.keep [1, 3, 5, 9], .gc, .nilRow 5 800005 48 tU, .ren 5 700005, .ren 5 900005, .gc], [1, 3, 5, 9], [.lf (qp 16), .lf (qi 0), .lf (qr 900005), .lf (qm 0)], [(16, true, .cells [qi 1, qi 2, qi 3, qi 4, qi 5, qi 6]), (900005, true, .arr 48 (qi 7))]⟩, [⟨1, ⟨[.keep [2], .gc], [2], [.lf (.fix (.bool false))], []⟩, []⟩, ⟨4, ⟨[.keep [], .gc], [], [], []⟩, []⟩], zj_b1018⟩
def zj : ((List Bool) × (List Tk) × (List Th) × (List Lk) × (List Int) × Int) → RT Unit Bool
| (a0_0, a0_1, a0_2, a0_3, a0_4, a0_5) =>
 .rq 7 (let t0 := (smallV a0_0 a0_1 a0_2 a0_3 a0_4);
 let t1 := !t0;
 .req (((decide (a0_1.length ≤ 1000000))) || (!(!t1))) (.rq 4 (let t2 := t1 || (!((decide (a0_1.length ≤ 30) && decide (cnt2 a0_1 ≤ 8))));
 .req (t0 || (!(!t2))) (.rq 2 (.ite (t2 || (!((zfk a0_0 a0_1 a0_2 a0_3 a0_4 a0_5))))
 (.rq 2 (.done (true)))
 (.rq 1 (.req ((wOK a0_0 a0_1 a0_2 a0_3 a0_4 a0_5)) (.rq 11 (let t3 := (brV (wgV a0_0 a0_1 a0_2 a0_3 a0_4 a0_5)).2.1;
 .ite ((((brV (wgV a0_0 a0_1 a0_2 a0_3 a0_4 a0_5)).2.2.1) != 0) || (decide (200 < t3)))
 (.rq 2 (.done (true)))
 (.rq 3 (.req (mkOK 8 (a0_2.length : Int)) (.rq 2 (.call (lo zj_b506 (t3, a0_0, a0_1, a0_2, a0_3, a0_4, a0_5) (0, zcR (a0_2.length : Int) 0)) default fun v0 =>
 .ite v0.isRt
 (.rq 1 (.call (lo zj_b1018 (t3, a0_0, a0_1, a0_2, a0_3, a0_4, a0_5, v0.getR) 0) default fun v1 =>
 .ite v1.isRt
 (.rq 2 (.done (true)))
 (.done false)))
 (.done false))))))))))))))
def F_zj (x : (List Bool) × (List Tk) × (List Th) × (List Lk) × (List Int) × Int) : Option Bool := (zj x).run fun _ => none
def io_zj : Io := ⟨n_zj, [.sl tB, .sl yK, .sl yH, .sl yL, .sl tI, tI], [.agg [qm 0, qm 1, qm 2, qm 3, qm 4, qm 5]], [], [[.sl tB, .sl yK, .sl yH, .sl yL, .sl tI, tI]], [tB], .lf (qm 0), [], [], false⟩
def zj_P : List zbV := [zj_p506, zj_p1018]
def zj_T : zca := tab [e_zag, e_zad, e_zaX, e_zat, e_zbQ, e_zaz, e_zaR, e_zbq, e_zbO]
theorem zj_To : zbZ pg zj_T := zbW ⟨e_zag_ok, e_zad_ok, e_zaX_ok, e_zat_ok, e_zbQ_ok, e_zaz_ok, e_zaR_ok, e_zbq_ok, e_zbO_ok, trivial⟩
theorem zj_k506 : (zj_p506).OK pg (zj_T) (zcr 98 (zj_P)) (zci f_zj) 98 := ⟨by kernel_rfl, fun i x => by kernel_rfl⟩
theorem zj_k1018 : (zj_p1018).OK pg (zj_T) (zcr 98 (zj_P)) (zci f_zj) 98 := ⟨by kernel_rfl, fun i x => by kernel_rfl⟩
theorem zj_go : zcm pg (zj_T) io_zj f_zj (zj_P) [] (zj) := ⟨by kernel_rfl, by kernel_rfl, fun x => by kernel_rfl⟩
theorem ok_zj : io_zj.Okay pg (F_zj) := zcj zbY (zj_To) (zj_go) ⟨zj_k506, zj_k1018, trivial⟩
def winV (l : List Nat) (n r : Nat) : List Int := (zcB n).map fun i => (((List.range r).countP fun k => zcN l k 0 == i : Nat) : Int)
theorem den_ne (q : Rat) : (q.den : Rat) ≠ 0 := by
 intro h
 exact q.den_nz (by exact_mod_cast h)
theorem num_eq (q : Rat) : (q.num : Rat) = q * (q.den : Rat) := by
 have h1 := Rat.mkRat_self q
 rw [Rat.mkRat_eq_div] at h1
 have h2 := Rat.div_mul_cancel (a := (q.num : Rat)) (den_ne q)
 rw [h1] at h2
 exact h2.symm
theorem rmul_ne {x y : Rat} (hx : x ≠ 0) (hy : y ≠ 0) : x * y ≠ 0 := by
 intro h
 have h1 := Rat.inv_mul_cancel x hx
 have h2 : y = x⁻¹ * (x * y) := by rw [← Rat.mul_assoc, h1, Rat.one_mul]
 rw [h, Rat.mul_zero] at h2
 exact hy h2
theorem chM_eq {p q : Rat} (hp : 0 ≤ p) (hq : 0 ≤ q) (hne : q ≠ 0) : chM p q * q = p := by
 have h1 : (p.num.toNat : Rat) = p * (p.den : Rat) := by
  rw [zgs (Rat.num_nonneg.2 hp), num_eq]
 have h2 : (q.num.toNat : Rat) = q * (q.den : Rat) := by
  rw [zgs (Rat.num_nonneg.2 hq), num_eq]
 have d1 := den_ne p
 have d2 := den_ne q
 unfold chM
 rw [Rat.mkRat_eq_div, Rat.intCast_natCast, Rat.natCast_mul, Rat.natCast_mul, h1, h2, Rat.div_def]
 have h3 : (p.den : Rat) * (q * (q.den : Rat)) ≠ 0 := rmul_ne d1 (rmul_ne hne d2)
 have := Rat.inv_mul_cancel _ h3
 grind
section
variable {a : List Bool} {b : List Tk} {c : List Th} {d : List Lk} {e : List Int} {f : Int}
theorem ups_rat {L : List Rat} (hL : ∀ q ∈ L, 0 ≤ q) {q : Rat} (hq : q ∈ L) : ((upV (zec L) q : Nat) : Rat) = (zec L : Rat) * q := by
 obtain ⟨t, ht⟩ := (lcm_dvd L 1).2 q hq
 change zec L = q.den * t at ht
 unfold upV
 rw [ht, Nat.mul_div_cancel_left _ q.den_pos, Rat.natCast_mul, Rat.natCast_mul, zgs (Rat.num_nonneg.2 (hL q hq)), num_eq q]
 grind
theorem ups_sum {L : List Rat} (hL : ∀ q ∈ L, 0 ≤ q) : (((zcK L).sum : Nat) : Rat) = (zec L : Rat) * zcy L := by
 have key : ∀ l : List Rat, (∀ q ∈ l, q ∈ L) → (((l.map (upV (zec L))).sum : Nat) : Rat) = (zec L : Rat) * zcy l := by
  intro l
  induction l with
  | nil => intro _; exact (Rat.mul_zero _).symm
  | cons q l ih =>
   intro h
   rw [List.map_cons, List.sum_cons, Rat.natCast_add, ups_rat hL (h q (List.mem_cons_self ..)), ih fun p hp => h p (List.mem_cons_of_mem _ hp), zcF, Rat.mul_add]
 exact key L fun _ h => h
theorem share_ch {L : List Rat} (hL : ∀ q ∈ L, 0 ≤ q) {i : Int} (hi : 0 ≤ i ∧ i < (L.length : Int)) (h0 : (zcK L).sum ≠ 0) : mkRat ((upV (zec L) (gI L i) : Nat) : Int) (zcK L).sum = chV L i := by
 have hS : zcy L ≠ 0 := by
  intro h
  have := ups_sum hL
  rw [h, Rat.mul_zero] at this
  exact h0 (by exact_mod_cast this)
 have hS0 : 0 ≤ zcy L := ziP hL
 have hqi := hL _ (zfs hi)
 unfold chV
 rw [if_pos (by rw [zcd.2 hi, decide_eq_true hS]; rfl)]
 have h1 := chM_eq hqi hS0 hS
 have hm : ((zec L : Nat) : Rat) ≠ 0 := by
  intro h
  have hp := lcm_pos L 1 (by decide)
  change 0 < zec L at hp
  have : zec L = 0 := by exact_mod_cast h
  omega
 rw [Rat.mkRat_eq_div, Rat.intCast_natCast, ups_rat hL (zfs hi), ups_sum hL, Rat.div_def]
 have h2 := Rat.inv_mul_cancel _ (rmul_ne hm hS)
 have h3 := Rat.inv_mul_cancel _ hS
 have h4 : chM (gI L i) (zcy L) = gI L i * (zcy L)⁻¹ := by
  rw [← h1]
  grind
 rw [h4]
 have h5 := Rat.inv_mul_cancel _ hm
 grind
theorem win_loop (hw : wOK a b c d e f = true) {t : Nat} (ht : t ≤ 200) (hs : (zcK (wgV a b c d e f)).sum = t) (hbr : brV (wgV a b c d e f) = ((zec (wgV a b c d e f) : Int), (t : Int), 0, i64s (zcK (wgV a b c d e f)))) : ∀ (n r : Nat), r + n = t →
  lo zj_b506 ((t : Int), a, b, c, d, e, f) ((r : Int), winV (zcK (wgV a b c d e f)) c.length r) = some (.rt (winV (zcK (wgV a b c d e f)) c.length t))
 | 0, r, h => by
  rw [zcf, zj_b506]
  simp only [RT.run]
  rw [if_neg (by simp; omega), show r = t by omega]
 | n + 1, r, h => by
  obtain ⟨H, h8⟩ := zdk hw
  have hlc := H.lenC
  have hr : r < (zcK (wgV a b c d e f)).sum := by omega
  obtain ⟨h1, h2⟩ := pickG_lt (zcK (wgV a b c d e f)) r 0
  obtain ⟨j, h3, h4, h5⟩ := h2 hr
  rw [Nat.zero_add] at h3
  have hj : j < c.length := by
   have : (zcK (wgV a b c d e f)).length = c.length := by unfold zcK; rw [List.length_map, zeY]
   omega
  have hji : 0 ≤ (j : Int) ∧ (j : Int) < (c.length : Int) := by omega
  have hat : atB (brV (wgV a b c d e f)) (r : Int) = ((j : Int), 0) := by
   rw [hbr]
   unfold atB
   simp only
   rw [if_neg (by decide), if_neg (by simp; omega), if_neg (by simp; omega), show zdD (i64s (zcK (wgV a b c d e f))) = zcK (wgV a b c d e f) from toNs_toI' _, Int.toNat_natCast, h3]
  have hst : (gI c (j : Int)).1 = 2 := by
   have hjw : j < (wgV a b c d e f).length := by rw [zeY]; exact hj
   have hu : (zcK (wgV a b c d e f)).getD j 0 = upV (zec (wgV a b c d e f)) (gI (wgV a b c d e f) (j : Int)) := by
    rw [List.getD_eq_getElem?_getD, List.getElem?_eq_getElem h4, zcA hjw]
    simp [zcK]
   rw [hu] at h5
   refine Classical.byContradiction fun hne => ?_
   have hz : gI (wgV a b c d e f) (j : Int) = 0 := by
    rw [wgV_get hji]
    unfold wgOne
    rw [if_neg (by simpa using hne)]
   rw [hz] at h5
   unfold upV at h5
   simp at h5
  have hwl : (winV (zcK (wgV a b c d e f)) c.length r).length = c.length := by simp [winV, zcB]
  have hin : inB (winV (zcK (wgV a b c d e f)) c.length r) (j : Int) = true := zcd.2 (by rw [hwl]; exact hji)
  have hg : gI (winV (zcK (wgV a b c d e f)) c.length r) (j : Int) = (((List.range r).countP fun k => zcN (zcK (wgV a b c d e f)) k 0 == (j : Int) : Nat) : Int) := by
   unfold winV
   rw [zdZ (α := Int) _ (by rw [zde]; exact hji)]
   congr 1
   rw [zcA (by rw [zde]; exact hj)]
   simp [zcB]
  have hcl : ((List.range r).countP fun k => zcN (zcK (wgV a b c d e f)) k 0 == (j : Int)) ≤ r := by
   have := List.countP_le_length (p := fun k => zcN (zcK (wgV a b c d e f)) k 0 == (j : Int)) (l := List.range r)
   rwa [List.length_range] at this
  rw [zcf, zj_b506]
  simp only [RT.run, hat]
  rw [if_pos (by simp; omega), hw, if_pos rfl, if_pos (by rw [zcd.2 hji]; rfl), if_neg (by rw [hst, hwl]; simp; omega), if_pos hin, if_pos hin, zcv (by omega), hg, zcv (by omega), show (r : Int) + 1 = ((r + 1 : Nat) : Int) by omega]
  have : sI (winV (zcK (wgV a b c d e f)) c.length r) (j : Int) ((((List.range r).countP fun k => zcN (zcK (wgV a b c d e f)) k 0 == (j : Int) : Nat) : Int) + 1) = winV (zcK (wgV a b c d e f)) c.length (r + 1) := by
   refine row_ext (by rw [sI_len, hwl]; simp [winV, zcB]) fun k hk => ?_
   rw [sI_len, hwl] at hk
   have hki : 0 ≤ (k : Int) ∧ (k : Int) < (c.length : Int) := by omega
   have hgk : ∀ r, gI (winV (zcK (wgV a b c d e f)) c.length r) (k : Int) = (((List.range r).countP fun x => zcN (zcK (wgV a b c d e f)) x 0 == (k : Int) : Nat) : Int) := fun r => by
    unfold winV
    rw [zdZ (α := Int) _ (by rw [zde]; exact hki)]
    congr 1
    rw [zcA (by rw [zde]; exact hk)]
    simp [zcB]
   rw [zgg (by rw [hwl]; exact hji) hki.1, hgk, hgk, List.range_succ, List.countP_append]
   simp only [List.countP_cons, List.countP_nil, h3, Nat.zero_add]
   by_cases hjk : (j : Int) = (k : Int)
   ·rw [if_pos hjk, hjk]
    simp
   ·rw [if_neg hjk, if_neg (by simpa using hjk)]
    simp
  rw [this]
  exact win_loop hw ht hs hbr n (r + 1) (by omega)
theorem chk_loop (hw : wOK a b c d e f = true) {t : Nat} (ht : t ≤ 200) (hs : (zcK (wgV a b c d e f)).sum = t) : ∀ (n i : Nat), i + n = c.length →
  lo zj_b1018 ((t : Int), a, b, c, d, e, f, winV (zcK (wgV a b c d e f)) c.length t) (i : Int) = some (.rt ())
 | 0, i, h => by
  have hwl : (winV (zcK (wgV a b c d e f)) c.length t).length = c.length := by simp [winV, zcB]
  rw [zcf, zj_b1018]
  simp only [RT.run]
  rw [if_neg (by rw [hwl]; simp; omega)]
 | n + 1, i, h => by
  obtain ⟨H, h8⟩ := zdk hw
  have hlc := H.lenC
  have hwl : (winV (zcK (wgV a b c d e f)) c.length t).length = c.length := by simp [winV, zcB]
  have hi : 0 ≤ (i : Int) ∧ (i : Int) < (c.length : Int) := by omega
  have hiw : i < (wgV a b c d e f).length := by rw [zeY]; omega
  have hul : i < (zcK (wgV a b c d e f)).length := by unfold zcK; rw [List.length_map]; exact hiw
  rw [zcf, zj_b1018]
  simp only [RT.run]
  rw [if_pos (by rw [hwl]; simp; omega)]
  by_cases h0 : t = 0
  ·rw [if_pos (by simpa using h0)]
  ·have hg : gI (winV (zcK (wgV a b c d e f)) c.length t) (i : Int) = (upV (zec (wgV a b c d e f)) (gI (wgV a b c d e f) (i : Int)) : Int) := by
    unfold winV
    rw [zdZ (α := Int) _ (by rw [zde]; exact hi), zcA (by rw [zde]; omega)]
    have e1 : (zcB c.length)[i]'(by rw [zde]; omega) = (i : Int) := by simp [zcB]
    rw [e1, ← hs]
    have := cnt_pick (zcK (wgV a b c d e f)) 0 i hul
    rw [Nat.zero_add] at this
    rw [this, List.getD_eq_getElem?_getD, List.getElem?_eq_getElem hul, zcA hiw]
    simp [zcK]
   have hsh := share_ch (L := wgV a b c d e f) (fun q hq => (H.wg_mem q hq).1) (i := (i : Int)) (by rw [zeY]; exact hi) (by rw [hs]; exact h0)
   rw [hs] at hsh
   obtain ⟨s1, s2⟩ := ch_sm H (i : Int)
   have hcmp : zdb ((val B16 (rQ (chV (wgV a b c d e f) (i : Int))).1 * val B16 (rQ (chV (wgV a b c d e f) (i : Int))).2 : Nat) : Int) ((val B16 (rQ (chV (wgV a b c d e f) (i : Int))).1 * val B16 (rQ (chV (wgV a b c d e f) (i : Int))).2 : Nat) : Int) = 0 := cmpI_eq.2 rfl
   rw [if_neg (by simpa using h0), if_pos (zcd.2 (by rw [hwl]; exact hi)), if_pos (by simpa using h0), hw, if_pos rfl, hg, Int.toNat_natCast, Int.toNat_natCast, hsh, zfK s2 (by decide), if_pos (by decide), hcmp, if_neg (by decide), zcc (by omega), show (i : Int) + 1 = ((i + 1 : Nat) : Int) by omega, chk_loop hw ht hs n (i + 1) (by omega)]
end
theorem LotteryCounts_F (a : List Bool) (b : List Tk) (c : List Th) (d : List Lk) (e : List Int) (f : Int) : F_zj (a, b, c, d, e, f) = some true := by
 show (zj _).run _ = _
 rw [zj]
 simp only [RT.run]
 cases hs : smallV a b c d e with
 | false => rw [if_pos (by simp), if_pos (by simp), if_pos (by simp)]
 | true =>
  have hb : b.length ≤ 200 := by
   unfold smallV at hs
   simp only [Bool.and_eq_true, decide_eq_true_eq] at hs
   omega
  rw [if_pos (by rw [decide_eq_true (show b.length ≤ 1000000 by omega)]; rfl), if_pos (by rfl)]
  cases hl : (decide (b.length ≤ 30) && decide (cnt2 b ≤ 8)) with
  | false => rfl
  | true =>
   cases hf : zfk a b c d e f with
   | false => rfl
   | true =>
    rw [if_neg (by decide)]
    have hw : wOK a b c d e f = true := by
     rw [Bool.and_eq_true] at hl
     unfold wOK
     rw [hf, hl.2]; rfl
    obtain ⟨H, h8⟩ := zdk hw
    have hlc := H.lenC
    rw [hw, if_pos rfl]
    by_cases hc : ((((brV (wgV a b c d e f)).2.2.1) != 0) || (decide (200 < (brV (wgV a b c d e f)).2.1))) = true
    ·rw [if_pos hc]
    ·rw [if_neg hc]
     have hbr : brV (wgV a b c d e f) = ((zec (wgV a b c d e f) : Int), ((zcK (wgV a b c d e f)).sum : Int), 0, i64s (zcK (wgV a b c d e f))) := by
      unfold brV
      rw [if_pos]
      refine Classical.byContradiction fun hn => ?_
      refine hc ?_
      unfold brV
      rw [if_neg hn]
      rfl
     have ht : (zcK (wgV a b c d e f)).sum ≤ 200 := by
      rw [hbr] at hc
      simp at hc
      omega
     have l1 := win_loop hw ht rfl hbr (zcK (wgV a b c d e f)).sum 0 (by omega)
     have l2 := chk_loop hw ht rfl c.length 0 (by omega)
     rw [show ((0 : Nat) : Int) = 0 from rfl] at l1 l2
     have h0 : winV (zcK (wgV a b c d e f)) c.length 0 = zcR (c.length : Int) 0 := by
      refine row_ext (by simp [winV, zcB, zcR]) fun k hk => ?_
      have hk' : k < c.length := by simpa [winV, zcB] using hk
      rw [gI_rep (by omega)]
      unfold winV
      rw [zdZ (α := Int) _ (by rw [zde]; omega)]
      rfl
     rw [h0] at l1
     have e1 : (brV (wgV a b c d e f)).2.1 = ((zcK (wgV a b c d e f)).sum : Int) := by rw [hbr]
     rw [e1, if_pos (zdu.2 ⟨by omega, by omega, by omega⟩), l1, Option.bind_some]
     simp only [LR.isRt, LR.getR, if_true]
     rw [l2]
     rfl
end
end Go.Proofs.YtlfdidaeachpoaaGreat
namespace Go.Proofs.YtlfdidaeachpoaaGreat
open Go Go.RowKit
theorem exists_list {α : Type} {Q : Nat → α → Prop} : ∀ (n : Nat), (∀ i, i < n → ∃ x, Q i x) → ∃ xs : List α, xs.length = n ∧ ∀ i (h : i < xs.length), Q i xs[i]
 | 0, _ => ⟨[], rfl, fun i hi => absurd hi (Nat.not_lt_zero i)⟩
 | n + 1, h => by
  obtain ⟨xs, h1, h2⟩ := exists_list n fun i hi => h i (by omega)
  obtain ⟨x, hx⟩ := h n (by omega)
  refine ⟨xs ++ [x], by simp [h1], fun i hi => ?_⟩
  by_cases hin : i < xs.length
  ·rw [List.getElem_append_left hin]
   exact h2 i hin
  ·have : i = n := by simp at hi; omega
   subst this
   rw [List.getElem_append_right (by omega)]
   simpa [h1] using hx
theorem cell_at {w : World} {a : Addr} {u : Value} (h : w.cell? a = some u) : a.spot = none ∧ a.block < w.heap.size := by
 unfold World.cell? at h
 split at h
 ·rename_i c _ _ hb
  split at h
  ·cases h
  ·rename_i hs
   refine ⟨by simpa using hs, ?_⟩
   apply Decidable.byContradiction
   intro hlt
   rw [Array.getElem?_eq_none (Nat.le_of_not_lt hlt)] at hb
   cases hb
 ·cases h
theorem add_block (a : Addr) (n : Nat) : (a.add n).block = a.block := by
 unfold Addr.add
 split <;> rfl
theorem add_plain (b o n : Nat) : Addr.add ⟨b, o, none⟩ n = ⟨b, o + n, none⟩ := by
 unfold Addr.add
 split
 ·rename_i h; subst h; rfl
 ·rfl
def inHeap (w : World) : Nat → Prop := fun b => b < w.heap.size
section
variable {H : Type} {enc : TypeId × Value → H} {P : Program} {w : World} {held : Bool}
theorem fields_rep {g : TypeId → Option Ty} {fuel : Nat} {cs : List Value}
  (ih : ∀ (t : TypeId) (ty : Ty) (cs : List Value) (y : DataW H × List MemPlace), g t = some ty → P.cellsOf t = ty.size → DataW.trod enc P w 0 (fun _ => true) held fuel t cs = some y → ∃ x, zcE w (inHeap w) ty cs x) :
  ∀ (fs : List Field) (off : Nat) (ty : Ty), tyFs P g fs off = some ty → (∀ f ∈ fs, ∃ y, DataW.trod enc P w 0 (fun _ => true) held fuel f.type ((cs.drop f.offset).take (P.cellsOf f.type)) = some y) →
   ∃ x, zcE w (inHeap w) ty ((cs.drop off).take ty.size) x
 | [], _, _, h, _ => by cases h
 | f :: fs, off, ty, h, hf => by
  unfold tyFs at h
  split at h
  ·cases h
  ·rename_i a ha
   split at h
   ·rename_i hc
    obtain ⟨y, hy⟩ := hf f (List.mem_cons_self ..)
    rw [hc.1, hc.2] at hy
    obtain ⟨x, hx⟩ := ih f.type a _ y ha hc.2 hy
    split at h
    ·cases h
     exact ⟨x, hx⟩
    ·rename_i f' fs'
     split at h
     ·rename_i b hb
      cases h
      obtain ⟨x', hx'⟩ := fields_rep ih (f' :: fs') (off + a.size) b hb fun z hz => hf z (List.mem_cons_of_mem _ hz)
      refine ⟨(x, x'), _, _, ?_, hx, hx'⟩
      show (cs.drop off).take (a.size + b.size) = _
      rw [List.take_add, List.drop_drop]
     ·cases h
   ·cases h
theorem trod_rep : ∀ (n : Nat) (t : TypeId) (ty : Ty) (fuel : Nat) (cs : List Value) (y : DataW H × List MemPlace), tyOf P n t = some ty → P.cellsOf t = ty.size → DataW.trod enc P w 0 (fun _ => true) held fuel t cs = some y → ∃ x, zcE w (inHeap w) ty cs x := by
 intro n
 induction n with
 | zero => intro t ty fuel cs y h; cases h
 | succ n ih =>
  intro t ty fuel cs y ht hsz h
  unfold tyOf at ht
  split at ht
  ·rename_i k hu
   cases ht
   obtain ⟨m, rfl, _, hw⟩ := DataW.trod_int hu h
   exact ⟨m, rfl, hw⟩
  ·rename_i hu
   cases ht
   obtain ⟨b, rfl, _⟩ := DataW.trod_bool hu h
   exact ⟨b, rfl⟩
  ·rename_i hu
   cases ht
   obtain ⟨s, rfl, _, hs⟩ := DataW.trod_string hu h
   exact ⟨s, rfl, hs⟩
  ·rename_i e hu
   split at ht
   ·rename_i a ha
    split at ht
    ·rename_i hc
     cases ht
     rcases DataW.trod_slice hu h with ⟨rfl, _⟩ | ⟨ad, len, cap, elems, rest, m, _, rfl, _, _, hlc, hcm, hlen, hel, _, _⟩
     ·exact ⟨[], none, 0, rfl, Nat.le_refl _, Nat.zero_le _, fun _ => rfl, fun i hi => absurd hi (Nat.not_lt_zero i)⟩
     ·have hpos := a.size_pos
      have had : 0 < len → ad.spot = none := by
       intro h0
       have h1 := hel 0 h0
       rw [List.getElem?_eq_getElem (by omega), Option.bind_eq_some_iff] at h1
       obtain ⟨us, hus, _⟩ := h1
       obtain ⟨_, hl, hcell⟩ := World.cells?_some hus
       have c0 := hcell 0 (by omega)
       rw [List.getElem?_eq_getElem (by omega), Nat.zero_mul] at c0
       exact (cell_at c0).1
      have each : ∀ i, i < len → ∃ x : a.den, ∃ b o us, (some ad : Option Addr) = some ⟨b, o, none⟩ ∧ inHeap w b ∧ us.length = a.size ∧ Mem w b (o + i * a.size) us ∧ zcE w (inHeap w) a us x := by
       intro i hi
       have h1 := hel i hi
       rw [List.getElem?_eq_getElem (by omega), Option.bind_eq_some_iff] at h1
       obtain ⟨us, hus, hy⟩ := h1
       obtain ⟨_, hl, hcell⟩ := World.cells?_some hus
       obtain ⟨x, hx⟩ := ih e a m us _ ha hc hy
       have c0 := hcell 0 (by omega)
       rw [List.getElem?_eq_getElem (by omega)] at c0
       have hb := (cell_at c0).2
       rw [add_block, add_block] at hb
       have hsp := had (by omega)
       obtain ⟨b, o, sp⟩ := ad
       simp only at hsp
       subst hsp
       refine ⟨x, b, o, us, rfl, hb, by omega, fun j u hu' => ?_, hx⟩
       have hj : j < us.length := by
        apply Decidable.byContradiction
        intro hn
        rw [List.getElem?_eq_none (by omega)] at hu'
        cases hu'
       have := hcell j (by omega)
       rw [hu', add_plain, add_plain] at this
       rw [← hc]
       exact this
      obtain ⟨xs, hxl, hxs⟩ := exists_list len each
      refine ⟨xs, some ad, cap, by rw [hxl], by omega, hcm, (fun h => by cases h), fun i hi => ?_⟩
      obtain ⟨b, o, us, h1, h2, h3, h4, h5⟩ := hxs i hi
      exact ⟨b, o, us, h1, h2, h3, h4, h5⟩
    ·cases ht
   ·cases ht
  ·rename_i fs hu
   obtain ⟨xs, m, _, _, hl, hxl, hf⟩ := DataW.trod_struct hu h
   obtain ⟨x, hx⟩ := fields_rep (enc := enc) (held := held) (fuel := m) (cs := cs) (fun t ty cs y h1 h2 h3 => ih t ty m cs y h1 h2 h3) fs.toList 0 ty ht (fun f hf' => by
    obtain ⟨i, hi, rfl⟩ := List.mem_iff_getElem.1 hf'
    have hi' : i < fs.size := by simpa using hi
    have := hf i fs.toList[i] (by simp [hi'])
    rw [List.getElem?_eq_getElem (by omega)] at this
    exact ⟨_, this⟩)
   refine ⟨x, ?_⟩
   rw [List.drop_zero, List.take_of_length_le (by omega)] at hx
   exact hx
  ·cases ht
end
theorem callPost_below {w : World} {ok : Nat → Prop} {n : Nat} {r : zdE} {v : Value} {w' : World} {β' : Nat → Option Value} {ok' : Nat → Prop} (h : zgW w (fun _ => none) ok n r v w' β' ok') : Below w.heap.size w w' :=
 ⟨h.os, h.tape, h.output, h.size, fun k hk => h.block k hk (fun _ _ _ e => by cases e)⟩
end Go.Proofs.YtlfdidaeachpoaaGreat
