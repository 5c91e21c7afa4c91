/- Part 4 of the walk and of the plain law. -/
import Derived.Test.YtlfdidaeachpoaaGreatCCT3
import Derived.RangeFuncNested
import Derived.Test.YtlfdidaeachpoaaGreatCCT2
import Derived.RangeFuncBox
import Derived.RangeFuncLeaves
import Derived.Shelf.Abstract
import Derived.WalkKit
import Derived.OwnWalkIn
import Derived.TacticsInMore
import Derived.LoopNIn
import Derived.LoopIn
import Derived.Test.YtlfdidaeachpoaaGreatProg
set_option linter.unusedSimpArgs false
set_option linter.unusedVariables false
namespace Go.Proofs.YtlfdidaeachpoaaGreat
open Go Go.RowKit
set_option maxRecDepth 100000
noncomputable section
theorem gcd_okL {a b : List Int} {k : Nat} (ha : wfd B32 a = true) (hb : wfd B32 b = true) (h1 : okL k a = true) (h2 : okL k b = true) : okL k (digs B32 (Nat.gcd (val B32 a) (val B32 b))) = true := by
  by_cases h0 : val B32 a = 0
  · rw [h0, Nat.gcd_zero_left]; exact okL_digs hb h2
  · exact okL_le (Nat.gcd_le_left _ (Nat.pos_of_ne_zero h0)) (okL_digs ha h1)
theorem digs_nil {b n : Nat} (hb : 2 ≤ b) : (digs b n).length = 0 ↔ n = 0 := by
  constructor
  · intro h
    apply Nat.eq_zero_of_not_pos
    intro hp
    rw [digs_pos hb hp] at h
    simp at h
  · rintro rfl; rfl
def ratio_Make : ((List Int) × (List Int)) → RT Unit (Bool × (List Int) × (List Int))
| (num, den) =>
 .rq 4 (.req (okL 38 num && okL 38 den) (.rq 3 (.req (okL 38 den && okL 38 (digs B32 (Nat.gcd (val B32 num) (val B32 den)))) (.rq 14 (let t0 := divRes (val B32 den) (val B32 (digs B32 (Nat.gcd (val B32 num) (val B32 den))));
 .ite ((!t0.1) || ((t0.2.1.length : Int) == 0))
 (.rq 3 (.done (false, [], [])))
 (.rq 2 (.req (okL 38 num && okL 38 (digs B32 (Nat.gcd (val B32 num) (val B32 den)))) (.rq 12 (.done (true, (divRes (val B32 num) (val B32 (digs B32 (Nat.gcd (val B32 num) (val B32 den))))).2.1, t0.2.1))))))))))
def F_ratio_Make (x : (List Int) × (List Int)) : Option (Bool × (List Int) × (List Int)) := (ratio_Make x).run fun _ => none
def io_ratio_Make : Io := ⟨n_ratio_Make, [.sl tV, .sl tV], [.lf (qm 0), .lf (qm 1)], [], [[.sl tV], [.sl tV]], [tB, .sl tV, .sl tV], .tup [(true, [qr 0, qr 1]), (false, [qm 0])], [], [(true, .arr 122 (qm 1)), (true, .arr 122 (qm 2))], false⟩
def ratio_Make_P : List Piece := []
def ratio_Make_T : CallT := tab [e_nat_Gcd, e_nat_Div]
theorem ratio_Make_To : SoundT pg ratio_Make_T := tab_sound ⟨e_nat_Gcd_ok, e_nat_Div_ok, trivial⟩
theorem ratio_Make_go : FnOK pg (ratio_Make_T) io_ratio_Make f_ratio_Make (ratio_Make_P) [.cellRow 64 0 600064 122 tV, .cellRow 64 1 600065 122 tV, .cellRen 64 0 600064, .cellRen 64 1 600065] (ratio_Make) := ⟨by kernel_rfl, by kernel_rfl, fun x => by kernel_rfl⟩
theorem ok_ratio_Make : io_ratio_Make.Okay pg (F_ratio_Make) := fn_ok pg_mixed (ratio_Make_To) (ratio_Make_go) trivial
def mkR (n d : Nat) : Bool × List Int × List Int := if d = 0 then (false, [], []) else (true, rq (mkRat (n : Int) d))
def e_ratio_Make : Entry := io_ratio_Make.sp (fun (n, d) => okL 36 n && okL 36 d) (fun (n, d) => mkR (val B32 n) (val B32 d))
theorem sp_ratio_Make (h : ∀ (n : List Int) (d : List Int), WfT [.sl tV, .sl tV] (n, d) → (okL 36 n && okL 36 d) = true → (ratio_Make (n, d)).run (fun _ => none) = some (mkR (val B32 n) (val B32 d))) : e_ratio_Make.ok pg := sp_ok ok_ratio_Make fun (n, d) hw hc => h n d hw hc
theorem e_ratio_Make_ok : e_ratio_Make.ok pg := sp_ratio_Make fun n d hw hc => by
  have hn : wfd B32 n = true := wfd_of hw.1
  have hd : wfd B32 d = true := wfd_of hw.2
  rw [Bool.and_eq_true] at hc
  have l1 := okL_mono (m := 38) (by decide) hc.1
  have l2 := okL_mono (m := 38) (by decide) hc.2
  have hg := gcd_okL hn hd l1 l2
  rw [ratio_Make]
  simp only [RT.run, l1, l2, hg, Bool.and_self, if_true, val_digs (show 2 ≤ B32 by decide)]
  generalize val B32 n = N at *
  generalize val B32 d = D at *
  unfold mkR
  by_cases h0 : D = 0
  · subst h0
    rw [if_pos rfl]
    by_cases hn0 : N = 0
    · subst hn0; rfl
    · simp [divRes, hn0, digs_zero]
  · rw [if_neg h0]
    have hgp : Nat.gcd N D ≠ 0 := Nat.ne_of_gt (Nat.gcd_pos_of_pos_right _ (Nat.pos_of_ne_zero h0))
    have hq : D / Nat.gcd N D ≠ 0 := Nat.ne_of_gt (Nat.div_pos (Nat.gcd_le_right _ (Nat.pos_of_ne_zero h0)) (Nat.pos_of_ne_zero hgp))
    rw [divRes, if_neg hgp, divRes, if_neg hgp, rq_mkRat h0]
    simp only [Bool.not_true, Bool.false_or]
    rw [if_neg (by
      simp only [beq_iff_eq]
      intro e
      exact hq ((digs_nil (b := B32) (by decide)).1 (by omega)))]
def ratio_Zero : Unit → RT Unit (List Int)
| _ =>
 .rq 4 (.done (digs B32 (1 : Int).toNat))
def F_ratio_Zero (x : Unit) : Option (List Int) := (ratio_Zero x).run fun _ => none
def io_ratio_Zero : Io := ⟨n_ratio_Zero, [], [], [], [], [.sl tV], .agg [.fix (.nil), qr 0], [], [(true, .arr 122 (qm 0))], false⟩
def ratio_Zero_P : List Piece := []
def ratio_Zero_T : CallT := tab [e_nat_Of]
theorem ratio_Zero_To : SoundT pg ratio_Zero_T := tab_sound ⟨e_nat_Of_ok, trivial⟩
theorem ratio_Zero_go : FnOK pg (ratio_Zero_T) io_ratio_Zero f_ratio_Zero (ratio_Zero_P) [.cellRow 0 1 600001 122 tV, .cellRen 0 1 600001] (ratio_Zero) := ⟨by kernel_rfl, by kernel_rfl, fun x => by kernel_rfl⟩
theorem ok_ratio_Zero : io_ratio_Zero.Okay pg (F_ratio_Zero) := fn_ok pg_mixed (ratio_Zero_To) (ratio_Zero_go) trivial
def e_ratio_Zero : Entry := io_ratio_Zero.sp (fun _ => true) (fun _ => digs B32 1)
theorem sp_ratio_Zero (h : (ratio_Zero ()).run (fun _ => none) = some (digs B32 1)) : e_ratio_Zero.ok pg := sp_ok ok_ratio_Zero fun _ _ hc => h
theorem e_ratio_Zero_ok : e_ratio_Zero.ok pg := sp_ratio_Zero (by
  rw [ratio_Zero]; rfl)
theorem rq_zero : rq 0 = ([], digs B32 1) := rfl
theorem rq_one : rq 1 = (digs B32 1, digs B32 1) := rfl
def ratio_one : Unit → RT Unit ((List Int) × (List Int))
| _ =>
 .rq 5 (.done (digs B32 (1 : Int).toNat, digs B32 (1 : Int).toNat))
def F_ratio_one (x : Unit) : Option ((List Int) × (List Int)) := (ratio_one x).run fun _ => none
def io_ratio_one : Io := ⟨n_ratio_one, [], [], [], [], [.sl tV, .sl tV], .agg [qr 0, qr 1], [], [(true, .arr 122 (qm 0)), (true, .arr 122 (qm 1))], false⟩
def ratio_one_P : List Piece := []
def ratio_one_T : CallT := tab [e_nat_Of]
theorem ratio_one_To : SoundT pg ratio_one_T := tab_sound ⟨e_nat_Of_ok, trivial⟩
theorem ratio_one_go : FnOK pg (ratio_one_T) io_ratio_one f_ratio_one (ratio_one_P) [.cellRow 0 0 600000 122 tV, .cellRow 0 1 600001 122 tV, .cellRen 0 0 600000, .cellRen 0 1 600001] (ratio_one) := ⟨by kernel_rfl, by kernel_rfl, fun x => by kernel_rfl⟩
theorem ok_ratio_one : io_ratio_one.Okay pg (F_ratio_one) := fn_ok pg_mixed (ratio_one_To) (ratio_one_go) trivial
def e_ratio_one : Entry := io_ratio_one.sp (fun _ => true) (fun _ => rq 1)
theorem sp_ratio_one (h : (ratio_one ()).run (fun _ => none) = some (rq 1)) : e_ratio_one.ok pg := sp_ok ok_ratio_one fun _ _ hc => h
theorem e_ratio_one_ok : e_ratio_one.ok pg := sp_ratio_one (by
  rw [ratio_one, rq_one]; rfl)
def ratio_Of : (Int × Int) → RT Unit (Bool × (List Int) × (List Int))
| (n, d) =>
 .rq 6 (.req (okL 36 (digs B32 n.toNat) && okL 36 (digs B32 d.toNat)) (.rq 4 (let t0 := mkR (val B32 (digs B32 n.toNat)) (val B32 (digs B32 d.toNat));
 .done (t0.1, t0.2.1, t0.2.2))))
def F_ratio_Of (x : Int × Int) : Option (Bool × (List Int) × (List Int)) := (ratio_Of x).run fun _ => none
def io_ratio_Of : Io := ⟨n_ratio_Of, [tU, tU], [.lf (qm 0), .lf (qm 1)], [], [[tU], [tU]], [tB, .sl tV, .sl tV], .tup [(true, [qr 0, qr 1]), (false, [qm 0])], [], [(true, .arr 122 (qm 1)), (true, .arr 122 (qm 2))], false⟩
def ratio_Of_P : List Piece := []
def ratio_Of_T : CallT := tab [e_ratio_Make, e_nat_Of]
theorem ratio_Of_To : SoundT pg ratio_Of_T := tab_sound ⟨e_ratio_Make_ok, e_nat_Of_ok, trivial⟩
theorem ratio_Of_go : FnOK pg (ratio_Of_T) io_ratio_Of f_ratio_Of (ratio_Of_P) [.cellRow 64 0 600064 122 tV, .cellRow 64 1 600065 122 tV, .cellRen 64 0 600064, .cellRen 64 1 600065] (ratio_Of) := ⟨by kernel_rfl, by kernel_rfl, fun x => by kernel_rfl⟩
theorem ok_ratio_Of : io_ratio_Of.Okay pg (F_ratio_Of) := fn_ok pg_mixed (ratio_Of_To) (ratio_Of_go) trivial
theorem okL_word {n : Int} (h : 0 ≤ n ∧ n < 18446744073709551616) : okL 36 (digs B32 n.toNat) = true := by
  have : n.toNat < B32 ^ 2 := by rw [show B32 ^ 2 = 18446744073709551616 from rfl]; omega
  have := digs_len this
  rw [okL36]
  omega
def e_ratio_Of : Entry := io_ratio_Of.sp (fun (n, d) => true) (fun (n, d) => mkR n.toNat d.toNat)
theorem sp_ratio_Of (h : ∀ (n : Int) (d : Int), WfT [tU, tU] (n, d) → (ratio_Of (n, d)).run (fun _ => none) = some (mkR n.toNat d.toNat)) : e_ratio_Of.ok pg := sp_ok ok_ratio_Of fun (n, d) hw hc => h n d hw
theorem e_ratio_Of_ok : e_ratio_Of.ok pg := sp_ratio_Of fun n d hw => by
  rw [ratio_Of]
  simp only [RT.run, okL_word hw.1, okL_word hw.2, Bool.and_self, if_true, val_digs (show 2 ≤ B32 by decide)]
def okr (n d : List Int) : Bool := okL 30 n && (okL 30 d && decide (val B32 d ≠ 0))
theorem okr_iff {n d : List Int} : okr n d = true ↔ n.length ≤ 2 ^ 30 ∧ d.length ≤ 2 ^ 30 ∧ val B32 d ≠ 0 := by simp [okr, okL_iff]
theorem toQ_add {a0 a1 b0 b1 : List Int} (h1 : val B32 a1 ≠ 0) (h2 : val B32 b1 ≠ 0) : mkRat ((val B32 a0 * val B32 b1 + val B32 b0 * val B32 a1 : Nat) : Int) (val B32 a1 * val B32 b1) = toQ a0 a1 + toQ b0 b1 := by
  unfold toQ
  rw [Rat.mkRat_add_mkRat _ _ h1 h2]
  simp only [Int.natCast_add, Int.natCast_mul]
theorem toQ_mul {a0 a1 b0 b1 : List Int} : mkRat ((val B32 a0 * val B32 b0 : Nat) : Int) (val B32 a1 * val B32 b1) = toQ a0 a1 * toQ b0 b1 := by
  unfold toQ
  rw [Rat.mkRat_mul_mkRat, Int.natCast_mul]
theorem prod2 (a b : List Int) : prodV [a, b] = val B32 a * val B32 b := by simp [prodV]
theorem mul_len {a b : List Int} (ha : wfd B32 a = true) (hb : wfd B32 b = true) : (digs B32 (val B32 a * val B32 b)).length ≤ a.length + b.length := by
  refine digs_len ?_
  rw [Nat.pow_add]
  exact Nat.mul_lt_mul'' (val_lt (by decide) ha) (val_lt (by decide) hb)
theorem add_len {m n k : Nat} (h1 : (digs B32 m).length ≤ k) (h2 : (digs B32 n).length ≤ k) : (digs B32 (m + n)).length ≤ k + 1 := by
  have lt1 := val_lt (b := B32) (by decide) (wfd_digs (by decide) m)
  have lt2 := val_lt (b := B32) (by decide) (wfd_digs (by decide) n)
  rw [val_digs (by decide)] at lt1 lt2
  have l1 : m < B32 ^ k := Nat.lt_of_lt_of_le lt1 (Nat.pow_le_pow_right (by decide) h1)
  have l2 : n < B32 ^ k := Nat.lt_of_lt_of_le lt2 (Nat.pow_le_pow_right (by decide) h2)
  refine digs_len ?_
  rw [Nat.pow_succ]
  generalize B32 ^ k = z at *
  rw [show B32 = 4294967296 from rfl]
  omega
def ratio_plus : ((List Int) × (List Int) × (List Int) × (List Int)) → RT Unit ((List Int) × (List Int))
| (a_0, a_1, b_0, b_1) =>
 .rq 8 (.req (okMs [a_0, b_1]) (.rq 5 (.req (okMs [b_0, a_1]) (.rq 1 (let t0 := [digs B32 (prodV [a_0, b_1]), digs B32 (prodV [b_0, a_1])];
 .req (okLs t0) (.rq 5 (.req (okMs [a_1, b_1]) (let t1 := digs B32 (prodV [a_1, b_1]);
 let t2 := digs B32 (sumV t0);
 .req (okL 36 t2 && okL 36 t1) (.rq 8 (let t3 := mkR (val B32 t2) (val B32 t1);
 .done (t3.2.1, t3.2.2)))))))))))
def F_ratio_plus (x : (List Int) × (List Int) × (List Int) × (List Int)) : Option ((List Int) × (List Int)) := (ratio_plus x).run fun _ => none
def io_ratio_plus : Io := ⟨n_ratio_plus, [.sl tV, .sl tV, .sl tV, .sl tV], [.agg [qm 0, qm 1], .agg [qm 2, qm 3]], [], [[.sl tV, .sl tV], [.sl tV, .sl tV]], [.sl tV, .sl tV], .agg [qr 0, qr 1], [], [(true, .arr 122 (qm 0)), (true, .arr 122 (qm 1))], false⟩
def ratio_plus_P : List Piece := []
def ratio_plus_T : CallT := tab [e_ratio_Make, e_nat_Mul, e_nat_Add]
theorem ratio_plus_To : SoundT pg ratio_plus_T := tab_sound ⟨e_ratio_Make_ok, e_nat_Mul_ok, e_nat_Add_ok, trivial⟩
theorem ratio_plus_go : FnOK pg (ratio_plus_T) io_ratio_plus f_ratio_plus (ratio_plus_P) [.cellRow 64 0 600064 122 tV, .cellRow 64 1 600065 122 tV, .cellRen 64 0 600064, .cellRen 64 1 600065] (ratio_plus) := ⟨by kernel_rfl, by kernel_rfl, fun x => by kernel_rfl⟩
theorem ok_ratio_plus : io_ratio_plus.Okay pg (F_ratio_plus) := fn_ok pg_mixed (ratio_plus_To) (ratio_plus_go) trivial
def e_ratio_plus : Entry := io_ratio_plus.sp (fun (a0, a1, b0, b1) => okr a0 a1 && okr b0 b1) (fun (a0, a1, b0, b1) => rq (toQ a0 a1 + toQ b0 b1))
theorem sp_ratio_plus (h : ∀ (a0 : List Int) (a1 : List Int) (b0 : List Int) (b1 : List Int), WfT [.sl tV, .sl tV, .sl tV, .sl tV] (a0, a1, b0, b1) → (okr a0 a1 && okr b0 b1) = true → (ratio_plus (a0, a1, b0, b1)).run (fun _ => none) = some (rq (toQ a0 a1 + toQ b0 b1))) : e_ratio_plus.ok pg := sp_ok ok_ratio_plus fun (a0, a1, b0, b1) hw hc => h a0 a1 b0 b1 hw hc
theorem e_ratio_plus_ok : e_ratio_plus.ok pg := sp_ratio_plus fun a0 a1 b0 b1 hw h => by
  have w0 : wfd B32 a0 = true := wfd_of hw.1
  have w1 : wfd B32 a1 = true := wfd_of hw.2.1
  have w2 : wfd B32 b0 = true := wfd_of hw.2.2.1
  have w3 : wfd B32 b1 = true := wfd_of hw.2.2.2
  simp only [Bool.and_eq_true, okr_iff] at h
  obtain ⟨⟨p1, p2, p3⟩, q1, q2, q3⟩ := h
  have m1 := mul_len w0 w3
  have m2 := mul_len w2 w1
  have m3 := mul_len w1 w3
  have s := add_len (k := 2147483648) (Nat.le_trans m1 (by omega)) (Nat.le_trans m2 (by omega))
  rw [ratio_plus]
  simp only [RT.run, prod2, val_digs (show 2 ≤ B32 by decide), sumV, List.map_cons, List.map_nil, List.sum_cons, List.sum_nil, Nat.add_zero]
  rw [if_pos (by rw [okMs_iff]; simp [lenS]; omega), if_pos (by rw [okMs_iff]; simp [lenS]; omega), if_pos (by rw [okLs_iff]; simp; omega), if_pos (by rw [okMs_iff]; simp [lenS]; omega),
    if_pos (by rw [Bool.and_eq_true, okL36, okL36]; omega)]
  rw [mkR, if_neg (Nat.mul_ne_zero p3 q3), ← toQ_add p3 q3]
def sumQ (l : List (List Int × List Int)) : Rat := l.foldl (fun q x => q + toQ x.1 x.2) 0
def prodQ (l : List (List Int × List Int)) : Rat := l.foldl (fun q x => q * toQ x.1 x.2) 1
def szS (l : List (List Int × List Int)) : Nat := (l.map fun x => 32 * (x.1.length + x.2.length) + 1).sum
theorem sm_toQ {n d : List Int} (hn : wfd B32 n = true) (hd : wfd B32 d = true) (h0 : val B32 d ≠ 0) : sm (32 * (n.length + d.length)) (toQ n d) := by
  have l1 := val_lt (by decide) hn
  have l2 := val_lt (by decide) hd
  rw [pow32] at l1 l2
  exact sm_mkRat h0 (Nat.lt_of_lt_of_le l1 (Nat.pow_le_pow_right (by decide) (by omega))) (Nat.lt_of_lt_of_le l2 (Nat.pow_le_pow_right (by decide) (by omega)))
theorem toQ_nonneg (n d : List Int) : 0 ≤ toQ n d := mkRat_nonneg _ _
theorem okr_rq {q : Rat} {k : Nat} (h : sm k q) (hk : k ≤ 1073741824) : okr (rq q).1 (rq q).2 = true := by
  rw [okr_iff, rq_den]
  have a := digs_len2 (b := B32) (by decide) h.1
  have b := digs_len2 (b := B32) (by decide) h.2
  exact ⟨Nat.le_trans a hk, Nat.le_trans b hk, q.den_nz⟩
def ratio_Add_b58 : ((List ((List Int) × List Int)) × Int) → (Int × (List Int) × (List Int)) → RT (Int × (List Int) × (List Int)) ((List Int) × (List Int))
| (x7, x8), (x9, r48, r49) =>
 .rq 1 (.ite (decide (x9 < x8))
 (.req (inB x7 x9) (.rq 5 (.req (okr r48 r49 && okr (gI x7 x9).1 (gI x7 x9).2) (.rq 3 (let t0 := rq (toQ r48 r49 + toQ (gI x7 x9).1 (gI x7 x9).2);
 .again (w64 (x9 + 1), t0.1, t0.2))))))
 (.done (r48, r49)))
def ratio_Add_p58 : Piece := ⟨58, true, [.sl (.pair (.sl tV) (.sl tV)), tI], [tI, .sl tV, .sl tV], ⟨[.keep [2, 3, 7, 8, 9], .gc, .cellRow 48 0 600048 122 tV, .cellRow 48 1 600049 122 tV, .cellRen 48 0 600048, .cellRen 48 1 600049, .gc], [2, 3, 7, 8, 9], [.lf (qp 32), .lf (qp 48), .lf (qi 0), .lf (qi 1), .lf (qm 0)], [(32, true, .cells [.fix (.nil), .fix (.nil)]), (48, true, .cells [qr 600048, qr 600049]), (600048, true, .arr 122 (qm 1)), (600049, true, .arr 122 (qm 2))]⟩, [⟨2, ⟨[.keep [2, 3], .gc, .cellRow 48 0 600048 122 tV, .cellRow 48 1 600049 122 tV, .cellRen 48 0 600048, .cellRen 48 1 600049, .gc], [2, 3], [.lf (qp 32), .lf (qp 48)], [(32, true, .cells [.fix (.nil), .fix (.nil)]), (48, true, .cells [qr 600048, qr 600049]), (600048, true, .arr 122 (qm 0)), (600049, true, .arr 122 (qm 1))]⟩, [.sl tV, .sl tV]⟩], ratio_Add_b58⟩
def ratio_Add : (List ((List Int) × List Int)) → RT Unit ((List Int) × (List Int))
| l =>
 .rq 7 (.call (lo ratio_Add_b58 (l, (l.length : Int)) (0, [], digs B32 1)) default fun v0 =>
 .rq 2 (.done (v0.1, v0.2)))
def F_ratio_Add (x : (List ((List Int) × List Int))) : Option ((List Int) × (List Int)) := (ratio_Add x).run fun _ => none
def io_ratio_Add : Io := ⟨n_ratio_Add, [.sl (.pair (.sl tV) (.sl tV))], [.lf (qm 0)], [], [[.sl (.pair (.sl tV) (.sl tV))]], [.sl tV, .sl tV], .agg [qr 0, qr 1], [], [(true, .arr 122 (qm 0)), (true, .arr 122 (qm 1))], false⟩
def ratio_Add_P : List Piece := [ratio_Add_p58]
def ratio_Add_T : CallT := tab [e_ratio_plus, e_ratio_Zero]
theorem ratio_Add_To : SoundT pg ratio_Add_T := tab_sound ⟨e_ratio_plus_ok, e_ratio_Zero_ok, trivial⟩
theorem ratio_Add_k58 : (ratio_Add_p58).OK pg (ratio_Add_T) (tell 18 (ratio_Add_P)) (codeOf f_ratio_Add) 18 := ⟨by kernel_rfl, fun i x => by kernel_rfl⟩
theorem ratio_Add_go : FnOK pg (ratio_Add_T) io_ratio_Add f_ratio_Add (ratio_Add_P) [.cellRow 32 0 600032 122 tV, .cellRow 32 1 600033 122 tV, .cellRen 32 0 600032, .cellRen 32 1 600033] (ratio_Add) := ⟨by kernel_rfl, by kernel_rfl, fun x => by kernel_rfl⟩
theorem ok_ratio_Add : io_ratio_Add.Okay pg (F_ratio_Add) := fn_ok pg_mixed (ratio_Add_To) (ratio_Add_go) ⟨ratio_Add_k58, trivial⟩
theorem addQ_l (l : List (List Int × List Int)) (hw : ∀ x ∈ l, wfd B32 x.1 = true ∧ wfd B32 x.2 = true) (hl : l.length ≤ 1048576) (hd : ∀ x ∈ l, okr x.1 x.2 = true) : ∀ (r i : Nat) (q : Rat) (k : Nat), i + r = l.length → 0 ≤ q → sm k q → k + szS (l.drop i) ≤ 1073741824 →
    lo ratio_Add_b58 (l, (l.length : Int)) ((i : Int), rq q) = some (rq ((l.drop i).foldl (fun q x => q + toQ x.1 x.2) q))
  | 0, i, q, k, h, _, _, _ => by
    show lo ratio_Add_b58 (l, (l.length : Int)) ((i : Int), (rq q).1, (rq q).2) = _
    rw [lo_eq, ratio_Add_b58]
    simp only [RT.run]
    rw [if_neg (by simp; omega), List.drop_of_length_le (by omega)]
    rfl
  | r + 1, i, q, k, h, hq, hs, hk => by
    show lo ratio_Add_b58 (l, (l.length : Int)) ((i : Int), (rq q).1, (rq q).2) = _
    rw [lo_eq, ratio_Add_b58]
    have hi : i < l.length := by omega
    have w5 : w64 ((i : Int) + 1) = ((i + 1 : Nat) : Int) := by rw [w64_in] <;> omega
    have hx := List.getElem_mem hi
    rw [List.drop_eq_getElem_cons hi, szS, List.map_cons, List.sum_cons] at hk
    simp only [RT.run, w5, gI_lt hi]
    rw [if_pos (by simp; omega), if_pos (by rw [inB_nat]; simp; omega), if_pos (by rw [okr_rq hs (by omega), hd _ hx]; rfl), toQ_rq hq]
    have hn := toQ_nonneg l[i].1 l[i].2
    have hs' := sm_add hq hn hs (sm_toQ (hw _ hx).1 (hw _ hx).2 (okr_iff.1 (hd _ hx)).2.2)
    have := addQ_l l hw hl hd r (i + 1) (q + toQ l[i].1 l[i].2) _ (by omega) (Rat.add_nonneg hq hn) hs' (by rw [szS]; omega)
    rw [List.drop_eq_getElem_cons hi, List.foldl_cons, ← this]
def okS (l : List (List Int × List Int)) : Bool := okL 20 l && (l.all (fun x => okr x.1 x.2) && decide (szS l ≤ 1073741823))
theorem okS_iff {l : List (List Int × List Int)} : okS l = true ↔ l.length ≤ 1048576 ∧ (∀ x ∈ l, okr x.1 x.2 = true) ∧ szS l ≤ 1073741823 := by simp [okS, okL20]
theorem wfr {l : List (List Int × List Int)} (h : Wf (.sl (.pair (.sl tV) (.sl tV))) l) : ∀ x ∈ l, wfd B32 x.1 = true ∧ wfd B32 x.2 = true := fun x hx => ⟨wfd_of (h.2 x hx).1, wfd_of (h.2 x hx).2⟩
def e_ratio_Add : Entry := io_ratio_Add.sp (fun l => okS l) (fun l => rq (sumQ l))
theorem sp_ratio_Add (h : ∀ (l : List ((List Int) × List Int)), WfT [.sl (.pair (.sl tV) (.sl tV))] l → (okS l) = true → (ratio_Add l).run (fun _ => none) = some (rq (sumQ l))) : e_ratio_Add.ok pg := sp_ok ok_ratio_Add fun l hw hc => h l hw hc
theorem e_ratio_Add_ok : e_ratio_Add.ok pg := sp_ratio_Add fun l hw hc => by
  rw [okS_iff] at hc
  rw [ratio_Add]
  have h : lo ratio_Add_b58 (l, (l.length : Int)) (0, [], digs B32 1) = _ := addQ_l l (wfr hw) hc.1 hc.2.1 l.length 0 0 1 (by omega) (by decide) (by unfold sm; decide) (by rw [List.drop_zero]; omega)
  simp only [RT.run]
  rw [h]
  rfl
def ratio_Mul_b58 : ((List ((List Int) × List Int)) × Int) → (Int × (List Int) × (List Int)) → RT (Int × (List Int) × (List Int)) ((List Int) × (List Int))
| (x7, x8), (x9, r48, r49) =>
 .rq 1 (.ite (decide (x9 < x8))
 (.req (inB x7 x9) (.rq 8 (let t0 := [r48, (gI x7 x9).1];
 .req (okMs t0) (.rq 5 (let t1 := [r49, (gI x7 x9).2];
 .req (okMs t1) (let t2 := digs B32 (prodV t0);
 let t3 := digs B32 (prodV t1);
 .req (okL 36 t2 && okL 36 t3) (.rq 6 (let t4 := mkR (val B32 t2) (val B32 t3);
 .again (w64 (x9 + 1), t4.2.1, t4.2.2)))))))))
 (.done (r48, r49)))
def ratio_Mul_p58 : Piece := ⟨58, true, [.sl (.pair (.sl tV) (.sl tV)), tI], [tI, .sl tV, .sl tV], ⟨[.keep [2, 3, 7, 8, 9], .gc, .cellRow 48 0 600048 122 tV, .cellRow 48 1 600049 122 tV, .cellRen 48 0 600048, .cellRen 48 1 600049, .gc], [2, 3, 7, 8, 9], [.lf (qp 32), .lf (qp 48), .lf (qi 0), .lf (qi 1), .lf (qm 0)], [(32, true, .cells [.fix (.nil), .fix (.nil)]), (48, true, .cells [qr 600048, qr 600049]), (600048, true, .arr 122 (qm 1)), (600049, true, .arr 122 (qm 2))]⟩, [⟨2, ⟨[.keep [2, 3], .gc, .cellRow 48 0 600048 122 tV, .cellRow 48 1 600049 122 tV, .cellRen 48 0 600048, .cellRen 48 1 600049, .gc], [2, 3], [.lf (qp 32), .lf (qp 48)], [(32, true, .cells [.fix (.nil), .fix (.nil)]), (48, true, .cells [qr 600048, qr 600049]), (600048, true, .arr 122 (qm 0)), (600049, true, .arr 122 (qm 1))]⟩, [.sl tV, .sl tV]⟩], ratio_Mul_b58⟩
def ratio_Mul : (List ((List Int) × List Int)) → RT Unit ((List Int) × (List Int))
| l =>
 .rq 7 (.call (lo ratio_Mul_b58 (l, (l.length : Int)) (0, (rq 1).1, (rq 1).2)) default fun v0 =>
 .rq 2 (.done (v0.1, v0.2)))
def F_ratio_Mul (x : (List ((List Int) × List Int))) : Option ((List Int) × (List Int)) := (ratio_Mul x).run fun _ => none
def io_ratio_Mul : Io := ⟨n_ratio_Mul, [.sl (.pair (.sl tV) (.sl tV))], [.lf (qm 0)], [], [[.sl (.pair (.sl tV) (.sl tV))]], [.sl tV, .sl tV], .agg [qr 0, qr 1], [], [(true, .arr 122 (qm 0)), (true, .arr 122 (qm 1))], false⟩
def ratio_Mul_P : List Piece := [ratio_Mul_p58]
def ratio_Mul_T : CallT := tab [e_ratio_one, e_ratio_Make, e_nat_Mul]
theorem ratio_Mul_To : SoundT pg ratio_Mul_T := tab_sound ⟨e_ratio_one_ok, e_ratio_Make_ok, e_nat_Mul_ok, trivial⟩
theorem ratio_Mul_k58 : (ratio_Mul_p58).OK pg (ratio_Mul_T) (tell 31 (ratio_Mul_P)) (codeOf f_ratio_Mul) 31 := ⟨by kernel_rfl, fun i x => by kernel_rfl⟩
theorem ratio_Mul_go : FnOK pg (ratio_Mul_T) io_ratio_Mul f_ratio_Mul (ratio_Mul_P) [.cellRow 32 0 600032 122 tV, .cellRow 32 1 600033 122 tV, .cellRen 32 0 600032, .cellRen 32 1 600033] (ratio_Mul) := ⟨by kernel_rfl, by kernel_rfl, fun x => by kernel_rfl⟩
theorem ok_ratio_Mul : io_ratio_Mul.Okay pg (F_ratio_Mul) := fn_ok pg_mixed (ratio_Mul_To) (ratio_Mul_go) ⟨ratio_Mul_k58, trivial⟩
theorem mulQ_l (l : List (List Int × List Int)) (hw : ∀ x ∈ l, wfd B32 x.1 = true ∧ wfd B32 x.2 = true) (hl : l.length ≤ 1048576) (hd : ∀ x ∈ l, okr x.1 x.2 = true) : ∀ (r i : Nat) (q : Rat) (k : Nat), i + r = l.length → 0 ≤ q → sm k q → k + szS (l.drop i) ≤ 1073741824 →
    lo ratio_Mul_b58 (l, (l.length : Int)) ((i : Int), rq q) = some (rq ((l.drop i).foldl (fun q x => q * toQ x.1 x.2) q))
  | 0, i, q, k, h, _, _, _ => by
    show lo ratio_Mul_b58 (l, (l.length : Int)) ((i : Int), (rq q).1, (rq q).2) = _
    rw [lo_eq, ratio_Mul_b58]
    simp only [RT.run]
    rw [if_neg (by simp; omega), List.drop_of_length_le (by omega)]
    rfl
  | r + 1, i, q, k, h, hq, hs, hk => by
    show lo ratio_Mul_b58 (l, (l.length : Int)) ((i : Int), (rq q).1, (rq q).2) = _
    rw [lo_eq, ratio_Mul_b58]
    have hi : i < l.length := by omega
    have w5 : w64 ((i : Int) + 1) = ((i + 1 : Nat) : Int) := by rw [w64_in] <;> omega
    have hx := List.getElem_mem hi
    rw [List.drop_eq_getElem_cons hi, szS, List.map_cons, List.sum_cons] at hk
    have ho := okr_iff.1 (okr_rq hs (by omega))
    have hox := okr_iff.1 (hd _ hx)
    have l1 := mul_len (a := (rq q).1) (wfd_digs (by decide) _) (hw _ hx).1
    have l2 := mul_len (a := (rq q).2) (wfd_digs (by decide) _) (hw _ hx).2
    simp only [RT.run, w5, gI_lt hi, prod2, val_digs (show 2 ≤ B32 by decide)]
    rw [if_pos (by simp; omega), if_pos (by rw [inB_nat]; simp; omega), if_pos (by rw [okMs_iff]; simp [lenS]; omega), if_pos (by rw [okMs_iff]; simp [lenS]; omega), if_pos (by rw [Bool.and_eq_true, okL36, okL36]; omega)]
    have hn := toQ_nonneg l[i].1 l[i].2
    have hs' := sm_mul hq hn hs (sm_toQ (hw _ hx).1 (hw _ hx).2 hox.2.2)
    have e := toQ_mul (a0 := (rq q).1) (a1 := (rq q).2) (b0 := l[i].1) (b1 := l[i].2)
    rw [toQ_rq hq] at e
    rw [mkR, if_neg (Nat.mul_ne_zero ho.2.2 hox.2.2), e]
    have := mulQ_l l hw hl hd r (i + 1) (q * toQ l[i].1 l[i].2) _ (by omega) (Rat.mul_nonneg hq hn) hs' (by rw [szS]; omega)
    rw [List.drop_eq_getElem_cons hi, List.foldl_cons, ← this]
def e_ratio_Mul : Entry := io_ratio_Mul.sp (fun l => okS l) (fun l => rq (prodQ l))
theorem sp_ratio_Mul (h : ∀ (l : List ((List Int) × List Int)), WfT [.sl (.pair (.sl tV) (.sl tV))] l → (okS l) = true → (ratio_Mul l).run (fun _ => none) = some (rq (prodQ l))) : e_ratio_Mul.ok pg := sp_ok ok_ratio_Mul fun l hw hc => h l hw hc
theorem e_ratio_Mul_ok : e_ratio_Mul.ok pg := sp_ratio_Mul fun l hw hc => by
  rw [okS_iff] at hc
  rw [ratio_Mul]
  have h : lo ratio_Mul_b58 (l, (l.length : Int)) (0, (rq 1).1, (rq 1).2) = _ := mulQ_l l (wfr hw) hc.1 hc.2.1 l.length 0 1 1 (by omega) (by decide) (by unfold sm; decide) (by rw [List.drop_zero]; omega)
  simp only [RT.run]
  rw [h]
  rfl
end
end Go.Proofs.YtlfdidaeachpoaaGreat

namespace Go.Proofs.YtlfdidaeachpoaaGreat
open Go Go.RowKit
set_option maxRecDepth 100000
noncomputable section
def clrI {α : Type} (xs : List α) (l : Int) (z : α) : List α := xs.take l.toNat ++ List.replicate (xs.length - l.toNat) z
abbrev tI64 : Ty := .int .i64
abbrev tA : Ty := .pair tI64 tI64
abbrev nilv : Value := .slice none 0 0
abbrev hsVs (l : List (Int × Int)) (k : Int) : List TV := [.lf (.ref 176), .lf (.dat tA l), .lf (.int .i64 (l.length : Int)), .lf (.int .i64 k)]
def hsSt (us : List Value) (o : Option (Nat × Leaf)) (hp : List (Nat × Ent)) (l : List (Int × Int)) (k : Int) : St :=
  spSt 55 [5, 12, 13, 14] (hsVs l k) ((176, ⟨true, .raw 26 us o⟩) :: hp)
def hsBody : Code := match codeAt 80 (codeOf f_dag_heads) 58 with
  | some (.loop b) => b
  | _ => .skip
def hsT : CallT := tab []
theorem hsTo : SoundT pg hsT := tab_sound trivial
def hsSee : Ev → Option PE
  | .norm σ => (seeSt [.keep [5, 12, 13, 14], .gc] [5, 12, 13, 14] 55 σ).map fun x => .norm x.1 x.2
  | .exit i σ => (seeSt [.keep [5, 12, 13, 14], .gc] [5, 12, 13, 14] 55 σ).map fun x => .exit i x.1 x.2
  | .ret _ => none
def hsPT (us : List Value) (o : Option (Nat × Leaf)) (hp : List (Nat × Ent)) (l : List (Int × Int)) (k : Int) : PT := (evI pg hsT (fun _ _ => none) 116 hsBody (hsSt us o hp l k)).pt hsSee
abbrev hsB (us : List Value) (l : List (Int × Int)) (k : Int) : Bool :=
  ((decide (0 ≤ (l.getD k.toNat (0, 0)).1) && decide ((l.getD k.toNat (0, 0)).1 < (us.length : Int))) && decide (0 ≤ (l.getD k.toNat (0, 0)).2)) && decide ((l.getD k.toNat (0, 0)).2 < (us.length : Int))
abbrev hsI (us : List Value) (l : List (Int × Int)) (k : Int) : Bool := decide (0 ≤ (l.getD k.toNat (0, 0)).1) && decide ((l.getD k.toNat (0, 0)).1 < (us.length : Int))
theorem hs_1 (us : List Value) (l : List (Int × Int)) (k : Int) : hsPT us none [] l k =
    .rq 1 (.ite (decide (k < (l.length : Int))) (.req (decide (0 ≤ k) && decide (k < (l.length : Int))) (.rq 25 (.ite (hsB us l k) (.rq 6 (.req (hsI us l k) .fail)) (.rq 2 (.leaf (.norm (hsVs l (IntKind.i64.wrap (k + 1))) [(176, ⟨true, .raw 26 us none⟩)]))))))
      (.leaf (.exit 0 (hsVs l k) [(176, ⟨true, .raw 26 us none⟩)]))) := by kernel_rfl
theorem hs_2 (us : List Value) (j : Nat) (x : List Int) (l : List (Int × Int)) (k : Int) : hsPT us (some (j, .ref 1000)) [(1000, ⟨true, .arr 3 tI64 x⟩)] l k =
    .rq 1 (.ite (decide (k < (l.length : Int))) (.req (decide (0 ≤ k) && decide (k < (l.length : Int))) (.rq 25 (.ite (hsB us l k)
        (.rq 6 (.req (hsI us l k) (.req (decide ((l.getD k.toNat (0, 0)).1.toNat = j)) (.rq 3 (.req (decide ((x.length + 1) * 8 ≤ 140737488355328) && decide (x.length + 1 ≤ maxLen)) (.req (hsI us l k) (.req (decide ((l.getD k.toNat (0, 0)).1.toNat = j))
          (.rq 2 (.leaf (.norm (hsVs l (IntKind.i64.wrap (k + 1))) [(176, ⟨true, .raw 26 us (some (j, .ref 816))⟩), (816, ⟨true, .arr 3 tI64 (x ++ [(l.getD k.toNat (0, 0)).2])⟩)]))))))))))
        (.rq 2 (.leaf (.norm (hsVs l (IntKind.i64.wrap (k + 1))) [(176, ⟨true, .raw 26 us (some (j, .ref 1000))⟩), (1000, ⟨true, .arr 3 tI64 x⟩)]))))))
      (.leaf (.exit 0 (hsVs l k) [(176, ⟨true, .raw 26 us (some (j, .ref 1000))⟩), (1000, ⟨true, .arr 3 tI64 x⟩)]))) := by kernel_rfl
theorem hs_tv {us : List Value} {o : Option (Nat × Leaf)} {hp : List (Nat × Ent)} {l : List (Int × Int)} {k : Int} (t : Nat) :
    (hsSt us o hp l k).tv t = if t = 5 then .lf (.ref 176) else if t = 12 then .lf (.dat tA l) else if t = 13 then .lf (.int .i64 (l.length : Int)) else if t = 14 then .lf (.int .i64 k) else .lf .undef := by
  have h := spTmps_get [5, 12, 13, 14] (hsVs l k) 55 0 t
  show (spTmps [5, 12, 13, 14] (hsVs l k) 55 0).getD t (.lf .undef) = _
  rw [h, Nat.zero_add]
  simp only [lookT, hsVs]
  by_cases h5 : t = 5
  · subst h5; rfl
  by_cases h12 : t = 12
  · subst h12; rfl
  by_cases h13 : t = 13
  · subst h13; rfl
  by_cases h14 : t = 14
  · subst h14; rfl
  rw [if_neg h5, if_neg h12, if_neg h13, if_neg h14]
  split
  · rw [if_neg (fun e => h5 e.symm), if_neg (fun e => h12 e.symm), if_neg (fun e => h13 e.symm), if_neg (fun e => h14 e.symm)]
  · rfl
theorem row_slice {w : World} {e : TypeId} {v : Value} {n : Nat} {us : List Value} (h : w.ownsRow 0 e 1 v n us) : ∃ A c, v = .slice A n c := by
  rcases h.2 with ⟨rfl, rfl⟩ | ⟨g, cap, cur, rfl, _⟩
  · exact ⟨_, _, rfl⟩
  · exact ⟨_, _, rfl⟩
theorem row_lt {w : World} {e : TypeId} {v : Value} {n : Nat} {us : List Value} (h : w.ownsRow 0 e 1 v n us) {g : Nat} (hg : blk v = some g) : g < w.heap.size := by
  rw [blk_ownsRow h] at hg
  exact (h.lt g hg).2
theorem reps_int {w w' : World} {ok ok' : Nat → Prop} {vs : List Value} {x : List Int} (h : RepEs w ok tI64 vs x) : RepEs w' ok' tI64 vs x := fun i hi => h i hi
structure Gh (w0 : World) (own : Nat → Prop) (π : Pin) (l : List (Int × Int)) (us : List Value) (LL : List (List Int)) (k : Int) (a : Act) (w : World) (v : Value) (ok : Nat → Prop) : Prop where
  fr : Fr w0 own w
  okLt : ∀ b, ok b → b < w.heap.size
  okB : ∀ b, ok b → π.ok b ∨ own b ∨ w0.heap.size ≤ b
  size : a.tmps.size = 55
  def0 : a.defers = π.df
  t5 : a.tmps.getD 5 undef = v
  t12 : RepD w ok (.sl tA) [a.tmps.getD 12 undef] l
  t13 : RepL w ok (fun _ => none) (a.tmps.getD 13 undef) (.int .i64 (l.length : Int))
  t14 : RepL w ok (fun _ => none) (a.tmps.getD 14 undef) (.int .i64 k)
  row : w.ownsRow 0 26 1 v us.length us
  vok : ∀ g, blk v = some g → ¬ ok g ∧ (own g ∨ w0.heap.size ≤ g)
  len : LL.length = us.length
  inn : ∀ (j : Nat) (u : Value) (x : List Int), us[j]? = some u → LL[j]? = some x → ∃ vs, w.ownsRow 0 3 1 u x.length vs ∧ RepEs w ok tI64 vs x
  iok : ∀ (j : Nat) (u : Value) (g : Nat), us[j]? = some u → blk u = some g → ¬ ok g ∧ (own g ∨ w0.heap.size ≤ g) ∧ blk v ≠ some g
  sep : ∀ (i j : Nat) (u u' : Value) (g : Nat), i ≠ j → us[i]? = some u → us[j]? = some u' → blk u = some g → blk u' ≠ some g
section
variable {w0 : World} {own : Nat → Prop} {π : Pin} {l : List (Int × Int)} {us : List Value} {LL : List (List Int)} {k : Int} {a : Act} {w : World} {v : Value} {ok : Nat → Prop}
def hsβ (v : Value) (u : Option Value) : Nat → Option Value := fun j => if j = 176 then some v else if j = 1000 then u else none
theorem Gh.tmps (G : Gh w0 own π l us LL k a w v ok) {β : Nat → Option Value} (hβ : β 176 = some v) {o : Option (Nat × Leaf)} {hp : List (Nat × Ent)} (t : Nat) :
    RepV w ok β (a.tmps.getD t undef) ((hsSt us o hp l k).tv t) := by
  rw [hs_tv]
  split
  · rename_i h; subst h; rw [G.t5]; obtain ⟨A, c, h⟩ := row_slice G.row; exact ⟨hβ, A, _, c, h⟩
  split
  · rename_i h; subst h; exact G.t12
  split
  · rename_i h; subst h; exact G.t13
  split
  · rename_i h; subst h; exact G.t14
  · trivial
theorem Gh.sim1 (G : Gh w0 own π l us LL k a w v ok) : Sim ⟨hsβ v none, ok, π.rd, π.df⟩ w (fun b => blk v = some b) w a (hsSt us none [] l k) (hsβ v none) ok := by
  have hone : ∀ id e, hget (hsSt us none [] l k).heap id = some e → id = 176 ∧ e = ⟨true, .raw 26 us none⟩ := fun id e h => by
    show _ = _ ∧ _
    change hget [(176, (⟨true, .raw 26 us none⟩ : Ent))] id = some e at h
    unfold hget at h
    split at h
    · rename_i h1; cases h; exact ⟨h1.symm, rfl⟩
    · cases h
  have hv : ∀ id u, hsβ v none id = some u → id = 176 ∧ u = v := fun id u h => by
    unfold hsβ at h
    split at h
    · rename_i h1; cases h; exact ⟨h1, rfl⟩
    · split at h <;> cases h
  refine ⟨⟨Fr.refl _ _, G.okLt, fun id u h => ?_, fun id e h => ?_, fun id e h _ => ?_, fun id e u g h _ hu hg => ?_, fun id e u g h hw => ?_, fun i e u j e' u' g hij h h' => ?_⟩, G.tmps rfl, by rw [G.size]; exact (spTmps_length ..).symm, G.def0, fun _ _ _ h => h, fun _ h => .inl h⟩
  · obtain ⟨rfl, _⟩ := hv id u h; exact ⟨_, rfl⟩
  · obtain ⟨rfl, rfl⟩ := hone id e h; exact ⟨v, us, rfl, G.row, rfl⟩
  · obtain ⟨rfl, rfl⟩ := hone id e h; rfl
  · obtain ⟨rfl, rfl⟩ := hv id u hu; exact ⟨(G.vok g hg).1, .inl hg⟩
  · obtain ⟨rfl, rfl⟩ := hone id e h; cases hw
  · obtain ⟨rfl, _⟩ := hone _ _ h; obtain ⟨rfl, _⟩ := hone _ _ h'; exact absurd rfl hij
theorem Gh.sim2 (G : Gh w0 own π l us LL k a w v ok) {j : Nat} {u : Value} {x : List Int} (hu : us[j]? = some u) (hx : LL[j]? = some x) :
    Sim ⟨hsβ v (some u), ok, π.rd, π.df⟩ w (fun b => blk v = some b ∨ blk u = some b) w a (hsSt us (some (j, .ref 1000)) [(1000, ⟨true, .arr 3 tI64 x⟩)] l k) (hsβ v (some u)) ok := by
  have hone : ∀ id e, hget (hsSt us (some (j, .ref 1000)) [(1000, ⟨true, .arr 3 tI64 x⟩)] l k).heap id = some e →
      (id = 176 ∧ e = ⟨true, .raw 26 us (some (j, .ref 1000))⟩) ∨ (id = 1000 ∧ e = ⟨true, .arr 3 tI64 x⟩) := fun id e h => by
    change hget [(176, (⟨true, .raw 26 us (some (j, .ref 1000))⟩ : Ent)), (1000, ⟨true, .arr 3 tI64 x⟩)] id = some e at h
    unfold hget at h
    split at h
    · rename_i h1; cases h; exact .inl ⟨h1.symm, rfl⟩
    · unfold hget at h
      split at h
      · rename_i h1; cases h; exact .inr ⟨h1.symm, rfl⟩
      · cases h
  have hv : ∀ id y, hsβ v (some u) id = some y → (id = 176 ∧ y = v) ∨ (id = 1000 ∧ y = u) := fun id y h => by
    unfold hsβ at h
    split at h
    · rename_i h1; cases h; exact .inl ⟨h1, rfl⟩
    · split at h
      · rename_i h1; cases h; exact .inr ⟨h1, rfl⟩
      · cases h
  obtain ⟨vs, hr, he⟩ := G.inn j u x hu hx
  have hj : j < us.length := (List.getElem?_eq_some_iff.1 hu).1
  refine ⟨⟨Fr.refl _ _, G.okLt, fun id y h => ?_, fun id e h => ?_, fun id e h _ => ?_, fun id e y g h _ hy hg => ?_, fun id e y g h hw => ?_, fun i e y j' e' y' g hij h h' _ _ hy hy' hg hg' => ?_⟩, G.tmps rfl, by rw [G.size]; exact (spTmps_length ..).symm, G.def0, fun _ _ _ h => h, fun _ h => .inl h⟩
  · rcases hv id y h with ⟨rfl, _⟩ | ⟨rfl, _⟩
    · exact ⟨_, rfl⟩
    · exact ⟨_, rfl⟩
  · rcases hone id e h with ⟨rfl, rfl⟩ | ⟨rfl, rfl⟩
    · refine ⟨v, us, rfl, G.row, u, hj, ?_, rfl, ?_⟩
      · apply List.ext_getElem?
        intro i
        by_cases hi : i = j
        · subst hi; rw [List.getElem?_set_self hj, hu]
        · rw [List.getElem?_set_ne (fun e => hi e.symm)]
      · obtain ⟨A, c, h⟩ := row_slice hr
        exact ⟨A, _, c, h⟩
    · exact ⟨u, vs, rfl, hr, he⟩
  · rcases hone id e h with ⟨rfl, rfl⟩ | ⟨rfl, rfl⟩ <;> rfl
  · rcases hv id y hy with ⟨_, rfl⟩ | ⟨_, rfl⟩
    · exact ⟨(G.vok g hg).1, .inl (.inl hg)⟩
    · exact ⟨(G.iok j _ g hu hg).1, .inl (.inr hg)⟩
  · rcases hone id e h with ⟨rfl, rfl⟩ | ⟨rfl, rfl⟩ <;> cases hw
  · rcases hv i y hy with ⟨h1, rfl⟩ | ⟨h1, rfl⟩ <;> rcases hv j' y' hy' with ⟨h2, rfl⟩ | ⟨h2, rfl⟩
    · exact hij (h1.trans h2.symm)
    · exact (G.iok j _ g hu hg').2.2 hg
    · exact (G.iok j _ g hu hg).2.2 hg'
    · exact hij (h1.trans h2.symm)
theorem Gh.next (G : Gh w0 own π l us LL k a w v ok) {own1 : Nat → Prop} {j : Nat} {us' : List Value} {LL' : List (List Int)} {k' : Int} {a' : Act} {w' : World} {v' : Value} {ok' : Nat → Prop}
    (hown : ∀ b, own1 b → blk v = some b ∨ ∃ u, us[j]? = some u ∧ blk u = some b)
    (F : Fr w own1 w') (hlt : ∀ b, ok' b → b < w'.heap.size) (hB : ∀ b, ok' b → ok b ∨ own1 b ∨ w.heap.size ≤ b)
    (hsz : a'.tmps.size = 55) (hd : a'.defers = π.df) (h5 : a'.tmps.getD 5 undef = v') (h12 : RepD w' ok' (.sl tA) [a'.tmps.getD 12 undef] l)
    (h13 : RepL w' ok' (fun _ => none) (a'.tmps.getD 13 undef) (.int .i64 (l.length : Int))) (h14 : RepL w' ok' (fun _ => none) (a'.tmps.getD 14 undef) (.int .i64 k'))
    (hrow : w'.ownsRow 0 26 1 v' us'.length us') (hvw : ∀ g, blk v' = some g → ¬ ok' g ∧ (own1 g ∨ w.heap.size ≤ g))
    (hl1 : us'.length = us.length) (hl2 : LL'.length = LL.length) (hus : ∀ i, i ≠ j → us'[i]? = us[i]?) (hLL : ∀ i, i ≠ j → LL'[i]? = LL[i]?)
    (hj : ∀ u x, us'[j]? = some u → LL'[j]? = some x → (∃ vs, w'.ownsRow 0 3 1 u x.length vs ∧ RepEs w' ok' tI64 vs x))
    (hjw : ∀ u g, us'[j]? = some u → blk u = some g → ¬ ok' g ∧ ((∃ u0, us[j]? = some u0 ∧ blk u0 = some g) ∨ blk v = some g ∨ w.heap.size ≤ g) ∧ blk v' ≠ some g)
    (hother : ∀ i u g, i ≠ j → us[i]? = some u → blk u = some g → ¬ own1 g) :
    Gh w0 own π l us' LL' k' a' w' v' ok' := by
  have hown0 : ∀ b, own1 b → own b ∨ w0.heap.size ≤ b := fun b hb => by
    rcases hown b hb with h | ⟨u, h1, h2⟩
    · exact (G.vok b h).2
    · exact (G.iok j u b h1 h2).2.1
  have hrowlt : ∀ i u g, us[i]? = some u → blk u = some g → g < w.heap.size := fun i u g hu hg => by
    have hi : i < LL.length := by rw [G.len]; exact (List.getElem?_eq_some_iff.1 hu).1
    obtain ⟨vs, hr, _⟩ := G.inn i u LL[i] hu (by simp [hi])
    exact row_lt hr hg
  have hvlt : ∀ g, blk v = some g → g < w.heap.size := fun g hg => row_lt G.row hg
  have hothok : ∀ i u g, i ≠ j → us[i]? = some u → blk u = some g → ¬ ok' g := fun i u g hi hu hg h => by
    rcases hB g h with h1 | h1 | h1
    · exact (G.iok i u g hu hg).1 h1
    · exact hother i u g hi hu hg h1
    · have := hrowlt i u g hu hg; omega
  refine ⟨⟨F.os.trans G.fr.os, F.tape.trans G.fr.tape, F.output.trans G.fr.output, Nat.le_trans G.fr.size F.size, fun b hb hn => ?_⟩, hlt, fun b hb => ?_, hsz, hd, h5, h12, h13, h14, hrow, fun g hg => ?_, by rw [hl2, hl1, G.len], fun i u x hu hx => ?_, fun i u g hu hg => ?_, fun i i' u u' g hii hu hu' hg hg' => ?_⟩
  · rw [F.block b (Nat.lt_of_lt_of_le hb G.fr.size) fun h => ?_]
    · exact G.fr.block b hb hn
    · rcases hown0 b h with h1 | h1
      · exact hn h1
      · omega
  · rcases hB b hb with h1 | h1 | h1
    · exact G.okB b h1
    · exact .inr (hown0 b h1)
    · exact .inr (.inr (Nat.le_trans G.fr.size h1))
  · refine ⟨(hvw g hg).1, ?_⟩
    rcases (hvw g hg).2 with h1 | h1
    · exact hown0 g h1
    · exact .inr (Nat.le_trans G.fr.size h1)
  · by_cases hi : i = j
    · subst hi; exact hj u x hu hx
    · rw [hus i hi] at hu
      rw [hLL i hi] at hx
      obtain ⟨vs, hr, he⟩ := G.inn i u x hu hx
      exact ⟨vs, ownsRow_same hr fun g hg => F.block g (row_lt hr hg) (hother i u g hi hu hg), reps_int he⟩
  · by_cases hi : i = j
    · subst hi
      obtain ⟨h1, h2, h3⟩ := hjw u g hu hg
      refine ⟨h1, ?_, h3⟩
      rcases h2 with ⟨u0, h4, h5⟩ | h2 | h2
      · exact (G.iok i u0 g h4 h5).2.1
      · exact (G.vok g h2).2
      · exact .inr (Nat.le_trans G.fr.size h2)
    · rw [hus i hi] at hu
      have h0 := G.iok i u g hu hg
      refine ⟨hothok i u g hi hu hg, h0.2.1, fun h => ?_⟩
      rcases (hvw g h).2 with h1 | h1
      · exact hother i u g hi hu hg h1
      · have := hrowlt i u g hu hg; omega
  · by_cases hi : i = j
    · subst hi
      rw [hus i' (fun e => hii e.symm)] at hu'
      rcases (hjw u g hu hg).2.1 with ⟨u0, h4, h5⟩ | h2 | h2
      · exact G.sep i i' u0 u' g hii h4 hu' h5 hg'
      · exact (G.iok i' u' g hu' hg').2.2 h2
      · have := hrowlt i' u' g hu' hg'; omega
    · rw [hus i hi] at hu
      by_cases hi' : i' = j
      · subst hi'
        rcases (hjw u' g hu' hg').2.1 with ⟨u0, h4, h5⟩ | h2 | h2
        · exact G.sep i i' u u0 g hii hu h4 hg h5
        · exact (G.iok i u g hu hg).2.2 h2
        · have := hrowlt i u g hu hg; omega
      · rw [hus i' hi'] at hu'
        exact G.sep i i' u u' g hii hu hu' hg hg'
theorem Gh.of1 (G : Gh w0 own π l us LL k a w v ok) {ρ : Pin} (hπ : ρ.ok = ok) (hρ : ρ.df = π.df) {k' : Int} {a' : Act} {w' : World} {β' : Nat → Option Value} {ok' : Nat → Prop} (hlen : us.length ≤ 4096)
    (S : Sim ρ w (fun b => blk v = some b) w' a' (hsSt us none [] l k') β' ok') : ∃ v', Gh w0 own π l us LL k' a' w' v' ok' := by
  obtain ⟨v', vs, h1, h2, h3⟩ := S.inv.ent 176 ⟨true, .raw 26 us none⟩ rfl
  cases (show vs = us from h3)
  have t := S.tmps
  have t5 := t 5
  have t12 := t 12
  have t13 := t 13
  have t14 := t 14
  rw [hs_tv] at t5 t12 t13 t14
  have e5 : a'.tmps.getD 5 undef = v' := by
    have := (show β' 176 = some (a'.tmps.getD 5 undef) ∧ _ from t5).1
    rw [h1] at this
    exact (Option.some.inj this).symm
  refine ⟨v', G.next (j := us.length) (fun b hb => .inl hb) S.inv.fr S.inv.okLt (fun b hb => by have := S.okB b hb; rw [hπ] at this; exact this) (by rw [S.size]; exact spTmps_length ..) (S.def0.trans hρ) e5 t12 t13 t14 h2
    (fun g hg => S.inv.wr 176 ⟨true, .raw 26 us none⟩ v' g rfl rfl h1 hg) rfl rfl (fun _ _ => rfl) (fun _ _ => rfl) (fun u x hu => ?_) (fun u g hu => ?_) (fun i u g _ hu hg h => (G.iok i u g hu hg).2.2 h)⟩
  · rw [List.getElem?_eq_none (Nat.le_refl _)] at hu; cases hu
  · rw [List.getElem?_eq_none (Nat.le_refl _)] at hu; cases hu
theorem Gh.of2 (G : Gh w0 own π l us LL k a w v ok) {ρ : Pin} (hπ : ρ.ok = ok) (hρ : ρ.df = π.df) {j : Nat} {u : Value} {x x' : List Int} (hu : us[j]? = some u) (hx : LL[j]? = some x) {k' : Int} {a' : Act} {w' : World} {β' : Nat → Option Value}
    {ok' : Nat → Prop} (S : Sim ρ w (fun b => blk v = some b ∨ blk u = some b) w' a' (hsSt us (some (j, .ref 816)) [(816, ⟨true, .arr 3 tI64 x'⟩)] l k') β' ok') :
    ∃ v' u', Gh w0 own π l (us.set j u') (LL.set j x') k' a' w' v' ok' := by
  obtain ⟨v', vs, h1, h2, u', hj, h3, h4, _⟩ := S.inv.ent 176 ⟨true, .raw 26 us (some (j, .ref 816))⟩ rfl
  subst h3
  obtain ⟨u2, vs2, h5, h6, h7⟩ := S.inv.ent 816 ⟨true, .arr 3 tI64 x'⟩ rfl
  rw [h4] at h5
  cases h5
  have t := S.tmps
  have t5 := t 5
  have t12 := t 12
  have t13 := t 13
  have t14 := t 14
  rw [hs_tv] at t5 t12 t13 t14
  have e5 : a'.tmps.getD 5 undef = v' := by
    have := (show β' 176 = some (a'.tmps.getD 5 undef) ∧ _ from t5).1
    rw [h1] at this
    exact (Option.some.inj this).symm
  have hjl : j < LL.length := by rw [G.len]; exact hj
  have hsep := fun g hg hg' => S.inv.sep 176 ⟨true, .raw 26 us (some (j, .ref 816))⟩ v' 816 ⟨true, .arr 3 tI64 x'⟩ u' g (by decide) rfl rfl rfl rfl h1 h4 hg hg'
  have hwr := fun g hg => S.inv.wr 816 ⟨true, .arr 3 tI64 x'⟩ u' g rfl rfl h4 hg
  have hwv := fun g hg => S.inv.wr 176 ⟨true, .raw 26 us (some (j, .ref 816))⟩ v' g rfl rfl h1 hg
  refine ⟨v', u', G.next (j := j) (own1 := fun b => blk v = some b ∨ blk u = some b) (fun b hb => hb.elim .inl fun h => .inr ⟨u, hu, h⟩) S.inv.fr S.inv.okLt (fun b hb => by have := S.okB b hb; rw [hπ] at this; exact this)
    (by rw [S.size]; exact spTmps_length ..) (S.def0.trans hρ) e5 t12 t13 t14 (by rw [List.length_set]; exact h2) hwv (List.length_set ..) (List.length_set ..) (fun i hi => List.getElem?_set_ne (fun e => hi e.symm))
    (fun i hi => List.getElem?_set_ne (fun e => hi e.symm)) (fun y z hy hz => ?_) (fun y g hy hg => ?_) (fun i y g hi hy hg h => ?_)⟩
  · rw [List.getElem?_set_self hj] at hy
    rw [List.getElem?_set_self hjl] at hz
    cases hy
    cases hz
    exact ⟨vs2, h6, h7⟩
  · rw [List.getElem?_set_self hj] at hy
    cases hy
    refine ⟨(hwr g hg).1, ?_, fun h => hsep g h hg⟩
    rcases (hwr g hg).2 with (h | h) | h
    · exact .inr (.inl h)
    · exact .inl ⟨u, hu, h⟩
    · exact .inr (.inr h)
  · rcases h with h | h
    · exact (G.iok i y g hy hg).2.2 h
    · exact G.sep i j y u g hi hy hu hg h
end
def hsOk (m : Nat) (a : Int × Int) : Bool := decide (0 ≤ a.1) && decide (a.1 < (m : Int)) && decide (0 ≤ a.2) && decide (a.2 < (m : Int))
def hsStep (m : Nat) (LL : List (List Int)) (a : Int × Int) : List (List Int) := if hsOk m a then LL.set a.1.toNat (LL.getD a.1.toNat [] ++ [a.2]) else LL
def hsUpto (m : Nat) (l : List (Int × Int)) (k : Nat) : List (List Int) := (l.take k).foldl (hsStep m) (List.replicate m [])
theorem hsUpto_succ {m : Nat} {l : List (Int × Int)} {k : Nat} (h : k < l.length) : hsUpto m l (k + 1) = hsStep m (hsUpto m l k) (l.getD k (0, 0)) := by
  unfold hsUpto
  rw [List.take_add_one, List.foldl_append]
  simp [List.getElem?_eq_getElem h]
theorem hsStep_length {m : Nat} {LL : List (List Int)} {a : Int × Int} : (hsStep m LL a).length = LL.length := by
  unfold hsStep; split <;> simp
theorem hsUpto_len {m : Nat} {l : List (Int × Int)} : ∀ {k : Nat}, k ≤ l.length → ∀ x ∈ hsUpto m l k, x.length ≤ k
  | 0, _, x, hx => by
    have : x ∈ List.replicate m ([] : List Int) := hx
    rw [(List.mem_replicate.1 this).2]; exact Nat.le_refl 0
  | k + 1, hk, x, hx => by
    have ih := hsUpto_len (m := m) (l := l) (k := k) (by omega)
    rw [hsUpto_succ hk] at hx
    unfold hsStep at hx
    split at hx
    · rcases List.mem_or_eq_of_mem_set hx with h | rfl
      · exact Nat.le_succ_of_le (ih x h)
      · simp only [List.length_append, List.length_singleton]
        have : ((hsUpto m l k).getD (l.getD k (0, 0)).1.toNat []).length ≤ k := by
          rw [List.getD_eq_getElem?_getD]
          cases h : (hsUpto m l k)[(l.getD k (0, 0)).1.toNat]? with
          | none => simp
          | some y => exact ih y (List.mem_of_getElem? h)
        omega
    · exact Nat.le_succ_of_le (ih x hx)
theorem noCuts (root : Code) (m : Nat) : CutsOK pg (fun _ _ => none) root m := fun _ _ _ _ _ _ _ _ _ _ _ _ _ _ _ h => by cases h
theorem hs_at : codeAt 80 (codeOf f_dag_heads) 116 = some hsBody := by kernel_rfl
theorem hs_end {e : Ev} {vs : List TV} {hp : List (Nat × Ent)} (h : hsSee e = some (.norm vs hp)) : ∃ σ, e = .norm σ ∧ Weak σ (spSt 55 [5, 12, 13, 14] vs hp) := by
  cases e with
  | norm σ =>
    obtain ⟨x, h1, h2⟩ := Option.map_eq_some_iff.1 (show (seeSt _ _ _ σ).map _ = _ from h)
    cases h2
    exact ⟨σ, rfl, seeSt_weak h1⟩
  | exit i σ => obtain ⟨x, _, h2⟩ := Option.map_eq_some_iff.1 (show (seeSt _ _ _ σ).map _ = _ from h); cases h2
  | ret σ => cases h
theorem hs_endx {e : Ev} {i : Nat} {vs : List TV} {hp : List (Nat × Ent)} (h : hsSee e = some (.exit i vs hp)) : ∃ σ, e = .exit i σ ∧ Weak σ (spSt 55 [5, 12, 13, 14] vs hp) := by
  cases e with
  | exit i σ =>
    obtain ⟨x, h1, h2⟩ := Option.map_eq_some_iff.1 (show (seeSt _ _ _ σ).map _ = _ from h)
    cases h2
    exact ⟨σ, rfl, seeSt_weak h1⟩
  | norm σ => obtain ⟨x, _, h2⟩ := Option.map_eq_some_iff.1 (show (seeSt _ _ _ σ).map _ = _ from h); cases h2
  | ret σ => cases h
theorem wrap64 {k : Nat} (h : k < 2 ^ 62) : IntKind.i64.wrap ((k : Int) + 1) = ((k + 1 : Nat) : Int) := by
  rw [wrap_i64]
  omega
def HsI (w0 : World) (own : Nat → Prop) (π : Pin) (l : List (Int × Int)) (m kn : Nat) (a : Act) (w : World) : Prop :=
  kn ≤ l.length ∧ ∃ us v ok, us.length = m ∧ Gh w0 own π l us (hsUpto m l kn) (kn : Int) a w v ok
def HsQ (w0 : World) (own : Nat → Prop) (π : Pin) (l : List (Int × Int)) (m kn : Nat) : Exit → Act → World → Prop
  | .normal, a, w => kn < l.length ∧ HsI w0 own π l m (kn + 1) a w
  | .exit 0, a, w => kn = l.length ∧ HsI w0 own π l m kn a w
  | _, _, _ => False
theorem PT.rq_sat {K : PE → Prop} {t : PT} : ∀ n, t.sat K → (PT.rq n t).sat K
  | 0, h => h
  | n + 1, h => ⟨rfl, PT.rq_sat n h⟩
theorem hs_run1 {w0 : World} {own : Nat → Prop} {π : Pin} {l : List (Int × Int)} {us : List Value} {LL : List (List Int)} {k : Int} {a : Act} {w : World} {v : Value} {ok : Nat → Prop} (G : Gh w0 own π l us LL k a w v ok)
    (hlen : us.length ≤ 4096) (h0 : 0 ≤ k) (hB : k < l.length → hsB us l k = false) : hsBody.wpIn (Fw π.rd) 0 pg (fun e a' w' => match e with
      | .normal => k < l.length ∧ ∃ v' ok', Gh w0 own π l us LL (IntKind.i64.wrap (k + 1)) a' w' v' ok'
      | .exit 0 => ¬ k < l.length ∧ ∃ v' ok', Gh w0 own π l us LL k a' w' v' ok'
      | _ => False) a w := by
  let Kp : PE → Prop := fun p => (k < l.length ∧ p = .norm (hsVs l (IntKind.i64.wrap (k + 1))) [(176, ⟨true, .raw 26 us none⟩)]) ∨ (¬ k < l.length ∧ p = .exit 0 (hsVs l k) [(176, ⟨true, .raw 26 us none⟩)])
  have hsat : (hsPT us none [] l k).sat Kp := by
    rw [hs_1]
    refine PT.rq_sat 1 ⟨fun h => ?_, fun h => .inr ⟨of_decide_eq_false h, rfl⟩⟩
    have hk := of_decide_eq_true h
    refine ⟨by simp [h0, hk], PT.rq_sat 25 ⟨fun hb => ?_, fun _ => PT.rq_sat 2 (.inl ⟨hk, rfl⟩)⟩⟩
    rw [hB hk] at hb; cases hb
  refine wpIn_mono (evI_sound (π := ⟨hsβ v none, ok, π.rd, π.df⟩) (root := codeOf f_dag_heads) (L := fun _ _ => none) pg_mixed hsTo hsBody 116 80 _ (fun e => ∃ p, hsSee e = some p ∧ Kp p) a w _ ok (by decide) hs_at (noCuts _ _) G.sim1
    (Tree.sat_pt (fun e p h1 h2 => ⟨p, h1, h2⟩) hsat)) ?_
  rintro e a' w' ⟨ev, β', ok', ⟨p, hp, hK⟩, hev⟩
  rcases hK with ⟨hk, rfl⟩ | ⟨hk, rfl⟩
  · obtain ⟨σ, rfl, hw⟩ := hs_end hp
    obtain ⟨rfl, S⟩ := hev
    obtain ⟨β2, ok2, S2⟩ := hw _ _ _ _ _ _ _ S
    obtain ⟨v', G'⟩ := G.of1 (ρ := ⟨hsβ v none, ok, π.rd, π.df⟩) rfl rfl hlen S2
    exact ⟨hk, v', ok2, G'⟩
  · obtain ⟨σ, rfl, hw⟩ := hs_endx hp
    obtain ⟨rfl, S⟩ := hev
    obtain ⟨β2, ok2, S2⟩ := hw _ _ _ _ _ _ _ S
    obtain ⟨v', G'⟩ := G.of1 (ρ := ⟨hsβ v none, ok, π.rd, π.df⟩) rfl rfl hlen S2
    exact ⟨hk, v', ok2, G'⟩
theorem hs_run2 {w0 : World} {own : Nat → Prop} {π : Pin} {l : List (Int × Int)} {us : List Value} {LL : List (List Int)} {k : Int} {a : Act} {w : World} {v : Value} {ok : Nat → Prop} (G : Gh w0 own π l us LL k a w v ok)
    (h0 : 0 ≤ k) (hk : k < l.length) (hB : hsB us l k = true) {x : List Int} (hx : LL[(l.getD k.toNat (0, 0)).1.toNat]? = some x) (hxl : x.length ≤ 1000000) : hsBody.wpIn (Fw π.rd) 0 pg (fun e a' w' => match e with
      | .normal => ∃ v' u' ok', Gh w0 own π l (us.set (l.getD k.toNat (0, 0)).1.toNat u') (LL.set (l.getD k.toNat (0, 0)).1.toNat (x ++ [(l.getD k.toNat (0, 0)).2])) (IntKind.i64.wrap (k + 1)) a' w' v' ok'
      | _ => False) a w := by
  obtain ⟨j, hj⟩ : ∃ j, j = (l.getD k.toNat (0, 0)).1.toNat := ⟨_, rfl⟩
  rw [← hj] at hx ⊢
  have hjl : j < us.length := by rw [← G.len]; exact (List.getElem?_eq_some_iff.1 hx).1
  have hu : us[j]? = some us[j] := List.getElem?_eq_getElem hjl
  let Kp : PE → Prop := fun p => p = .norm (hsVs l (IntKind.i64.wrap (k + 1))) [(176, ⟨true, .raw 26 us (some (j, .ref 816))⟩), (816, ⟨true, .arr 3 tI64 (x ++ [(l.getD k.toNat (0, 0)).2])⟩)]
  have hI : hsI us l k = true := by
    simp only [hsB, Bool.and_eq_true] at hB
    simp only [hsI, Bool.and_eq_true]
    exact hB.1.1
  have hsat : (hsPT us (some (j, .ref 1000)) [(1000, ⟨true, .arr 3 tI64 x⟩)] l k).sat Kp := by
    rw [hs_2]
    refine PT.rq_sat 1 ⟨fun h => ?_, fun h => absurd hk (of_decide_eq_false h)⟩
    refine ⟨by simp [h0, hk], PT.rq_sat 25 ⟨fun hb => ?_, fun hb => by rw [hB] at hb; cases hb⟩⟩
    have hap : (decide ((x.length + 1) * 8 ≤ 140737488355328) && decide (x.length + 1 ≤ maxLen)) = true := by
      have : maxLen = 9223372036854775807 := by decide
      rw [decide_eq_true (by omega : (x.length + 1) * 8 ≤ 140737488355328), decide_eq_true (by omega : x.length + 1 ≤ maxLen)]
      rfl
    exact PT.rq_sat 6 ⟨hI, decide_eq_true hj.symm, PT.rq_sat 3 ⟨hap, hI, decide_eq_true hj.symm, PT.rq_sat 2 rfl⟩⟩
  refine wpIn_mono (evI_sound (π := ⟨hsβ v (some us[j]), ok, π.rd, π.df⟩) (root := codeOf f_dag_heads) (L := fun _ _ => none) pg_mixed hsTo hsBody 116 80 _ (fun e => ∃ p, hsSee e = some p ∧ Kp p) a w _ ok (by decide) hs_at (noCuts _ _) (G.sim2 hu hx)
    (Tree.sat_pt (fun e p h1 h2 => ⟨p, h1, h2⟩) hsat)) ?_
  rintro e a' w' ⟨ev, β', ok', ⟨p, hp, hK⟩, hev⟩
  cases (show p = _ from hK)
  obtain ⟨σ, rfl, hw⟩ := hs_end hp
  obtain ⟨rfl, S⟩ := hev
  obtain ⟨β2, ok2, S2⟩ := hw _ _ _ _ _ _ _ S
  obtain ⟨v', u', G'⟩ := G.of2 (ρ := ⟨hsβ v (some us[j]), ok, π.rd, π.df⟩) rfl rfl hu hx S2
  exact ⟨v', u', ok2, G'⟩
theorem hs_round {w0 : World} {own : Nat → Prop} {π : Pin} {l : List (Int × Int)} {m kn : Nat} {a : Act} {w : World} (hl : l.length ≤ 1000000) (hm : m ≤ 4096) (H : HsI w0 own π l m kn a w) :
    hsBody.wpIn (Fw π.rd) 0 pg (HsQ w0 own π l m kn) a w := by
  obtain ⟨hkn, us, v, ok, hus, G⟩ := H
  have hB : hsB us l (kn : Int) = hsOk m (l.getD kn (0, 0)) := by
    simp only [hsB, hsOk, hus, Int.toNat_natCast]
  have hw : kn < l.length → IntKind.i64.wrap ((kn : Int) + 1) = ((kn + 1 : Nat) : Int) := fun h => wrap64 (by omega)
  by_cases hk : kn < l.length
  · cases hv : hsOk m (l.getD kn (0, 0)) with
    | false =>
      refine wpIn_mono (hs_run1 G (by omega) (by omega) fun _ => hB.trans hv) ?_
      rintro e a' w' h
      cases e with
      | normal =>
        obtain ⟨_, v', ok', G'⟩ := h
        refine ⟨hk, hk, us, v', ok', hus, ?_⟩
        rw [hsUpto_succ hk, hsStep, hv, if_neg (by decide), ← hw hk]
        exact G'
      | exit i =>
        cases i with
        | zero => exact absurd (by omega : (kn : Int) < l.length) h.1
        | succ i => exact h.elim
      | _ => exact h.elim
    | true =>
      have hv' := hv
      simp only [hsOk, Bool.and_eq_true, decide_eq_true_eq] at hv'
      have hjl : (l.getD kn (0, 0)).1.toNat < (hsUpto m l kn).length := by rw [G.len, hus]; omega
      have hx : (hsUpto m l kn)[(l.getD (kn : Int).toNat (0, 0)).1.toNat]? = some ((hsUpto m l kn)[(l.getD kn (0, 0)).1.toNat]) := by
        rw [Int.toNat_natCast]; exact List.getElem?_eq_getElem hjl
      have hxl := hsUpto_len (m := m) hkn _ (List.getElem_mem hjl)
      refine wpIn_mono (hs_run2 G (by omega) (by omega) (hB.trans hv) hx (by omega)) ?_
      rintro e a' w' h
      cases e with
      | normal =>
        obtain ⟨v', u', ok', G'⟩ := h
        refine ⟨hk, hk, us.set (l.getD kn (0, 0)).1.toNat u', v', ok', by rw [List.length_set]; exact hus, ?_⟩
        rw [hsUpto_succ hk, hsStep, hv, if_pos rfl, ← hw hk]
        have e1 : (hsUpto m l kn).getD (l.getD kn (0, 0)).1.toNat [] = (hsUpto m l kn)[(l.getD kn (0, 0)).1.toNat] := by
          rw [List.getD_eq_getElem?_getD, List.getElem?_eq_getElem hjl]; rfl
        rw [e1]
        exact G'
      | _ => exact h.elim
  · refine wpIn_mono (hs_run1 G (by omega) (by omega) fun h => absurd h (by omega)) ?_
    rintro e a' w' h
    cases e with
    | normal => exact absurd h.1 (by omega)
    | exit i =>
      cases i with
      | zero =>
        obtain ⟨_, v', ok', G'⟩ := h
        exact ⟨by omega, hkn, us, v', ok', hus, G'⟩
      | succ i => exact h.elim
    | _ => exact h.elim
theorem row_dat {w : World} {ok : Nat → Prop} {e : TypeId} {t : Ty} {xs : List t.den} {v : Value} {us : List Value} (h2 : w.ownsRow 0 e t.size v xs.length us) (h3 : RepEs w ok t us xs) (hok : ∀ g, blk v = some g → ok g) :
    RepD w ok (.sl t) [v] xs := by
  rcases h2.2 with ⟨rfl, hn⟩ | ⟨g, cap, cur, rfl, _, hg, hnc, hcm, hcs, htake⟩
  · exact ⟨none, 0, by rw [hn], by omega, Nat.zero_le _, fun _ => rfl, fun i hi => by omega⟩
  · refine ⟨some ⟨g, 0, none⟩, cap, rfl, hnc, hcm, (fun e => by cases e), fun i hi => ⟨g, 0, (us.drop (i * t.size)).take t.size, rfl, hok g rfl, ?_, ?_, h3 i hi⟩⟩
    · have hl := h2.1
      have : (i + 1) * t.size ≤ xs.length * t.size := Nat.mul_le_mul_right _ hi
      rw [Nat.add_mul] at this
      simp only [List.length_take, List.length_drop]
      omega
    · have hm : Mem w g 0 us := by
        intro j u hu
        rw [cell_of_row w g (0 + j) cur e (0, 0) hg, Nat.zero_add]
        rw [← htake, List.getElem?_take] at hu
        split at hu
        · simpa using hu
        · cases hu
      exact hm.sub (i * t.size) t.size
def hsOut (LL : List (List Int)) : St := spSt 55 [5] [.lf (.ref 176)] [(176, ⟨true, .arr 26 (.sl tI64) LL⟩)]
theorem Gh.out {w0 : World} {own : Nat → Prop} {π : Pin} {l : List (Int × Int)} {us : List Value} {LL : List (List Int)} {k : Int} {a : Act} {w : World} {v : Value} {ok : Nat → Prop} (G : Gh w0 own π l us LL k a w v ok)  :
    ∃ β' ok', Sim π w0 own w a (hsOut LL) β' ok' := by
  let ok2 : Nat → Prop := fun b => ok b ∨ ∃ (j : Nat) (u : Value), us[j]? = some u ∧ blk u = some b
  have hlt : ∀ (j : Nat) (u : Value) (g : Nat), us[j]? = some u → blk u = some g → g < w.heap.size := fun j u g hu hg => by
    have hi : j < LL.length := by rw [G.len]; exact (List.getElem?_eq_some_iff.1 hu).1
    obtain ⟨vs, hr, _⟩ := G.inn j u LL[j] hu (by simp [hi])
    exact row_lt hr hg
  have hone : ∀ id e, hget (hsOut LL).heap id = some e → id = 176 ∧ e = ⟨true, .arr 26 (.sl tI64) LL⟩ := fun id e h => by
    change hget [(176, (⟨true, .arr 26 (.sl tI64) LL⟩ : Ent))] id = some e at h
    unfold hget at h
    split at h
    · rename_i h1; cases h; exact ⟨h1.symm, rfl⟩
    · cases h
  have hv : ∀ id u, hsβ v none id = some u → id = 176 ∧ u = v := fun id u h => by
    unfold hsβ at h
    split at h
    · rename_i h1; cases h; exact ⟨h1, rfl⟩
    · split at h <;> cases h
  refine ⟨hsβ v none, ok2, ⟨⟨G.fr, fun b hb => ?_, fun id u h => ?_, fun id e h => ?_, fun id e h _ => ?_, fun id e u g h _ hu hg => ?_, fun id e u g h hw => ?_, fun i e u j e' u' g hij h h' => ?_⟩, fun t => ?_, by rw [G.size]; exact (spTmps_length ..).symm, G.def0, fun id u hid h => ?_, fun b hb => ?_⟩⟩
  · rcases hb with h | ⟨j, u, h1, h2⟩
    · exact G.okLt b h
    · exact hlt j u b h1 h2
  · obtain ⟨rfl, _⟩ := hv id u h; exact ⟨_, rfl⟩
  · obtain ⟨rfl, rfl⟩ := hone id e h
    refine ⟨v, us, rfl, by rw [G.len]; exact G.row, fun i hi => ?_⟩
    have hiu : i < us.length := by rw [← G.len]; exact hi
    obtain ⟨vs, hr, he⟩ := G.inn i us[i] LL[i] (by simp [hiu]) (by simp [hi])
    have e1 : (us.drop (i * (Ty.sl tI64).size)).take (Ty.sl tI64).size = [us[i]] := by
      show (us.drop (i * 1)).take 1 = _
      rw [Nat.mul_one, List.drop_eq_getElem_cons hiu]; rfl
    rw [e1]
    exact row_dat (t := tI64) hr (reps_int he) fun g hg => .inr ⟨i, us[i], by simp [hiu], hg⟩
  · obtain ⟨rfl, rfl⟩ := hone id e h; rfl
  · obtain ⟨rfl, rfl⟩ := hv id u hu
    refine ⟨?_, (G.vok g hg).2⟩
    rintro (h1 | ⟨j, y, h1, h2⟩)
    · exact (G.vok g hg).1 h1
    · exact (G.iok j y g h1 h2).2.2 hg
  · obtain ⟨rfl, rfl⟩ := hone id e h; cases hw
  · obtain ⟨rfl, _⟩ := hone _ _ h; obtain ⟨rfl, _⟩ := hone _ _ h'; exact absurd rfl hij
  · have h := spTmps_get [5] [.lf (.ref 176)] 55 0 t
    show RepV w ok2 _ _ ((spTmps [5] [.lf (.ref 176)] 55 0).getD t (.lf .undef))
    rw [h, Nat.zero_add]
    split
    · simp only [lookT]
      split
      · rename_i h5; subst h5; rw [G.t5]; obtain ⟨A, c, h⟩ := row_slice G.row; exact ⟨rfl, A, _, c, h⟩
      · trivial
    · trivial
  · obtain ⟨rfl, _⟩ := hv id u h
    exact absurd hid (by decide)
  · rcases hb with h | ⟨j, u, h1, h2⟩
    · exact G.okB b h
    · exact .inr (G.iok j u b h1 h2).2.1
def hsC (us : List Value) (l : List (Int × Int)) (n k : Int) : Bool :=
  open Classical in decide (us = List.replicate us.length nilv) && decide (us.length ≤ 4096) && decide (n = l.length) && decide (k = 0) && decide (l.length ≤ 1000000)
def hsTree (us : List Value) (l : List (Int × Int)) (n k : Int) : Tree := .req (hsC us l n k) (.leaf (.norm (hsOut (hsUpto us.length l l.length))))
def hsTell (σ : St) : Option Tree := match σ.heap, σ.tv 5, σ.tv 12, σ.tv 13, σ.tv 14 with
  | [(id, ⟨true, .raw e us none⟩)], .lf (.ref id'), .lf (.dat t l), .lf (.int .i64 n), .lf (.int .i64 k) =>
    if h : t = tA then if id = 176 ∧ id' = 176 ∧ e = 26 ∧ σ.tmps.length = 55 then some (hsTree us (h ▸ l : List tA.den) n k) else none else none
  | _, _, _, _, _ => none
def hsL : Cuts := fun q σ => if q = 29 then hsTell σ else none
theorem hs_29 : codeAt 80 (codeOf f_dag_heads) 29 = some (.block 0 (.loop hsBody)) := by kernel_rfl
theorem hs_cuts : CutsOK pg hsL (codeOf f_dag_heads) 2 := by
  intro d q c hq hc π w0 own σ t K a w β ok ht hs S
  unfold hsL at ht
  split at ht
  case isFalse => cases ht
  rename_i hq29
  subst hq29
  cases codeAt_fun hc hs_29
  unfold hsTell at ht
  split at ht
  case h_2 => cases ht
  rename_i id e us id' t' l n k hheap h5 h12 h13 h14
  split at ht
  case isFalse => cases ht
  rename_i hty
  subst hty
  split at ht
  case isFalse => cases ht
  rename_i hids
  obtain ⟨rfl, rfl, rfl, hlen⟩ := hids
  cases ht
  obtain ⟨hC, hK⟩ := hs
  change List (Int × Int) at l
  change hsC us l n k = true at hC
  change K (.norm (hsOut (hsUpto us.length l l.length))) at hK
  simp only [hsC, Bool.and_eq_true, decide_eq_true_eq] at hC
  obtain ⟨⟨⟨⟨hus, hm⟩, rfl⟩, rfl⟩, hl⟩ := hC
  have hget176 : hget σ.heap 176 = some ⟨true, .raw 26 us none⟩ := by rw [hheap]; rfl
  obtain ⟨v, vs, h1, h2, h3⟩ := S.inv.ent 176 _ hget176
  cases (show vs = us from h3)
  have t5 := S.tmps 5
  have t12 := S.tmps 12
  have t13 := S.tmps 13
  have t14 := S.tmps 14
  rw [h5] at t5
  rw [h12] at t12
  rw [h13] at t13
  rw [h14] at t14
  have e5 : a.tmps.getD 5 undef = v := by
    have := (show β 176 = some (a.tmps.getD 5 undef) ∧ _ from t5).1
    rw [h1] at this
    exact (Option.some.inj this).symm
  have hnil : ∀ (j : Nat) (u : Value), us[j]? = some u → u = nilv := fun j u hu => by
    have := List.mem_of_getElem? hu
    rw [hus] at this
    exact (List.mem_replicate.1 this).2
  have G0 : Gh w0 own π l us (hsUpto us.length l 0) ((0 : Nat) : Int) a w v ok := by
    refine ⟨S.inv.fr, S.inv.okLt, S.okB, by rw [S.size]; exact hlen, S.def0, e5, t12, t13, t14, h2, fun g hg => S.inv.wr 176 _ v g hget176 rfl h1 hg, by simp [hsUpto], fun j u x hu hx => ?_, fun j u g hu hg => ?_, fun i j u u' g _ hu _ hg => ?_⟩
    · have hx0 : x = [] := (List.mem_replicate.1 (show x ∈ List.replicate us.length ([] : List Int) from List.mem_of_getElem? hx)).2
      subst hx0
      rw [hnil j u hu]
      exact ⟨[], ⟨rfl, .inl ⟨rfl, rfl⟩⟩, fun i hi => absurd hi (Nat.not_lt_zero i)⟩
    · rw [hnil j u hu] at hg; cases hg
    · rw [hnil i u hu] at hg; cases hg
  refine wpIn_block (wpIn_loop_ghost (fun n a w => ∃ kn, n = l.length - kn ∧ HsI w0 own π l us.length kn a w) l.length ⟨0, by omega, by omega, us, v, ok, rfl, G0⟩ ?_)
  rintro n a1 w1 ⟨kn, rfl, HI⟩
  refine wpIn_mono (hs_round hl hm HI) ?_
  rintro e a2 w2 h
  cases e with
  | normal =>
    obtain ⟨hk, HI'⟩ := h
    exact ⟨l.length - (kn + 1), by omega, kn + 1, rfl, HI'⟩
  | exit i =>
    cases i with
    | zero =>
      obtain ⟨rfl, _, us2, v2, ok2, hu2, G2⟩ := h
      obtain ⟨β3, ok3, S3⟩ := G2.out
      exact ⟨.norm _, β3, ok3, hK, rfl, S3⟩
    | succ i => exact h.elim
  | _ => exact h.elim
theorem fn_okL {P : Program} {T : CallT} (hm : P.follows .mixedOrders = true) (hT : SoundT P T) {o : Io} {fn : Func} {L : Cuts} {plan : List WOp} {t : Tup o.A → RT Unit (Tup o.R)}
    (has : (fn.body.isSome && !(fn.name == "runtime.NumGoroutine")) = true) (hf : P.funcs[o.f]? = some fn) (hcuts : CutsOK P L (codeOf fn) 2)
    (go : ∀ x, (evI P T L 1 (codeOf fn) (initSt (o.as x) (o.es x) fn.ntmps)).pt (outEv P fn (o.ents.length) plan o.sh) = (t x).pt (fun _ => .norm [] []) (fun y => .out (o.res y))) : o.Okay P fun x => (t x).run fun _ => none := by
  simp only [Bool.and_eq_true, Bool.not_eq_true'] at has
  obtain ⟨hb, hn⟩ := has
  refine ⟨⟨fn, hf, hb, hn⟩, fun x y hy => ?_⟩
  have hbody : fn.body = some (codeOf fn) := by
    unfold codeOf
    cases h : fn.body with
    | none => rw [h] at hb; cases hb
    | some c => rfl
  have hlen : (o.es x).length = o.ents.length := by simp [Io.es]
  refine fnSoundW hf hbody plan fun π w0 own a w β ok _ S => ?_
  refine evI_sound hm hT (codeOf fn) 1 0 _ _ a w β ok (by decide) rfl hcuts S (out_sat ?_)
  have hgo := go x
  rw [← hlen] at hgo
  rw [show (o.res y).shares = o.sh from rfl, hgo]
  exact RT.sat (r := y) (again := fun _ => none) (fun _ h => by cases h) ⟨rfl, rfl, rfl⟩ hy
def io_dag_heads : Io := ⟨n_dag_heads, [tI, .sl (.pair tI tI)], [.lf (qm 0), .lf (qm 1)], [], [[tI], [.sl (.pair tI tI)]], [.sl (.sl tI)], .lf (qm 0), [], [], true⟩
def dag_heads : Int × List (Int × Int) → RT Unit (List (List Int))
| (n, l) =>
 .rq 4 (.req (mkOK 24 (minI (maxI n 0) 4096)) (.rq 4 (.req (hsC (List.replicate (minI (maxI n 0) 4096).toNat nilv) l l.length 0) (.rq 2 (.done (hsUpto (List.replicate (minI (maxI n 0) 4096).toNat nilv).length l l.length))))))
def F_dag_heads (x : Int × List (Int × Int)) : Option (List (List Int)) := (dag_heads x).run fun _ => none
theorem dag_heads_go (x : Tup io_dag_heads.A) : (evI pg hsT hsL 1 (codeOf f_dag_heads) (initSt (io_dag_heads.as x) (io_dag_heads.es x) f_dag_heads.ntmps)).pt (outEv pg f_dag_heads io_dag_heads.ents.length [.toDat 4] io_dag_heads.sh) =
    RT.pt (α := Unit) (R := Tup io_dag_heads.R) (fun _ => PE.norm [] []) (fun y => .out (io_dag_heads.res y)) (dag_heads x) := by kernel_rfl
theorem ok_dag_heads : io_dag_heads.Okay pg F_dag_heads := fn_okL (o := io_dag_heads) (fn := f_dag_heads) (plan := [.toDat 4]) (t := dag_heads) pg_mixed hsTo (by kernel_rfl) (by kernel_rfl) hs_cuts dag_heads_go
def dm (n : Int) : Nat := (minI (maxI n 0) 4096).toNat
theorem dm_le (n : Int) : dm n ≤ 4096 := by
  unfold dm minI; split <;> omega
theorem dm_eq {n : Int} (h0 : 0 ≤ n) (h : n ≤ 4096) : dm n = n.toNat := by
  unfold dm minI maxI
  rw [show (if n < 0 then 0 else n) = n from by split <;> omega] <;> first | (split <;> omega) | skip
def hds (m : Nat) (l : List (Int × Int)) : List (List Int) := l.foldl (hsStep m) (List.replicate m [])
theorem hds_upto (m : Nat) (l : List (Int × Int)) : hsUpto m l l.length = hds m l := by
  unfold hsUpto hds; rw [List.take_length]
def e_dag_heads : Entry := io_dag_heads.sp (fun (n, l) => (decide (l.length ≤ 1000000))) (fun (n, l) => (hds (dm n) l))
theorem sp_dag_heads (h : ∀ (n : Int) (l : List (Int × Int)), WfT [tI, .sl (.pair tI tI)] (n, l) → ((decide (l.length ≤ 1000000))) = true → (dag_heads (n, l)).run (fun _ => none) = some (hds (dm n) l)) : e_dag_heads.ok pg := sp_ok ok_dag_heads fun (n, l) hw hc => h n l hw hc
theorem e_dag_heads_ok : e_dag_heads.ok pg := sp_dag_heads fun n l _ hc => by
  have hm := dm_le n
  have h0 : 0 ≤ minI (maxI n 0) 4096 := by unfold minI maxI; split <;> split <;> omega
  have h1 : minI (maxI n 0) 4096 ≤ 4096 := by unfold minI; split <;> omega
  rw [dag_heads]
  simp only [RT.run, List.length_replicate]
  rw [if_pos (mkOK_iff.2 ⟨h0, by omega, by omega⟩), if_pos, hds_upto]
  · rfl
  · simp only [hsC, List.length_replicate, Bool.and_eq_true, decide_eq_true_eq]
    exact ⟨⟨⟨⟨trivial, hm⟩, trivial⟩, trivial⟩, of_decide_eq_true hc⟩
end
end Go.Proofs.YtlfdidaeachpoaaGreat

namespace Go.Proofs.YtlfdidaeachpoaaGreat
open Go Go.RowKit
def bump (d : Int) (r : List Int) (k : Int) : List Int := sI r k (gI r k + d)
theorem bump_length {d : Int} {r : List Int} {k : Int} : (bump d r k).length = r.length := by simp [bump, sI]
theorem bumps_length {d : Int} : ∀ {l r : List Int}, (l.foldl (bump d) r).length = r.length
  | [], _ => rfl
  | k :: l, r => by rw [List.foldl_cons, bumps_length, bump_length]
def inR (m : Nat) (l : List Int) : Prop := ∀ k ∈ l, 0 ≤ k ∧ k < (m : Int)
theorem gI_bump {d : Int} {r : List Int} {k j : Int} (hk : 0 ≤ k ∧ k < (r.length : Int)) (hj : 0 ≤ j ∧ j < (r.length : Int)) : gI (bump d r k) j = gI r j + (if k = j then d else 0) := by
  obtain ⟨k, rfl⟩ := Int.eq_ofNat_of_zero_le hk.1
  obtain ⟨j, rfl⟩ := Int.eq_ofNat_of_zero_le hj.1
  have h1 : k < r.length := by omega
  have h2 : j < r.length := by omega
  simp only [gI, bump, sI, Int.toNat_natCast, List.getD_eq_getElem?_getD]
  by_cases h : k = j
  · subst h
    rw [List.getElem?_set_self h1, if_pos rfl]
    simp
  · rw [List.getElem?_set_ne h, if_neg (by omega)]
    simp
theorem gI_bumps {d : Int} {j : Int} : ∀ {l r : List Int}, inR r.length l → (0 ≤ j ∧ j < (r.length : Int)) → gI (l.foldl (bump d) r) j = gI r j + d * (l.count j : Int)
  | [], r, _, _ => by simp
  | k :: l, r, hl, hj => by
    have hk := hl k (List.mem_cons_self ..)
    rw [List.foldl_cons, gI_bumps (by rw [bump_length]; exact fun x hx => hl x (List.mem_cons_of_mem _ hx)) (by rw [bump_length]; exact hj), gI_bump hk hj, List.count_cons]
    by_cases h : k = j
    · subst h
      simp only [if_pos, beq_self_eq_true]
      rw [Int.natCast_add, Int.mul_add]
      simp
      omega
    · rw [if_neg h]
      have : (k == j) = false := by simpa using h
      simp [this]
theorem hds_length {m : Nat} (l : List (Int × Int)) : (hds m l).length = m := by
  have : ∀ (l : List (Int × Int)) (LL : List (List Int)), (l.foldl (hsStep m) LL).length = LL.length := by
    intro l
    induction l with
    | nil => intro LL; rfl
    | cons a l ih => intro LL; rw [List.foldl_cons, ih, hsStep_length]
  rw [hds, this, List.length_replicate]
theorem hds_get {m : Nat} (l : List (Int × Int)) {i : Nat} (hi : i < m) : (hds m l).getD i [] = (l.filter fun a => hsOk m a && a.1 == (i : Int)).map (·.2) := by
  have : ∀ (l : List (Int × Int)) (LL : List (List Int)), LL.length = m → (l.foldl (hsStep m) LL).getD i [] = LL.getD i [] ++ (l.filter fun a => hsOk m a && a.1 == (i : Int)).map (·.2) := by
    intro l
    induction l with
    | nil => intro LL _; simp
    | cons a l ih =>
      intro LL hLL
      rw [List.foldl_cons, ih _ (hsStep_length.trans hLL), List.filter_cons]
      unfold hsStep
      cases hok : hsOk m a with
      | false => simp
      | true =>
        have hv := hok
        simp only [hsOk, Bool.and_eq_true, decide_eq_true_eq] at hv
        simp only [if_true, Bool.true_and]
        by_cases h : a.1 = (i : Int)
        · have h2 : (a.1 == (i : Int)) = true := by simpa using h
          rw [if_pos h2, h]
          simp only [Int.toNat_natCast, List.getD_eq_getElem?_getD, List.getElem?_set_self (by omega : i < LL.length)]
          simp
        · have h2 : ¬ (a.1 == (i : Int)) = true := by simpa using h
          rw [if_neg h2]
          have h3 : a.1.toNat ≠ i := by omega
          simp only [List.getD_eq_getElem?_getD, List.getElem?_set_ne h3]
  rw [hds, this l _ (by simp)]
  simp [List.getD_eq_getElem?_getD, List.getElem?_replicate, hi]
theorem hds_inR {m : Nat} (l : List (Int × Int)) : ∀ to ∈ hds m l, inR m to := by
  intro to hto k hk
  obtain ⟨i, hi, rfl⟩ := List.mem_iff_getElem.1 hto
  rw [hds_length] at hi
  have h := hds_get l hi
  rw [List.getD_eq_getElem?_getD, List.getElem?_eq_getElem (by rw [hds_length]; exact hi)] at h
  simp only [Option.getD_some] at h
  rw [h, List.mem_map] at hk
  obtain ⟨a, ha, rfl⟩ := hk
  have := (List.mem_filter.1 ha).2
  simp only [hsOk, Bool.and_eq_true, decide_eq_true_eq] at this
  omega
theorem flatten_nils (m : Nat) : (List.replicate m ([] : List Int)).flatten = [] := by
  induction m with
  | zero => rfl
  | succ m ih => rw [List.replicate_succ, List.flatten_cons, ih]; rfl
theorem hds_count {m : Nat} (l : List (Int × Int)) (j : Int) : (hds m l).flatten.count j = (l.filter fun a => hsOk m a && a.2 == j).length := by
  have : ∀ (l : List (Int × Int)) (LL : List (List Int)), LL.length = m → (l.foldl (hsStep m) LL).flatten.count j = LL.flatten.count j + (l.filter fun a => hsOk m a && a.2 == j).length := by
    intro l
    induction l with
    | nil => intro LL _; simp
    | cons a l ih =>
      intro LL hLL
      rw [List.foldl_cons, ih _ (hsStep_length.trans hLL), List.filter_cons]
      unfold hsStep
      cases hok : hsOk m a with
      | false => simp
      | true =>
        have hv := hok
        simp only [hsOk, Bool.and_eq_true, decide_eq_true_eq] at hv
        have hlt : a.1.toNat < LL.length := by omega
        simp only [if_true, Bool.true_and]
        have hset : ∀ (LL : List (List Int)) (i : Nat) (h : i < LL.length) (y : Int), (LL.set i (LL.getD i [] ++ [y])).flatten.count j = LL.flatten.count j + (if y = j then 1 else 0) := by
          intro LL
          induction LL with
          | nil => intro i h; exact absurd h (Nat.not_lt_zero i)
          | cons x LL ih2 =>
            intro i h y
            cases i with
            | zero => simp [List.count_append, List.count_cons]; omega
            | succ i =>
              have := ih2 i (by simpa using h) y
              simp only [List.set_cons_succ, List.getD_cons_succ, List.flatten_cons, List.count_append, this]
              omega
        rw [hset LL _ hlt]
        by_cases h : a.2 = j
        · have h2 : (a.2 == j) = true := by simpa using h
          rw [if_pos h, if_pos h2, List.length_cons]; omega
        · have h2 : ¬ (a.2 == j) = true := by simpa using h
          rw [if_neg h, if_neg h2]
          omega
  rw [hds, this l _ (by simp), flatten_nils]; simp
def indeg (m : Nat) (l : List (Int × Int)) (out : List Int) (j : Int) : Nat := (l.filter fun a => hsOk m a && a.2 == j && !(out.contains a.1)).length
def nxt (m : Nat) (l : List (Int × Int)) (out : List Int) : Option Nat := (List.range m).findIdx? fun (k : Nat) => !(out.contains (k : Int)) && indeg m l out (k : Int) == 0
def kahn (m : Nat) (l : List (Int × Int)) : Nat → List Int → Option (List Int)
  | 0, out => some out
  | n + 1, out => match nxt m l out with
    | none => none
    | some k => kahn m l n (out ++ [(k : Int)])
def ordV (m : Nat) (l : List (Int × Int)) : Bool × List Int := match kahn m l m [] with
  | some o => (true, o)
  | none => (false, [])
structure OutOf (m : Nat) (l : List (Int × Int)) (out : List Int) : Prop where
  nodup : out.Nodup
  inr : inR m out
  closed : ∀ a ∈ l, hsOk m a = true → a.2 ∈ out → a.1 ∈ out
theorem nxt_spec {m : Nat} {l : List (Int × Int)} {out : List Int} {k : Nat} (h : nxt m l out = some k) : k < m ∧ (k : Int) ∉ out ∧ indeg m l out (k : Int) = 0 := by
  obtain ⟨h1, h2, _⟩ := List.findIdx?_eq_some_iff_getElem.1 h
  simp only [List.getElem_range, Bool.and_eq_true, Bool.not_eq_true', beq_iff_eq] at h2
  refine ⟨by simpa using h1, fun hc => ?_, h2.2⟩
  have := h2.1
  rw [List.contains_iff_mem.2 hc] at this
  cases this
theorem OutOf.step {m : Nat} {l : List (Int × Int)} {out : List Int} {k : Nat} (H : OutOf m l out) (h : nxt m l out = some k) : OutOf m l (out ++ [(k : Int)]) := by
  obtain ⟨h1, h2, h3⟩ := nxt_spec h
  refine ⟨?_, ?_, ?_⟩
  · rw [List.nodup_append]
    refine ⟨H.nodup, by simp, fun x hx y hy => ?_⟩
    rw [List.mem_singleton] at hy
    subst hy
    exact fun e => h2 (e ▸ hx)
  · intro x hx
    rcases List.mem_append.1 hx with h | h
    · exact H.inr x h
    · rw [List.mem_singleton] at h; subst h; omega
  · intro a ha hok hx
    rcases List.mem_append.1 hx with h | h
    · exact List.mem_append_left _ (H.closed a ha hok h)
    · rw [List.mem_singleton] at h
      refine List.mem_append_left _ (Classical.byContradiction fun hn => ?_)
      have : a ∈ l.filter fun a => hsOk m a && a.2 == (k : Int) && !(out.contains a.1) := by
        rw [List.mem_filter]
        refine ⟨ha, ?_⟩
        have hc : out.contains a.1 = false := by
          cases hc : out.contains a.1 with
          | false => rfl
          | true => exact absurd (List.contains_iff_mem.1 hc) hn
        simp [hok, h, hc]
        exact fun hm => hn hm
      have hpos := List.length_pos_of_mem this
      unfold indeg at h3
      omega
theorem indeg_out {m : Nat} {l : List (Int × Int)} {out : List Int} {k j : Int} (hk : k ∉ out) : indeg m l out j = indeg m l (out ++ [k]) j + (l.filter fun a => hsOk m a && a.2 == j && a.1 == k).length := by
  unfold indeg
  induction l with
  | nil => rfl
  | cons a l ih =>
    simp only [List.filter_cons]
    by_cases h1 : (hsOk m a && a.2 == j) = true
    · rw [h1]
      simp only [Bool.true_and]
      by_cases h2 : a.1 = k
      · have hc : out.contains a.1 = false := by
          cases hc : out.contains a.1 with
          | false => rfl
          | true => exact absurd (h2 ▸ List.contains_iff_mem.1 hc) hk
        have hc2 : (out ++ [k]).contains a.1 = true := List.contains_iff_mem.2 (by simp [h2])
        have h3 : (a.1 == k) = true := by simpa using h2
        rw [hc, hc2, h3]
        simp only [Bool.not_false, Bool.not_true, if_true, Bool.false_eq_true, if_false, List.length_cons, ih]
        omega
      · have h3 : (a.1 == k) = false := by simpa using h2
        have hc : (out ++ [k]).contains a.1 = out.contains a.1 := by
          cases hc : out.contains a.1 with
          | true => exact List.contains_iff_mem.2 (List.mem_append_left _ (List.contains_iff_mem.1 hc))
          | false =>
            cases hc2 : (out ++ [k]).contains a.1 with
            | false => rfl
            | true =>
              rcases List.mem_append.1 (List.contains_iff_mem.1 hc2) with h | h
              · rw [List.contains_iff_mem.2 h] at hc; cases hc
              · exact absurd (List.mem_singleton.1 h) h2
        rw [hc, h3]
        cases out.contains a.1 with
        | true => simp only [Bool.not_true, Bool.false_eq_true, if_false]; exact ih
        | false => simp only [Bool.not_false, Bool.false_eq_true, if_false, if_true, List.length_cons]; omega
    · have h1' : (hsOk m a && a.2 == j) = false := by simpa using h1
      rw [h1']
      simpa using ih
def degs (m : Nat) (l : List (Int × Int)) (out : List Int) : List Int := (List.range m).map fun (k : Nat) => if out.contains (k : Int) then -1 else (indeg m l out (k : Int) : Int)
theorem degs_length (m : Nat) (l : List (Int × Int)) (out : List Int) : (degs m l out).length = m := by simp [degs]
theorem degs_get (m : Nat) (l : List (Int × Int)) (out : List Int) {k : Nat} (h : k < m) : gI (degs m l out) (k : Int) = if out.contains (k : Int) then -1 else (indeg m l out (k : Int) : Int) := by
  rw [gI_lt (by rw [degs_length]; exact h)]
  simp [degs]
theorem indeg_le (m : Nat) (l : List (Int × Int)) (out : List Int) (j : Int) : indeg m l out j ≤ l.length := List.length_filter_le ..
theorem row_ext {r r' : List Int} (hl : r.length = r'.length) (h : ∀ k : Nat, k < r.length → gI r (k : Int) = gI r' (k : Int)) : r = r' := by
  apply List.ext_getElem hl
  intro i h1 h2
  have := h i h1
  rwa [gI_lt h1, gI_lt h2] at this
theorem degs_start (m : Nat) (l : List (Int × Int)) : ((hds m l).flatten.foldl (bump 1) (List.replicate m 0)) = degs m l [] := by
  refine row_ext (by rw [bumps_length, List.length_replicate, degs_length]) fun k hk => ?_
  rw [bumps_length, List.length_replicate] at hk
  rw [gI_bumps (fun x hx => ?_) (by rw [List.length_replicate]; omega), degs_get _ _ _ hk, hds_count]
  · have h0 : gI (List.replicate m (0 : Int)) (k : Int) = 0 := by rw [gI_lt (by simpa using hk)]; simp
    rw [h0]
    simp [indeg]
  · rw [List.length_replicate]
    obtain ⟨to, h1, h2⟩ := List.mem_flatten.1 hx
    exact hds_inR l to h1 x h2
theorem degs_step {m : Nat} {l : List (Int × Int)} {out : List Int} {k : Nat} (H : OutOf m l out) (h : nxt m l out = some k) :
    ((hds m l).getD k []).foldl (bump (-1)) (sI (degs m l out) (k : Int) (-1)) = degs m l (out ++ [(k : Int)]) := by
  obtain ⟨h1, h2, h3⟩ := nxt_spec h
  have hsl : (sI (degs m l out) (k : Int) (-1)).length = m := by simp [sI, degs_length]
  have hin : inR m ((hds m l).getD k []) := by
    rw [List.getD_eq_getElem?_getD, List.getElem?_eq_getElem (by rw [hds_length]; exact h1)]
    exact hds_inR l _ (List.getElem_mem _)
  refine row_ext (by rw [bumps_length, hsl, degs_length]) fun j hj => ?_
  rw [bumps_length, hsl] at hj
  rw [gI_bumps (by rw [hsl]; exact hin) (by rw [hsl]; omega), degs_get _ _ _ hj]
  have hset : gI (sI (degs m l out) (k : Int) (-1)) (j : Int) = if k = j then -1 else gI (degs m l out) (j : Int) := by
    rw [gI_lt (by rw [hsl]; exact hj)]
    by_cases hkj : k = j
    · subst hkj; rw [if_pos rfl]; simp [sI]
    · rw [if_neg hkj, gI_lt (by rw [degs_length]; exact hj)]
      simp [sI, List.getElem_set_ne hkj]
  have hcnt : ((hds m l).getD k []).count (j : Int) = (l.filter fun a => hsOk m a && a.2 == (j : Int) && a.1 == (k : Int)).length := by
    rw [hds_get l h1, List.count_eq_countP, List.countP_map, List.countP_eq_length_filter, List.filter_filter]
    congr 1
    apply List.filter_congr
    intro a _
    simp only [Function.comp]
    cases hsOk m a <;> cases (a.1 == (k : Int)) <;> cases (a.2 == (j : Int)) <;> rfl
  rw [hset, hcnt]
  have hdec := indeg_out (m := m) (l := l) (j := (j : Int)) h2
  by_cases hkj : k = j
  · subst hkj
    rw [if_pos rfl, if_pos (List.contains_iff_mem.2 (by simp))]
    have : indeg m l (out ++ [(k : Int)]) (k : Int) + (l.filter fun a => hsOk m a && a.2 == (k : Int) && a.1 == (k : Int)).length = 0 := by omega
    omega
  · rw [if_neg hkj, degs_get _ _ _ hj]
    by_cases hjo : (j : Int) ∈ out
    · rw [if_pos (List.contains_iff_mem.2 hjo), if_pos (List.contains_iff_mem.2 (List.mem_append_left _ hjo))]
      have : (l.filter fun a => hsOk m a && a.2 == (j : Int) && a.1 == (k : Int)).length = 0 := by
        rw [List.length_eq_zero_iff, List.filter_eq_nil_iff]
        intro a ha hc
        simp only [Bool.and_eq_true, beq_iff_eq] at hc
        obtain ⟨⟨hok, e1⟩, e2⟩ := hc
        exact h2 (e2 ▸ H.closed a ha hok (e1 ▸ hjo))
      omega
    · have hc1 : out.contains (j : Int) = false := by
        cases hc : out.contains (j : Int) with
        | false => rfl
        | true => exact absurd (List.contains_iff_mem.1 hc) hjo
      have hc2 : (out ++ [(k : Int)]).contains (j : Int) = false := by
        cases hc : (out ++ [(k : Int)]).contains (j : Int) with
        | false => rfl
        | true =>
          rcases List.mem_append.1 (List.contains_iff_mem.1 hc) with h | h
          · exact absurd h hjo
          · have := List.mem_singleton.1 h; omega
      rw [hc1, hc2]
      simp only [Bool.false_eq_true, if_false]
      omega
def idxI (v : Int) (s : List Int) : Int := match s.findIdx? (· == v) with
  | some j => (j : Int)
  | none => -1
theorem idx_degs (m : Nat) (l : List (Int × Int)) (out : List Int) : idxI 0 (degs m l out) = match nxt m l out with | some k => (k : Int) | none => -1 := by
  unfold idxI degs nxt
  rw [List.findIdx?_map]
  have : ((fun x => x == (0 : Int)) ∘ fun (k : Nat) => if out.contains (k : Int) then (-1 : Int) else (indeg m l out (k : Int) : Int)) = fun (k : Nat) => !(out.contains (k : Int)) && indeg m l out (k : Int) == 0 := by
    funext k
    simp only [Function.comp]
    cases out.contains (k : Int) with
    | true => rfl
    | false =>
      simp only [Bool.false_eq_true, if_false, Bool.not_false, Bool.true_and]
      cases h : indeg m l out (k : Int) with
      | zero => rfl
      | succ n => simp; omega
  rw [this]
theorem kahn_length {m : Nat} {l : List (Int × Int)} : ∀ {n : Nat} {out o : List Int}, kahn m l n out = some o → o.length = out.length + n
  | 0, _, _, h => by cases h; rfl
  | n + 1, out, o, h => by
    unfold kahn at h
    split at h
    · cases h
    · have := kahn_length h
      simp at this
      omega
theorem kahn_out {m : Nat} {l : List (Int × Int)} : ∀ {n : Nat} {out o : List Int}, OutOf m l out → kahn m l n out = some o → OutOf m l o
  | 0, _, _, H, h => by cases h; exact H
  | n + 1, out, o, H, h => by
    unfold kahn at h
    split at h
    · cases h
    · rename_i k hk
      exact kahn_out (H.step hk) h
theorem OutOf.nil (m : Nat) (l : List (Int × Int)) : OutOf m l [] := ⟨by simp, fun x hx => (by cases hx), fun a _ _ h => (by cases h)⟩
theorem ordV_out (m : Nat) (l : List (Int × Int)) : OutOf m l (ordV m l).2 := by
  unfold ordV
  cases h : kahn m l m [] with
  | none => exact OutOf.nil m l
  | some o => exact kahn_out (OutOf.nil m l) h
def within (c : Nat) (r : List Int) : Prop := ∀ j : Int, 0 ≤ j ∧ j < (r.length : Int) → -(c : Int) ≤ gI r j ∧ gI r j ≤ (c : Int)
theorem within_bump {c : Nat} {r : List Int} {k d : Int} (h : within c r) (hk : 0 ≤ k ∧ k < (r.length : Int)) (hd : d = 1 ∨ d = -1) : within (c + 1) (bump d r k) := fun j hj => by
  rw [bump_length] at hj
  rw [gI_bump hk hj]
  have := h j hj
  rcases hd with rfl | rfl <;> split <;> omega
theorem within_bumps {d : Int} (hd : d = 1 ∨ d = -1) : ∀ {l r : List Int} {c : Nat}, within c r → inR r.length l → within (c + l.length) (l.foldl (bump d) r)
  | [], _, _, h, _ => h
  | k :: l, r, c, h, hl => by
    have := within_bumps hd (l := l) (within_bump h (hl k (List.mem_cons_self ..)) hd) (by rw [bump_length]; exact fun x hx => hl x (List.mem_cons_of_mem _ hx))
    rw [List.foldl_cons, List.length_cons]
    rwa [show c + (l.length + 1) = c + 1 + l.length by omega]
theorem within_degs (m : Nat) (l : List (Int × Int)) (out : List Int) : within (l.length + 1) (degs m l out) := fun j hj => by
  rw [degs_length] at hj
  obtain ⟨k, rfl⟩ := Int.eq_ofNat_of_zero_le hj.1
  rw [degs_get _ _ _ (by omega)]
  have := indeg_le m l out (k : Int)
  split <;> omega
end Go.Proofs.YtlfdidaeachpoaaGreat

namespace Go.Proofs.YtlfdidaeachpoaaGreat
open Go Go.RowKit
set_option maxRecDepth 100000
noncomputable section
def slices_Index_int_int_b26 : (Int × Int × (List Int)) → Int → RT Int (LR Int Unit)
| (v, x7, p0), x8 =>
 .rq 1 (.ite (decide (x8 < x7))
 (.rq 5 (.req (inB p0 x8) (.rq 2 (.ite (v == (gI p0 x8))
 (.rq 2 (.done (.ex x8)))
 (.rq 2 (.again (w64 (x8 + 1))))))))
 (.done (.rt ())))
def slices_Index_int_int_p26 : Piece := ⟨26, true, [tI, tI, .sl tI], [tI], ⟨[.keep [0, 1, 7, 8], .gc], [0, 1, 7, 8], [.lf (qr 1048576), .lf (qi 0), .lf (qi 1), .lf (qm 0)], [(1048576, true, .arr 3 (qi 2))]⟩, [⟨1, ⟨[.keep [4], .gc], [4], [.lf (qm 0)], [(1048576, true, .arr 3 (qi 2))]⟩, [tI]⟩, ⟨2, ⟨[.keep [], .gc], [], [], [(1048576, true, .arr 3 (qi 2))]⟩, []⟩], slices_Index_int_int_b26⟩
def slices_Index_int_int : (Int × (List Int)) → RT Unit (Int × (List Int))
| (v, s) =>
 .rq 4 (.call (lo slices_Index_int_int_b26 (v, (s.length : Int), s) 0) default fun v0 =>
 .ite v0.isRt
 (.rq 1 (.done ((-1), s)))
 (.done (v0.getX, s)))
def F_slices_Index_int_int (x : Int × (List Int)) : Option (Int × (List Int)) := (slices_Index_int_int x).run fun _ => none
def io_slices_Index_int_int : Io := ⟨n_slices_Index_int_int, [tI, .sl tI], [.lf (qr 0), .lf (qm 0)], [.arr 3 (qm 1)], [[], [tI]], [tI, .sl tI], .lf (qm 0), [(true, .arr 3 (qm 1))], [], false⟩
def slices_Index_int_int_P : List Piece := [slices_Index_int_int_p26]
def slices_Index_int_int_T : CallT := tab []
theorem slices_Index_int_int_To : SoundT pg slices_Index_int_int_T := tab_sound trivial
theorem slices_Index_int_int_k26 : (slices_Index_int_int_p26).OK pg (slices_Index_int_int_T) (tell 19 (slices_Index_int_int_P)) (codeOf f_slices_Index_int_int) 19 := ⟨by kernel_rfl, fun i x => by kernel_rfl⟩
theorem slices_Index_int_int_go : FnOK pg (slices_Index_int_int_T) io_slices_Index_int_int f_slices_Index_int_int (slices_Index_int_int_P) [] (slices_Index_int_int) := ⟨by kernel_rfl, by kernel_rfl, fun x => by kernel_rfl⟩
theorem ok_slices_Index_int_int : io_slices_Index_int_int.Okay pg (F_slices_Index_int_int) := fn_ok pg_mixed (slices_Index_int_int_To) (slices_Index_int_int_go) ⟨slices_Index_int_int_k26, trivial⟩
theorem idx_loop (v : Int) (p0 : List Int) (hl : p0.length ≤ 9223372036854775807) : ∀ d i : Nat, i + d = p0.length →
    lo slices_Index_int_int_b26 (v, (p0.length : Int), p0) (i : Int) = some (match (p0.drop i).findIdx? (· == v) with | some j => .ex ((i + j : Nat) : Int) | none => .rt ())
  | 0, i, h => by
    rw [lo_eq, slices_Index_int_int_b26]
    simp only [RT.run]
    rw [if_neg (by simp; omega), List.drop_eq_nil_of_le (by omega)]
    rfl
  | d + 1, i, h => by
    have hi : i < p0.length := by omega
    rw [lo_eq, slices_Index_int_int_b26]
    simp only [RT.run]
    rw [if_pos (by simp; omega), if_pos (inB_iff.2 ⟨by omega, by omega⟩), List.drop_eq_getElem_cons hi, List.findIdx?_cons, gI_lt hi]
    by_cases hv : v = p0[i]
    · rw [if_pos (by simpa using hv), if_pos (by simpa using hv.symm)]
      rfl
    · rw [if_neg (by simpa using hv), if_neg (by simpa using fun e => hv e.symm), w64_in (by omega), show (i : Int) + 1 = ((i + 1 : Nat) : Int) by omega, idx_loop v p0 hl d (i + 1) (by omega)]
      cases (p0.drop (i + 1)).findIdx? (· == v) with
      | none => rfl
      | some j => simp only [Option.map_some]; congr 3; omega
def e_slices_Index_int_int : Entry := io_slices_Index_int_int.sp (fun (v, s) => true) (fun (v, s) => (idxI v s, s))
theorem sp_slices_Index_int_int (h : ∀ (v : Int) (s : List Int), WfT [tI, .sl tI] (v, s) → (slices_Index_int_int (v, s)).run (fun _ => none) = some (idxI v s, s)) : e_slices_Index_int_int.ok pg := sp_ok ok_slices_Index_int_int fun (v, s) hw hc => h v s hw
theorem e_slices_Index_int_int_ok : e_slices_Index_int_int.ok pg := sp_slices_Index_int_int fun v s hw => by
  have hl : s.length ≤ 9223372036854775807 := hw.2.1
  rw [slices_Index_int_int]
  simp only [RT.run]
  have := idx_loop v s hl s.length 0 (by omega)
  rw [show ((0 : Nat) : Int) = 0 from rfl] at this
  rw [this, List.drop_zero]
  unfold idxI
  cases s.findIdx? (· == v) with
  | none => rfl
  | some j => simp [LR.isRt, LR.getX]
def dag_Order_b31334 : ((List Int) × Int) → (Int × (List Int)) → RT (Int × (List Int)) (List Int)
| (x28, x29), (f, r7) =>
 .rq 1 (.ite (decide (f < x29))
 (.req (inB x28 f) (.rq 4 (let t0 := inB r7 (gI x28 f);
 .req t0 (.rq 2 (.req t0 (.rq 3 (.again (w64 (f + 1), sI r7 (gI x28 f) (w64 ((gI r7 (gI x28 f)) + 1))))))))))
 (.done r7))
def dag_Order_p31334 : Piece := ⟨31334, true, [.sl (.sl tI), .sl (.sl tI), tI, tI, .sl tI, tI], [tI, .sl tI], ⟨[.keep [6, 7, 22, 23, 24, 28, 29, 30], .gc, .nilRow 7 800007 3 tI, .ren 7 700007, .ren 7 900007, .gc], [6, 7, 22, 23, 24, 28, 29, 30], [.lf (qi 0), .lf (qr 900007), .lf (qi 1), .lf (qi 2), .lf (qi 3), .lf (qi 4), .lf (qi 5), .lf (qm 0)], [(900007, true, .arr 3 (qm 1))]⟩, [⟨4, ⟨[.keep [6, 7, 22, 23, 24], .gc, .nilRow 7 800007 3 tI, .ren 7 700007, .ren 7 900007, .gc], [6, 7, 22, 23, 24], [.lf (qi 0), .lf (qr 900007), .lf (qi 1), .lf (qi 2), .lf (qi 3)], [(900007, true, .arr 3 (qm 0))]⟩, [.sl tI]⟩], (fun i => dag_Order_b31334 (i.2.2.2.2.1, i.2.2.2.2.2))⟩
def dag_Order_b122 : ((List (List Int)) × Int) → (Int × (List Int)) → RT (Int × (List Int)) (List Int)
| (a, p), (p_2, r7) =>
 .rq 1 (.ite (decide (p_2 < p))
 (.req (inB a p_2) (.rq 5 (.call (lo dag_Order_b31334 (gI a p_2, ((gI a p_2).length : Int)) (0, r7)) default fun v0 =>
 .rq 2 (.again (w64 (p_2 + 1), v0)))))
 (.done r7))
def dag_Order_p122 : Piece := ⟨122, true, [.sl (.sl tI), .sl (.sl tI), tI], [tI, .sl tI], ⟨[.keep [6, 7, 22, 23, 24], .gc, .nilRow 7 800007 3 tI, .ren 7 700007, .ren 7 900007, .gc], [6, 7, 22, 23, 24], [.lf (qi 0), .lf (qr 900007), .lf (qi 1), .lf (qi 2), .lf (qm 0)], [(900007, true, .arr 3 (qm 1))]⟩, [⟨2, ⟨[.keep [6, 7], .gc, .nilRow 7 800007 3 tI, .ren 7 700007, .ren 7 900007, .gc], [6, 7], [.lf (qi 0), .lf (qr 900007)], [(900007, true, .arr 3 (qm 0))]⟩, [.sl tI]⟩], (fun i => dag_Order_b122 (i.2.1, i.2.2))⟩
def dag_Order_b129214 : ((List Int) × Int) → (Int × (List Int)) → RT (Int × (List Int)) (List Int)
| (x61, x62), (x63, r7) =>
 .rq 1 (.ite (decide (x63 < x62))
 (.req (inB x61 x63) (.rq 4 (let t0 := inB r7 (gI x61 x63);
 .req t0 (.rq 2 (.req t0 (.rq 3 (.again (w64 (x63 + 1), sI r7 (gI x61 x63) (w64 ((gI r7 (gI x61 x63)) - 1))))))))))
 (.done r7))
def dag_Order_p129214 : Piece := ⟨129214, true, [.sl (.sl tI), .sl tI, tI, .sl tI], [tI, .sl tI], ⟨[.keep [6, 7, 12, 61, 62, 63], .gc, .nilRow 7 800007 3 tI, .nilRow 12 800012 3 tI, .ren 7 700007, .ren 12 700012, .ren 7 900007, .ren 12 900012, .gc], [6, 7, 12, 61, 62, 63], [.lf (qi 0), .lf (qr 900007), .lf (qr 900012), .lf (qi 1), .lf (qi 2), .lf (qm 0)], [(900007, true, .arr 3 (qm 1)), (900012, true, .arr 3 (qi 3))]⟩, [⟨8, ⟨[.keep [6, 7, 12], .gc, .nilRow 7 800007 3 tI, .nilRow 12 800012 3 tI, .ren 7 700007, .ren 12 700012, .ren 7 900007, .ren 12 900012, .gc], [6, 7, 12], [.lf (qi 0), .lf (qr 900007), .lf (qr 900012)], [(900007, true, .arr 3 (qm 0)), (900012, true, .arr 3 (qi 3))]⟩, [.sl tI]⟩], (fun i => dag_Order_b129214 (i.2.1, i.2.2.1))⟩
def dag_Order_b252 : (List (List Int)) → ((List Int) × (List Int)) → RT ((List Int) × (List Int)) (LR Unit (List Int))
| x6, (r7, r12) =>
 .rq 5 (.ite (decide ((r12.length : Int) < (x6.length : Int)))
 (.rq 5 (.ite (decide ((idxI (0 : Int) r7) < 0))
 (.rq 2 (.done (.ex ())))
 (.rq 2 (.req (inB r7 (idxI (0 : Int) r7)) (.rq 4 (let t0 := [idxI (0 : Int) r7];
 .req (apOK 8 r12 t0) (.rq 3 (.req (inB x6 (idxI (0 : Int) r7)) (.rq 3 (let t1 := gI x6 (idxI (0 : Int) r7);
 .call (lo dag_Order_b129214 (t1, (t1.length : Int)) (0, sI r7 (idxI (0 : Int) r7) (-1))) default fun v3 =>
 .again (v3, r12 ++ t0)))))))))))
 (.done (.rt r12)))
def dag_Order_p252 : Piece := ⟨252, true, [.sl (.sl tI)], [.sl tI, .sl tI], ⟨[.keep [6, 7, 12], .gc, .nilRow 7 800007 3 tI, .nilRow 12 800012 3 tI, .ren 7 700007, .ren 12 700012, .ren 7 900007, .ren 12 900012, .gc], [6, 7, 12], [.lf (qi 0), .lf (qr 900007), .lf (qr 900012)], [(900007, true, .arr 3 (qm 0)), (900012, true, .arr 3 (qm 1))]⟩, [⟨1, ⟨[.keep [4, 5], .gc], [4, 5], [.lf (.fix (.nil)), .lf (.fix (.bool false))], []⟩, []⟩, ⟨6, ⟨[.keep [12], .gc, .nilRow 12 800012 3 tI, .ren 12 700012, .ren 12 900012, .gc], [12], [.lf (qr 900012)], [(900012, true, .arr 3 (qm 0))]⟩, [.sl tI]⟩], dag_Order_b252⟩
def dag_Order : (Int × (List (Int × Int))) → RT Unit (Bool × (List Int))
| (a0, l) =>
 .rq 4 (.req ((decide (l.length ≤ 1000000))) (.rq 3 (let t0 := (((hds (dm a0) l)).length : Int);
 .req (mkOK 8 t0) (.rq 4 (.call (lo dag_Order_b122 ((hds (dm a0) l), t0) (0, repI t0 0)) default fun v1 =>
 .rq 1 (.call (lo dag_Order_b252 ((hds (dm a0) l)) (v1, [])) default fun v4 =>
 .ite v4.isRt
 (.rq 3 (.done (true, v4.getR)))
 (.done (false, []))))))))
def F_dag_Order (x : Int × (List (Int × Int))) : Option (Bool × (List Int)) := (dag_Order x).run fun _ => none
def io_dag_Order : Io := ⟨n_dag_Order, [tI, .sl (.pair tI tI)], [.lf (qm 0), .lf (qm 1)], [], [[tI], [.sl (.pair tI tI)]], [tB, .sl tI], .tup [(false, [qr 0]), (false, [qm 0])], [], [(true, .arr 3 (qm 1))], false⟩
def dag_Order_P : List Piece := [dag_Order_p31334, dag_Order_p122, dag_Order_p129214, dag_Order_p252]
def dag_Order_T : CallT := tab [e_slices_Index_int_int, e_dag_heads]
theorem dag_Order_To : SoundT pg dag_Order_T := tab_sound ⟨e_slices_Index_int_int_ok, e_dag_heads_ok, trivial⟩
theorem dag_Order_k31334 : (dag_Order_p31334).OK pg (dag_Order_T) (tell 75 (dag_Order_P)) (codeOf f_dag_Order) 75 := ⟨by kernel_rfl, fun i x => by kernel_rfl⟩
theorem dag_Order_k122 : (dag_Order_p122).OK pg (dag_Order_T) (tell 75 (dag_Order_P)) (codeOf f_dag_Order) 75 := ⟨by kernel_rfl, fun i x => by kernel_rfl⟩
theorem dag_Order_k129214 : (dag_Order_p129214).OK pg (dag_Order_T) (tell 75 (dag_Order_P)) (codeOf f_dag_Order) 75 := ⟨by kernel_rfl, fun i x => by kernel_rfl⟩
theorem dag_Order_k252 : (dag_Order_p252).OK pg (dag_Order_T) (tell 75 (dag_Order_P)) (codeOf f_dag_Order) 75 := ⟨by kernel_rfl, fun i x => by kernel_rfl⟩
theorem dag_Order_go : FnOK pg (dag_Order_T) io_dag_Order f_dag_Order (dag_Order_P) [.nilRow 4 800004 3 tI, .ren 4 700004, .ren 4 900004] (dag_Order) := ⟨by kernel_rfl, by kernel_rfl, fun x => by kernel_rfl⟩
theorem ok_dag_Order : io_dag_Order.Okay pg (F_dag_Order) := fn_ok pg_mixed (dag_Order_To) (dag_Order_go) ⟨dag_Order_k31334, dag_Order_k122, dag_Order_k129214, dag_Order_k252, trivial⟩
theorem inc_loop (to : List Int) : ∀ (d i : Nat) (r : List Int) (c : Nat), i + d = to.length → inR r.length to → within c r → c + d ≤ 4611686018427387904 → to.length ≤ 4611686018427387904 →
    lo dag_Order_b31334 (to, (to.length : Int)) ((i : Int), r) = some ((to.drop i).foldl (bump 1) r)
  | 0, i, r, c, h, _, _, _, _ => by
    rw [lo_eq, dag_Order_b31334]
    simp only [RT.run]
    rw [if_neg (by simp; omega), List.drop_eq_nil_of_le (by omega)]
    rfl
  | d + 1, i, r, c, h, hr, hw, hc, hl => by
    have hi : i < to.length := by omega
    have hk := hr _ (List.getElem_mem hi)
    have hv := hw _ hk
    rw [lo_eq, dag_Order_b31334]
    simp only [RT.run]
    rw [if_pos (by simp; omega), if_pos (inB_iff.2 ⟨by omega, by omega⟩), gI_lt hi, if_pos (inB_iff.2 hk), if_pos (inB_iff.2 hk), w64_in (by omega), w64_in (by omega), show (i : Int) + 1 = ((i + 1 : Nat) : Int) by omega]
    have := inc_loop to d (i + 1) (bump 1 r to[i]) (c + 1) (by omega) (by rw [bump_length]; exact hr) (within_bump hw hk (.inl rfl)) (by omega) hl
    unfold bump at this
    rw [this, List.drop_eq_getElem_cons hi, List.foldl_cons]
    rfl
theorem dec_loop (to : List Int) : ∀ (d i : Nat) (r : List Int) (c : Nat), i + d = to.length → inR r.length to → within c r → c + d ≤ 4611686018427387904 → to.length ≤ 4611686018427387904 →
    lo dag_Order_b129214 (to, (to.length : Int)) ((i : Int), r) = some ((to.drop i).foldl (bump (-1)) r)
  | 0, i, r, c, h, _, _, _, _ => by
    rw [lo_eq, dag_Order_b129214]
    simp only [RT.run]
    rw [if_neg (by simp; omega), List.drop_eq_nil_of_le (by omega)]
    rfl
  | d + 1, i, r, c, h, hr, hw, hc, hl => by
    have hi : i < to.length := by omega
    have hk := hr _ (List.getElem_mem hi)
    have hv := hw _ hk
    rw [lo_eq, dag_Order_b129214]
    simp only [RT.run]
    rw [if_pos (by simp; omega), if_pos (inB_iff.2 ⟨by omega, by omega⟩), gI_lt hi, if_pos (inB_iff.2 hk), if_pos (inB_iff.2 hk), w64_in (by omega), w64_in (by omega), show (i : Int) + 1 = ((i + 1 : Nat) : Int) by omega, show gI r to[i] - 1 = gI r to[i] + -1 by omega]
    have := dec_loop to d (i + 1) (bump (-1) r to[i]) (c + 1) (by omega) (by rw [bump_length]; exact hr) (within_bump hw hk (.inr rfl)) (by omega) hl
    unfold bump at this
    rw [this, List.drop_eq_getElem_cons hi, List.foldl_cons]
    rfl
theorem incs_loop (h : List (List Int)) (m : Nat) (hm : ∀ to ∈ h, inR m to) (hlen : h.length ≤ 4096) : ∀ (d i : Nat) (r : List Int) (c : Nat), i + d = h.length → r.length = m → within c r → c + (h.drop i).flatten.length ≤ 4611686018427387904 →
    lo dag_Order_b122 (h, (h.length : Int)) ((i : Int), r) = some ((h.drop i).flatten.foldl (bump 1) r)
  | 0, i, r, c, hd, _, _, _ => by
    rw [lo_eq, dag_Order_b122]
    simp only [RT.run]
    rw [if_neg (by simp; omega), List.drop_eq_nil_of_le (by omega)]
    rfl
  | d + 1, i, r, c, hd, hr, hw, hc => by
    have hi : i < h.length := by omega
    have hto := hm _ (List.getElem_mem hi)
    rw [List.drop_eq_getElem_cons hi, List.flatten_cons, List.length_append] at hc
    rw [lo_eq, dag_Order_b122]
    simp only [RT.run]
    rw [if_pos (by simp; omega), if_pos (inB_iff.2 ⟨by omega, by omega⟩), gI_lt hi]
    have h1 := inc_loop h[i] h[i].length 0 r c (by omega) (by rw [hr]; exact hto) hw (by omega) (by omega)
    rw [show ((0 : Nat) : Int) = 0 from rfl] at h1
    rw [h1, List.drop_zero, Option.bind_some, w64_in (by omega), show (i : Int) + 1 = ((i + 1 : Nat) : Int) by omega,
      incs_loop h m hm hlen d (i + 1) _ (c + h[i].length) (by omega) (by rw [bumps_length, hr]) (within_bumps (.inl rfl) hw (by rw [hr]; exact hto)) (by omega), List.drop_eq_getElem_cons hi, List.flatten_cons, List.foldl_append]
theorem order_loop (m : Nat) (l : List (Int × Int)) (hm : m ≤ 4096) (hl : l.length ≤ 1000000) : ∀ (n : Nat) (out : List Int), out.length + n = m → OutOf m l out →
    lo dag_Order_b252 (hds m l) (degs m l out, out) = some (match kahn m l n out with | some o => .rt o | none => .ex ())
  | 0, out, h, _ => by
    rw [lo_eq, dag_Order_b252]
    simp only [RT.run]
    rw [if_neg (by simp [hds_length]; omega)]
    rfl
  | n + 1, out, h, H => by
    rw [lo_eq, dag_Order_b252]
    simp only [RT.run]
    rw [if_pos (by simp [hds_length]; omega), idx_degs]
    unfold kahn
    cases hn : nxt m l out with
    | none => rw [if_pos (by decide)]
    | some k =>
      obtain ⟨h1, h2, h3⟩ := nxt_spec hn
      have hmax : maxLen = 9223372036854775807 := by decide
      simp only
      rw [if_neg (by simp), if_pos (inB_iff.2 ⟨by omega, by rw [degs_length]; omega⟩), if_pos (apOK_iff.2 ⟨by simp; omega, by simp; omega⟩), if_pos (inB_iff.2 ⟨by omega, by rw [hds_length]; omega⟩)]
      have hget : gI (hds m l) (k : Int) = (hds m l).getD k [] := gI_nat _ _
      rw [hget]
      have hmem : (hds m l).getD k [] ∈ hds m l := by
        rw [List.getD_eq_getElem?_getD, List.getElem?_eq_getElem (by rw [hds_length]; exact h1)]
        exact List.getElem_mem _
      have hlen : ((hds m l).getD k []).length ≤ l.length := by
        rw [hds_get l h1, List.length_map]; exact List.length_filter_le ..
      have hsl : (sI (degs m l out) (k : Int) (-1)).length = m := by simp [sI, degs_length]
      have hws : within (l.length + 1) (sI (degs m l out) (k : Int) (-1)) := fun j hj => by
        rw [hsl] at hj
        obtain ⟨j, rfl⟩ := Int.eq_ofNat_of_zero_le hj.1
        have hb := within_degs m l out (j : Int) (by rw [degs_length]; omega)
        have : gI (sI (degs m l out) (k : Int) (-1)) (j : Int) = if k = j then -1 else gI (degs m l out) (j : Int) := by
          rw [gI_lt (by rw [hsl]; omega)]
          by_cases hkj : k = j
          · subst hkj; rw [if_pos rfl]; simp [sI]
          · rw [if_neg hkj, gI_lt (by rw [degs_length]; omega)]
            simp [sI, List.getElem_set_ne hkj]
        rw [this]
        split <;> omega
      have hd := dec_loop ((hds m l).getD k []) _ 0 (sI (degs m l out) (k : Int) (-1)) (l.length + 1) (Nat.zero_add _) (by rw [hsl]; exact hds_inR l _ hmem) hws (by omega) (by omega)
      rw [show ((0 : Nat) : Int) = 0 from rfl] at hd
      rw [hd, List.drop_zero, degs_step H hn, Option.bind_some]
      exact order_loop m l hm hl n (out ++ [(k : Int)]) (by simp; omega) (H.step hn)
def e_dag_Order : Entry := io_dag_Order.sp (fun (n, l) => (decide (l.length ≤ 1000000))) (fun (n, l) => (ordV (dm n) l))
theorem sp_dag_Order (h : ∀ (n : Int) (l : List (Int × Int)), WfT [tI, .sl (.pair tI tI)] (n, l) → ((decide (l.length ≤ 1000000))) = true → (dag_Order (n, l)).run (fun _ => none) = some (ordV (dm n) l)) : e_dag_Order.ok pg := sp_ok ok_dag_Order fun (n, l) hw hc => h n l hw hc
theorem e_dag_Order_ok : e_dag_Order.ok pg := sp_dag_Order fun n l hw hc => by
  have hl := of_decide_eq_true hc
  have hm := dm_le n
  generalize hme : dm n = m at *
  rw [dag_Order]
  simp only [RT.run]
  rw [hme, if_pos hc, hds_length, if_pos (mkOK_iff.2 ⟨by omega, by omega, by omega⟩)]
  have hw0 : within 0 (List.replicate m (0 : Int)) := fun j hj => by
    rw [List.length_replicate] at hj
    obtain ⟨j, rfl⟩ := Int.eq_ofNat_of_zero_le hj.1
    have h0 : gI (List.replicate m (0 : Int)) (j : Int) = 0 := by rw [gI_lt (by simpa using hj.2)]; simp
    rw [h0]; simp
  have hfl : (hds m l).flatten.length ≤ 4096 * 1000000 := by
    have hb : ∀ (LL : List (List Int)) (b : Nat), (∀ x ∈ LL, x.length ≤ b) → LL.flatten.length ≤ LL.length * b := by
      intro LL b
      induction LL with
      | nil => simp
      | cons x LL ih =>
        intro h
        have h1 := h x (List.mem_cons_self ..)
        have h2 := ih fun y hy => h y (List.mem_cons_of_mem _ hy)
        rw [List.flatten_cons, List.length_append, List.length_cons, Nat.succ_mul]
        omega
    have := hb (hds m l) 1000000 fun x hx => by
      rw [← hds_upto] at hx
      exact Nat.le_trans (hsUpto_len (Nat.le_refl _) x hx) hl
    rw [hds_length] at this
    exact Nat.le_trans this (Nat.mul_le_mul_right _ hm)
  have h1 := incs_loop (hds m l) m (hds_inR l) (by rw [hds_length]; exact hm) m 0 (List.replicate m 0) 0 (by rw [hds_length]; omega) (by simp) hw0 (by rw [List.drop_zero]; omega)
  rw [hds_length, show ((0 : Nat) : Int) = 0 from rfl, List.drop_zero, degs_start] at h1
  rw [repI, Int.toNat_natCast, h1, Option.bind_some, order_loop m l hm hl m [] (by simp) ⟨by simp, fun x hx => (by cases hx), fun a _ _ h => (by cases h)⟩, Option.bind_some]
  unfold ordV
  cases kahn m l m [] with
  | none => rfl
  | some o => rfl
def fund_Order_1 : (Int × (List Bool) × (List Tk) × (List Th) × (List Lk) × (List Int) × Int) → RT Unit (Bool × (List Bool) × (List Tk) × (List Th) × (List Lk) × (List Int) × Int)
| (c, a1_0, a1_1, a1_2, a1_3, a1_4, a1_5) =>
 .rq 4 (.req (inB a1_0 c) (.rq 3 (.done (!(gI a1_0 c), a1_0, a1_1, a1_2, a1_3, a1_4, a1_5))))
def F_fund_Order_1 (x : Int × (List Bool) × (List Tk) × (List Th) × (List Lk) × (List Int) × Int) : Option (Bool × (List Bool) × (List Tk) × (List Th) × (List Lk) × (List Int) × Int) := (fund_Order_1 x).run fun _ => none
def io_fund_Order_1 : Io := ⟨n_fund_Order_1, [tI, .sl tB, .sl yK, .sl yH, .sl yL, .sl tI, tI], [.lf (qm 0), .lf (qp 0)], [.cells [qm 1, qm 2, qm 3, qm 4, qm 5, qm 6]], [[tI], []], [tB, .sl tB, .sl yK, .sl yH, .sl yL, .sl tI, tI], .lf (qm 0), [(true, .cells [qm 1, qm 2, qm 3, qm 4, qm 5, qm 6])], [], true⟩
def fund_Order_1_P : List Piece := []
def fund_Order_1_T : CallT := tab []
theorem fund_Order_1_To : SoundT pg fund_Order_1_T := tab_sound trivial
theorem fund_Order_1_go : FnOK pg (fund_Order_1_T) io_fund_Order_1 f_fund_Order_1 (fund_Order_1_P) [] (fund_Order_1) := ⟨by kernel_rfl, by kernel_rfl, fun x => by kernel_rfl⟩
theorem ok_fund_Order_1 : io_fund_Order_1.Okay pg (F_fund_Order_1) := fn_ok pg_mixed (fund_Order_1_To) (fund_Order_1_go) trivial
def e_fund_Order_1 : Entry := io_fund_Order_1.sp (fun (c, coins, tickets, threads, locks, queue, quantum) => (inB coins c)) (fun (c, coins, tickets, threads, locks, queue, quantum) => (!(gI coins c), coins, tickets, threads, locks, queue, quantum))
theorem sp_fund_Order_1 (h : ∀ (c : Int) (coins : List Bool) (tickets : List Tk) (threads : List Th) (locks : List Lk) (queue : List Int) (quantum : Int), WfT [tI, .sl tB, .sl yK, .sl yH, .sl yL, .sl tI, tI] (c, coins, tickets, threads, locks, queue, quantum) → ((inB coins c)) = true → (fund_Order_1 (c, coins, tickets, threads, locks, queue, quantum)).run (fun _ => none) = some (!(gI coins c), coins, tickets, threads, locks, queue, quantum)) : e_fund_Order_1.ok pg := sp_ok ok_fund_Order_1 fun (c, coins, tickets, threads, locks, queue, quantum) hw hc => h c coins tickets threads locks queue quantum hw hc
theorem e_fund_Order_1_ok : e_fund_Order_1.ok pg := sp_fund_Order_1 fun c coins tickets threads locks queue quantum _ hc => by
  rw [fund_Order_1]
  simp only [RT.run]
  rw [if_pos hc]
def slices_IndexFunc_int_int_b26 : (Int × (List Int) × (List Bool) × (List Tk) × (List Th) × (List Lk) × (List Int) × Int) → Int → RT Int (LR Int Unit)
| (x7, p0, p1_0, p1_1, p1_2, p1_3, p1_4, p1_5), x8 =>
 .rq 1 (.ite (decide (x8 < x7))
 (.rq 5 (.req (inB p0 x8) (.rq 1 (.req ((inB p1_0 (gI p0 x8))) (.ite (!(gI p1_0 (gI p0 x8)))
 (.rq 2 (.done (.ex x8)))
 (.rq 2 (.again (w64 (x8 + 1)))))))))
 (.done (.rt ())))
def slices_IndexFunc_int_int_p26 : Piece := ⟨26, true, [tI, .sl tI, .sl tB, .sl yK, .sl yH, .sl yL, .sl tI, tI], [tI], ⟨[.keep [0, 1, 7, 8], .gc], [0, 1, 7, 8], [.lf (qr 1048576), .lf (.fix (.fn 170 [1048577])), .lf (qi 0), .lf (qm 0)], [(1048576, true, .arr 3 (qi 1)), (1048577, true, .cells [qi 2, qi 3, qi 4, qi 5, qi 6, qi 7])]⟩, [⟨1, ⟨[.keep [4], .gc], [4], [.lf (qm 0)], [(1048576, true, .arr 3 (qi 1)), (1048577, true, .cells [qi 2, qi 3, qi 4, qi 5, qi 6, qi 7])]⟩, [tI]⟩, ⟨2, ⟨[.keep [], .gc], [], [], [(1048576, true, .arr 3 (qi 1)), (1048577, true, .cells [qi 2, qi 3, qi 4, qi 5, qi 6, qi 7])]⟩, []⟩], slices_IndexFunc_int_int_b26⟩
def slices_IndexFunc_int_int : ((List Int) × (List Bool) × (List Tk) × (List Th) × (List Lk) × (List Int) × Int) → RT Unit (Int × (List Int) × (List Bool) × (List Tk) × (List Th) × (List Lk) × (List Int) × Int)
| (s, f_1, f_2, f_3, f_4, f_5, f_6) =>
 .rq 4 (.call (lo slices_IndexFunc_int_int_b26 ((s.length : Int), s, f_1, f_2, f_3, f_4, f_5, f_6) 0) default fun v0 =>
 .ite v0.isRt
 (.rq 1 (.done ((-1), s, f_1, f_2, f_3, f_4, f_5, f_6)))
 (.done (v0.getX, s, f_1, f_2, f_3, f_4, f_5, f_6)))
def F_slices_IndexFunc_int_int (x : (List Int) × (List Bool) × (List Tk) × (List Th) × (List Lk) × (List Int) × Int) : Option (Int × (List Int) × (List Bool) × (List Tk) × (List Th) × (List Lk) × (List Int) × Int) := (slices_IndexFunc_int_int x).run fun _ => none
def io_slices_IndexFunc_int_int : Io := ⟨n_slices_IndexFunc_int_int, [.sl tI, .sl tB, .sl yK, .sl yH, .sl yL, .sl tI, tI], [.lf (qr 0), .lf (.fix (.fn 170 [1]))], [.arr 3 (qm 0), .cells [qm 1, qm 2, qm 3, qm 4, qm 5, qm 6]], [[], []], [tI, .sl tI, .sl tB, .sl yK, .sl yH, .sl yL, .sl tI, tI], .lf (qm 0), [(true, .arr 3 (qm 1)), (true, .cells [qm 2, qm 3, qm 4, qm 5, qm 6, qm 7])], [], true⟩
def slices_IndexFunc_int_int_P : List Piece := [slices_IndexFunc_int_int_p26]
def slices_IndexFunc_int_int_T : CallT := tab [e_fund_Order_1]
theorem slices_IndexFunc_int_int_To : SoundT pg slices_IndexFunc_int_int_T := tab_sound ⟨e_fund_Order_1_ok, trivial⟩
theorem slices_IndexFunc_int_int_k26 : (slices_IndexFunc_int_int_p26).OK pg (slices_IndexFunc_int_int_T) (tell 19 (slices_IndexFunc_int_int_P)) (codeOf f_slices_IndexFunc_int_int) 19 := ⟨by kernel_rfl, fun i x => by kernel_rfl⟩
theorem slices_IndexFunc_int_int_go : FnOK pg (slices_IndexFunc_int_int_T) io_slices_IndexFunc_int_int f_slices_IndexFunc_int_int (slices_IndexFunc_int_int_P) [] (slices_IndexFunc_int_int) := ⟨by kernel_rfl, by kernel_rfl, fun x => by kernel_rfl⟩
theorem ok_slices_IndexFunc_int_int : io_slices_IndexFunc_int_int.Okay pg (F_slices_IndexFunc_int_int) := fn_ok pg_mixed (slices_IndexFunc_int_int_To) (slices_IndexFunc_int_int_go) ⟨slices_IndexFunc_int_int_k26, trivial⟩
def idxF (p : Int → Bool) (s : List Int) : Int := match s.findIdx? p with
  | some j => (j : Int)
  | none => -1
theorem allIn_get {coins : List Bool} {s : List Int} (h : s.all (inB coins) = true) {i : Nat} (hi : i < s.length) : inB coins s[i] = true := List.all_eq_true.1 h _ (List.getElem_mem hi)
theorem idxF_loop (s : List Int) (coins : List Bool) (t : List Tk) (th : List Th) (lk : List Lk) (q : List Int) (u : Int) (hl : s.length ≤ 9223372036854775807) (hc : s.all (inB coins) = true) : ∀ d i : Nat, i + d = s.length →
    lo slices_IndexFunc_int_int_b26 ((s.length : Int), s, coins, t, th, lk, q, u) (i : Int) = some (match (s.drop i).findIdx? (fun c => !(gI coins c)) with | some j => .ex ((i + j : Nat) : Int) | none => .rt ())
  | 0, i, h => by
    rw [lo_eq, slices_IndexFunc_int_int_b26]
    simp only [RT.run]
    rw [if_neg (by simp; omega), List.drop_eq_nil_of_le (by omega)]
    rfl
  | d + 1, i, h => by
    have hi : i < s.length := by omega
    rw [lo_eq, slices_IndexFunc_int_int_b26]
    simp only [RT.run]
    rw [if_pos (by simp; omega), if_pos (inB_iff.2 ⟨by omega, by omega⟩), List.drop_eq_getElem_cons hi, List.findIdx?_cons, gI_lt hi, if_pos (allIn_get hc hi)]
    by_cases hv : (!(gI coins s[i])) = true
    · rw [if_pos hv, if_pos hv]
      rfl
    · rw [if_neg hv, if_neg hv, w64_in (by omega), show (i : Int) + 1 = ((i + 1 : Nat) : Int) by omega, idxF_loop s coins t th lk q u hl hc d (i + 1) (by omega)]
      cases (s.drop (i + 1)).findIdx? (fun c => !(gI coins c)) with
      | none => rfl
      | some j => simp only [Option.map_some]; congr 3; omega
def e_slices_IndexFunc_int_int : Entry := io_slices_IndexFunc_int_int.sp (fun (s, coins, tickets, threads, locks, queue, quantum) => (s.all (inB coins))) (fun (s, coins, tickets, threads, locks, queue, quantum) => (idxF (fun c => !(gI coins c)) s, s, coins, tickets, threads, locks, queue, quantum))
theorem sp_slices_IndexFunc_int_int (h : ∀ (s : List Int) (coins : List Bool) (tickets : List Tk) (threads : List Th) (locks : List Lk) (queue : List Int) (quantum : Int), WfT [.sl tI, .sl tB, .sl yK, .sl yH, .sl yL, .sl tI, tI] (s, coins, tickets, threads, locks, queue, quantum) → ((s.all (inB coins))) = true → (slices_IndexFunc_int_int (s, coins, tickets, threads, locks, queue, quantum)).run (fun _ => none) = some (idxF (fun c => !(gI coins c)) s, s, coins, tickets, threads, locks, queue, quantum)) : e_slices_IndexFunc_int_int.ok pg := sp_ok ok_slices_IndexFunc_int_int fun (s, coins, tickets, threads, locks, queue, quantum) hw hc => h s coins tickets threads locks queue quantum hw hc
theorem e_slices_IndexFunc_int_int_ok : e_slices_IndexFunc_int_int.ok pg := sp_slices_IndexFunc_int_int fun s coins tickets threads locks queue quantum hw hc => by
  have hl : s.length ≤ 9223372036854775807 := hw.1.1
  rw [slices_IndexFunc_int_int]
  simp only [RT.run]
  have := idxF_loop s coins tickets threads locks queue quantum hl hc s.length 0 (by omega)
  rw [show ((0 : Nat) : Int) = 0 from rfl] at this
  rw [this, List.drop_zero]
  unfold idxF
  cases s.findIdx? (fun c => !(gI coins c)) with
  | none => rfl
  | some j => simp [LR.isRt, LR.getX]
def slices_DeleteFunc_int_int_b122 : ((List Bool) × (List Tk) × (List Th) × (List Lk) × (List Int) × Int) → (Int × Int × (List Int)) → RT (Int × Int × (List Int)) (Int × (List Int))
| (p1_0, p1_1, p1_2, p1_3, p1_4, p1_5), (i, j, p0) =>
 .rq 4 (.ite (decide (j < (p0.length : Int)))
 (.rq 2 (.req (inB p0 j) (.rq 4 (.req ((inB p1_0 (gI p0 j))) (.rq 1 (let t0 := w64 (j + 1);
 .ite (!(!(gI p1_0 (gI p0 j))))
 (.rq 3 (.req (inB p0 i) (.rq 7 (.again (w64 (i + 1), t0, sI p0 i (gI p0 j))))))
 (.rq 3 (.again (i, t0, p0)))))))))
 (.done (i, p0)))
def slices_DeleteFunc_int_int_p122 : Piece := ⟨122, true, [.sl tB, .sl yK, .sl yH, .sl yL, .sl tI, tI], [tI, tI, .sl tI], ⟨[.keep [0, 1, 5, 6], .gc], [0, 1, 5, 6], [.lf (qr 1048576), .lf (.fix (.fn 170 [1048577])), .lf (qm 0), .lf (qm 1)], [(1048576, true, .arr 3 (qm 2)), (1048577, true, .cells [qi 0, qi 1, qi 2, qi 3, qi 4, qi 5])]⟩, [⟨2, ⟨[.keep [0, 5], .gc], [0, 5], [.lf (qr 1048576), .lf (qm 0)], [(1048576, true, .arr 3 (qm 1)), (1048577, true, .cells [qi 0, qi 1, qi 2, qi 3, qi 4, qi 5])]⟩, [tI, .sl tI]⟩], slices_DeleteFunc_int_int_b122⟩
def slices_DeleteFunc_int_int : ((List Int) × (List Bool) × (List Tk) × (List Th) × (List Lk) × (List Int) × Int) → RT Unit ((List Int) × (List Bool) × (List Tk) × (List Th) × (List Lk) × (List Int) × Int)
| (s, del_1, del_2, del_3, del_4, del_5, del_6) =>
 .rq 3 (.req ((s.all (inB del_1))) (.rq 3 (let t0 := idxF (fun c => !(gI del_1 c)) s;
 .ite (t0 == (-1))
 (.rq 2 (.done (s, del_1, del_2, del_3, del_4, del_5, del_6)))
 (.rq 3 (.call (lo slices_DeleteFunc_int_int_b122 (del_1, del_2, del_3, del_4, del_5, del_6) (t0, w64 (t0 + 1), s)) default fun v0 =>
 .rq 2 (.req (dropOK v0.2 v0.1) (.rq 2 (let t1 := clrI v0.2 v0.1 0;
 .req (takeOK t1 v0.1) (.rq 1 (.done (takeI t1 v0.1, del_1, del_2, del_3, del_4, del_5, del_6)))))))))))
def F_slices_DeleteFunc_int_int (x : (List Int) × (List Bool) × (List Tk) × (List Th) × (List Lk) × (List Int) × Int) : Option ((List Int) × (List Bool) × (List Tk) × (List Th) × (List Lk) × (List Int) × Int) := (slices_DeleteFunc_int_int x).run fun _ => none
def io_slices_DeleteFunc_int_int : Io := ⟨n_slices_DeleteFunc_int_int, [.sl tI, .sl tB, .sl yK, .sl yH, .sl yL, .sl tI, tI], [.lf (qr 0), .lf (.fix (.fn 170 [1]))], [.arr 3 (qm 0), .cells [qm 1, qm 2, qm 3, qm 4, qm 5, qm 6]], [[], []], [.sl tI, .sl tB, .sl yK, .sl yH, .sl yL, .sl tI, tI], .lf (qm 0), [(false, .dead), (true, .cells [qm 1, qm 2, qm 3, qm 4, qm 5, qm 6])], [], true⟩
def slices_DeleteFunc_int_int_P : List Piece := [slices_DeleteFunc_int_int_p122]
def slices_DeleteFunc_int_int_T : CallT := tab [e_slices_IndexFunc_int_int, e_fund_Order_1]
theorem slices_DeleteFunc_int_int_To : SoundT pg slices_DeleteFunc_int_int_T := tab_sound ⟨e_slices_IndexFunc_int_int_ok, e_fund_Order_1_ok, trivial⟩
theorem slices_DeleteFunc_int_int_k122 : (slices_DeleteFunc_int_int_p122).OK pg (slices_DeleteFunc_int_int_T) (tell 42 (slices_DeleteFunc_int_int_P)) (codeOf f_slices_DeleteFunc_int_int) 42 := ⟨by kernel_rfl, fun i x => by kernel_rfl⟩
theorem slices_DeleteFunc_int_int_go : FnOK pg (slices_DeleteFunc_int_int_T) io_slices_DeleteFunc_int_int f_slices_DeleteFunc_int_int (slices_DeleteFunc_int_int_P) [.toDat 4, .den 4 [.sl tI]] (slices_DeleteFunc_int_int) := ⟨by kernel_rfl, by kernel_rfl, fun x => by kernel_rfl⟩
theorem ok_slices_DeleteFunc_int_int : io_slices_DeleteFunc_int_int.Okay pg (F_slices_DeleteFunc_int_int) := fn_ok pg_mixed (slices_DeleteFunc_int_int_To) (slices_DeleteFunc_int_int_go) ⟨slices_DeleteFunc_int_int_k122, trivial⟩
theorem del_loop (s : List Int) (coins : List Bool) (t : List Tk) (th : List Th) (lk : List Lk) (q : List Int) (u : Int) (hl : s.length ≤ 9223372036854775807) (hc : s.all (inB coins) = true) : ∀ (d i j : Nat) (p0 : List Int), j + d = s.length → i ≤ j → p0.length = s.length →
    p0.take i = (s.take j).filter (gI coins) → p0.drop j = s.drop j → ∃ (i' : Nat) (p1 : List Int), lo slices_DeleteFunc_int_int_b122 (coins, t, th, lk, q, u) ((i : Int), (j : Int), p0) = some ((i' : Int), p1) ∧ i' ≤ p1.length ∧ p1.length = s.length ∧ p1.take i' = s.filter (gI coins)
  | 0, i, j, p0, h, hij, hp, h1, _ => by
    refine ⟨i, p0, ?_, by omega, hp, by rw [h1, List.take_of_length_le (by omega)]⟩
    rw [lo_eq, slices_DeleteFunc_int_int_b122]
    simp only [RT.run]
    rw [if_neg (by simp; omega)]
  | d + 1, i, j, p0, h, hij, hp, h1, h2 => by
    have hj : j < s.length := by omega
    have hj0 : j < p0.length := by omega
    have he : p0[j] = s[j] := by
      have := congrArg (fun l => l[0]?) h2
      simp only [List.getElem?_drop, Nat.add_zero, List.getElem?_eq_getElem hj0, List.getElem?_eq_getElem hj] at this
      exact Option.some.inj this
    have htk : (s.take (j + 1)).filter (gI coins) = (s.take j).filter (gI coins) ++ (if gI coins s[j] = true then [s[j]] else []) := by
      rw [List.take_add_one, List.getElem?_eq_getElem hj, List.filter_append]
      simp [List.filter_cons]
    rw [lo_eq, slices_DeleteFunc_int_int_b122]
    simp only [RT.run]
    rw [if_pos (by simp; omega), if_pos (inB_iff.2 ⟨by omega, by omega⟩), gI_lt hj0, he, if_pos (allIn_get hc hj), w64_in (by omega), Bool.not_not]
    by_cases hk : gI coins s[j] = true
    · rw [if_pos hk, if_pos (inB_iff.2 ⟨by omega, by omega⟩), w64_in (by omega), show (i : Int) + 1 = ((i + 1 : Nat) : Int) by omega, show (j : Int) + 1 = ((j + 1 : Nat) : Int) by omega]
      refine del_loop s coins t th lk q u hl hc d (i + 1) (j + 1) _ (by omega) (by omega) (by simp [sI, hp]) ?_ ?_
      · rw [htk, if_pos hk, ← h1, sI, Int.toNat_natCast]
        rw [List.take_add_one, List.getElem?_set_self (by omega), List.take_set_of_le (Nat.le_refl _)]
        rfl
      · rw [sI, Int.toNat_natCast, List.drop_set_of_lt (by omega)]
        have := congrArg (List.drop 1) h2
        simpa [List.drop_drop] using this
    · rw [if_neg hk, w64_in (by omega), show (j : Int) + 1 = ((j + 1 : Nat) : Int) by omega]
      refine del_loop s coins t th lk q u hl hc d i (j + 1) p0 (by omega) (by omega) hp ?_ ?_
      · rw [htk, if_neg hk, List.append_nil, h1]
      · have := congrArg (List.drop 1) h2
        simpa [List.drop_drop] using this
def e_slices_DeleteFunc_int_int : Entry := io_slices_DeleteFunc_int_int.sp (fun (s, coins, tickets, threads, locks, queue, quantum) => (s.all (inB coins))) (fun (s, coins, tickets, threads, locks, queue, quantum) => (s.filter (gI coins), coins, tickets, threads, locks, queue, quantum))
theorem sp_slices_DeleteFunc_int_int (h : ∀ (s : List Int) (coins : List Bool) (tickets : List Tk) (threads : List Th) (locks : List Lk) (queue : List Int) (quantum : Int), WfT [.sl tI, .sl tB, .sl yK, .sl yH, .sl yL, .sl tI, tI] (s, coins, tickets, threads, locks, queue, quantum) → ((s.all (inB coins))) = true → (slices_DeleteFunc_int_int (s, coins, tickets, threads, locks, queue, quantum)).run (fun _ => none) = some (s.filter (gI coins), coins, tickets, threads, locks, queue, quantum)) : e_slices_DeleteFunc_int_int.ok pg := sp_ok ok_slices_DeleteFunc_int_int fun (s, coins, tickets, threads, locks, queue, quantum) hw hc => h s coins tickets threads locks queue quantum hw hc
theorem e_slices_DeleteFunc_int_int_ok : e_slices_DeleteFunc_int_int.ok pg := sp_slices_DeleteFunc_int_int fun s coins tickets threads locks queue quantum hw hc => by
  have hl : s.length ≤ 9223372036854775807 := hw.1.1
  rw [slices_DeleteFunc_int_int]
  simp only [RT.run]
  rw [if_pos hc]
  unfold idxF
  cases hi : s.findIdx? (fun c => !(gI coins c)) with
  | none =>
    rw [if_pos (by rfl)]
    have := List.findIdx?_eq_none_iff.1 hi
    rw [List.filter_eq_self.2 fun x hx => by simpa using this x hx]
  | some j =>
    obtain ⟨hj, hk, hbef⟩ := List.findIdx?_eq_some_iff_getElem.1 hi
    have hne : ¬ (((j : Int) == -1) = true) := by simp
    simp only
    rw [if_neg hne, w64_in (by omega), show (j : Int) + 1 = ((j + 1 : Nat) : Int) by omega]
    have hbf : (s.take (j + 1)).filter (gI coins) = s.take j := by
      rw [List.take_add_one, List.getElem?_eq_getElem hj, List.filter_append]
      have h1 : (s.take j).filter (gI coins) = s.take j := List.filter_eq_self.2 fun x hx => by
        obtain ⟨k, hk1, rfl⟩ := List.mem_iff_getElem.1 hx
        have hkj : k < j := by simp at hk1; omega
        have := hbef k hkj
        simp only [List.getElem_take]
        simpa using this
      have h2 : gI coins s[j] = false := by simpa using hk
      rw [h1]
      simp [h2]
    obtain ⟨i', p1, h1, h2, h3, h4⟩ := del_loop s coins tickets threads locks queue quantum hl hc (s.length - (j + 1)) j (j + 1) s (by omega) (by omega) rfl hbf.symm rfl
    rw [h1, Option.bind_some]
    have hd : dropOK p1 (i' : Int) = true := by simp [dropOK]; omega
    have hcl : (clrI p1 (i' : Int) 0).length = p1.length := by simp [clrI]; omega
    have ht : takeOK (clrI p1 (i' : Int) 0) (i' : Int) = true := by simp [takeOK, hcl]; omega
    simp only
    rw [if_pos hd, if_pos ht]
    have he : takeI (clrI p1 (i' : Int) 0) (i' : Int) = s.filter (gI coins) := by
      rw [← h4]
      simp only [takeI, clrI, Int.toNat_natCast]
      rw [List.take_append_of_le_length (by simp; omega), List.take_take, Nat.min_self]
    rw [he]
end
end Go.Proofs.YtlfdidaeachpoaaGreat

namespace Go.Proofs.YtlfdidaeachpoaaGreat
open Go Go.RowKit
theorem wpR_n {rd : Option Nat} {n m : Nat} {P : Program} {c : Code} {Q : Exit → Act → World → Prop} {a : Act} {w : World} (h : c.wpIn (Fw rd) n P Q a w) : c.wpIn (Fw rd) m P Q a w :=
  fun b k cs h1 h2 _ => h b k cs h1 h2 fun _ h => (by cases h)
def cellsAt (w : World) (b : Nat) : Prop := ∃ o : Obj, w.heap[b]? = some o ∧ o.isCells = true
theorem cellsAt_row {w : World} {e : TypeId} {size n : Nat} {v : Value} {us : List Value} (h : w.ownsRow 0 e size v n us) {g : Nat} (hg : blk v = some g) : cellsAt w g := by
  rcases h.2 with ⟨rfl, _⟩ | ⟨g', cap, cur, rfl, _, h1, _⟩
  · cases hg
  · cases hg; exact ⟨_, h1, rfl⟩
section
variable {w w' : World} {ok : Nat → Prop} {β : Nat → Option Value}
theorem RepD.norm : (t : Ty) → {vs : List Value} → {x : t.den} → RepD w ok t vs x → RepD w (fun b => ok b ∧ cellsAt w b) t vs x
  | .int _, _, _, h => h
  | .bool, _, _, h => h
  | .str, _, _, h => h
  | .sl t, vs, xs, h => by
    obtain ⟨A, cap, h1, h2, h3, h4, h5⟩ := h
    refine ⟨A, cap, h1, h2, h3, h4, fun i hi => ?_⟩
    obtain ⟨b, o, us, h6, h7, h8, h9, h10⟩ := h5 i hi
    refine ⟨b, o, us, h6, ⟨h7, ?_⟩, h8, h9, RepD.norm t h10⟩
    have hpos := t.size_pos
    have hj : us[0]? = some us[0] := List.getElem?_eq_getElem (by omega)
    exact cells_of_cell (h9 0 _ hj)
  | .pair a b, vs, x, h => by
    obtain ⟨us, us', h1, h2, h3⟩ := h
    exact ⟨us, us', h1, RepD.norm a h2, RepD.norm b h3⟩
theorem RepL.norm {v : Value} {l : Leaf} (h : RepL w ok β v l) : RepL w (fun b => ok b ∧ cellsAt w b) β v l := by
  cases l with
  | dat t xs => exact RepD.norm (.sl t) h
  | _ => exact h
theorem RepLs.norm : ∀ {vs : List Value} {ls : List Leaf}, RepLs w ok β vs ls → RepLs w (fun b => ok b ∧ cellsAt w b) β vs ls
  | [], [], _ => trivial
  | _ :: _, _ :: _, ⟨h1, h2⟩ => ⟨h1.norm, RepLs.norm h2⟩
  | [], _ :: _, h => h.elim
  | _ :: _, [], h => h.elim
theorem RepEs.norm {t : Ty} {us : List Value} {xs : List t.den} (h : RepEs w ok t us xs) : RepEs w (fun b => ok b ∧ cellsAt w b) t us xs := fun i hi => (h i hi).norm
theorem EntRep.norm {id : Nat} {b : EB} (h : EntRep w ok β id b) : EntRep w (fun b => ok b ∧ cellsAt w b) β id b := by
  cases b with
  | dead => trivial
  | cells ls => obtain ⟨g, cs, e, h1, h2, h3⟩ := h; exact ⟨g, cs, e, h1, h2, h3.norm⟩
  | arr e t xs => obtain ⟨v, us, h1, h2, h3⟩ := h; exact ⟨v, us, h1, h2, h3.norm⟩
  | raw e us o => obtain ⟨v, vs, h1, h2, h3⟩ := h; exact ⟨v, vs, h1, h2, h3.to fun _ _ _ _ h => h.norm⟩
theorem EntRep.at {id : Nat} {e : Ent} (h : EntRep w ok β id e.b) (hl : e.live = true) {v : Value} (hv : β id = some v) {g : Nat} (hg : blk v = some g) : cellsAt w g := by
  obtain ⟨ew, eb⟩ := e
  cases eb with
  | dead => cases hl
  | cells ls =>
    obtain ⟨g', cs, e, h1, h2, _⟩ := h
    rw [hv] at h1; cases h1; cases hg
    exact ⟨_, h2, rfl⟩
  | arr e t xs =>
    obtain ⟨v', us, h1, h2, _⟩ := h
    rw [hv] at h1; cases h1
    exact cellsAt_row h2 hg
  | raw e us o =>
    obtain ⟨v', vs, h1, h2, _⟩ := h
    rw [hv] at h1; cases h1
    exact cellsAt_row h2 hg
end
section
variable {π : Pin} {w0 : World} {own : Nat → Prop} {w w' : World} {a a' : Act} {σ σ' : St} {β β' : Nat → Option Value} {ok ok' : Nat → Prop}
def plainTV : TV → Prop
  | .rptr _ => False
  | _ => True
theorem RepCs.norm : ∀ {vs : List Value} {cs : List (Bool × List Leaf)}, RepCs w ok β vs cs → RepCs w (fun b => ok b ∧ cellsAt w b) β vs cs
  | [], [], _ => trivial
  | v :: _, (b, ls) :: _, ⟨h1, h2⟩ => by
    refine ⟨?_, RepCs.norm h2⟩
    cases b with
    | true => obtain ⟨us, e, h⟩ := h1; exact ⟨us, e, h.norm⟩
    | false => exact RepLs.norm (vs := [v]) h1
  | [], _ :: _, h => h.elim
  | _ :: _, [], h => h.elim
theorem RepV.norm {v : Value} {t : TV} (ht : plainTV t) (h : RepV w ok β v t) : RepV w (fun b => ok b ∧ cellsAt w b) β v t := by
  cases t with
  | lf l => exact RepL.norm h
  | agg cs => obtain ⟨us, e, h⟩ := h; exact ⟨us, e, h.norm⟩
  | tup cs => obtain ⟨us, e, h⟩ := h; exact ⟨us, e, h.norm⟩
  | rptr _ => exact ht.elim
  | eptr id i off sz => exact h
theorem Sim.norm (S : Sim π w0 own w a σ β ok) (hσ : ∀ t, plainTV (σ.tv t)) : Sim π w0 own w a σ β (fun b => ok b ∧ cellsAt w b) := by
  obtain ⟨f, k, d, e, dw, wr, ro, sep⟩ := S.inv
  refine ⟨⟨f, fun b hb => k b hb.1, d, fun id e' h => (e id e' h).norm, dw, fun id e' v g h1 h2 h3 h4 => ⟨fun h => (wr id e' v g h1 h2 h3 h4).1 h.1, (wr id e' v g h1 h2 h3 h4).2⟩,
    fun id e' v g h1 h2 h3 h4 h5 => ⟨ro id e' v g h1 h2 h3 h4 h5, (e id e' h1).at h3 h4 h5⟩, sep⟩, fun t => (S.tmps t).norm (hσ t), S.size, S.def0, S.pin, fun b hb => S.okB b hb.1⟩
theorem Sim.grown (S : Sim π w0 own w a σ β ok) (hc : ∀ b, ok b → cellsAt w b) {row : Option Nat} (hg : w.grownBy w' row) (hr : ∀ r, row = some r → w0.heap.size ≤ r ∧ ∃ o : Obj, w.heap[r]? = some o ∧ o.isCells = false) :
    Sim π w0 own w' a σ β ok ∧ ∀ b, ok b → cellsAt w' b := by
  have hk : ∀ b, cellsAt w b → w'.heap[b]? = w.heap[b]? := fun b ⟨o, h1, h2⟩ => grownBy_keeps_cells hg (fun r e => (hr r e).2) h1 h2
  have hcl : ∀ b, cellsAt w b → cellsAt w' b := fun b hb => by obtain ⟨o, h1, h2⟩ := hb; exact ⟨o, by rw [hk b ⟨o, h1, h2⟩]; exact h1, h2⟩
  obtain ⟨f, k, d, e, dw, wr, ro, sep⟩ := S.inv
  refine ⟨⟨⟨⟨hg.os.trans f.os, hg.tape.trans f.tape, hg.output.trans f.output, Nat.le_trans f.size hg.size, fun b hb hn => ?_⟩, fun b hb => Nat.lt_of_lt_of_le (k b hb) hg.size, d, fun id e' h => ?_, dw, wr, ro, sep⟩,
    fun t => (S.tmps t).mono (fun b hb => hk b (hc b hb)) (fun _ h => h) (fun _ _ h => h), S.size, S.def0, S.pin, S.okB⟩, fun b hb => hcl b (hc b hb)⟩
  · rw [hg.block b (Nat.lt_of_lt_of_le hb f.size) fun h => ?_]
    · exact f.block b hb hn
    · have := (hr b h.symm).1; omega
  · by_cases hl : e'.live = true
    · exact (e id e' h).mono (fun b hb => hk b (hc b hb)) (fun _ h => h) (fun _ _ h => h) fun v g hv hg' => hk g ((e id e' h).at hl hv hg')
    · obtain ⟨ew, eb⟩ := e'
      cases eb with
      | dead => trivial
      | _ => exact absurd rfl hl
def ownOf (β : Nat → Option Value) (h : Look) (b : Nat) : Prop := ∃ id e v, h id = some e ∧ e.w = true ∧ β id = some v ∧ blk v = some b
theorem Sim.rebase (S : Sim π w0 own w a σ β ok) (rd : Option Nat) (df : List Deferred) {a' : Act} (ha : a'.tmps = a.tmps) (hd : a'.defers = df) : Sim ⟨β, ok, rd, df⟩ w (ownOf β (hget σ.heap)) w a' σ β ok := by
  obtain ⟨f, k, d, e, dw, wr, ro, sep⟩ := S.inv
  exact ⟨⟨Fr.refl _ _, k, d, e, dw, fun id e' v g h1 h2 h3 h4 => ⟨(wr id e' v g h1 h2 h3 h4).1, .inl ⟨id, e', v, h1, h2, h3, h4⟩⟩, ro, sep⟩, fun t => by rw [ha]; exact S.tmps t, by rw [ha]; exact S.size, hd, fun _ _ _ h => h, fun _ h => .inl h⟩
theorem Sim.back (S : Sim π w0 own w a σ β ok) {rd : Option Nat} {df : List Deferred} (S' : Sim ⟨β, ok, rd, df⟩ w (ownOf β (hget σ.heap)) w' a' σ' β' ok') {a2 : Act} (ha : a2.tmps = a'.tmps) (hd : a2.defers = π.df) : Sim π w0 own w' a2 σ' β' ok' := by
  obtain ⟨f, k, d, e, dw, wr, ro, sep⟩ := S'.inv
  have hown : ∀ b, ownOf β (hget σ.heap) b → own b ∨ w0.heap.size ≤ b := fun b ⟨id, e, v, h1, h2, h3, h4⟩ => (S.inv.wr id e v b h1 h2 h3 h4).2
  have hle := S.inv.fr.size
  refine ⟨⟨⟨f.os.trans S.inv.fr.os, f.tape.trans S.inv.fr.tape, f.output.trans S.inv.fr.output, Nat.le_trans hle f.size, fun b hb hn => ?_⟩, k, d, e, dw, fun id e' v g h1 h2 h3 h4 => ⟨(wr id e' v g h1 h2 h3 h4).1, ?_⟩, ro, sep⟩,
    fun t => by rw [ha]; exact S'.tmps t, by rw [ha]; exact S'.size, hd, fun id v h1 h2 => S.pin id v h1 (S'.pin id v h1 h2), fun b hb => ?_⟩
  · rw [f.block b (Nat.lt_of_lt_of_le hb hle) fun h => ?_]
    · exact S.inv.fr.block b hb hn
    · rcases hown b h with h1 | h1
      · exact hn h1
      · omega
  · rcases (wr id e' v g h1 h2 h3 h4).2 with h | h
    · exact hown g h
    · exact .inr (Nat.le_trans hle h)
  · rcases S'.okB b hb with h | h | h
    · exact S.okB b h
    · exact .inr (hown b h)
    · exact .inr (.inr (Nat.le_trans hle h))
end
def upE (e : Ent) : Ent := ⟨e.w, renEB (parBase + ·) e.b⟩
def upHp (hp : List (Nat × Ent)) : List (Nat × Ent) := hp.map fun x => (parBase + x.1, upE x.2)
def upβ (β : Nat → Option Value) (j : Nat) : Option Value := if parBase ≤ j then β (j - parBase) else none
theorem hget_up : ∀ (hp : List (Nat × Ent)) (k : Nat), hget (upHp hp) k = if parBase ≤ k then (hget hp (k - parBase)).map upE else none
  | [], k => by show none = _; split <;> rfl
  | x :: hp, k => by
    show (if parBase + x.1 = k then some (upE x.2) else hget (upHp hp) k) = _
    by_cases h : parBase + x.1 = k
    · subst h
      rw [if_pos rfl, if_pos (by omega)]
      simp [hget]
    · rw [if_neg h, hget_up hp k]
      by_cases h2 : parBase ≤ k
      · rw [if_pos h2, if_pos h2]
        show _ = Option.map upE (if x.1 = k - parBase then some x.2 else hget hp (k - parBase))
        rw [if_neg (by omega)]
      · rw [if_neg h2, if_neg h2]
theorem live_up (e : Ent) : (upE e).live = e.live := live_ren (q' := e.w)
section
variable {π : Pin} {w0 : World} {own : Nat → Prop} {w w' : World} {a a' : Act} {σ σ' : St} {β β' : Nat → Option Value} {ok ok' : Nat → Prop}
theorem upβ_up (β : Nat → Option Value) (id : Nat) : upβ β (parBase + id) = β id := by
  unfold upβ; rw [if_pos (by omega), Nat.add_sub_cancel_left]
theorem Inv.up {hp : List (Nat × Ent)} (I : Inv w0 own w β ok (hget hp)) : Inv w0 own w (upβ β) ok (hget (upHp hp)) := by
  have hto : ∀ k e, hget (upHp hp) k = some e → ∃ j e0, k = parBase + j ∧ hget hp j = some e0 ∧ e = upE e0 := fun k e h => by
    rw [hget_up] at h
    split at h
    · rename_i hk
      obtain ⟨e0, h1, h2⟩ := Option.map_eq_some_iff.1 h
      exact ⟨k - parBase, e0, by omega, h1, h2.symm⟩
    · cases h
  have hβ : ∀ k v, upβ β k = some v → ∃ j, k = parBase + j ∧ β j = some v := fun k v h => by
    unfold upβ at h
    split at h
    · exact ⟨k - parBase, by omega, h⟩
    · cases h
  obtain ⟨f, k, d, e, dw, wr, ro, sep⟩ := I
  refine ⟨f, k, fun id v h => ?_, fun id e' h => ?_, fun id e' h hw => ?_, fun id e' v g h hw hv hg => ?_, fun id e' v g h hw hl hv hg => ?_, fun i e1 v1 j e2 v2 g hij h1 h2 hw hl hv1 hv2 hg1 hg2 => ?_⟩
  · obtain ⟨j, rfl, hj⟩ := hβ id v h
    obtain ⟨e0, he⟩ := d j v hj
    exact ⟨upE e0, by rw [hget_up, if_pos (by omega), Nat.add_sub_cancel_left, he]; rfl⟩
  · obtain ⟨j, e0, rfl, h1, rfl⟩ := hto id e' h
    exact (e j e0 h1).ren (fun i _ u hu => (upβ_up β i).trans hu) fun u hu => (upβ_up β j).trans hu
  · obtain ⟨j, e0, rfl, h1, rfl⟩ := hto id e' h
    rw [live_up]; exact dw j e0 h1 hw
  · obtain ⟨j, e0, rfl, h1, rfl⟩ := hto id e' h
    rw [upβ_up] at hv
    exact wr j e0 v g h1 hw hv hg
  · obtain ⟨j, e0, rfl, h1, rfl⟩ := hto id e' h
    rw [upβ_up] at hv
    rw [live_up] at hl
    exact ro j e0 v g h1 hw hl hv hg
  · obtain ⟨i0, e3, rfl, h3, rfl⟩ := hto i e1 h1
    obtain ⟨j0, e4, rfl, h4, rfl⟩ := hto j e2 h2
    rw [upβ_up] at hv1 hv2
    rw [live_up] at hl
    exact sep i0 e3 v1 j0 e4 v2 g (fun h => hij (by rw [h])) h3 h4 hw hl hv1 hv2 hg1 hg2
def downβ (β : Nat → Option Value) (j : Nat) : Option Value := if j < parBase then β (parBase + j) else none
def smallHp (hp : List (Nat × Ent)) : Prop := ∀ id e, hget hp id = some e → id < parBase ∧ ∀ j ∈ ebIds e.b, j < parBase
theorem renLeaf_backN (N : Nat) {l : Leaf} : renLeaf (fun j => j - N) (renLeaf (fun j => N + j) l) = l := by
  cases l with
  | fn f caps =>
    simp only [renLeaf, List.map_map]
    have : (fun j => j - N) ∘ (fun j => N + j) = id := by funext j; simp
    rw [this, List.map_id]
  | ref id => simp [renLeaf]
  | ptr id off => simp [renLeaf]
  | _ => rfl
theorem renEB_backN (N : Nat) {b : EB} : renEB (fun j => j - N) (renEB (fun j => N + j) b) = b := by
  cases b with
  | cells ls =>
    simp only [renEB, List.map_map]
    have : renLeaf (fun j => j - N) ∘ renLeaf (fun j => N + j) = id := by funext l; exact renLeaf_backN N
    rw [this, List.map_id]
  | raw e us o =>
    rcases o with _ | ⟨i, l⟩
    · rfl
    · simp only [renEB, renLeaf_backN]
  | _ => rfl
theorem leafIds_ren (g : Nat → Nat) (l : Leaf) : leafIds (renLeaf g l) = (leafIds l).map g := by cases l <;> rfl
theorem ebIds_ren (g : Nat → Nat) (b : EB) : ebIds (renEB g b) = (ebIds b).map g := by
  cases b with
  | cells ls =>
    simp only [renEB, ebIds, List.flatMap_map, List.map_flatMap]
    congr 1
    funext l
    exact leafIds_ren g l
  | raw e us o =>
    rcases o with _ | ⟨i, l⟩
    · rfl
    · exact leafIds_ren g l
  | _ => rfl
theorem Inv.down {hp : List (Nat × Ent)} (hs : smallHp hp) (I : Inv w0 own w β ok (hget (upHp hp))) : Inv w0 own w (downβ β) ok (hget hp) := by
  have hup : ∀ id e, hget hp id = some e → hget (upHp hp) (parBase + id) = some (upE e) := fun id e h => by
    rw [hget_up, if_pos (by omega), Nat.add_sub_cancel_left, h]; rfl
  have hβ : ∀ k v, downβ β k = some v → k < parBase ∧ β (parBase + k) = some v := fun k v h => by
    unfold downβ at h
    split at h
    · exact ⟨by assumption, h⟩
    · cases h
  obtain ⟨f, k, d, e, dw, wr, ro, sep⟩ := I
  refine ⟨f, k, fun id v h => ?_, fun id e' h => ?_, fun id e' h hw => ?_, fun id e' v g h hw hv hg => ?_, fun id e' v g h hw hl hv hg => ?_, fun i e1 v1 j e2 v2 g hij h1 h2 hw hl hv1 hv2 hg1 hg2 => ?_⟩
  · obtain ⟨_, h1⟩ := hβ id v h
    obtain ⟨e0, he⟩ := d _ v h1
    rw [hget_up, if_pos (by omega), Nat.add_sub_cancel_left] at he
    obtain ⟨e1, h2, _⟩ := Option.map_eq_some_iff.1 he
    exact ⟨e1, h2⟩
  · have h1 := e _ _ (hup id e' h)
    obtain ⟨hlt, hids⟩ := hs id e' h
    have h2 := h1.ren (β2 := downβ β) (g := fun j => j - parBase) (id2 := id) (fun j hj u hu => ?_) fun u hu => ?_
    · rw [show (upE e').b = renEB (fun j => parBase + j) e'.b from rfl, renEB_backN] at h2; exact h2
    · have hj0 : j ∈ ebIds (renEB (parBase + ·) e'.b) := hj
      rw [ebIds_ren] at hj0
      obtain ⟨j0, hm, rfl⟩ := List.mem_map.1 hj0
      have := hids j0 hm
      show downβ β (parBase + j0 - parBase) = some u
      rw [Nat.add_sub_cancel_left, downβ, if_pos this]; exact hu
    · rw [downβ, if_pos hlt]; exact hu
  · have := dw _ _ (hup id e' h) hw
    rwa [live_up] at this
  · obtain ⟨_, hv'⟩ := hβ id v hv
    exact wr _ _ v g (hup id e' h) hw hv' hg
  · obtain ⟨_, hv'⟩ := hβ id v hv
    exact ro _ _ v g (hup id e' h) hw (by rw [live_up]; exact hl) hv' hg
  · obtain ⟨_, hv1'⟩ := hβ i v1 hv1
    obtain ⟨_, hv2'⟩ := hβ j v2 hv2
    exact sep _ _ v1 _ _ v2 g (by omega) (hup i e1 h1) (hup j e2 h2) hw (by rw [live_up]; exact hl) hv1' hv2' hg1 hg2
end
section
variable {π : Pin} {w0 : World} {own : Nat → Prop} {w w' : World} {a a' : Act} {β β' : Nat → Option Value} {ok ok' : Nat → Prop}
theorem Inv.base {h h' : Look} (I0 : Inv w0 own w β ok h) {own1 : Nat → Prop} (I : Inv w own1 w' β' ok' h') (hown : ∀ b, own1 b → own b ∨ w0.heap.size ≤ b) : Inv w0 own w' β' ok' h' := by
  obtain ⟨f, k, d, e, dw, wr, ro, sep⟩ := I
  have hle := I0.fr.size
  refine ⟨⟨f.os.trans I0.fr.os, f.tape.trans I0.fr.tape, f.output.trans I0.fr.output, Nat.le_trans hle f.size, fun b hb hn => ?_⟩, k, d, e, dw, fun id e' v g h1 h2 h3 h4 => ⟨(wr id e' v g h1 h2 h3 h4).1, ?_⟩, ro, sep⟩
  · rw [f.block b (Nat.lt_of_lt_of_le hb hle) fun h => ?_]
    · exact I0.fr.block b hb hn
    · rcases hown b h with h1 | h1
      · exact hn h1
      · omega
  · rcases (wr id e' v g h1 h2 h3 h4).2 with h | h
    · exact hown g h
    · exact .inr (Nat.le_trans hle h)
def ptSt (N : Nat) (pts : List (Nat × Nat)) (up : Nat) (hp : List (Nat × Ent)) : St := spSt N (pts.map (·.1)) (pts.map fun p => .lf (.ptr (up + p.2) 0)) hp
theorem lookT_pts (up : Nat) : ∀ (pts : List (Nat × Nat)) (t : Nat), lookT (pts.map (·.1)) (pts.map fun p => TV.lf (.ptr (up + p.2) 0)) t = .lf .undef ∨ ∃ p ∈ pts, p.1 = t ∧ lookT (pts.map (·.1)) (pts.map fun p => TV.lf (.ptr (up + p.2) 0)) t = .lf (.ptr (up + p.2) 0)
  | [], _ => .inl rfl
  | p :: pts, t => by
    by_cases h : p.1 = t
    · exact .inr ⟨p, List.mem_cons_self .., h, by simp [lookT, h]⟩
    · rcases lookT_pts up pts t with h1 | ⟨q, h1, h2, h3⟩
      · exact .inl (by simp only [List.map_cons, lookT, if_neg h]; exact h1)
      · exact .inr ⟨q, List.mem_cons_of_mem _ h1, h2, by simp only [List.map_cons, lookT, if_neg h]; exact h3⟩
theorem ptSt_tv {N : Nat} {pts : List (Nat × Nat)} {up : Nat} {hp : List (Nat × Ent)} (t : Nat) : (ptSt N pts up hp).tv t = .lf .undef ∨ ∃ p ∈ pts, p.1 = t ∧ (ptSt N pts up hp).tv t = .lf (.ptr (up + p.2) 0) := by
  have h := spTmps_get (pts.map (·.1)) (pts.map fun p => TV.lf (.ptr (up + p.2) 0)) N 0 t
  have e : (ptSt N pts up hp).tv t = if t < N then lookT (pts.map (·.1)) (pts.map fun p => TV.lf (.ptr (up + p.2) 0)) (0 + t) else .lf .undef := h
  rw [e]
  split
  · rw [Nat.zero_add]; exact lookT_pts up pts t
  · exact .inl rfl
theorem ptSt_same {N : Nat} {pts : List (Nat × Nat)} {up up' : Nat} {hp hp' : List (Nat × Ent)} (t : Nat) :
    ((ptSt N pts up hp).tv t = .lf .undef ∧ (ptSt N pts up' hp').tv t = .lf .undef) ∨ ∃ p ∈ pts, p.1 = t ∧ (ptSt N pts up hp).tv t = .lf (.ptr (up + p.2) 0) ∧ (ptSt N pts up' hp').tv t = .lf (.ptr (up' + p.2) 0) := by
  have e : ∀ u h, (ptSt N pts u h).tv t = if t < N then lookT (pts.map (·.1)) (pts.map fun (p : Nat × Nat) => TV.lf (.ptr (u + p.2) 0)) (0 + t) else .lf .undef := fun u h => spTmps_get (pts.map (·.1)) (pts.map fun (p : Nat × Nat) => TV.lf (.ptr (u + p.2) 0)) N 0 t
  rw [e, e]
  split
  · rw [Nat.zero_add]
    clear e
    induction pts with
    | nil => exact .inl ⟨rfl, rfl⟩
    | cons p pts ih =>
      by_cases h : p.1 = t
      · exact .inr ⟨p, List.mem_cons_self .., h, by simp [lookT, h], by simp [lookT, h]⟩
      · simp only [List.map_cons, lookT, if_neg h]
        rcases ih with h1 | ⟨q, h1, h2⟩
        · exact .inl h1
        · exact .inr ⟨q, List.mem_cons_of_mem _ h1, h2⟩
  · exact .inl ⟨rfl, rfl⟩
theorem range_wp {P : Program} {gf : Nat} {lb : Array Value} {g : Operand} {ps : Array Tmp} {assign body : Code} {α γ : Type} {encs : α → Array Value} {L : List α} {N : Nat} {pts : List (Nat × Nat)} {hp : γ → List (Nat × Ent)}
    {f : α → γ → γ} {R : γ → Prop} {Z : Nat → Prop} {Q : Exit → Act → World → Prop} {x0 : γ} {rst : α → γ → St} {a₁ : α → Act} {n : Nat}
    (S0 : Sim π w0 own w a (ptSt N pts 0 (hp x0)) β ok) (F1 : ∀ x, smallHp (hp x)) (F2 : ∀ x id e, hget (hp x) id = some e → e.live = true) (F3 : ∀ p ∈ pts, ∀ x, (hget (hp x) p.2).isSome = true)
    (hg : a.eval g = .func (.func gf) #[] lb) (heg : ∀ args w, (callFunc gf args).run P w = .ok (.enter gf args) w) (hZ : ∀ b, Z b → b < w.heap.size ∧ ¬ ownOf β (hget (hp x0)) b)
    (hseq : SeqStopsK (Fw none) 1 P gf lb encs (fun A B => ∀ k, Z k → B.heap[k]? = A.heap[k]?) (fun ys => ys = L) (fun _ => True) n w) (hps : ∀ x, (encs x).size = ps.size)
    (hassign : ∀ (l : Nat) (y : α) (W : World) (K : Act → World → Prop), K (a₁ y) W → assign.wpIn (Fw (some l)) 0 P (Exit.then K (fun _ _ _ => False)) { tmps := (ps.zip (encs y)).foldl (fun t (p, v) => t.setIfInBounds p v) a.tmps, defers := [] } W)
    (ha₁ : ∀ y, (a₁ y).tmps.size = N ∧ (a₁ y).defers = []) (hrl : ∀ y x, (rst y x).tmps.length = N ∧ (rst y x).heap = upHp (hp x))
    (hin : ∀ y x W β' ok', (∀ t, RepV W ok' β' (a.tmps.getD t undef) ((ptSt N pts parBase (upHp (hp x))).tv t)) → ∀ t, RepV W ok' β' ((a₁ y).tmps.getD t undef) ((rst y x).tv t))
    (hR0 : R x0) (hbody : ∀ y x, R x → R (f y x) ∧ ∀ l W okr βr, Sim ⟨βr, okr, some l, []⟩ W (ownOf βr (hget (upHp (hp x)))) W (a₁ y) (rst y x) βr okr →
      body.wpIn (Fw (some l)) 0 P (OutOK ⟨βr, okr, some l, []⟩ W (ownOf βr (hget (upHp (hp x)))) (fun ev => ∃ σ, ev = .norm σ ∧ Weak σ (ptSt N [] 0 (upHp (hp (f y x)))))) (a₁ y) W)
    (hQ : ∀ D W β2 ok2, w.heap.size ≤ D → W.heap[D]? = some (.deferred (some [])) → Sim π w0 own W a (ptSt N pts 0 (hp (L.foldl (fun x y => f y x) x0))) β2 ok2 → (∀ b, ok2 b → cellsAt W b) →
      Q .normal { a with defers := { target := .collected D, args := #[] } :: a.defers } W) :
    (Code.rangeFunc g ps assign body).wpIn (Fw none) 2 P Q a w := by
  have hpl : ∀ pts up h t, plainTV ((ptSt N pts up h).tv t) := fun pts up h t => by
    rcases ptSt_tv (N := N) (pts := pts) (up := up) (hp := h) t with h1 | ⟨p, _, _, h1⟩ <;> rw [h1] <;> trivial
  have S1 := S0.norm (hpl _ _ _)
  let ok1 : Nat → Prop := fun b => ok b ∧ cellsAt w b
  let B : Nat → Option Value := upβ β
  let own1 : Nat → Prop := ownOf B (hget (upHp (hp x0)))
  have hown1 : ∀ b, own1 b → own b ∨ w0.heap.size ≤ b := fun b ⟨id, e, v, h1, h2, h3, h4⟩ => (S1.inv.up.wr id e v b h1 h2 h3 h4).2
  let up : γ → St := fun x => ptSt N pts parBase (upHp (hp x))
  let fold : List α → γ := fun pre => pre.foldl (fun x y => f y x) x0
  have hRf : ∀ pre, R (fold pre) := by
    have : ∀ (pre : List α) x, R x → R (pre.foldl (fun x y => f y x) x) := by
      intro pre
      induction pre with
      | nil => exact fun x h => h
      | cons y pre ih => exact fun x h => ih _ (hbody y x h).1
    exact fun pre => this pre x0 hR0
  have F2' : ∀ x id e, hget (upHp (hp x)) id = some e → e.live = true := fun x id e h => by
    rw [hget_up] at h
    split at h
    · obtain ⟨e0, h1, rfl⟩ := Option.map_eq_some_iff.1 h
      rw [live_up]; exact F2 x _ e0 h1
    · cases h
  have hZ1 : ∀ b, Z b → b < w.heap.size ∧ ¬ own1 b := fun b hb => ⟨(hZ b hb).1, fun ⟨id, e, v, h1, h2, h3, h4⟩ => by
    rw [hget_up] at h1
    split at h1
    · rename_i hid
      obtain ⟨e0, h5, rfl⟩ := Option.map_eq_some_iff.1 h1
      have h3' : β (id - parBase) = some v := by have h3 := h3; simp only [B, upβ, if_pos hid] at h3; exact h3
      exact (hZ b hb).2 ⟨_, e0, v, h5, h2, h3', h4⟩
    · cases h1⟩
  let I : List α → World → Prop := fun pre W => ∃ β' ok', Sim ⟨B, ok1, none, []⟩ w own1 W { a with defers := [] } (up (fold pre)) β' ok' ∧ ∀ b, ok' b → cellsAt W b
  have hI : OwnFrom w.heap.size I := fun pre W W' row ⟨β', ok', S, hc⟩ hg hr => by
    obtain ⟨S', hc'⟩ := S.grown hc hg hr
    exact ⟨β', ok', S', hc'⟩
  have h0 : I [] w := by
    refine ⟨B, ok1, ⟨?_, fun t => ?_, ?_, rfl, fun _ _ _ h => h, fun _ h => .inl h⟩, fun b hb => hb.2⟩
    · obtain ⟨f, k, d, e, dw, wr, ro, sep⟩ := S1.inv.up
      exact ⟨Fr.refl _ _, k, d, e, dw, fun id e' v g h1 h2 h3 h4 => ⟨(wr id e' v g h1 h2 h3 h4).1, .inl ⟨id, e', v, h1, h2, h3, h4⟩⟩, ro, sep⟩
    · have h1 := S1.tmps t
      rcases ptSt_same (N := N) (pts := pts) (up := 0) (up' := parBase) (hp := hp x0) (hp' := upHp (hp x0)) t with ⟨_, h2⟩ | ⟨p, _, _, h2, h3⟩
      · show RepV _ _ _ _ ((ptSt N pts parBase (upHp (hp x0))).tv t)
        rw [h2]; trivial
      · rw [h2] at h1
        show RepV _ _ _ _ ((ptSt N pts parBase (upHp (hp x0))).tv t)
        rw [h3]
        obtain ⟨b, h4, h5⟩ := h1
        exact ⟨b, by rw [Nat.zero_add] at h4; exact (upβ_up β p.2).trans h4, h5⟩
    · rw [show ({ a with defers := [] } : Act).tmps.size = a.tmps.size from rfl, S1.size]; exact (spTmps_length ..).trans (spTmps_length ..).symm
  refine wpIn_rangeFunc_ownH (F := Fw none) (n := 2) rfl (by decide) hg trivial heg hseq (fun h1 h2 k hk => (h2 k hk).trans (h1 k hk)) (fun W l o o' hl _ _ _ k hk => World.putObj_heap_other (by have := (hZ k hk).1; omega)) (Below.refl _ _) hps
    I (fun _ _ _ => False) hI (fun _ _ _ _ _ h => h.elim) h0 (fun y a' _ => a' = a₁ y) (fun y a' _ W W' row h _ _ => h) (fun l pre y W K _ hK => hassign l y W K (hK _ _ (KeepsFrom.refl _ _) (fun _ _ => rfl) ‹_› rfl)) ?_ ?_ (fun _ _ _ _ _ _ h => h.elim)
  · -- a round
    rintro l pre y a' W _ _ ⟨β', ok', S, hc⟩ rfl _
    have hb := (hbody y (fold pre) (hRf pre)).2 l W ok' β'
    have Sr : Sim ⟨β', ok', some l, []⟩ W (ownOf β' (hget (upHp (hp (fold pre))))) W (a₁ y) (rst y (fold pre)) β' ok' := by
      have S2 := S.rebase (some l) [] (a' := { a with defers := [] }) rfl rfl
      refine ⟨by rw [(hrl y _).2]; exact S2.inv, hin y _ W β' ok' S.tmps, by rw [(ha₁ y).1, (hrl y _).1], (ha₁ y).2, fun _ _ _ h => h, fun _ h => .inl h⟩
    refine wpR_n (wpIn_mono (hb Sr) ?_)
    rintro e a2 W' ⟨ev, β2, ok2, ⟨σ, rfl, hweak⟩, rfl, S3⟩
    obtain ⟨β3, ok3, S4⟩ := hweak _ _ _ _ _ _ _ S3
    have S5 := S4.norm (hpl _ _ _)
    have hnot : ∀ k, k < W.heap.size → ¬ ownOf β' (hget (upHp (hp (fold pre)))) k → W'.heap[k]? = W.heap[k]? := fun k h1 h2 => S4.inv.fr.block k h1 h2
    refine ⟨⟨S4.inv.fr.size, fun k o _ hk ho => ?_⟩, fun k hk => ?_, ?_⟩
    · rw [hnot k (Array.getElem?_eq_some_iff.1 hk).1 fun ⟨id, e, v, h1, h2, h3, h4⟩ => ?_]
      · exact hk
      · obtain ⟨o', h5, h6⟩ := (S.inv.ent id e h1).at (F2' _ id e h1) h3 h4
        rw [hk] at h5; cases h5
        rw [ho] at h6; cases h6
    · have hlt : k < W.heap.size := Nat.lt_of_lt_of_le (hZ1 k hk).1 S.inv.fr.size
      refine hnot k hlt fun ⟨id, e, v, h1, h2, h3, h4⟩ => ?_
      rcases (S.inv.wr id e v k h1 h2 h3 h4).2 with h5 | h5
      · exact (hZ1 k hk).2 h5
      · have := (hZ1 k hk).1; omega
    · have hinv : Inv w own1 W' β3 (fun b => ok3 b ∧ cellsAt W' b) (hget (upHp (hp (f y (fold pre))))) := S.inv.base S5.inv fun b ⟨id, e, v, h1, h2, h3, h4⟩ => (S.inv.wr id e v b h1 h2 h3 h4).2
      refine ⟨β3, fun b => ok3 b ∧ cellsAt W' b, ⟨?_, fun t => ?_, ?_, rfl, ?_, ?_⟩, fun b hb => hb.2⟩
      · show Inv w own1 W' β3 _ (hget (upHp (hp (fold (pre ++ [y])))))
        have : fold (pre ++ [y]) = f y (fold pre) := by simp [fold]
        rw [this]; exact hinv
      · have h1 := S.tmps t
        have hff : fold (pre ++ [y]) = f y (fold pre) := by simp [fold]
        show RepV _ _ _ _ ((ptSt N pts parBase (upHp (hp (fold (pre ++ [y]))))).tv t)
        rcases ptSt_same (N := N) (pts := pts) (up := parBase) (up' := parBase) (hp := upHp (hp (fold pre))) (hp' := upHp (hp (fold (pre ++ [y])))) t with ⟨_, h2⟩ | ⟨p, hp1, _, h2, h3⟩
        · rw [h2]; trivial
        · rw [show (up (fold pre)).tv t = _ from h2] at h1
          rw [h3]
          obtain ⟨b, h4, h5⟩ := h1
          refine ⟨b, ?_, h5⟩
          obtain ⟨e, he⟩ := Option.isSome_iff_exists.1 (F3 p hp1 (f y (fold pre)))
          have he' : hget (upHp (hp (f y (fold pre)))) (parBase + p.2) = some (upE e) := by rw [hget_up, if_pos (by omega), Nat.add_sub_cancel_left, he]; rfl
          have hent := hinv.ent _ _ he'
          have hlive := F2' _ _ _ he'
          have : ∃ v, β3 (parBase + p.2) = some v := by
            cases hb : (upE e).b with
            | dead => rw [Ent.live, hb] at hlive; cases hlive
            | cells ls => rw [hb] at hent; obtain ⟨g, cs, et, h6, _⟩ := hent; exact ⟨_, h6⟩
            | arr et t xs => rw [hb] at hent; obtain ⟨v, us, h6, _⟩ := hent; exact ⟨_, h6⟩
            | raw et us o => rw [hb] at hent; obtain ⟨v, us, h6, _⟩ := hent; exact ⟨_, h6⟩
          obtain ⟨v, hv⟩ := this
          have hpin := S4.pin (parBase + p.2) v (by omega) hv
          rw [show β' (parBase + p.2) = some v from hpin] at h4
          rw [hv, h4]
      · exact S.size.trans ((spTmps_length ..).trans (spTmps_length ..).symm)
      · exact fun id v h1 h2 => S.pin id v h1 (S4.pin id v h1 h2)
      · intro b hb
        rcases S4.okB b hb.1 with h1 | ⟨id, e, v, h1, h2, h3, h4⟩ | h1
        · exact S.okB b h1
        · exact .inr (S.inv.wr id e v b h1 h2 h3 h4).2
        · exact .inr (.inr (Nat.le_trans S.inv.fr.size h1))
  · -- behind all
    rintro D xs W hD rfl ⟨β', ok', S, hc⟩ hdD
    refine hQ D W (downβ β') ok' hD hdD ⟨S0.inv.base (S.inv.down (F1 _)) hown1, fun t => ?_, ?_, S0.def0, fun id v h1 h2 => ?_, fun b hb => ?_⟩ hc
    · have h1 := S.tmps t
      rcases ptSt_same (N := N) (pts := pts) (up := parBase) (up' := 0) (hp := upHp (hp (fold xs))) (hp' := hp (fold xs)) t with ⟨_, h2⟩ | ⟨p, hp1, _, h2, h3⟩
      · show RepV _ _ _ _ ((ptSt N pts 0 (hp (fold xs))).tv t)
        rw [h2]; trivial
      · rw [show (up (fold xs)).tv t = _ from h2] at h1
        show RepV _ _ _ _ ((ptSt N pts 0 (hp (fold xs))).tv t)
        rw [h3]
        obtain ⟨b, h4, h5⟩ := h1
        obtain ⟨e, he⟩ := Option.isSome_iff_exists.1 (F3 p hp1 (fold xs))
        refine ⟨b, ?_, h5⟩
        rw [Nat.zero_add, downβ, if_pos (F1 _ _ _ he).1]; exact h4
    · exact S.size.trans ((spTmps_length ..).trans (spTmps_length ..).symm)
    · unfold downβ at h2
      rw [if_neg (by omega)] at h2; cases h2
    · rcases S.okB b hb with h1 | h1 | h1
      · exact S0.okB b h1.1
      · exact .inr (hown1 b h1)
      · exact .inr (.inr (Nat.le_trans S0.inv.fr.size h1))
end
theorem sp_rec {P : Program} {o : Io} {F : Nat → Tup o.A → Option (Tup o.R)} {C : Tup o.A → Bool} {V : Tup o.A → Tup o.R} (hF : ∀ n, o.Okay P (F n)) (h : ∀ x, WfT o.A x → C x = true → ∃ n, F n x = some (V x)) : (o.sp C V).ok P := Entry.data_ok fun args es r hr hv => by
  unfold Io.spAns at hr
  simp only at hr
  split at hr
  case h_2 => cases hr
  rename_i x hx
  cases hr
  have hC : C x = true := hv
  refine ⟨(hF 0).1, CallOK.vc ?_⟩
  intro w vals β ok h1 h2 h3 h4 h5 h6
  have hw : WfT o.A x := by
    unfold Io.rd at hx
    split at hx
    · rename_i ps hps
      split at hx
      · rename_i k hg
        refine getTup_wf o.A hx (rdPs_wf hg ?_ fun l hl => by cases hl)
        exact WfPs.app hps (fun x hx => zipVs_wf hx h2) fun y hy => zipEs_wf (k := 0) hy fun j e he => by rw [Nat.zero_add]; exact (h4 j e he).2.2
      · cases hx
    · cases hx
  obtain ⟨n, hn⟩ := h x hw hC
  have hV := (hF n).2 x (V x) hn
  obtain ⟨e1, e2⟩ := Io.rd_as hx
  rw [e1, e2] at hV
  exact hV w vals β ok h1 h2 h3 h4 h5 h6
end Go.Proofs.YtlfdidaeachpoaaGreat

namespace Go.Proofs.YtlfdidaeachpoaaGreat
open Go Go.RowKit
set_option maxRecDepth 100000
noncomputable section
def state_threadUsed : (Int × Int × Int × Int × Int) → RT Unit Bool
| (t_0, t_1, t_2, t_3, t_4) =>
 .rq 6 (.done (t_0 != 0))
def F_state_threadUsed (x : Int × Int × Int × Int × Int) : Option Bool := (state_threadUsed x).run fun _ => none
def io_state_threadUsed : Io := ⟨n_state_threadUsed, [tI, tI, tI, tI, tI], [.agg [qm 0, qm 1, qm 2, qm 3, qm 4]], [], [[tI, tI, tI, tI, tI]], [tB], .lf (qm 0), [], [], false⟩
def state_threadUsed_P : List Piece := []
def state_threadUsed_T : CallT := tab []
theorem state_threadUsed_To : SoundT pg state_threadUsed_T := tab_sound trivial
theorem state_threadUsed_go : FnOK pg (state_threadUsed_T) io_state_threadUsed f_state_threadUsed (state_threadUsed_P) [] (state_threadUsed) := ⟨by kernel_rfl, by kernel_rfl, fun x => by kernel_rfl⟩
theorem ok_state_threadUsed : io_state_threadUsed.Okay pg (F_state_threadUsed) := fn_ok pg_mixed (state_threadUsed_To) (state_threadUsed_go) trivial
def e_state_threadUsed : Entry := io_state_threadUsed.sp (fun (a, b, c, d, e) => true) (fun (a, b, c, d, e) => (a != 0))
theorem sp_state_threadUsed (h : ∀ (a : Int) (b : Int) (c : Int) (d : Int) (e : Int), WfT [tI, tI, tI, tI, tI] (a, b, c, d, e) → (state_threadUsed (a, b, c, d, e)).run (fun _ => none) = some (a != 0)) : e_state_threadUsed.ok pg := sp_ok ok_state_threadUsed fun (a, b, c, d, e) hw hc => h a b c d e hw
theorem e_state_threadUsed_ok : e_state_threadUsed.ok pg := sp_state_threadUsed fun a b c d e _ => by
  rw [state_threadUsed]; rfl
def state_lockUsed : (Bool × Int) → RT Unit Bool
| (l_0, l_1) =>
 .rq 5 (.done l_0)
def F_state_lockUsed (x : Bool × Int) : Option Bool := (state_lockUsed x).run fun _ => none
def io_state_lockUsed : Io := ⟨n_state_lockUsed, [tB, tI], [.agg [qm 0, qm 1]], [], [[tB, tI]], [tB], .lf (qm 0), [], [], false⟩
def state_lockUsed_P : List Piece := []
def state_lockUsed_T : CallT := tab []
theorem state_lockUsed_To : SoundT pg state_lockUsed_T := tab_sound trivial
theorem state_lockUsed_go : FnOK pg (state_lockUsed_T) io_state_lockUsed f_state_lockUsed (state_lockUsed_P) [] (state_lockUsed) := ⟨by kernel_rfl, by kernel_rfl, fun x => by kernel_rfl⟩
theorem ok_state_lockUsed : io_state_lockUsed.Okay pg (F_state_lockUsed) := fn_ok pg_mixed (state_lockUsed_To) (state_lockUsed_go) trivial
def e_state_lockUsed : Entry := io_state_lockUsed.sp (fun (a, b) => true) (fun (a, b) => a)
theorem sp_state_lockUsed (h : ∀ (a : Bool) (b : Int), WfT [tB, tI] (a, b) → (state_lockUsed (a, b)).run (fun _ => none) = some a) : e_state_lockUsed.ok pg := sp_ok ok_state_lockUsed fun (a, b) hw hc => h a b hw
theorem e_state_lockUsed_ok : e_state_lockUsed.ok pg := sp_state_lockUsed fun a b _ => by
  rw [state_lockUsed]; rfl
def state_get_api_Thread : ((List Th) × Int) → RT Unit (Int × Int × Int × Int × Int × Bool)
| (l, i) =>
 .rq 14 (let t0 := (decide (i < 0)) || (decide ((l.length : Int) ≤ i));
 .req ((inB l i) || (!(!t0))) (.rq 4 (.ite (t0 || (!(((gI l i).1 != 0))))
 (.rq 3 (.done (0, 0, 0, 0, 0, false)))
 (.rq 2 (.req (inB l i) (.rq 3 (.done ((gI l i).1, (gI l i).2.1, (gI l i).2.2.1, (gI l i).2.2.2.1, (gI l i).2.2.2.2, true))))))))
def F_state_get_api_Thread (x : (List Th) × Int) : Option (Int × Int × Int × Int × Int × Bool) := (state_get_api_Thread x).run fun _ => none
def io_state_get_api_Thread : Io := ⟨n_state_get_api_Thread, [.sl yH, tI], [.lf (qm 0), .lf (qm 1), .lf (.fix (.fn 136 []))], [], [[.sl yH], [tI], []], [tI, tI, tI, tI, tI, tB], .tup [(true, [qm 0, qm 1, qm 2, qm 3, qm 4]), (false, [qm 5])], [], [], false⟩
def state_get_api_Thread_P : List Piece := []
def state_get_api_Thread_T : CallT := tab [e_state_threadUsed]
theorem state_get_api_Thread_To : SoundT pg state_get_api_Thread_T := tab_sound ⟨e_state_threadUsed_ok, trivial⟩
theorem state_get_api_Thread_go : FnOK pg (state_get_api_Thread_T) io_state_get_api_Thread f_state_get_api_Thread (state_get_api_Thread_P) [] (state_get_api_Thread) := ⟨by kernel_rfl, by kernel_rfl, fun x => by kernel_rfl⟩
theorem ok_state_get_api_Thread : io_state_get_api_Thread.Okay pg (F_state_get_api_Thread) := fn_ok pg_mixed (state_get_api_Thread_To) (state_get_api_Thread_go) trivial
def getThread (l : List Th) (i : Int) : Int × Int × Int × Int × Int × Bool := if inB l i && ((gI l i).1 != 0) then ((gI l i).1, (gI l i).2.1, (gI l i).2.2.1, (gI l i).2.2.2.1, (gI l i).2.2.2.2, true) else (0, 0, 0, 0, 0, false)
def e_state_get_api_Thread : Entry := io_state_get_api_Thread.sp (fun (l, i) => true) (fun (l, i) => (getThread l i))
theorem sp_state_get_api_Thread (h : ∀ (l : List Th) (i : Int), WfT [.sl yH, tI] (l, i) → (state_get_api_Thread (l, i)).run (fun _ => none) = some (getThread l i)) : e_state_get_api_Thread.ok pg := sp_ok ok_state_get_api_Thread fun (l, i) hw hc => h l i hw
theorem e_state_get_api_Thread_ok : e_state_get_api_Thread.ok pg := sp_state_get_api_Thread fun l i _ => by
  rw [state_get_api_Thread]
  simp only [RT.run]
  unfold getThread
  cases h : inB l i with
  | true =>
    have hb := inB_iff.1 h
    have h1 : decide (i < 0) = false := by simp; omega
    have h2 : decide ((l.length : Int) ≤ i) = false := by simp; omega
    rw [h1, h2]
    cases ((gI l i).1 != 0) <;> simp
  | false =>
    have hb : (decide (i < 0) || decide ((l.length : Int) ≤ i)) = true := by
      cases hq : (decide (i < 0) || decide ((l.length : Int) ≤ i)) with
      | true => rfl
      | false =>
        simp only [Bool.or_eq_false_iff, decide_eq_false_iff_not] at hq
        rw [inB_iff.2 ⟨by omega, by omega⟩] at h
        cases h
    rw [hb]
    simp
def state_get_api_Lock : ((List Lk) × Int) → RT Unit (Bool × Int × Bool)
| (l, i) =>
 .rq 14 (let t0 := (decide (i < 0)) || (decide ((l.length : Int) ≤ i));
 .req ((inB l i) || (!(!t0))) (.rq 4 (.ite (t0 || (!(gI l i).1))
 (.rq 3 (.done (false, 0, false)))
 (.rq 2 (.req (inB l i) (.rq 3 (.done ((gI l i).1, (gI l i).2, true))))))))
def F_state_get_api_Lock (x : (List Lk) × Int) : Option (Bool × Int × Bool) := (state_get_api_Lock x).run fun _ => none
def io_state_get_api_Lock : Io := ⟨n_state_get_api_Lock, [.sl yL, tI], [.lf (qm 0), .lf (qm 1), .lf (.fix (.fn 200 []))], [], [[.sl yL], [tI], []], [tB, tI, tB], .tup [(true, [qm 0, qm 1]), (false, [qm 2])], [], [], false⟩
def state_get_api_Lock_P : List Piece := []
def state_get_api_Lock_T : CallT := tab [e_state_lockUsed]
theorem state_get_api_Lock_To : SoundT pg state_get_api_Lock_T := tab_sound ⟨e_state_lockUsed_ok, trivial⟩
theorem state_get_api_Lock_go : FnOK pg (state_get_api_Lock_T) io_state_get_api_Lock f_state_get_api_Lock (state_get_api_Lock_P) [] (state_get_api_Lock) := ⟨by kernel_rfl, by kernel_rfl, fun x => by kernel_rfl⟩
theorem ok_state_get_api_Lock : io_state_get_api_Lock.Okay pg (F_state_get_api_Lock) := fn_ok pg_mixed (state_get_api_Lock_To) (state_get_api_Lock_go) trivial
def getLock (l : List Lk) (i : Int) : Bool × Int × Bool := if inB l i && (gI l i).1 then ((gI l i).1, (gI l i).2, true) else (false, 0, false)
def e_state_get_api_Lock : Entry := io_state_get_api_Lock.sp (fun (l, i) => true) (fun (l, i) => (getLock l i))
theorem sp_state_get_api_Lock (h : ∀ (l : List Lk) (i : Int), WfT [.sl yL, tI] (l, i) → (state_get_api_Lock (l, i)).run (fun _ => none) = some (getLock l i)) : e_state_get_api_Lock.ok pg := sp_ok ok_state_get_api_Lock fun (l, i) hw hc => h l i hw
theorem e_state_get_api_Lock_ok : e_state_get_api_Lock.ok pg := sp_state_get_api_Lock fun l i _ => by
  rw [state_get_api_Lock]
  simp only [RT.run]
  unfold getLock
  cases h : inB l i with
  | true =>
    have hb := inB_iff.1 h
    have h1 : decide (i < 0) = false := by simp; omega
    have h2 : decide ((l.length : Int) ≤ i) = false := by simp; omega
    rw [h1, h2]
    cases (gI l i).1 <;> simp
  | false =>
    have hb : (decide (i < 0) || decide ((l.length : Int) ≤ i)) = true := by
      cases hq : (decide (i < 0) || decide ((l.length : Int) ≤ i)) with
      | true => rfl
      | false =>
        simp only [Bool.or_eq_false_iff, decide_eq_false_iff_not] at hq
        rw [inB_iff.2 ⟨by omega, by omega⟩] at h
        cases h
    rw [hb]
    simp
def state_Thread : ((List Bool) × (List Tk) × (List Th) × (List Lk) × (List Int) × Int × Int) → RT Unit (Int × Int × Int × Int × Int × Bool)
| (s_0, s_1, s_2, s_3, s_4, s_5, i) =>
 .rq 11 (.done (((getThread s_2 i)).1, ((getThread s_2 i)).2.1, ((getThread s_2 i)).2.2.1, ((getThread s_2 i)).2.2.2.1, ((getThread s_2 i)).2.2.2.2.1, ((getThread s_2 i)).2.2.2.2.2))
def F_state_Thread (x : (List Bool) × (List Tk) × (List Th) × (List Lk) × (List Int) × Int × Int) : Option (Int × Int × Int × Int × Int × Bool) := (state_Thread x).run fun _ => none
def io_state_Thread : Io := ⟨n_state_Thread, [.sl tB, .sl yK, .sl yH, .sl yL, .sl tI, tI, tI], [.agg [qm 0, qm 1, qm 2, qm 3, qm 4, qm 5], .lf (qm 6)], [], [[.sl tB, .sl yK, .sl yH, .sl yL, .sl tI, tI], [tI]], [tI, tI, tI, tI, tI, tB], .tup [(true, [qm 0, qm 1, qm 2, qm 3, qm 4]), (false, [qm 5])], [], [], false⟩
def state_Thread_P : List Piece := []
def state_Thread_T : CallT := tab [e_state_get_api_Thread]
theorem state_Thread_To : SoundT pg state_Thread_T := tab_sound ⟨e_state_get_api_Thread_ok, trivial⟩
theorem state_Thread_go : FnOK pg (state_Thread_T) io_state_Thread f_state_Thread (state_Thread_P) [] (state_Thread) := ⟨by kernel_rfl, by kernel_rfl, fun x => by kernel_rfl⟩
theorem ok_state_Thread : io_state_Thread.Okay pg (F_state_Thread) := fn_ok pg_mixed (state_Thread_To) (state_Thread_go) trivial
def e_state_Thread : Entry := io_state_Thread.sp (fun (a, b, c, d, e, f, i) => true) (fun (a, b, c, d, e, f, i) => (getThread c i))
theorem sp_state_Thread (h : ∀ (a : List Bool) (b : List Tk) (c : List Th) (d : List Lk) (e : List Int) (f : Int) (i : Int), WfT [.sl tB, .sl yK, .sl yH, .sl yL, .sl tI, tI, tI] (a, b, c, d, e, f, i) → (state_Thread (a, b, c, d, e, f, i)).run (fun _ => none) = some (getThread c i)) : e_state_Thread.ok pg := sp_ok ok_state_Thread fun (a, b, c, d, e, f, i) hw hc => h a b c d e f i hw
theorem e_state_Thread_ok : e_state_Thread.ok pg := sp_state_Thread fun a b c d e f i _ => by
  rw [state_Thread]; rfl
def state_Lock : ((List Bool) × (List Tk) × (List Th) × (List Lk) × (List Int) × Int × Int) → RT Unit (Bool × Int × Bool)
| (s_0, s_1, s_2, s_3, s_4, s_5, i) =>
 .rq 11 (.done (((getLock s_3 i)).1, ((getLock s_3 i)).2.1, ((getLock s_3 i)).2.2))
def F_state_Lock (x : (List Bool) × (List Tk) × (List Th) × (List Lk) × (List Int) × Int × Int) : Option (Bool × Int × Bool) := (state_Lock x).run fun _ => none
def io_state_Lock : Io := ⟨n_state_Lock, [.sl tB, .sl yK, .sl yH, .sl yL, .sl tI, tI, tI], [.agg [qm 0, qm 1, qm 2, qm 3, qm 4, qm 5], .lf (qm 6)], [], [[.sl tB, .sl yK, .sl yH, .sl yL, .sl tI, tI], [tI]], [tB, tI, tB], .tup [(true, [qm 0, qm 1]), (false, [qm 2])], [], [], false⟩
def state_Lock_P : List Piece := []
def state_Lock_T : CallT := tab [e_state_get_api_Lock]
theorem state_Lock_To : SoundT pg state_Lock_T := tab_sound ⟨e_state_get_api_Lock_ok, trivial⟩
theorem state_Lock_go : FnOK pg (state_Lock_T) io_state_Lock f_state_Lock (state_Lock_P) [] (state_Lock) := ⟨by kernel_rfl, by kernel_rfl, fun x => by kernel_rfl⟩
theorem ok_state_Lock : io_state_Lock.Okay pg (F_state_Lock) := fn_ok pg_mixed (state_Lock_To) (state_Lock_go) trivial
def e_state_Lock : Entry := io_state_Lock.sp (fun (a, b, c, d, e, f, i) => true) (fun (a, b, c, d, e, f, i) => (getLock d i))
theorem sp_state_Lock (h : ∀ (a : List Bool) (b : List Tk) (c : List Th) (d : List Lk) (e : List Int) (f : Int) (i : Int), WfT [.sl tB, .sl yK, .sl yH, .sl yL, .sl tI, tI, tI] (a, b, c, d, e, f, i) → (state_Lock (a, b, c, d, e, f, i)).run (fun _ => none) = some (getLock d i)) : e_state_Lock.ok pg := sp_ok ok_state_Lock fun (a, b, c, d, e, f, i) hw hc => h a b c d e f i hw
theorem e_state_Lock_ok : e_state_Lock.ok pg := sp_state_Lock fun a b c d e f i _ => by
  rw [state_Lock]; rfl
def state_CoinArrows_b26 : ((List Tk) × Int) → (Int × (List (Int × Int))) → RT (Int × (List (Int × Int))) (List (Int × Int))
| (x6, x7), (x8, r2) =>
 .rq 1 (.ite (decide (x8 < x7))
 (.req (inB x6 x8) (.rq 10 (let t0 := w64 (x8 + 1);
 .ite ((gI x6 x8).1 && ((gI x6 x8).2.2.2.1 == 2))
 (.rq 7 (let t1 := [((gI x6 x8).2.1, (gI x6 x8).2.2.2.2.1)];
 .req (apOK 16 r2 t1) (.rq 3 (.again (t0, r2 ++ t1)))))
 (.rq 2 (.again (t0, r2))))))
 (.done r2))
def state_CoinArrows_p26 : Piece := ⟨26, true, [.sl yK, tI], [tI, .sl (.pair tI tI)], ⟨[.keep [2, 6, 7, 8], .gc, .nilRow 2 800002 215 (.pair tI tI), .ren 2 700002, .ren 2 900002, .gc], [2, 6, 7, 8], [.lf (qr 900002), .lf (qi 0), .lf (qi 1), .lf (qm 0)], [(900002, true, .arr 215 (qm 1))]⟩, [⟨2, ⟨[.keep [2], .gc, .nilRow 2 800002 215 (.pair tI tI), .ren 2 700002, .ren 2 900002, .gc], [2], [.lf (qr 900002)], [(900002, true, .arr 215 (qm 0))]⟩, [.sl (.pair tI tI)]⟩], state_CoinArrows_b26⟩
def state_CoinArrows : ((List Bool) × (List Tk) × (List Th) × (List Lk) × (List Int) × Int) → RT Unit (List (Int × Int))
| (s_0, s_1, s_2, s_3, s_4, s_5) =>
 .rq 6 (.call (lo state_CoinArrows_b26 (s_1, (s_1.length : Int)) (0, [])) default fun v0 =>
 .rq 2 (.done v0))
def F_state_CoinArrows (x : (List Bool) × (List Tk) × (List Th) × (List Lk) × (List Int) × Int) : Option (List (Int × Int)) := (state_CoinArrows x).run fun _ => none
def io_state_CoinArrows : Io := ⟨n_state_CoinArrows, [.sl tB, .sl yK, .sl yH, .sl yL, .sl tI, tI], [.agg [qm 0, qm 1, qm 2, qm 3, qm 4, qm 5]], [], [[.sl tB, .sl yK, .sl yH, .sl yL, .sl tI, tI]], [.sl (.pair tI tI)], .lf (qr 0), [], [(true, .arr 215 (qm 0))], false⟩
def state_CoinArrows_P : List Piece := [state_CoinArrows_p26]
def state_CoinArrows_T : CallT := tab []
theorem state_CoinArrows_To : SoundT pg state_CoinArrows_T := tab_sound trivial
theorem state_CoinArrows_k26 : (state_CoinArrows_p26).OK pg (state_CoinArrows_T) (tell 29 (state_CoinArrows_P)) (codeOf f_state_CoinArrows) 29 := ⟨by kernel_rfl, fun i x => by kernel_rfl⟩
theorem state_CoinArrows_go : FnOK pg (state_CoinArrows_T) io_state_CoinArrows f_state_CoinArrows (state_CoinArrows_P) [.nilRow 2 800002 215 (.pair tI tI), .ren 2 700002, .ren 2 900002] (state_CoinArrows) := ⟨by kernel_rfl, by kernel_rfl, fun x => by kernel_rfl⟩
theorem ok_state_CoinArrows : io_state_CoinArrows.Okay pg (F_state_CoinArrows) := fn_ok pg_mixed (state_CoinArrows_To) (state_CoinArrows_go) ⟨state_CoinArrows_k26, trivial⟩
def coinArr (b : List Tk) : List (Int × Int) := (b.filter fun t => t.1 && t.2.2.2.1 == 2).map fun t => (t.2.1, t.2.2.2.2.1)
theorem coinArr_len (b : List Tk) : (coinArr b).length ≤ b.length := by
  rw [coinArr, List.length_map]; exact List.length_filter_le ..
theorem coinArr_loop (b : List Tk) (hl : b.length ≤ 1000000) : ∀ (d i : Nat) (r : List (Int × Int)), i + d = b.length → r.length ≤ i →
    lo state_CoinArrows_b26 (b, (b.length : Int)) ((i : Int), r) = some (r ++ coinArr (b.drop i))
  | 0, i, r, h, _ => by
    rw [lo_eq, state_CoinArrows_b26]
    simp only [RT.run]
    rw [if_neg (by simp; omega), List.drop_eq_nil_of_le (by omega)]
    simp [coinArr]
  | d + 1, i, r, h, hr => by
    have hi : i < b.length := by omega
    have hmax : maxLen = 9223372036854775807 := by decide
    rw [lo_eq, state_CoinArrows_b26]
    simp only [RT.run]
    rw [if_pos (by simp; omega), if_pos (inB_iff.2 ⟨by omega, by omega⟩), gI_lt hi, List.drop_eq_getElem_cons hi, w64_in (by omega), show (i : Int) + 1 = ((i + 1 : Nat) : Int) by omega]
    unfold coinArr
    rw [List.filter_cons]
    by_cases hv : (b[i].1 && b[i].2.2.2.1 == 2) = true
    · rw [if_pos hv, if_pos (apOK_iff.2 ⟨by simp; omega, by simp; omega⟩), coinArr_loop b hl d (i + 1) _ (by omega) (by simp; omega), if_pos hv]
      simp [coinArr]
    · rw [if_neg hv, coinArr_loop b hl d (i + 1) _ (by omega) (by omega), if_neg hv]
      rfl
def e_state_CoinArrows : Entry := io_state_CoinArrows.sp (fun (a, b, c, d, e, f) => (decide (b.length ≤ 1000000))) (fun (a, b, c, d, e, f) => (coinArr b))
theorem sp_state_CoinArrows (h : ∀ (a : List Bool) (b : List Tk) (c : List Th) (d : List Lk) (e : List Int) (f : Int), WfT [.sl tB, .sl yK, .sl yH, .sl yL, .sl tI, tI] (a, b, c, d, e, f) → ((decide (b.length ≤ 1000000))) = true → (state_CoinArrows (a, b, c, d, e, f)).run (fun _ => none) = some (coinArr b)) : e_state_CoinArrows.ok pg := sp_ok ok_state_CoinArrows fun (a, b, c, d, e, f) hw hc => h a b c d e f hw hc
theorem e_state_CoinArrows_ok : e_state_CoinArrows.ok pg := sp_state_CoinArrows fun a b c d e f _ hc => by
  have hl := of_decide_eq_true hc
  rw [state_CoinArrows]
  simp only [RT.run]
  have := coinArr_loop b hl b.length 0 [] (by omega) (by simp)
  rw [show ((0 : Nat) : Int) = 0 from rfl] at this
  rw [this]
  rfl
def fund_Order : ((List Bool) × (List Tk) × (List Th) × (List Lk) × (List Int) × Int) → RT Unit (List Int)
| (s_0, s_1, s_2, s_3, s_4, s_5) =>
 .rq 6 (.req ((decide (s_1.length ≤ 1000000))) (let t0 := (coinArr s_1);
 .req ((decide (t0.length ≤ 1000000))) (.rq 7 (.req ((((ordV (dm (s_0.length : Int)) t0)).2.all (inB s_0))) (.rq 1 (.done (((ordV (dm (s_0.length : Int)) t0)).2.filter (gI s_0))))))))
def F_fund_Order (x : (List Bool) × (List Tk) × (List Th) × (List Lk) × (List Int) × Int) : Option (List Int) := (fund_Order x).run fun _ => none
def io_fund_Order : Io := ⟨n_fund_Order, [.sl tB, .sl yK, .sl yH, .sl yL, .sl tI, tI], [.agg [qm 0, qm 1, qm 2, qm 3, qm 4, qm 5]], [], [[.sl tB, .sl yK, .sl yH, .sl yL, .sl tI, tI]], [.sl tI], .lf (qm 0), [], [], true⟩
def fund_Order_P : List Piece := []
def fund_Order_T : CallT := tab [e_state_CoinArrows, e_slices_DeleteFunc_int_int, e_dag_Order]
theorem fund_Order_To : SoundT pg fund_Order_T := tab_sound ⟨e_state_CoinArrows_ok, e_slices_DeleteFunc_int_int_ok, e_dag_Order_ok, trivial⟩
theorem fund_Order_go : FnOK pg (fund_Order_T) io_fund_Order f_fund_Order (fund_Order_P) [] (fund_Order) := ⟨by kernel_rfl, by kernel_rfl, fun x => by kernel_rfl⟩
theorem ok_fund_Order : io_fund_Order.Okay pg (F_fund_Order) := fn_ok pg_mixed (fund_Order_To) (fund_Order_go) trivial
def fordV (a : List Bool) (b : List Tk) : List Int := (ordV a.length (coinArr b)).2.filter (gI a)
def e_fund_Order : Entry := io_fund_Order.sp (fun (a, b, c, d, e, f) => (decide (b.length ≤ 1000000) && decide (a.length ≤ 4096))) (fun (a, b, c, d, e, f) => (fordV a b))
theorem sp_fund_Order (h : ∀ (a : List Bool) (b : List Tk) (c : List Th) (d : List Lk) (e : List Int) (f : Int), WfT [.sl tB, .sl yK, .sl yH, .sl yL, .sl tI, tI] (a, b, c, d, e, f) → ((decide (b.length ≤ 1000000) && decide (a.length ≤ 4096))) = true → (fund_Order (a, b, c, d, e, f)).run (fun _ => none) = some (fordV a b)) : e_fund_Order.ok pg := sp_ok ok_fund_Order fun (a, b, c, d, e, f) hw hc => h a b c d e f hw hc
theorem e_fund_Order_ok : e_fund_Order.ok pg := sp_fund_Order fun a b c d e f _ hc => by
  rw [Bool.and_eq_true] at hc
  have hl := of_decide_eq_true hc.1
  have hm := of_decide_eq_true hc.2
  have hd : dm (a.length : Int) = a.length := by rw [dm_eq (by omega) (by omega)]; omega
  have hall : (ordV a.length (coinArr b)).2.all (inB a) = true := List.all_eq_true.2 fun x hx => inB_iff.2 ((ordV_out _ _).inr x hx)
  rw [fund_Order]
  simp only [RT.run, hd]
  rw [if_pos hc.1, if_pos (decide_eq_true (Nat.le_trans (coinArr_len b) hl)), if_pos hall]
  rfl
def fund_Issued_1 : (Bool × Int × Int × Int × Int × Bool × Int) → RT Unit (Bool × Int)
| (t_0, t_1, t_2, t_3, t_4, t_5, a1) =>
 .rq 7 (.done (t_1 == a1, a1))
def F_fund_Issued_1 (x : Bool × Int × Int × Int × Int × Bool × Int) : Option (Bool × Int) := (fund_Issued_1 x).run fun _ => none
def io_fund_Issued_1 : Io := ⟨n_fund_Issued_1, [tB, tI, tI, tI, tI, tB, tI], [.agg [qm 0, qm 1, qm 2, qm 3, qm 4, qm 5], .lf (qp 0)], [.cells [qm 6]], [[tB, tI, tI, tI, tI, tB], []], [tB, tI], .lf (qm 0), [(true, .cells [qm 1])], [], false⟩
def fund_Issued_1_P : List Piece := []
def fund_Issued_1_T : CallT := tab []
theorem fund_Issued_1_To : SoundT pg fund_Issued_1_T := tab_sound trivial
theorem fund_Issued_1_go : FnOK pg (fund_Issued_1_T) io_fund_Issued_1 f_fund_Issued_1 (fund_Issued_1_P) [] (fund_Issued_1) := ⟨by kernel_rfl, by kernel_rfl, fun x => by kernel_rfl⟩
theorem ok_fund_Issued_1 : io_fund_Issued_1.Okay pg (F_fund_Issued_1) := fn_ok pg_mixed (fund_Issued_1_To) (fund_Issued_1_go) trivial
def e_fund_Issued_1 : Entry := io_fund_Issued_1.sp (fun (t0, t1, t2, t3, t4, t5, c) => true) (fun (t0, t1, t2, t3, t4, t5, c) => (t1 == c, c))
theorem sp_fund_Issued_1 (h : ∀ (t0 : Bool) (t1 : Int) (t2 : Int) (t3 : Int) (t4 : Int) (t5 : Bool) (c : Int), WfT [tB, tI, tI, tI, tI, tB, tI] (t0, t1, t2, t3, t4, t5, c) → (fund_Issued_1 (t0, t1, t2, t3, t4, t5, c)).run (fun _ => none) = some (t1 == c, c)) : e_fund_Issued_1.ok pg := sp_ok ok_fund_Issued_1 fun (t0, t1, t2, t3, t4, t5, c) hw hc => h t0 t1 t2 t3 t4 t5 c hw
theorem e_fund_Issued_1_ok : e_fund_Issued_1.ok pg := sp_fund_Issued_1 fun t0 t1 t2 t3 t4 t5 c _ => by
  rw [fund_Issued_1]; rfl
def fund_which_b3378 : (Int × Bool × Int × Int × Int × Int × Bool) → RT Unit Bool
| (p0, t_0, t_1, t_2, t_3, t_4, t_5) =>
 .rq 3 (.ite t_0
 (.rq 4 (.done (t_1 == p0)))
 (.rq 1 (.done false)))
def fund_which_p3378 : Piece := ⟨3378, false, [tI, .sl yK, tI, tI, tI, .sl tI, tB, tI, tI, tI, tI, tB], [], ⟨[.keep [1, 4, 5, 6, 8, 9, 10], .gc], [1, 4, 5, 6, 8, 9, 10], [.lf (.fix (.fn 172 [1048576])), .lf (qr 900004), .lf (qi 0), .lf (qp 96), .lf (qi 1), .lf (qi 2), .lf (qi 3)], [(1048576, true, .cells [qi 4]), (900004, true, .arr 3 (qi 5)), (96, true, .cells [qi 6, qi 7, qi 8, qi 9, qi 10, qi 11])]⟩, [⟨0, ⟨[.keep [1, 4, 5, 8, 9, 10, 21], .gc, .nilRow 4 800004 3 tI, .ren 4 700004, .ren 4 900004, .gc], [1, 4, 5, 8, 9, 10, 21], [.lf (.fix (.fn 172 [1048576])), .lf (qr 900004), .lf (qi 0), .lf (qi 1), .lf (qi 2), .lf (qi 3), .lf (qm 0)], [(1048576, true, .cells [qi 4]), (900004, true, .arr 3 (qi 5))]⟩, [tB]⟩], (fun i _ => fund_which_b3378 (i.2.2.2.2.1, i.2.2.2.2.2.2.1, i.2.2.2.2.2.2.2.1, i.2.2.2.2.2.2.2.2.1, i.2.2.2.2.2.2.2.2.2.1, i.2.2.2.2.2.2.2.2.2.2.1, i.2.2.2.2.2.2.2.2.2.2.2))⟩
def fund_which_b26 : ((List Tk) × Int × Int) → (Int × (List Int)) → RT (Int × (List Int)) (List Int)
| (x8, x9, p0), (x10, r4) =>
 .rq 1 (.ite (decide (x10 < x9))
 (.rq 1 (.req (inB x8 x10) (.rq 4 (.call (on fund_which_b3378 (p0, (gI x8 x10).1, (gI x8 x10).2.1, (gI x8 x10).2.2.1, (gI x8 x10).2.2.2.1, (gI x8 x10).2.2.2.2.1, (gI x8 x10).2.2.2.2.2)) default fun v1 =>
 let t0 := w64 (x10 + 1);
 .ite v1
 (.rq 3 (.req (apOK 8 r4 [x10]) (.rq 3 (.again (t0, r4 ++ [x10])))))
 (.rq 2 (.again (t0, r4)))))))
 (.done r4))
def fund_which_p26 : Piece := ⟨26, true, [.sl yK, tI, tI], [tI, .sl tI], ⟨[.keep [1, 4, 8, 9, 10], .gc, .nilRow 4 800004 3 tI, .ren 4 700004, .ren 4 900004, .gc], [1, 4, 8, 9, 10], [.lf (.fix (.fn 172 [1048576])), .lf (qr 900004), .lf (qi 0), .lf (qi 1), .lf (qm 0)], [(1048576, true, .cells [qi 2]), (900004, true, .arr 3 (qm 1))]⟩, [⟨2, ⟨[.keep [4], .gc, .nilRow 4 800004 3 tI, .ren 4 700004, .ren 4 900004, .gc], [4], [.lf (qr 900004)], [(1048576, true, .cells [qi 2]), (900004, true, .arr 3 (qm 0))]⟩, [.sl tI]⟩], fund_which_b26⟩
def fund_which : ((List Bool) × (List Tk) × (List Th) × (List Lk) × (List Int) × Int × Int) → RT Unit (Int × (List Int))
| (s_0, s_1, s_2, s_3, s_4, s_5, is_0) =>
 .rq 6 (.call (lo fund_which_b26 (s_1, (s_1.length : Int), is_0) (0, [])) default fun v2 =>
 .rq 2 (.done (is_0, v2)))
def F_fund_which (x : (List Bool) × (List Tk) × (List Th) × (List Lk) × (List Int) × Int × Int) : Option (Int × (List Int)) := (fund_which x).run fun _ => none
def io_fund_which : Io := ⟨n_fund_which, [.sl tB, .sl yK, .sl yH, .sl yL, .sl tI, tI, tI], [.agg [qm 0, qm 1, qm 2, qm 3, qm 4, qm 5], .lf (.fix (.fn 172 [0]))], [.cells [qm 6]], [[.sl tB, .sl yK, .sl yH, .sl yL, .sl tI, tI], []], [tI, .sl tI], .lf (qr 1), [(true, .cells [qm 0])], [(true, .arr 3 (qm 1))], false⟩
def fund_which_P : List Piece := [fund_which_p3378, fund_which_p26]
def fund_which_T : CallT := tab [e_fund_Issued_1]
theorem fund_which_To : SoundT pg fund_which_T := tab_sound ⟨e_fund_Issued_1_ok, trivial⟩
theorem fund_which_k3378 : (fund_which_p3378).OK pg (fund_which_T) (tell 28 (fund_which_P)) (codeOf f_fund_which) 28 := ⟨by kernel_rfl, fun i x => by kernel_rfl⟩
theorem fund_which_k26 : (fund_which_p26).OK pg (fund_which_T) (tell 28 (fund_which_P)) (codeOf f_fund_which) 28 := ⟨by kernel_rfl, fun i x => by kernel_rfl⟩
theorem fund_which_go : FnOK pg (fund_which_T) io_fund_which f_fund_which (fund_which_P) [.nilRow 4 800004 3 tI, .ren 4 700004, .ren 4 900004] (fund_which) := ⟨by kernel_rfl, by kernel_rfl, fun x => by kernel_rfl⟩
theorem ok_fund_which : io_fund_which.Okay pg (F_fund_which) := fn_ok pg_mixed (fund_which_To) (fund_which_go) ⟨fund_which_k3378, fund_which_k26, trivial⟩
def isTk (b : List Tk) (c : Int) (k : Nat) : Bool := (b.getD k default).1 && (b.getD k default).2.1 == c
def issued (b : List Tk) (c : Int) : List Int := ((List.range b.length).filter (isTk b c)).map fun (k : Nat) => (k : Int)
theorem which_loop (b : List Tk) (c : Int) (hl : b.length ≤ 1000000) : ∀ (d i : Nat) (r : List Int), i + d = b.length → r.length ≤ i →
    lo fund_which_b26 (b, (b.length : Int), c) ((i : Int), r) = some (r ++ ((List.range' i d).filter (isTk b c)).map fun (k : Nat) => (k : Int))
  | 0, i, r, h, _ => by
    rw [lo_eq, fund_which_b26]
    simp only [RT.run]
    rw [if_neg (by simp; omega)]
    simp
  | d + 1, i, r, h, hr => by
    have hi : i < b.length := by omega
    have hmax : maxLen = 9223372036854775807 := by decide
    have hon : on fund_which_b3378 (c, (gI b (i : Int)).1, (gI b (i : Int)).2.1, (gI b (i : Int)).2.2.1, (gI b (i : Int)).2.2.2.1, (gI b (i : Int)).2.2.2.2.1, (gI b (i : Int)).2.2.2.2.2) = some (isTk b c i) := by
      show (fund_which_b3378 _).run _ = _
      rw [fund_which_b3378]
      simp only [RT.run]
      rw [gI_nat]
      unfold isTk
      cases (b.getD i default).1 <;> rfl
    rw [lo_eq, fund_which_b26]
    simp only [RT.run]
    rw [if_pos (by simp; omega), if_pos (inB_iff.2 ⟨by omega, by omega⟩), hon, Option.bind_some, w64_in (by omega), show (i : Int) + 1 = ((i + 1 : Nat) : Int) by omega, List.range'_succ, List.filter_cons]
    by_cases hv : isTk b c i = true
    · rw [if_pos hv, if_pos (apOK_iff.2 ⟨by simp; omega, by simp; omega⟩), which_loop b c hl d (i + 1) _ (by omega) (by simp; omega), if_pos hv]
      simp
    · rw [if_neg hv, which_loop b c hl d (i + 1) _ (by omega) (by omega), if_neg hv]
def e_fund_which : Entry := io_fund_which.sp (fun (a, b, c, d, e, f, x) => (decide (b.length ≤ 1000000))) (fun (a, b, c, d, e, f, x) => (x, issued b x))
theorem sp_fund_which (h : ∀ (a : List Bool) (b : List Tk) (c : List Th) (d : List Lk) (e : List Int) (f : Int) (x : Int), WfT [.sl tB, .sl yK, .sl yH, .sl yL, .sl tI, tI, tI] (a, b, c, d, e, f, x) → ((decide (b.length ≤ 1000000))) = true → (fund_which (a, b, c, d, e, f, x)).run (fun _ => none) = some (x, issued b x)) : e_fund_which.ok pg := sp_ok ok_fund_which fun (a, b, c, d, e, f, x) hw hc => h a b c d e f x hw hc
theorem e_fund_which_ok : e_fund_which.ok pg := sp_fund_which fun a b c d e f x _ hc => by
  have hl := of_decide_eq_true hc
  rw [fund_which]
  simp only [RT.run]
  have := which_loop b x hl b.length 0 [] (by omega) (by simp)
  rw [show ((0 : Nat) : Int) = 0 from rfl] at this
  rw [this, List.nil_append, ← List.range_eq_range']
  rfl
def fund_Issued : ((List Bool) × (List Tk) × (List Th) × (List Lk) × (List Int) × Int × Int) → RT Unit (List Int)
| (s_0, s_1, s_2, s_3, s_4, s_5, c) =>
 .rq 5 (.req ((decide (s_1.length ≤ 1000000))) (.rq 1 (.done (issued s_1 c))))
def F_fund_Issued (x : (List Bool) × (List Tk) × (List Th) × (List Lk) × (List Int) × Int × Int) : Option (List Int) := (fund_Issued x).run fun _ => none
def io_fund_Issued : Io := ⟨n_fund_Issued, [.sl tB, .sl yK, .sl yH, .sl yL, .sl tI, tI, tI], [.agg [qm 0, qm 1, qm 2, qm 3, qm 4, qm 5], .lf (qm 6)], [], [[.sl tB, .sl yK, .sl yH, .sl yL, .sl tI, tI], [tI]], [.sl tI], .lf (qr 0), [], [(true, .arr 3 (qm 0))], false⟩
def fund_Issued_P : List Piece := []
def fund_Issued_T : CallT := tab [e_fund_which]
theorem fund_Issued_To : SoundT pg fund_Issued_T := tab_sound ⟨e_fund_which_ok, trivial⟩
theorem fund_Issued_go : FnOK pg (fund_Issued_T) io_fund_Issued f_fund_Issued (fund_Issued_P) [.nilRow 4 800004 3 tI, .ren 4 700004, .ren 4 900004] (fund_Issued) := ⟨by kernel_rfl, by kernel_rfl, fun x => by kernel_rfl⟩
theorem ok_fund_Issued : io_fund_Issued.Okay pg (F_fund_Issued) := fn_ok pg_mixed (fund_Issued_To) (fund_Issued_go) trivial
def e_fund_Issued : Entry := io_fund_Issued.sp (fun (a, b, c, d, e, f, x) => (decide (b.length ≤ 1000000))) (fun (a, b, c, d, e, f, x) => (issued b x))
theorem sp_fund_Issued (h : ∀ (a : List Bool) (b : List Tk) (c : List Th) (d : List Lk) (e : List Int) (f : Int) (x : Int), WfT [.sl tB, .sl yK, .sl yH, .sl yL, .sl tI, tI, tI] (a, b, c, d, e, f, x) → ((decide (b.length ≤ 1000000))) = true → (fund_Issued (a, b, c, d, e, f, x)).run (fun _ => none) = some (issued b x)) : e_fund_Issued.ok pg := sp_ok ok_fund_Issued fun (a, b, c, d, e, f, x) hw hc => h a b c d e f x hw hc
theorem e_fund_Issued_ok : e_fund_Issued.ok pg := sp_fund_Issued fun a b c d e f x _ hc => by
  rw [fund_Issued]
  simp only [RT.run]
  rw [if_pos hc]
def chain_Next : ((List Bool) × (List Tk) × (List Th) × (List Lk) × (List Int) × Int × Int) → RT Unit Int
| (s_0, s_1, s_2, s_3, s_4, s_5, i) =>
 .rq 15 (let t0 := (getThread s_2 i);
 .ite (t0.1 == 4)
 (.rq 3 (.done t0.2.1))
 (.rq 2 (.ite (t0.1 == 6)
 (.rq 13 (.done ((getLock s_3 t0.2.1)).2.1))
 (.rq 1 (.done (-1))))))
def F_chain_Next (x : (List Bool) × (List Tk) × (List Th) × (List Lk) × (List Int) × Int × Int) : Option Int := (chain_Next x).run fun _ => none
def io_chain_Next : Io := ⟨n_chain_Next, [.sl tB, .sl yK, .sl yH, .sl yL, .sl tI, tI, tI], [.agg [qm 0, qm 1, qm 2, qm 3, qm 4, qm 5], .lf (qm 6)], [], [[.sl tB, .sl yK, .sl yH, .sl yL, .sl tI, tI], [tI]], [tI], .lf (qm 0), [], [], false⟩
def chain_Next_P : List Piece := []
def chain_Next_T : CallT := tab [e_state_Lock, e_state_Thread]
theorem chain_Next_To : SoundT pg chain_Next_T := tab_sound ⟨e_state_Lock_ok, e_state_Thread_ok, trivial⟩
theorem chain_Next_go : FnOK pg (chain_Next_T) io_chain_Next f_chain_Next (chain_Next_P) [] (chain_Next) := ⟨by kernel_rfl, by kernel_rfl, fun x => by kernel_rfl⟩
theorem ok_chain_Next : io_chain_Next.Okay pg (F_chain_Next) := fn_ok pg_mixed (chain_Next_To) (chain_Next_go) trivial
def nextV (c : List Th) (d : List Lk) (i : Int) : Int :=
  if (getThread c i).1 == 4 then (getThread c i).2.1 else if (getThread c i).1 == 6 then (getLock d (getThread c i).2.1).2.1 else -1
def e_chain_Next : Entry := io_chain_Next.sp (fun (a, b, c, d, e, f, i) => true) (fun (a, b, c, d, e, f, i) => (nextV c d i))
theorem sp_chain_Next (h : ∀ (a : List Bool) (b : List Tk) (c : List Th) (d : List Lk) (e : List Int) (f : Int) (i : Int), WfT [.sl tB, .sl yK, .sl yH, .sl yL, .sl tI, tI, tI] (a, b, c, d, e, f, i) → (chain_Next (a, b, c, d, e, f, i)).run (fun _ => none) = some (nextV c d i)) : e_chain_Next.ok pg := sp_ok ok_chain_Next fun (a, b, c, d, e, f, i) hw hc => h a b c d e f i hw
theorem e_chain_Next_ok : e_chain_Next.ok pg := sp_chain_Next fun a b c d e f i _ => by
  rw [chain_Next]
  simp only [RT.run]
  unfold nextV
  cases ((getThread c i).1 == 4) <;> cases ((getThread c i).1 == 6) <;> rfl
def chain_Tail_b28 : ((List Bool) × (List Tk) × (List Th) × (List Lk) × (List Int) × Int) → (Int × (List Int)) → RT (Int × (List Int)) (List Int)
| (s_0, s_1, s_2, s_3, s_4, s_5), (i, r4) =>
 .rq 2 (.ite (i != (-1))
 (.rq 3 (.req (apOK 8 r4 [i]) (.rq 5 (.again ((nextV s_2 s_3 i), r4 ++ [i])))))
 (.done r4))
def chain_Tail_p28 : Piece := ⟨28, true, [.sl tB, .sl yK, .sl yH, .sl yL, .sl tI, tI], [tI, .sl tI], ⟨[.keep [1, 2, 4], .gc, .nilRow 4 800004 3 tI, .ren 4 700004, .ren 4 900004, .gc], [1, 2, 4], [.lf (qm 0), .lf (qp 32), .lf (qr 900004)], [(32, true, .cells [qi 0, qi 1, qi 2, qi 3, qi 4, qi 5]), (900004, true, .arr 3 (qm 1))]⟩, [⟨2, ⟨[.keep [4], .gc, .nilRow 4 800004 3 tI, .ren 4 700004, .ren 4 900004, .gc], [4], [.lf (qr 900004)], [(900004, true, .arr 3 (qm 0))]⟩, [.sl tI]⟩], chain_Tail_b28⟩
def chain_Tail : ((List Bool) × (List Tk) × (List Th) × (List Lk) × (List Int) × Int × Int) → RT Unit (List Int)
| (s_0, s_1, s_2, s_3, s_4, s_5, i) =>
 .rq 13 (.ite (!((getThread s_2 i)).2.2.2.2.2)
 (.rq 1 (.done []))
 (.call (lo chain_Tail_b28 (s_0, s_1, s_2, s_3, s_4, s_5) (i, [])) default fun v0 =>
 .rq 2 (.done v0)))
def F_chain_Tail (x : (List Bool) × (List Tk) × (List Th) × (List Lk) × (List Int) × Int × Int) : Option (List Int) := (chain_Tail x).run fun _ => none
def io_chain_Tail : Io := ⟨n_chain_Tail, [.sl tB, .sl yK, .sl yH, .sl yL, .sl tI, tI, tI], [.agg [qm 0, qm 1, qm 2, qm 3, qm 4, qm 5], .lf (qm 6)], [], [[.sl tB, .sl yK, .sl yH, .sl yL, .sl tI, tI], [tI]], [.sl tI], .lf (qr 0), [], [(true, .arr 3 (qm 0))], false⟩
def chain_Tail_P : List Piece := [chain_Tail_p28]
def chain_Tail_T : CallT := tab [e_chain_Next, e_state_Thread]
theorem chain_Tail_To : SoundT pg chain_Tail_T := tab_sound ⟨e_chain_Next_ok, e_state_Thread_ok, trivial⟩
theorem chain_Tail_k28 : (chain_Tail_p28).OK pg (chain_Tail_T) (tell 25 (chain_Tail_P)) (codeOf f_chain_Tail) 25 := ⟨by kernel_rfl, fun i x => by kernel_rfl⟩
theorem chain_Tail_go : FnOK pg (chain_Tail_T) io_chain_Tail f_chain_Tail (chain_Tail_P) [.nilRow 4 800004 3 tI, .ren 4 700004, .ren 4 900004] (chain_Tail) := ⟨by kernel_rfl, by kernel_rfl, fun x => by kernel_rfl⟩
theorem ok_chain_Tail : io_chain_Tail.Okay pg (F_chain_Tail) := fn_ok pg_mixed (chain_Tail_To) (chain_Tail_go) ⟨chain_Tail_k28, trivial⟩
def tailF (c : List Th) (d : List Lk) : Nat → Int → Option (List Int)
  | 0, i => if i = -1 then some [] else none
  | n + 1, i => if i = -1 then some [] else (tailF c d n (nextV c d i)).map (i :: ·)
def tailOK (c : List Th) (d : List Lk) (i : Int) : Bool := !(getThread c i).2.2.2.2.2 || (tailF c d c.length i).isSome
def tailV (c : List Th) (d : List Lk) (i : Int) : List Int := if (getThread c i).2.2.2.2.2 then (tailF c d c.length i).getD [] else []
theorem tail_loop (a : List Bool) (b : List Tk) (c : List Th) (d : List Lk) (e : List Int) (f : Int) : ∀ (n : Nat) (i : Int) (r o : List Int), tailF c d n i = some o → r.length + n ≤ 1000000 →
    lo chain_Tail_b28 (a, b, c, d, e, f) (i, r) = some (r ++ o)
  | 0, i, r, o, h, _ => by
    unfold tailF at h
    rw [lo_eq, chain_Tail_b28]
    simp only [RT.run]
    split at h
    · rename_i hi
      cases h
      rw [if_neg (by simp [hi])]
      simp
    · cases h
  | n + 1, i, r, o, h, hr => by
    have hmax : maxLen = 9223372036854775807 := by decide
    unfold tailF at h
    rw [lo_eq, chain_Tail_b28]
    simp only [RT.run]
    split at h
    · rename_i hi
      cases h
      rw [if_neg (by simp [hi])]
      simp
    · rename_i hi
      obtain ⟨o', h1, rfl⟩ := Option.map_eq_some_iff.1 h
      rw [if_pos (by simpa using hi), if_pos (apOK_iff.2 ⟨by simp; omega, by simp; omega⟩), tail_loop a b c d e f n _ (r ++ [i]) o' h1 (by simp; omega)]
      simp
def e_chain_Tail : Entry := io_chain_Tail.sp (fun (a, b, c, d, e, f, i) => (decide (c.length ≤ 1000000) && tailOK c d i)) (fun (a, b, c, d, e, f, i) => (tailV c d i))
theorem sp_chain_Tail (h : ∀ (a : List Bool) (b : List Tk) (c : List Th) (d : List Lk) (e : List Int) (f : Int) (i : Int), WfT [.sl tB, .sl yK, .sl yH, .sl yL, .sl tI, tI, tI] (a, b, c, d, e, f, i) → ((decide (c.length ≤ 1000000) && tailOK c d i)) = true → (chain_Tail (a, b, c, d, e, f, i)).run (fun _ => none) = some (tailV c d i)) : e_chain_Tail.ok pg := sp_ok ok_chain_Tail fun (a, b, c, d, e, f, i) hw hc => h a b c d e f i hw hc
theorem e_chain_Tail_ok : e_chain_Tail.ok pg := sp_chain_Tail fun a b c d e f i _ hc => by
  rw [Bool.and_eq_true] at hc
  have hl := of_decide_eq_true hc.1
  rw [chain_Tail]
  simp only [RT.run]
  unfold tailV
  have h2 := hc.2
  unfold tailOK at h2
  cases hq : (getThread c i).2.2.2.2.2 with
  | false => rfl
  | true =>
    rw [hq] at h2
    obtain ⟨o, ho⟩ := Option.isSome_iff_exists.1 (by simpa using h2)
    rw [if_neg (by simp), tail_loop a b c d e f c.length i [] o ho (by simpa using hl), ho]
    rfl
theorem tailF_len {c : List Th} {d : List Lk} : ∀ {n : Nat} {i : Int} {o : List Int}, tailF c d n i = some o → o.length ≤ n
  | 0, i, o, h => by
    unfold tailF at h
    split at h
    · cases h; simp
    · cases h
  | n + 1, i, o, h => by
    unfold tailF at h
    split at h
    · cases h; simp
    · obtain ⟨o', h1, rfl⟩ := Option.map_eq_some_iff.1 h
      have := tailF_len h1
      simp; omega
theorem tailV_len (c : List Th) (d : List Lk) (i : Int) : (tailV c d i).length ≤ c.length := by
  unfold tailV
  split
  · cases h : tailF c d c.length i with
    | none => simp
    | some o => exact tailF_len h
  · simp
def chain_End : ((List Bool) × (List Tk) × (List Th) × (List Lk) × (List Int) × Int × Int) → RT Unit Int
| (s_0, s_1, s_2, s_3, s_4, s_5, i) =>
 .rq 4 (.req ((decide (s_2.length ≤ 1000000) && tailOK s_2 s_3 i)) (.rq 4 (let t0 := (tailV s_2 s_3 i);
 let t1 := (t0.length : Int);
 .ite (t1 == 0)
 (.rq 1 (.done (-1)))
 (.rq 4 (let t2 := w64 (t1 - 1);
 .req (inB t0 t2) (.rq 2 (.done (gI t0 t2))))))))
def F_chain_End (x : (List Bool) × (List Tk) × (List Th) × (List Lk) × (List Int) × Int × Int) : Option Int := (chain_End x).run fun _ => none
def io_chain_End : Io := ⟨n_chain_End, [.sl tB, .sl yK, .sl yH, .sl yL, .sl tI, tI, tI], [.agg [qm 0, qm 1, qm 2, qm 3, qm 4, qm 5], .lf (qm 6)], [], [[.sl tB, .sl yK, .sl yH, .sl yL, .sl tI, tI], [tI]], [tI], .lf (qm 0), [], [], false⟩
def chain_End_P : List Piece := []
def chain_End_T : CallT := tab [e_chain_Tail]
theorem chain_End_To : SoundT pg chain_End_T := tab_sound ⟨e_chain_Tail_ok, trivial⟩
theorem chain_End_go : FnOK pg (chain_End_T) io_chain_End f_chain_End (chain_End_P) [] (chain_End) := ⟨by kernel_rfl, by kernel_rfl, fun x => by kernel_rfl⟩
theorem ok_chain_End : io_chain_End.Okay pg (F_chain_End) := fn_ok pg_mixed (chain_End_To) (chain_End_go) trivial
def endV (c : List Th) (d : List Lk) (i : Int) : Int := (tailV c d i).getLastD (-1)
def e_chain_End : Entry := io_chain_End.sp (fun (a, b, c, d, e, f, i) => (decide (c.length ≤ 1000000) && tailOK c d i)) (fun (a, b, c, d, e, f, i) => (endV c d i))
theorem sp_chain_End (h : ∀ (a : List Bool) (b : List Tk) (c : List Th) (d : List Lk) (e : List Int) (f : Int) (i : Int), WfT [.sl tB, .sl yK, .sl yH, .sl yL, .sl tI, tI, tI] (a, b, c, d, e, f, i) → ((decide (c.length ≤ 1000000) && tailOK c d i)) = true → (chain_End (a, b, c, d, e, f, i)).run (fun _ => none) = some (endV c d i)) : e_chain_End.ok pg := sp_ok ok_chain_End fun (a, b, c, d, e, f, i) hw hc => h a b c d e f i hw hc
theorem e_chain_End_ok : e_chain_End.ok pg := sp_chain_End fun a b c d e f i _ hc => by
  have hl := of_decide_eq_true (Bool.and_eq_true _ _ ▸ hc : _ ∧ _).1
  have hlen := tailV_len c d i
  rw [chain_End]
  simp only [RT.run]
  rw [if_pos hc]
  unfold endV
  generalize tailV c d i = t at *
  by_cases ht : t = []
  · subst ht; rfl
  · have hpos : 0 < t.length := List.length_pos_iff.2 ht
    rw [if_neg (by simp; omega), w64_in (by omega), show (t.length : Int) - 1 = ((t.length - 1 : Nat) : Int) by omega, if_pos (inB_iff.2 ⟨by omega, by omega⟩), gI_lt (by omega), List.getLastD_eq_getLast?, List.getLast?_eq_getElem?, List.getElem?_eq_getElem (by omega)]
    rfl
def chain_Lives : ((List Bool) × (List Tk) × (List Th) × (List Lk) × (List Int) × Int × Int) → RT Unit Bool
| (s_0, s_1, s_2, s_3, s_4, s_5, i) =>
 .rq 5 (.req ((decide (s_2.length ≤ 1000000) && tailOK s_2 s_3 i)) (.rq 16 (.done ((((getThread s_2 ((endV s_2 s_3 i)))).1 == 2) || (((getThread s_2 ((endV s_2 s_3 i)))).1 == 3)))))
def F_chain_Lives (x : (List Bool) × (List Tk) × (List Th) × (List Lk) × (List Int) × Int × Int) : Option Bool := (chain_Lives x).run fun _ => none
def io_chain_Lives : Io := ⟨n_chain_Lives, [.sl tB, .sl yK, .sl yH, .sl yL, .sl tI, tI, tI], [.agg [qm 0, qm 1, qm 2, qm 3, qm 4, qm 5], .lf (qm 6)], [], [[.sl tB, .sl yK, .sl yH, .sl yL, .sl tI, tI], [tI]], [tB], .lf (qm 0), [], [], false⟩
def chain_Lives_P : List Piece := []
def chain_Lives_T : CallT := tab [e_chain_End, e_state_Thread]
theorem chain_Lives_To : SoundT pg chain_Lives_T := tab_sound ⟨e_chain_End_ok, e_state_Thread_ok, trivial⟩
theorem chain_Lives_go : FnOK pg (chain_Lives_T) io_chain_Lives f_chain_Lives (chain_Lives_P) [] (chain_Lives) := ⟨by kernel_rfl, by kernel_rfl, fun x => by kernel_rfl⟩
theorem ok_chain_Lives : io_chain_Lives.Okay pg (F_chain_Lives) := fn_ok pg_mixed (chain_Lives_To) (chain_Lives_go) trivial
def livesV (c : List Th) (d : List Lk) (i : Int) : Bool := (getThread c (endV c d i)).1 == 2 || (getThread c (endV c d i)).1 == 3
def e_chain_Lives : Entry := io_chain_Lives.sp (fun (a, b, c, d, e, f, i) => (decide (c.length ≤ 1000000) && tailOK c d i)) (fun (a, b, c, d, e, f, i) => (livesV c d i))
theorem sp_chain_Lives (h : ∀ (a : List Bool) (b : List Tk) (c : List Th) (d : List Lk) (e : List Int) (f : Int) (i : Int), WfT [.sl tB, .sl yK, .sl yH, .sl yL, .sl tI, tI, tI] (a, b, c, d, e, f, i) → ((decide (c.length ≤ 1000000) && tailOK c d i)) = true → (chain_Lives (a, b, c, d, e, f, i)).run (fun _ => none) = some (livesV c d i)) : e_chain_Lives.ok pg := sp_ok ok_chain_Lives fun (a, b, c, d, e, f, i) hw hc => h a b c d e f i hw hc
theorem e_chain_Lives_ok : e_chain_Lives.ok pg := sp_chain_Lives fun a b c d e f i _ hc => by
  rw [chain_Lives]
  simp only [RT.run]
  rw [if_pos hc]
  rfl
def live_Threads_b58 : (Int × (List Bool) × (List Tk) × (List Th) × (List Lk) × (List Int) × Int) → (Int × (List Bool)) → RT (Int × (List Bool)) (List Bool)
| (x10, s_0, s_1, s_2, s_3, s_4, s_5), (x11, r3) =>
 .rq 1 (.ite (decide (x11 < x10))
 (.rq 6 (.req ((decide (s_2.length ≤ 1000000) && tailOK s_2 s_3 x11)) (.req (inB r3 x11) (.rq 3 (.again (w64 (x11 + 1), sI r3 x11 ((livesV s_2 s_3 x11))))))))
 (.done r3))
def live_Threads_p58 : Piece := ⟨58, true, [tI, .sl tB, .sl yK, .sl yH, .sl yL, .sl tI, tI], [tI, .sl tB], ⟨[.keep [1, 3, 10, 11], .gc, .nilRow 3 800003 4 tB, .ren 3 700003, .ren 3 900003, .gc], [1, 3, 10, 11], [.lf (qp 16), .lf (qr 900003), .lf (qi 0), .lf (qm 0)], [(16, true, .cells [qi 1, qi 2, qi 3, qi 4, qi 5, qi 6]), (900003, true, .arr 4 (qm 1))]⟩, [⟨2, ⟨[.keep [3], .gc, .nilRow 3 800003 4 tB, .ren 3 700003, .ren 3 900003, .gc], [3], [.lf (qr 900003)], [(900003, true, .arr 4 (qm 0))]⟩, [.sl tB]⟩], live_Threads_b58⟩
def live_Threads : ((List Bool) × (List Tk) × (List Th) × (List Lk) × (List Int) × Int) → RT Unit (List Bool)
| (s_0, s_1, s_2, s_3, s_4, s_5) =>
 .rq 5 (.req (mkOK 1 (s_2.length : Int)) (.rq 4 (let t0 := repI (s_2.length : Int) false;
 .call (lo live_Threads_b58 ((t0.length : Int), s_0, s_1, s_2, s_3, s_4, s_5) (0, t0)) default fun v0 =>
 .rq 2 (.done v0))))
def F_live_Threads (x : (List Bool) × (List Tk) × (List Th) × (List Lk) × (List Int) × Int) : Option (List Bool) := (live_Threads x).run fun _ => none
def io_live_Threads : Io := ⟨n_live_Threads, [.sl tB, .sl yK, .sl yH, .sl yL, .sl tI, tI], [.agg [qm 0, qm 1, qm 2, qm 3, qm 4, qm 5]], [], [[.sl tB, .sl yK, .sl yH, .sl yL, .sl tI, tI]], [.sl tB], .lf (qr 0), [], [(true, .arr 4 (qm 0))], false⟩
def live_Threads_P : List Piece := [live_Threads_p58]
def live_Threads_T : CallT := tab [e_chain_Lives]
theorem live_Threads_To : SoundT pg live_Threads_T := tab_sound ⟨e_chain_Lives_ok, trivial⟩
theorem live_Threads_k58 : (live_Threads_p58).OK pg (live_Threads_T) (tell 22 (live_Threads_P)) (codeOf f_live_Threads) 22 := ⟨by kernel_rfl, fun i x => by kernel_rfl⟩
theorem live_Threads_go : FnOK pg (live_Threads_T) io_live_Threads f_live_Threads (live_Threads_P) [.nilRow 2 800002 4 tB, .ren 2 700002, .ren 2 900002] (live_Threads) := ⟨by kernel_rfl, by kernel_rfl, fun x => by kernel_rfl⟩
theorem ok_live_Threads : io_live_Threads.Okay pg (F_live_Threads) := fn_ok pg_mixed (live_Threads_To) (live_Threads_go) ⟨live_Threads_k58, trivial⟩
def liveV (c : List Th) (d : List Lk) : List Bool := (List.range c.length).map fun (i : Nat) => livesV c d (i : Int)
def liveOK (c : List Th) (d : List Lk) : Bool := (List.range c.length).all fun (i : Nat) => tailOK c d (i : Int)
theorem live_loop (a : List Bool) (b : List Tk) (c : List Th) (d : List Lk) (e : List Int) (f : Int) (hl : c.length ≤ 1000000) (hok : liveOK c d = true) : ∀ (n i : Nat) (r : List Bool), i + n = c.length → r.length = c.length → r.take i = (List.range i).map (fun (k : Nat) => livesV c d (k : Int)) →
    lo live_Threads_b58 ((c.length : Int), a, b, c, d, e, f) ((i : Int), r) = some (liveV c d)
  | 0, i, r, h, hr, ht => by
    rw [lo_eq, live_Threads_b58]
    simp only [RT.run]
    rw [if_neg (by simp; omega)]
    unfold liveV
    rw [show c.length = i by omega, ← ht, List.take_of_length_le (by omega)]
  | n + 1, i, r, h, hr, ht => by
    have hi : i < c.length := by omega
    have hk : tailOK c d (i : Int) = true := List.all_eq_true.1 hok i (List.mem_range.2 hi)
    rw [lo_eq, live_Threads_b58]
    simp only [RT.run]
    rw [if_pos (by simp; omega), if_pos (by rw [hk, decide_eq_true hl]; rfl), if_pos (inB_iff.2 ⟨by omega, by omega⟩), w64_in (by omega), show (i : Int) + 1 = ((i + 1 : Nat) : Int) by omega]
    refine live_loop a b c d e f hl hok n (i + 1) _ (by omega) (by simp [sI, hr]) ?_
    rw [sI, Int.toNat_natCast, List.take_add_one, List.getElem?_set_self (by omega), List.take_set_of_le (Nat.le_refl _), ht, List.range_succ, List.map_append]
    rfl
def e_live_Threads : Entry := io_live_Threads.sp (fun (a, b, c, d, e, f) => (decide (c.length ≤ 1000000) && liveOK c d)) (fun (a, b, c, d, e, f) => (liveV c d))
theorem sp_live_Threads (h : ∀ (a : List Bool) (b : List Tk) (c : List Th) (d : List Lk) (e : List Int) (f : Int), WfT [.sl tB, .sl yK, .sl yH, .sl yL, .sl tI, tI] (a, b, c, d, e, f) → ((decide (c.length ≤ 1000000) && liveOK c d)) = true → (live_Threads (a, b, c, d, e, f)).run (fun _ => none) = some (liveV c d)) : e_live_Threads.ok pg := sp_ok ok_live_Threads fun (a, b, c, d, e, f) hw hc => h a b c d e f hw hc
theorem e_live_Threads_ok : e_live_Threads.ok pg := sp_live_Threads fun a b c d e f _ hc => by
  rw [Bool.and_eq_true] at hc
  have hl := of_decide_eq_true hc.1
  rw [live_Threads]
  simp only [RT.run]
  rw [if_pos (mkOK_iff.2 ⟨by omega, by omega, by omega⟩)]
  have hrl : (repI (c.length : Int) false).length = c.length := by simp [repI]
  have := live_loop a b c d e f hl hc.2 c.length 0 (repI (c.length : Int) false) (by omega) hrl (by simp)
  rw [show ((0 : Nat) : Int) = 0 from rfl] at this
  rw [hrl, this]
  rfl
def slices_Backward_int_int : (List Int) → RT Unit (List Int)
| s =>
 .rq 4 (.done s)
def F_slices_Backward_int_int (x : (List Int)) : Option (List Int) := (slices_Backward_int_int x).run fun _ => none
def io_slices_Backward_int_int : Io := ⟨n_slices_Backward_int_int, [.sl tI], [.lf (qm 0)], [], [[.sl tI]], [.sl tI], .lf (.fix (.fn 210 [0])), [], [(true, .cells [qm 0])], true⟩
def slices_Backward_int_int_P : List Piece := []
def slices_Backward_int_int_T : CallT := tab []
theorem slices_Backward_int_int_To : SoundT pg slices_Backward_int_int_T := tab_sound trivial
theorem slices_Backward_int_int_go : FnOK pg (slices_Backward_int_int_T) io_slices_Backward_int_int f_slices_Backward_int_int (slices_Backward_int_int_P) [] (slices_Backward_int_int) := ⟨by kernel_rfl, by kernel_rfl, fun x => by kernel_rfl⟩
theorem ok_slices_Backward_int_int : io_slices_Backward_int_int.Okay pg (F_slices_Backward_int_int) := fn_ok pg_mixed (slices_Backward_int_int_To) (slices_Backward_int_int_go) trivial
def e_slices_Backward_int_int : Entry := io_slices_Backward_int_int.sp (fun s => true) (fun s => s)
theorem sp_slices_Backward_int_int (h : ∀ (s : List Int), WfT [.sl tI] s → (slices_Backward_int_int s).run (fun _ => none) = some s) : e_slices_Backward_int_int.ok pg := sp_ok ok_slices_Backward_int_int fun s hw hc => h s hw
theorem e_slices_Backward_int_int_ok : e_slices_Backward_int_int.ok pg := sp_slices_Backward_int_int fun s _ => by
  rw [slices_Backward_int_int]; rfl
def live_reckon_r_code : Code := match codeAt 80 (codeOf f_live_reckon) 58 with
  | some (.rangeFunc _ _ _ b) => b
  | _ => .skip
def live_reckon_r_b42602 : (Int × (List Bool) × (List Bool) × Int × Bool) → RT Unit (List Bool)
| (t, p240, p337, x11_4, x11_5) =>
 .rq 5 (.ite x11_5
 (.rq 3 (.req (inB p337 x11_4) (.rq 2 (.req (inB p240 t) (.rq 1 (.done (sI p240 t (gI p337 x11_4))))))))
 (.rq 1 (.req (inB p240 t) (.rq 1 (.done (sI p240 t false))))))
def live_reckon_r_p42602 : Piece := ⟨42602, false, [tI, tI, tI, tI, .sl tB, .sl yK, .sl yH, .sl yL, .sl tI, tI, .sl tB, .sl tI, .sl tB, tB, tI, tI, tI, tI, tB, .sl tI], [], ⟨[.keep [1, 4, 5, 6, 8, 10, 11, 29, 30, 31], .gc], [1, 4, 5, 6, 8, 10, 11, 29, 30, 31], [.lf (qp 1048592), .lf (qp 1048640), .lf (qp 1048656), .lf (qp 1048672), .lf (qi 0), .lf (qi 1), .lf (qp 176), .lf (qr 900029), .lf (qi 2), .lf (qi 3)], [(1048592, true, .cells [qi 4, qi 5, qi 6, qi 7, qi 8, qi 9]), (1048816, true, .arr 4 (qi 10)), (1048880, true, .arr 3 (qi 11)), (1048913, true, .arr 4 (qi 12)), (1048640, true, .cells [qr 1048816]), (1048656, true, .cells [qr 1048880]), (1048672, true, .cells [qr 1048913]), (176, true, .cells [qi 13, qi 14, qi 15, qi 16, qi 17, qi 18]), (900029, true, .arr 3 (qi 19))]⟩, [⟨0, ⟨[.keep [1, 4, 5, 6, 8, 10, 11, 29, 30, 31], .gc, .nilRow 29 800029 3 tI, .ren 29 700029, .ren 29 900029, .gc], [1, 4, 5, 6, 8, 10, 11, 29, 30, 31], [.lf (qp 1048592), .lf (qp 1048640), .lf (qp 1048656), .lf (qp 1048672), .lf (qi 0), .lf (qi 1), .lf (qp 176), .lf (qr 900029), .lf (qi 2), .lf (qi 3)], [(1048592, true, .cells [qi 4, qi 5, qi 6, qi 7, qi 8, qi 9]), (1048816, true, .arr 4 (qm 0)), (1048880, true, .arr 3 (qi 11)), (1048913, true, .arr 4 (qi 12)), (1048640, true, .cells [qr 1048816]), (1048656, true, .cells [qr 1048880]), (1048672, true, .cells [qr 1048913]), (176, true, .cells [qi 13, qi 14, qi 15, qi 16, qi 17, qi 18]), (900029, true, .arr 3 (qi 19))]⟩, [.sl tB]⟩], (fun i _ => live_reckon_r_b42602 (i.2.1, i.2.2.2.2.2.2.2.2.2.2.1, i.2.2.2.2.2.2.2.2.2.2.2.2.1, i.2.2.2.2.2.2.2.2.2.2.2.2.2.2.2.2.2.1, i.2.2.2.2.2.2.2.2.2.2.2.2.2.2.2.2.2.2.1))⟩
def live_reckon_r_b170414 : (Int × (List Bool) × (List Int) × Int × Bool) → RT Unit (List Bool)
| (t, p240, p304, x11_4, x11_5) =>
 .rq 5 (.ite x11_5
 (.rq 3 (.req (inB p304 x11_4) (.rq 3 (.req (inB p240 t) (.rq 1 (.done (sI p240 t (decide (0 < (gI p304 x11_4))))))))))
 (.rq 1 (.req (inB p240 t) (.rq 1 (.done (sI p240 t false))))))
def live_reckon_r_p170414 : Piece := ⟨170414, false, [tI, tI, tI, tI, .sl tB, .sl yK, .sl yH, .sl yL, .sl tI, tI, .sl tB, .sl tI, .sl tB, tB, tI, tI, tI, tI, tB, .sl tI], [], ⟨[.keep [1, 4, 5, 6, 8, 10, 11, 29, 30, 31], .gc], [1, 4, 5, 6, 8, 10, 11, 29, 30, 31], [.lf (qp 1048592), .lf (qp 1048640), .lf (qp 1048656), .lf (qp 1048672), .lf (qi 0), .lf (qi 1), .lf (qp 176), .lf (qr 900029), .lf (qi 2), .lf (qi 3)], [(1048592, true, .cells [qi 4, qi 5, qi 6, qi 7, qi 8, qi 9]), (1048816, true, .arr 4 (qi 10)), (1048880, true, .arr 3 (qi 11)), (1048913, true, .arr 4 (qi 12)), (1048640, true, .cells [qr 1048816]), (1048656, true, .cells [qr 1048880]), (1048672, true, .cells [qr 1048913]), (176, true, .cells [qi 13, qi 14, qi 15, qi 16, qi 17, qi 18]), (900029, true, .arr 3 (qi 19))]⟩, [⟨0, ⟨[.keep [1, 4, 5, 6, 8, 10, 11, 29, 30, 31], .gc, .nilRow 29 800029 3 tI, .ren 29 700029, .ren 29 900029, .gc], [1, 4, 5, 6, 8, 10, 11, 29, 30, 31], [.lf (qp 1048592), .lf (qp 1048640), .lf (qp 1048656), .lf (qp 1048672), .lf (qi 0), .lf (qi 1), .lf (qp 176), .lf (qr 900029), .lf (qi 2), .lf (qi 3)], [(1048592, true, .cells [qi 4, qi 5, qi 6, qi 7, qi 8, qi 9]), (1048816, true, .arr 4 (qm 0)), (1048880, true, .arr 3 (qi 11)), (1048913, true, .arr 4 (qi 12)), (1048640, true, .cells [qr 1048816]), (1048656, true, .cells [qr 1048880]), (1048672, true, .cells [qr 1048913]), (176, true, .cells [qi 13, qi 14, qi 15, qi 16, qi 17, qi 18]), (900029, true, .arr 3 (qi 19))]⟩, [.sl tB]⟩], (fun i _ => live_reckon_r_b170414 (i.2.1, i.2.2.2.2.2.2.2.2.2.2.1, i.2.2.2.2.2.2.2.2.2.2.2.1, i.2.2.2.2.2.2.2.2.2.2.2.2.2.2.2.2.2.1, i.2.2.2.2.2.2.2.2.2.2.2.2.2.2.2.2.2.2.1))⟩
def live_reckon_r_b2662 : (Int × (List Bool) × (List Int) × (List Bool) × Int × Int × Bool) → RT Unit (List Bool)
| (t, p240, p304, p337, x11_3, x11_4, x11_5) =>
 .rq 4 (.ite (x11_3 == 1)
 (.call (on live_reckon_r_b42602 (t, p240, p337, x11_4, x11_5)) default fun v2 =>
 .done v2)
 (.rq 2 (.ite (x11_3 == 2)
 (.call (on live_reckon_r_b170414 (t, p240, p304, x11_4, x11_5)) default fun v3 =>
 .done v3)
 (.done p240))))
def live_reckon_r_p2662 : Piece := ⟨2662, false, [tI, tI, tI, tI, .sl tB, .sl yK, .sl yH, .sl yL, .sl tI, tI, .sl tB, .sl tI, .sl tB, tB, tI, tI, tI, tI, tB, .sl tI], [], ⟨[.keep [1, 4, 5, 6, 8, 10, 11, 29, 30, 31], .gc], [1, 4, 5, 6, 8, 10, 11, 29, 30, 31], [.lf (qp 1048592), .lf (qp 1048640), .lf (qp 1048656), .lf (qp 1048672), .lf (qi 0), .lf (qi 1), .lf (qp 176), .lf (qr 900029), .lf (qi 2), .lf (qi 3)], [(1048592, true, .cells [qi 4, qi 5, qi 6, qi 7, qi 8, qi 9]), (1048816, true, .arr 4 (qi 10)), (1048880, true, .arr 3 (qi 11)), (1048913, true, .arr 4 (qi 12)), (1048640, true, .cells [qr 1048816]), (1048656, true, .cells [qr 1048880]), (1048672, true, .cells [qr 1048913]), (176, true, .cells [qi 13, qi 14, qi 15, qi 16, qi 17, qi 18]), (900029, true, .arr 3 (qi 19))]⟩, [⟨0, ⟨[.keep [1, 4, 5, 6, 8, 10, 11, 29, 30, 31], .gc, .nilRow 29 800029 3 tI, .ren 29 700029, .ren 29 900029, .gc], [1, 4, 5, 6, 8, 10, 11, 29, 30, 31], [.lf (qp 1048592), .lf (qp 1048640), .lf (qp 1048656), .lf (qp 1048672), .lf (qi 0), .lf (qi 1), .lf (qp 176), .lf (qr 900029), .lf (qi 2), .lf (qi 3)], [(1048592, true, .cells [qi 4, qi 5, qi 6, qi 7, qi 8, qi 9]), (1048816, true, .arr 4 (qm 0)), (1048880, true, .arr 3 (qi 11)), (1048913, true, .arr 4 (qi 12)), (1048640, true, .cells [qr 1048816]), (1048656, true, .cells [qr 1048880]), (1048672, true, .cells [qr 1048913]), (176, true, .cells [qi 13, qi 14, qi 15, qi 16, qi 17, qi 18]), (900029, true, .arr 3 (qi 19))]⟩, [.sl tB]⟩], (fun i _ => live_reckon_r_b2662 (i.2.1, i.2.2.2.2.2.2.2.2.2.2.1, i.2.2.2.2.2.2.2.2.2.2.2.1, i.2.2.2.2.2.2.2.2.2.2.2.2.1, i.2.2.2.2.2.2.2.2.2.2.2.2.2.2.2.2.1, i.2.2.2.2.2.2.2.2.2.2.2.2.2.2.2.2.2.1, i.2.2.2.2.2.2.2.2.2.2.2.2.2.2.2.2.2.2.1))⟩
def live_reckon_r_b10 : (Int × Int × (List Tk) × (List Bool) × (List Int)) → (Int × (List Bool) × (List Int)) → RT (Int × (List Bool) × (List Int)) ((List Bool) × (List Int))
| (i, f, p16_1, p337, r29), (x31, p240, p304) =>
 .rq 1 (.ite (decide (x31 < f))
 (.req (inB r29 x31) (.rq 5 (.req (inB p16_1 (gI r29 x31)) (.rq 3 (.call (on live_reckon_r_b2662 (gI r29 x31, p240, p304, p337, (gI p16_1 (gI r29 x31)).2.2.2.1, (gI p16_1 (gI r29 x31)).2.2.2.2.1, (gI p16_1 (gI r29 x31)).2.2.2.2.2)) default fun v4 =>
 .rq 2 (.req (inB v4 (gI r29 x31)) (.rq 1 (let t0 := w64 (x31 + 1);
 .ite (gI v4 (gI r29 x31))
 (.rq 2 (.req (inB p304 i) (.rq 4 (.req (inB p304 i) (.rq 3 (.again (t0, v4, sI p304 i (w64 ((gI p304 i) + (gI p16_1 (gI r29 x31)).2.2.1)))))))))
 (.rq 2 (.again (t0, v4, p304)))))))))))
 (.done (p240, p304)))
def live_reckon_r_p10 : Piece := ⟨10, true, [tI, tI, .sl tB, .sl yK, .sl yH, .sl yL, .sl tI, tI, .sl tB, .sl tI], [tI, .sl tB, .sl tI], ⟨[.keep [1, 4, 5, 6, 8, 29, 30, 31], .gc, .nilRow 29 800029 3 tI, .ren 29 700029, .ren 29 900029, .gc], [1, 4, 5, 6, 8, 29, 30, 31], [.lf (qp 1048592), .lf (qp 1048640), .lf (qp 1048656), .lf (qp 1048672), .lf (qi 0), .lf (qr 900029), .lf (qi 1), .lf (qm 0)], [(1048592, true, .cells [qi 2, qi 3, qi 4, qi 5, qi 6, qi 7]), (1048816, true, .arr 4 (qm 1)), (1048880, true, .arr 3 (qm 2)), (1048913, true, .arr 4 (qi 8)), (1048640, true, .cells [qr 1048816]), (1048656, true, .cells [qr 1048880]), (1048672, true, .cells [qr 1048913]), (900029, true, .arr 3 (qi 9))]⟩, [⟨4, ⟨[.keep [], .gc], [], [], [(1048592, true, .cells [qi 2, qi 3, qi 4, qi 5, qi 6, qi 7]), (1048816, true, .arr 4 (qm 0)), (1048880, true, .arr 3 (qm 1)), (1048913, true, .arr 4 (qi 8)), (1048640, true, .cells [qr 1048816]), (1048656, true, .cells [qr 1048880]), (1048672, true, .cells [qr 1048913])]⟩, [.sl tB, .sl tI]⟩], (fun i => live_reckon_r_b10 (i.1, i.2.1, i.2.2.2.1, i.2.2.2.2.2.2.2.2.1, i.2.2.2.2.2.2.2.2.2))⟩
def live_reckon_r : (Int × (List Bool) × (List Tk) × (List Th) × (List Lk) × (List Int) × Int × (List Bool) × (List Int) × (List Bool)) → RT Unit ((List Bool) × (List Int))
| (c, coins, tickets, threads, locks, queue, quantum, counts, amounts, lives) =>
 .rq 2 (.req ((decide (tickets.length ≤ 1000000))) (.rq 2 (let t0 := (issued tickets c);
 .call (lo live_reckon_r_b10 (c, (t0.length : Int), tickets, lives, t0) (0, counts, amounts)) default fun v5 =>
 .done (v5.1, v5.2))))
def live_reckon_r_P : List Piece := [live_reckon_r_p42602, live_reckon_r_p170414, live_reckon_r_p2662, live_reckon_r_p10]
def live_reckon_r_T : CallT := tab [e_fund_Issued]
theorem live_reckon_r_To : SoundT pg live_reckon_r_T := tab_sound ⟨e_fund_Issued_ok, trivial⟩
theorem live_reckon_r_k42602 : live_reckon_r_p42602.OK pg live_reckon_r_T (tell 86 live_reckon_r_P) live_reckon_r_code 86 := ⟨by kernel_rfl, fun i x => by kernel_rfl⟩
theorem live_reckon_r_k170414 : live_reckon_r_p170414.OK pg live_reckon_r_T (tell 86 live_reckon_r_P) live_reckon_r_code 86 := ⟨by kernel_rfl, fun i x => by kernel_rfl⟩
theorem live_reckon_r_k2662 : live_reckon_r_p2662.OK pg live_reckon_r_T (tell 86 live_reckon_r_P) live_reckon_r_code 86 := ⟨by kernel_rfl, fun i x => by kernel_rfl⟩
theorem live_reckon_r_k10 : live_reckon_r_p10.OK pg live_reckon_r_T (tell 86 live_reckon_r_P) live_reckon_r_code 86 := ⟨by kernel_rfl, fun i x => by kernel_rfl⟩
theorem live_reckon_r_ks : PAll (fun (p : Piece) => p.OK pg live_reckon_r_T (tell 86 live_reckon_r_P) live_reckon_r_code 86) live_reckon_r_P := ⟨live_reckon_r_k42602, live_reckon_r_k170414, live_reckon_r_k2662, live_reckon_r_k10, trivial⟩
abbrev SFx := (List Bool) × (List Tk) × (List Th) × (List Lk) × (List Int) × Int × (List Bool)
def rkHp : SFx → (List Bool) × (List Int) → List (Nat × Ent)
  | (coins, tickets, threads, locks, queue, quantum, lives), (counts, amounts) =>
    [(16, ⟨true, .cells [.dat .bool coins, .dat yK tickets, .dat yH threads, .dat yL locks, .dat tI queue, .int .i64 quantum]⟩), (240, ⟨true, .arr 4 .bool counts⟩), (304, ⟨true, .arr 3 tI amounts⟩), (337, ⟨true, .arr 4 .bool lives⟩),
     (64, ⟨true, .cells [.ref 240]⟩), (80, ⟨true, .cells [.ref 304]⟩), (96, ⟨true, .cells [.ref 337]⟩)]
def rkRst (fx : SFx) (c : Int) (x : (List Bool) × (List Int)) : St :=
  spSt 86 [1, 4, 5, 6, 8] [.lf (.ptr (parBase + 16) 0), .lf (.ptr (parBase + 64) 0), .lf (.ptr (parBase + 80) 0), .lf (.ptr (parBase + 96) 0), .lf (.int .i64 c)] (upHp (rkHp fx x))
def rkSee : Ev → Option PE
  | .norm σ => (seeSt [.keep [], .gc] [] 86 σ).map fun z => .norm z.1 z.2
  | _ => none
def rkR : SFx → Int → (List Bool) × (List Int) → RT Unit ((List Bool) × (List Int))
  | (coins, tickets, threads, locks, queue, quantum, lives), c, (counts, amounts) => live_reckon_r (c, coins, tickets, threads, locks, queue, quantum, counts, amounts, lives)
theorem rk_body (fx : SFx) (c : Int) (x : (List Bool) × (List Int)) : (evI pg live_reckon_r_T (tell 86 live_reckon_r_P) 1 live_reckon_r_code (rkRst fx c x)).pt rkSee =
    (rkR fx c x).pt (fun _ => .norm [] []) (fun x' => .norm [] (upHp (rkHp fx x'))) := by kernel_rfl
end
end Go.Proofs.YtlfdidaeachpoaaGreat

namespace Go.Proofs
open Go.RowKit Go.Shelf
attribute [local go_sem] Oper.semAt_some
def Bw.upto {α : Type} (f : Nat → α) (k : Nat) : List α := (List.range k).map f
theorem Bw.upto_succ {α : Type} (f : Nat → α) (k : Nat) : Bw.upto f (k + 1) = Bw.upto f k ++ [f k] := by simp [Bw.upto, List.range_succ]
theorem Bw.upto_length {α : Type} (f : Nat → α) (k : Nat) : (Bw.upto f k).length = k := by simp [Bw.upto]
def Bw.Kp (Z : Nat → Prop) (A B : World) : Prop := ∀ k, Z k → B.heap[k]? = A.heap[k]?
theorem Bw.Kp.cell {Z : Nat → Prop} {A B : World} (h : Bw.Kp Z A B) {p : Addr} (hp : Z p.block) : B.cell? p = A.cell? p := World.cell?_of_block (h _ hp)
set_option maxRecDepth 100000 in
set_option maxHeartbeats 2000000 in
theorem Bw.back_in (F : Fence) (n : Nat) (h8 : F.fn 210) (hro : F.round = none) (hn : 1 ≤ n) (l Bs b off len cap : Nat) (Z : Nat → Prop) (zs : List Int) (hreach : len * 8 ≤ 140737488351232) (hb : Z b) (hBsZ : Z Bs) (p : Nat × Int → Prop) (hp : ∀ j, j < len → p (j, zs[j]?.getD 0)) (J Jx : List (Nat × Int) → World → Prop)
    (hY : ∀ pre x W, p x → J pre W → pre.length < len → YieldAt F (n - 1) Tryz.prog l #[.int .i64 (x.1 : Int), .int .i64 x.2] W fun e W' =>
      (e = .returned (.bool true) ∧ J (pre ++ [x]) W' ∧ Bw.Kp Z W W') ∨ (e = .returned (.bool false) ∧ Jx (pre ++ [x]) W'))
    (W : World) (hBs : W.cell? ⟨Bs, 0, none⟩ = some (.slice (some ⟨b, off, none⟩) len cap)) (hc : ∀ j, j < len → W.cell? ⟨b, off + j, none⟩ = some (.int .i64 (zs[j]?.getD 0))) (h0 : J [] W) :
    CallsIn F n Tryz.prog 210 #[.func (.yield l) #[] #[], .pointer (some ⟨Bs, 0, none⟩)] W fun e W' => (∃ v, e = .returned v) ∧
      ((∃ ys, ys = Bw.upto (fun j => (len - 1 - j, zs[len - 1 - j]?.getD 0)) len ∧ J ys W') ∨ (∃ pre, (∃ k, k ≤ len ∧ pre = Bw.upto (fun j => (len - 1 - j, zs[len - 1 - j]?.getD 0)) k) ∧ Jx pre W')) := by
  refine callsIn_of_wp Tryz.func210 rfl h8 ?_ hro
  simp only [Tryz.ntmps210, List.size_toArray, List.length_cons, List.length_nil, Nat.reduceAdd, Nat.reduceSub, Array.replicate_succ, Array.replicate_zero, List.push_toArray, List.append_toArray, List.nil_append, List.cons_append]
  gi_wp2
  gi_loopw [3] (fun i wr => ∃ k : Nat, k ≤ len ∧ i = .int .i64 ((len : Int) - 1 - k) ∧ J (Bw.upto (fun j => (len - 1 - j, zs[len - 1 - j]?.getD 0)) k) wr ∧ Bw.Kp Z W wr)
    (fun i _ => (intOf i + 1).toNat)
  case atStart => exact ⟨0, Nat.zero_le _, by simp, h0, fun _ _ => rfl⟩
  case round =>
    obtain ⟨k, hk, rfl, hJs, hnx⟩ := hrel
    have hBs' : wr.cell? ⟨Bs, 0, none⟩ = some (.slice (some ⟨b, off, none⟩) len cap) := (hnx.cell (p := ⟨Bs, 0, none⟩) hBsZ).trans hBs
    have hcx : k < len → wr.cell? ⟨b, off + (len - 1 - k), none⟩ = some (.int .i64 (zs[len - 1 - k]?.getD 0)) := fun h => (hnx.cell (p := ⟨b, off + (len - 1 - k), none⟩) hb).trans (hc (len - 1 - k) (by omega))
    by_cases hlt : k < len
    · obtain ⟨fn, tmps, assign, body, hy, hR⟩ := hY _ (len - 1 - k, zs[len - 1 - k]?.getD 0) wr (hp _ (by omega)) hJs (by rw [Bw.upto_length]; exact hlt)
      dsimp only at hy
      have hcx' := hcx hlt
      obtain ⟨m, hm⟩ : ∃ m, m = len - 1 - k := ⟨_, rfl⟩
      have hmi : (len : Int) - 1 - k = (m : Int) := by omega
      rw [← hm] at hy hcx'
      rw [hmi]
      have hml : m < len := by omega
      have hm2 : m + k + 1 ≤ len ∧ len ≤ m + k + 1 := by omega
      clear hm hmi
      gi_wp2
      refine hR.mono ?_
      rintro e W3 (⟨rfl, hJ3, hk3⟩ | ⟨rfl, hJx3⟩)
      · gi_wp2
        go_roundw
        case rel =>
          refine ⟨k + 1, by omega, ?_, by rw [Bw.upto_succ]; exact hJ3, fun q hq => (hk3 q hq).trans (hnx q hq)⟩
          have e1 : (m : Int) - 1 = (len : Int) - 1 - ((k + 1 : Nat) : Int) := by omega
          rw [e1]
        case measure =>
          simp only [intOf]
          omega
      · gi_wp2
        refine bodyPost_ret (results_none rfl _ _ _) rfl ?_
        exact ⟨⟨_, rfl⟩, .inr ⟨_, ⟨k + 1, by omega, (Bw.upto_succ _ _).symm⟩, hJx3⟩⟩
    · obtain rfl : k = len := by omega
      have hmi : (k : Int) - 1 - k = -1 := by omega
      rw [hmi]
      gi_wp2
      go_end0
      exact ⟨⟨_, rfl⟩, .inl ⟨_, rfl, hJs⟩⟩
set_option maxRecDepth 100000 in
set_option maxHeartbeats 1000000 in
theorem Bw.back_nil_in (F : Fence) (n : Nat) (h8 : F.fn 210) (hro : F.round = none) (l Bs : Nat) (A : Option Addr) (cap : Nat) (J : List (Nat × Int) → World → Prop) (W : World) (hBs : W.cell? ⟨Bs, 0, none⟩ = some (.slice A 0 cap)) (h0 : J [] W) :
    CallsIn F n Tryz.prog 210 #[.func (.yield l) #[] #[], .pointer (some ⟨Bs, 0, none⟩)] W fun e W' => (∃ v, e = .returned v) ∧ J [] W' := by
  refine callsIn_of_wp Tryz.func210 rfl h8 ?_ hro
  simp only [Tryz.ntmps210, List.size_toArray, List.length_cons, List.length_nil, Nat.reduceAdd, Nat.reduceSub, Array.replicate_succ, Array.replicate_zero, List.push_toArray, List.append_toArray, List.nil_append, List.cons_append]
  gi_wp2
  gi_loopw [3] (fun i wr => i = .int .i64 (-1) ∧ J [] wr) (fun _ _ => 0)
  case atStart => exact ⟨rfl, h0⟩
  case round =>
    obtain ⟨rfl, hJs⟩ := hrel
    gi_wp2
    go_end0
    exact ⟨⟨_, rfl⟩, hJs⟩
def Bw.list (zs : List Int) : List (Nat × Int) := Bw.upto (fun j => (zs.length - 1 - j, zs[zs.length - 1 - j]?.getD 0)) zs.length
theorem Bw.list_snd (zs : List Int) : (Bw.list zs).map (·.2) = zs.reverse := by
  apply List.ext_getElem
  · simp [Bw.list, Bw.upto]
  · intro i h1 h2
    have hi : i < zs.length := by simpa using h2
    have hj : zs.length - 1 - i < zs.length := by omega
    simp [Bw.list, Bw.upto, hj]
def Bw.Ints (Z : Nat → Prop) (W : World) (sv : Value) (zs : List Int) : Prop :=
  (∃ A cap, sv = .slice A 0 cap ∧ zs = []) ∨ ∃ b off cap, sv = .slice (some ⟨b, off, none⟩) zs.length cap ∧ Z b ∧ ∀ j, j < zs.length → W.cell? ⟨b, off + j, none⟩ = some (.int .i64 (zs[j]?.getD 0))
def Bw.listP (p : Nat × Int → Prop) (zs : List Int) (hp : ∀ j, j < zs.length → p (j, zs[j]?.getD 0)) : List { x : Nat × Int // p x } :=
  (List.finRange zs.length).map fun (j : Fin zs.length) => ⟨(zs.length - 1 - j.1, zs[zs.length - 1 - j.1]?.getD 0), hp _ (by have := j.2; omega)⟩
theorem Bw.listP_val {p : Nat × Int → Prop} {zs : List Int} {hp : ∀ j, j < zs.length → p (j, zs[j]?.getD 0)} : (Bw.listP p zs hp).map (·.1) = Bw.list zs := by
  apply List.ext_getElem
  · simp [Bw.listP, Bw.list, Bw.upto]
  · intro i h1 h2
    simp [Bw.listP, Bw.list, Bw.upto]
theorem Bw.stops (F : Fence) (n : Nat) (h8 : F.fn 210) (hro : F.round = none) (hn : 1 ≤ n) (Bs : Nat) (Z : Nat → Prop) (sv : Value) (zs : List Int) (hreach : zs.length * 8 ≤ 140737488351232) (w : World) (hBsZ : Z Bs) (hZ : ∀ b, Z b → b < w.heap.size)
    (hc : w.cell? ⟨Bs, 0, none⟩ = some sv) (hI : Bw.Ints Z w sv zs) (p : Nat × Int → Prop) (hp : ∀ j, j < zs.length → p (j, zs[j]?.getD 0)) :
    SeqStopsK F n Tryz.prog 210 #[.pointer (some ⟨Bs, 0, none⟩)] (fun x : { x : Nat × Int // p x } => #[Value.int .i64 (x.1.1 : Int), Value.int .i64 x.1.2]) (Bw.Kp Z) (fun ys => ys = Bw.listP p zs hp) (fun _ => True) zs.length w := fun l J Jx W hW _ _ hY h0 => by
  have hc' := (hW.cell (p := ⟨Bs, 0, none⟩) (hZ _ hBsZ)).trans hc
  have inj : ∀ {l l' : List { x : Nat × Int // p x }}, l.map (·.1) = l'.map (·.1) → l = l' := fun {l l'} h => by
    induction l generalizing l' with
    | nil => cases l' with
      | nil => rfl
      | cons => simp at h
    | cons a l ih => cases l' with
      | nil => simp at h
      | cons b l' =>
        simp only [List.map_cons, List.cons.injEq] at h
        rw [Subtype.ext h.1, ih h.2]
  rcases hI with ⟨A, cap, rfl, rfl⟩ | ⟨b, off, cap, rfl, hb, hcs⟩
  · exact (Bw.back_nil_in F n h8 hro l Bs A cap (fun _ W => J [] W) W hc' h0).mono fun e W' ⟨he, hj⟩ => ⟨he, .inl ⟨[], rfl, hj⟩⟩
  · refine (Bw.back_in F n h8 hro hn l Bs b off zs.length cap Z zs hreach hb hBsZ p hp (fun pre W => ∃ q : List { x : Nat × Int // p x }, q.map (·.1) = pre ∧ J q W) (fun pre W => ∃ q : List { x : Nat × Int // p x }, q.map (·.1) = pre ∧ Jx q W) ?_ W hc'
      (fun j hj => (hW.cell (p := ⟨b, off + j, none⟩) (hZ _ hb)).trans (hcs j hj)) ⟨[], rfl, h0⟩).mono ?_
    · rintro pre x W1 hx ⟨q, rfl, hq⟩ hlen
      obtain ⟨fn, tmps, assign, body, hy, hR⟩ := hY q ⟨x, hx⟩ W1 hq (by simpa using hlen)
      refine ⟨fn, tmps, assign, body, hy, hR.mono ?_⟩
      rintro e W' (⟨rfl, h1, h2⟩ | ⟨rfl, h1⟩)
      · exact .inl ⟨rfl, ⟨_, by simp, h1⟩, h2⟩
      · exact .inr ⟨rfl, _, by simp, h1⟩
    · rintro e W' ⟨he, ⟨ys, rfl, q, hq, hj⟩ | ⟨pre, ⟨k, hk, rfl⟩, q, hq, hj⟩⟩
      · refine ⟨he, .inl ⟨q, inj ?_, hj⟩⟩
        rw [hq, Bw.listP_val]; rfl
      · exact ⟨he, .inr ⟨q, trivial, hj⟩⟩
end Go.Proofs

namespace Go.Proofs.YtlfdidaeachpoaaGreat
open Go Go.RowKit
set_option maxRecDepth 100000
noncomputable section
abbrev SD := (List Bool) × (List Tk) × (List Th) × (List Lk) × (List Int) × Int
abbrev sdLs : SD → List Leaf := fun (coins, tickets, threads, locks, queue, quantum) => [.dat .bool coins, .dat yK tickets, .dat yH threads, .dat yL locks, .dat tI queue, .int .i64 quantum]
def sdFx : SD → List Bool → SFx := fun (coins, tickets, threads, locks, queue, quantum) lives => (coins, tickets, threads, locks, queue, quantum, lives)
def io_live_reckon : Io := ⟨n_live_reckon, [.sl tB, .sl yK, .sl yH, .sl yL, .sl tI, tI], [.agg [qm 0, qm 1, qm 2, qm 3, qm 4, qm 5]], [], [[.sl tB, .sl yK, .sl yH, .sl yL, .sl tI, tI]], [.sl tB, .sl tI], .tup [(false, [qr 0]), (false, [qr 1])], [], [(true, .arr 4 (qm 0)), (true, .arr 3 (qm 1))], false⟩
def rkT : CallT := tab [e_live_Threads, e_fund_Order, e_slices_Backward_int_int]
theorem rkTo : SoundT pg rkT := tab_sound ⟨e_live_Threads_ok, e_fund_Order_ok, e_slices_Backward_int_int_ok, trivial⟩
def rkAt (q : Nat) : Code := (codeAt 80 (codeOf f_live_reckon) q).getD .skip
def rkSeeT (ts : List Nat) : Ev → Option PE
  | .norm σ => (seeSt [.keep ts] ts 86 σ).map fun z => .norm z.1 z.2
  | _ => none
abbrev rkE (q : Nat) (σ : St) : Tree := evI pg rkT (fun _ _ => none) q (rkAt q) σ
theorem rk_r0 (s : SD) : (rkE 2 (initSt (io_live_reckon.as s) (io_live_reckon.es s) 86)).pt (rkSeeT [1]) = .rq 3 (.leaf (.norm [.lf (.ptr 16 0)] [(16, ⟨true, .cells (sdLs s)⟩)])) := by kernel_rfl
def sdLiveOK (s : SD) : Bool := decide (s.2.2.1.length ≤ 1000000) && liveOK s.2.2.1 s.2.2.2.1
def sdLive (s : SD) : List Bool := liveV s.2.2.1 s.2.2.2.1
def sdOrdOK (s : SD) : Bool := decide (s.2.1.length ≤ 1000000) && decide (s.1.length ≤ 4096)
def sdOrd (s : SD) : List Int := fordV s.1 s.2.1
abbrev rkPts : List (Nat × Nat) := [(1, 16), (4, 64), (5, 80), (6, 96)]
def rkX0 (s : SD) : (List Bool) × (List Int) := (repI (s.2.1.length : Int) false, repI (s.1.length : Int) 0)
theorem rk_r1 (s : SD) : (rkE 6 (spSt 86 [1] [.lf (.ptr 16 0)] [(16, ⟨true, .cells (sdLs s)⟩)])).pt (rkSeeT [1, 4, 5, 6]) =
    (RT.rq 3 (.req (mkOK 1 (s.2.1.length : Int)) (.rq 3 (.req (mkOK 8 (s.1.length : Int)) (.rq 1 (.req (sdLiveOK s) (.rq 6 (.done (sdLive s)))))))) : RT Unit (List Bool)).pt (fun _ => .norm [] [])
      (fun v => .norm [.lf (.ptr 16 0), .lf (.ptr 64 0), .lf (.ptr 80 0), .lf (.ptr 96 0)] (rkHp (sdFx s v) (rkX0 s))) := by kernel_rfl
theorem rk_r2 (s : SD) (v : List Bool) : (rkE 28 (ptSt 86 rkPts 0 (rkHp (sdFx s v) (rkX0 s)))).pt (rkSeeT [1, 4, 5, 6, 24]) =
    (RT.rq 1 (.req (sdOrdOK s) (.rq 1 (.done (sdOrd s)))) : RT Unit (List Int)).pt (fun _ => .norm [] [])
      (fun v2 => .norm [.lf (.ptr 16 0), .lf (.ptr 64 0), .lf (.ptr 80 0), .lf (.ptr 96 0), .lf (.fn 210 [385])] (rkHp (sdFx s v) (rkX0 s) ++ [(385, ⟨true, .cells [.dat tI v2]⟩)])) := by kernel_rfl
def rkSeeR : Ev → Option PE
  | .ret σ => (seeSt [.keep [2, 3]] [2, 3] 86 σ).map fun z => .ret z.1 z.2
  | _ => none
theorem rk_t (fx : SFx) (x : (List Bool) × (List Int)) : (rkE 15 (ptSt 86 rkPts 0 (rkHp fx x))).pt rkSeeR =
    .rq 4 (.leaf (.ret [.lf (.ref 240), .lf (.ref 304)] (rkHp fx x))) := by kernel_rfl
theorem rk_o (fx : SFx) (x : (List Bool) × (List Int)) : outEv pg f_live_reckon 0 [] false (.ret (spSt 86 [2, 3] [.lf (.ref 240), .lf (.ref 304)] (rkHp fx x))) = some (.out (io_live_reckon.res x)) := by kernel_rfl
def rkAsg : Code := match rkAt 58 with
  | .rangeFunc _ _ x _ => x
  | _ => .skip
theorem rk_code : codeOf f_live_reckon = .seq (rkAt 2) (.seq (rkAt 6) (.seq (.seq (rkAt 28) (.block 0 (rkAt 58))) (rkAt 15))) := by kernel_rfl
theorem rk_58 : rkAt 58 = .rangeFunc (.tmp 24) #[25, 26] rkAsg live_reckon_r_code := by kernel_rfl
theorem rk_at2 : codeAt 80 (codeOf f_live_reckon) 2 = some (rkAt 2) := by kernel_rfl
theorem rk_at6 : codeAt 80 (codeOf f_live_reckon) 6 = some (rkAt 6) := by kernel_rfl
theorem rk_at28 : codeAt 80 (codeOf f_live_reckon) 28 = some (rkAt 28) := by kernel_rfl
theorem rk_at15 : codeAt 80 (codeOf f_live_reckon) 15 = some (rkAt 15) := by kernel_rfl
def rkOp : Oper := match rkAsg with
  | .region _ ops _ => ops.getD 0 default
  | _ => default
def rkId : Nat := match rkAsg with
  | .region i _ _ => i
  | _ => 0
theorem rk_asg : rkAsg = .region rkId #[rkOp] false := by kernel_rfl
theorem rk_op : rkOp.op = .assign (.tmp 26) ∧ rkOp.dst = some 8 ∧ rkOp.guard = none := ⟨by kernel_rfl, by kernel_rfl, by kernel_rfl⟩
section
variable {π : Pin} {w0 : World} {own : Nat → Prop} {w w' : World} {a a' : Act} {σ : St} {β β' : Nat → Option Value} {ok ok' : Nat → Prop}
theorem rk_step {q : Nat} (hq : 0 < q) (hat : codeAt 80 (codeOf f_live_reckon) q = some (rkAt q)) (S : Sim π w0 own w a σ β ok) {ts : List Nat} {t : PT} (hpt : (rkE q σ).pt (rkSeeT ts) = t) {K : List TV → List (Nat × Ent) → Prop}
    (hs : t.sat fun p => ∃ vs hp, p = .norm vs hp ∧ K vs hp) {Q : Exit → Act → World → Prop} (hQ : ∀ vs hp a' w' β' ok', K vs hp → Sim π w0 own w' a' (spSt 86 ts vs hp) β' ok' → Q .normal a' w') : (rkAt q).wpIn (Fw π.rd) 0 pg Q a w := by
  refine wpIn_mono (evI_sound (root := codeOf f_live_reckon) (L := fun _ _ => none) pg_mixed rkTo (rkAt q) q 80 _ (fun e => ∃ p, rkSeeT ts e = some p ∧ ∃ vs hp, p = .norm vs hp ∧ K vs hp) a w _ ok hq hat (noCuts _ _) S
    (Tree.sat_pt (fun e p h1 h2 => ⟨p, h1, h2⟩) (hpt ▸ hs))) ?_
  rintro e a' w' ⟨ev, β', ok', ⟨p, hp, vs, hp', rfl, hK⟩, hev⟩
  cases ev with
  | norm σ' =>
    obtain ⟨x, h1, h2⟩ := Option.map_eq_some_iff.1 (show (seeSt _ _ _ σ').map _ = _ from hp)
    cases h2
    obtain ⟨rfl, S'⟩ := hev
    obtain ⟨β2, ok2, S2⟩ := seeSt_weak h1 _ _ _ _ _ _ _ S'
    exact hQ _ _ _ _ _ _ hK S2
  | ret σ' => cases hp
  | exit i σ' => cases hp
theorem Inv.drop {hp : List (Nat × Ent)} {k : Nat} {e : Ent} (I : Inv w0 own w β ok (hget (hp ++ [(k, e)]))) (hk : hget hp k = none) (hids : ∀ id e', hget hp id = some e' → k ∉ ebIds e'.b) :
    Inv w0 own w (fun j => if j = k then none else β j) ok (hget hp) := by
  have happ : ∀ (hp : List (Nat × Ent)) id, hget (hp ++ [(k, e)]) id = (match hget hp id with | some x => some x | none => if k = id then some e else none) := by
    intro hp
    induction hp with
    | nil => intro id; rfl
    | cons x hp ih =>
      intro id
      show (if x.1 = id then some x.2 else hget (hp ++ [(k, e)]) id) = (match (if x.1 = id then some x.2 else hget hp id) with | some x => some x | none => if k = id then some e else none)
      by_cases h : x.1 = id
      · rw [if_pos h, if_pos h]
      · rw [if_neg h, if_neg h]; exact ih id
  have hup : ∀ id e', hget hp id = some e' → hget (hp ++ [(k, e)]) id = some e' := fun id e' h => by rw [happ, h]
  have hne : ∀ id e', hget hp id = some e' → id ≠ k := fun id e' h h2 => by rw [h2, hk] at h; cases h
  have hβ : ∀ id v, (fun j => if j = k then none else β j) id = some v → id ≠ k ∧ β id = some v := fun id v h => by
    by_cases h2 : id = k
    · simp [h2] at h
    · simp only [if_neg h2] at h; exact ⟨h2, h⟩
  obtain ⟨f, kl, d, en, dw, wr, ro, sep⟩ := I
  refine ⟨f, kl, fun id v h => ?_, fun id e' h => ?_, fun id e' h hw => dw id e' (hup id e' h) hw, fun id e' v g h hw hv hg => wr id e' v g (hup id e' h) hw (hβ id v hv).2 hg,
    fun id e' v g h hw hl hv hg => ro id e' v g (hup id e' h) hw hl (hβ id v hv).2 hg, fun i e1 v1 j e2 v2 g hij h1 h2 hw hl hv1 hv2 hg1 hg2 => sep i e1 v1 j e2 v2 g hij (hup i e1 h1) (hup j e2 h2) hw hl (hβ i v1 hv1).2 (hβ j v2 hv2).2 hg1 hg2⟩
  · obtain ⟨h1, h2⟩ := hβ id v h
    obtain ⟨e', he⟩ := d id v h2
    rw [happ] at he
    cases hx : hget hp id with
    | some x => exact ⟨x, rfl⟩
    | none =>
      rw [hx] at he
      have he : (if k = id then some e else none) = some e' := he
      rw [if_neg (fun h => h1 h.symm)] at he
      cases he
  · refine (en id e' (hup id e' h)).sub (fun j hj u hu => ?_) fun u hu => ?_
    · have : j ≠ k := fun h2 => hids id e' h (h2 ▸ hj)
      simp only [if_neg this]; exact hu
    · simp only [if_neg (hne id e' h)]; exact hu
theorem rkHp_ids (fx : SFx) (x : (List Bool) × (List Int)) : ∀ id e, hget (rkHp fx x) id = some e → id < 385 ∧ e.live = true ∧ ∀ j ∈ ebIds e.b, j < 385 := by
  intro id e h
  have hm := hget_mem h
  simp only [rkHp, List.mem_cons, Prod.mk.injEq, List.not_mem_nil, or_false] at hm
  rcases hm with ⟨rfl, rfl⟩ | ⟨rfl, rfl⟩ | ⟨rfl, rfl⟩ | ⟨rfl, rfl⟩ | ⟨rfl, rfl⟩ | ⟨rfl, rfl⟩ | ⟨rfl, rfl⟩ <;> exact ⟨by decide, rfl, by simp [ebIds, leafIds]⟩
def rkP (s : SD) (y : Nat × Int) : Prop := (Lit.int .i64 (y.1 : Int)).wf = true ∧ (Lit.int .i64 y.2).wf = true ∧ 0 ≤ y.2 ∧ y.2 < (s.1.length : Int)
def rkI (s : SD) (x : (List Bool) × (List Int)) : Prop := x.1.length = s.2.1.length ∧ x.2.length = s.1.length
abbrev rkA (s : SD) := { y : Nat × Int // rkP s y }
def rkAct (a : Act) (s : SD) (y : rkA s) : Act := { tmps := ((a.tmps.setIfInBounds 25 (.int .i64 (y.1.1 : Int))).setIfInBounds 26 (.int .i64 y.1.2)).setIfInBounds 8 (.int .i64 y.1.2), defers := [] }
theorem rk_assign (s : SD) (l : Nat) (y : rkA s) (W : World) (K : Act → World → Prop) (h : 86 = a.tmps.size) (hK : K (rkAct a s y) W) :
    rkAsg.wpIn (Fw (some l)) 0 pg (Exit.then K (fun _ _ _ => False)) { tmps := ((#[25, 26] : Array Tmp).zip #[Value.int .i64 (y.1.1 : Int), Value.int .i64 y.1.2]).foldl (fun t (p, v) => t.setIfInBounds p v) a.tmps, defers := [] } W := by
  have htm : ((#[25, 26] : Array Tmp).zip #[Value.int .i64 (y.1.1 : Int), Value.int .i64 y.1.2]).foldl (fun t (p, v) => t.setIfInBounds p v) a.tmps = (a.tmps.setIfInBounds 25 (.int .i64 (y.1.1 : Int))).setIfInBounds 26 (.int .i64 y.1.2) := by
    simp [Array.zip, Array.zipWith, Array.zipWithMAux]
  rw [htm, rk_asg]
  refine wpIn_region ?_
  show wpOpsIn _ _ _ _ _ [0] _ _
  obtain ⟨h1, h2, h3⟩ := rk_op
  simp only [wpOpsIn, List.getElem?_toArray, List.getElem?_cons_zero]
  rw [if_pos (by simp [Region.wanted, h3])]
  refine Runs.wp (R := fun v w' => v = .int .i64 y.1.2 ∧ w' = W) ⟨_, _, .inl ?_, rfl, rfl⟩ ?_ (fun c hc => by rw [h1] at hc; cases hc)
  · rw [execOp, h1]
    simp [Act.eval, ← h]
  · rintro _ _ ⟨rfl, rfl⟩
    show K (Act.put _ rkOp.dst _) _
    rw [h2]
    exact hK
theorem rk_getD (s : SD) (y : rkA s) (h : 86 = a.tmps.size) (t : Nat) : (rkAct a s y).tmps.getD t undef = if t = 8 then .int .i64 y.1.2 else if t = 26 then .int .i64 y.1.2 else if t = 25 then .int .i64 (y.1.1 : Int) else a.tmps.getD t undef := by
  simp only [rkAct, Array.getD_eq_getD_getElem?, Array.getElem?_setIfInBounds, Array.size_setIfInBounds]
  by_cases h8 : t = 8
  · subst h8; simp [← h]
  · rw [if_neg (fun e => h8 e.symm), if_neg h8]
    by_cases h26 : t = 26
    · subst h26; simp [← h]
    · rw [if_neg (fun e => h26 e.symm), if_neg h26]
      by_cases h25 : t = 25
      · subst h25; simp [← h]
      · rw [if_neg (fun e => h25 e.symm), if_neg h25]
theorem rkRst_tv (fx : SFx) (c : Int) (x : (List Bool) × (List Int)) (t : Nat) : (rkRst fx c x).tv t = if t = 8 then .lf (.int .i64 c) else (ptSt 86 rkPts parBase (upHp (rkHp fx x))).tv t := by
  have e1 : (rkRst fx c x).tv t = if t < 86 then lookT [1, 4, 5, 6, 8] [.lf (.ptr (parBase + 16) 0), .lf (.ptr (parBase + 64) 0), .lf (.ptr (parBase + 80) 0), .lf (.ptr (parBase + 96) 0), .lf (.int .i64 c)] (0 + t) else .lf .undef := spTmps_get _ _ 86 0 t
  have e2 : (ptSt 86 rkPts parBase (upHp (rkHp fx x))).tv t = if t < 86 then lookT [1, 4, 5, 6] [.lf (.ptr (parBase + 16) 0), .lf (.ptr (parBase + 64) 0), .lf (.ptr (parBase + 80) 0), .lf (.ptr (parBase + 96) 0)] (0 + t) else .lf .undef := spTmps_get _ _ 86 0 t
  rw [e1, e2, Nat.zero_add]
  by_cases h8 : t = 8
  · subst h8; rfl
  · rw [if_neg h8]
    split
    · simp only [lookT]
      split; · rfl
      split; · rfl
      split; · rfl
      split; · rfl
      rw [if_neg (fun e => h8 e.symm)]
    · rfl
theorem rk_round (s : SD) (lives : List Bool) (f : rkA s → (List Bool) × (List Int) → (List Bool) × (List Int)) (hf : ∀ y x, rkI s x → rkI s (f y x) ∧ (rkR (sdFx s lives) y.1.2 x).run (fun _ => none) = some (f y x)) (a : Act) (y : rkA s) (x : (List Bool) × (List Int)) (hx : rkI s x) :
    rkI s (f y x) ∧ ∀ l W okr βr, Sim ⟨βr, okr, some l, []⟩ W (ownOf βr (hget (upHp (rkHp (sdFx s lives) x)))) W (rkAct a s y) (rkRst (sdFx s lives) y.1.2 x) βr okr →
      live_reckon_r_code.wpIn (Fw (some l)) 0 pg (OutOK ⟨βr, okr, some l, []⟩ W (ownOf βr (hget (upHp (rkHp (sdFx s lives) x)))) (fun ev => ∃ σ, ev = .norm σ ∧ Weak σ (ptSt 86 [] 0 (upHp (rkHp (sdFx s lives) (f y x)))))) (rkAct a s y) W := by
  obtain ⟨h1, h2⟩ := hf y x hx
  refine ⟨h1, fun l W okr βr S => ?_⟩
  have hcuts := cuts_ok pg_mixed live_reckon_r_To (root := live_reckon_r_code) (len := 86) (ps := live_reckon_r_P) (by kernel_rfl) live_reckon_r_ks (maxQ live_reckon_r_P + 1) 2 (by omega)
  have hsat := RT.sat (r := f y x) (again := fun _ => none) (f := fun _ => PE.norm [] []) (g := fun x' => PE.norm [] (upHp (rkHp (sdFx s lives) x'))) (K := fun p => p = .norm [] (upHp (rkHp (sdFx s lives) (f y x)))) (fun _ h => by cases h) rfl h2
  rw [← rk_body] at hsat
  refine wpIn_mono (evI_sound (π := ⟨βr, okr, some l, []⟩) (root := live_reckon_r_code) pg_mixed live_reckon_r_To live_reckon_r_code 1 0 _ (fun e => ∃ p, rkSee e = some p ∧ p = .norm [] (upHp (rkHp (sdFx s lives) (f y x)))) _ W βr okr (by decide) rfl hcuts S
    (Tree.sat_pt (fun e p h1 h2 => ⟨p, h1, h2⟩) hsat)) ?_
  rintro e a' w' ⟨ev, β', ok', ⟨p, hp, rfl⟩, hev⟩
  refine ⟨ev, β', ok', ?_, hev⟩
  cases ev with
  | norm σ' =>
    obtain ⟨⟨z1, z2⟩, h3, h4⟩ := Option.map_eq_some_iff.1 (show (seeSt _ _ _ σ').map _ = _ from hp)
    have hw := seeSt_weak h3
    cases h4
    exact ⟨σ', rfl, hw⟩
  | ret σ' => cases hp
  | exit i σ' => cases hp
def rkMk (D : Nat) : Deferred := { target := .collected D, args := #[] }
theorem rk_tail (fx : SFx) (x : (List Bool) × (List Int)) {D : Nat} {W : World} (hπ : π.rd = none) (hdf : π.df = []) (hD : w0.heap.size ≤ D) (hdD : W.heap[D]? = some (.deferred (some []))) (S : Sim π w0 own W a (ptSt 86 rkPts 0 (rkHp fx x)) β ok) (ha : a.defers = []) :
    (rkAt 15).wpIn (Fw none) 0 pg (fun e a w => MarkOK π w0 own (RetOK pg f_live_reckon 0 [] (io_live_reckon.res x)) e a w) { a with defers := rkMk D :: a.defers } W := by
  have S1 := S.rebase none [rkMk D] (a' := { a with defers := rkMk D :: a.defers }) rfl (by show rkMk D :: a.defers = _; rw [ha])
  have hsat : ((rkE 15 (ptSt 86 rkPts 0 (rkHp fx x))).pt rkSeeR).sat (fun p => p = .ret [.lf (.ref 240), .lf (.ref 304)] (rkHp fx x)) := by
    rw [rk_t]; exact PT.rq_sat 4 rfl
  refine wpIn_mono (evI_sound (π := ⟨β, ok, none, [rkMk D]⟩) (root := codeOf f_live_reckon) (L := fun _ _ => none) pg_mixed rkTo (rkAt 15) 15 80 _ (fun e => ∃ p, rkSeeR e = some p ∧ p = .ret [.lf (.ref 240), .lf (.ref 304)] (rkHp fx x)) _ W β ok (by decide) rk_at15 (noCuts _ _) S1
    (Tree.sat_pt (fun e p h1 h2 => ⟨p, h1, h2⟩) hsat)) ?_
  rintro e a' w' ⟨ev, β', ok', ⟨p, hp, rfl⟩, hev⟩
  cases ev with
  | norm σ' => cases hp
  | exit i σ' => cases hp
  | ret σ' =>
    obtain ⟨⟨z1, z2⟩, h3, h4⟩ := Option.map_eq_some_iff.1 (show (seeSt _ _ _ σ').map _ = _ from hp)
    have hw := seeSt_weak h3
    cases h4
    obtain ⟨rfl, S2⟩ := hev
    obtain ⟨β3, ok3, S3⟩ := hw _ _ _ _ _ _ _ S2
    have S4 : Sim π w0 own w' { a' with defers := [] } (spSt 86 [2, 3] [.lf (.ref 240), .lf (.ref 304)] (rkHp fx x)) β3 ok3 := S.back S3 rfl (by rw [hdf])
    have hpl : ∀ t, plainTV ((spSt 86 [2, 3] [.lf (.ref 240), .lf (.ref 304)] (rkHp fx x)).tv t) := fun t => by
      have e1 : (spSt 86 [2, 3] [.lf (.ref 240), .lf (.ref 304)] (rkHp fx x)).tv t = if t < 86 then lookT [2, 3] [.lf (.ref 240), .lf (.ref 304)] (0 + t) else .lf .undef := spTmps_get _ _ 86 0 t
      rw [e1]
      split
      · simp only [lookT]
        split; · trivial
        split <;> trivial
      · trivial
    have S5 := S4.norm hpl
    have hlt : D < W.heap.size := (Array.getElem?_eq_some_iff.1 hdD).1
    have hD' : w'.heap[D]? = some (.deferred (some [])) := by
      rw [S3.inv.fr.block D hlt fun ⟨id, e, v, h5, h6, h7, h8⟩ => ?_]
      · exact hdD
      · obtain ⟨o, h9, h10⟩ := (S.inv.ent id e h5).at (rkHp_ids fx x id e h5).2.1 h7 h8
        rw [hdD] at h9; cases h9; cases h10
    obtain ⟨S6, _⟩ := S5.grown (fun b hb => hb.2) (grownBy_putObj' w' D (.deferred none)) (fun r hr => by cases hr; exact ⟨hD, _, hD', rfl⟩)
    refine ⟨rfl, D, _, _, _, ?_, S3.def0, hD', S6⟩
    have ho := rk_o fx x
    obtain ⟨r', h7, h8⟩ := Option.map_eq_some_iff.1 (show ((weaken [] (spSt 86 [2, 3] [.lf (.ref 240), .lf (.ref 304)] (rkHp fx x))).bind (outOf pg f_live_reckon 0 false)).map PE.out = _ from ho)
    cases h8
    obtain ⟨σ3, h9, h10⟩ := Option.bind_eq_some_iff.1 h7
    exact ⟨σ3, h9, _, h10, rfl, rfl, rfl⟩
theorem rk_callFunc (args : Array Value) (w : World) : (callFunc 210 args).run pg w = .ok (.enter 210 args) w := by
  have h1 : pg.funcs[210]? = some f_slices_Backward_int_int_1 := by kernel_rfl
  have h2 : f_slices_Backward_int_int_1.body.isSome = true := by kernel_rfl
  have h3 : (f_slices_Backward_int_int_1.name == "runtime.NumGoroutine") = false := by kernel_rfl
  have hb2 : f_slices_Backward_int_int_1.body ≠ none := by intro h; rw [h] at h2; cases h2
  have hn2 : f_slices_Backward_int_int_1.name ≠ "runtime.NumGoroutine" := by simpa using h3
  simp [callFunc, h1, hn2, hb2]
theorem rk_call (s : SD) (lives : List Bool) (ord : List Int) (f : rkA s → (List Bool) × (List Int) → (List Bool) × (List Int)) (hlive : sdLiveOK s = true) (hlv : lives = sdLive s) (hord : sdOrdOK s = true) (hov : ord = sdOrd s)
    (hm1 : mkOK 1 (s.2.1.length : Int) = true) (hm2 : mkOK 8 (s.1.length : Int) = true) (hlen : ord.length * 8 ≤ 140737488351232) (hP : ∀ j, j < ord.length → rkP s (j, ord[j]?.getD 0)) (hR0 : rkI s (rkX0 s))
    (hf : ∀ y x, rkI s x → rkI s (f y x) ∧ (rkR (sdFx s lives) y.1.2 x).run (fun _ => none) = some (f y x)) :
    CallOK pg n_live_reckon (io_live_reckon.as s) (io_live_reckon.es s) (io_live_reckon.res ((Bw.listP (rkP s) ord hP).foldl (fun x y => f y x) (rkX0 s))) := by
  have hfn : pg.funcs[n_live_reckon]? = some f_live_reckon := by kernel_rfl
  have hbody : f_live_reckon.body = some (codeOf f_live_reckon) := by kernel_rfl
  have hnt : f_live_reckon.ntmps = 86 := by kernel_rfl
  refine fnSoundM hfn hbody [] fun π w0 own a w β ok hrd hdf S => ?_
  rw [hnt] at S
  rw [rk_code]
  refine wpIn_seq (rk_step (by decide) rk_at2 S (rk_r0 s) (K := fun vs hp => vs = [.lf (.ptr 16 0)] ∧ hp = [(16, ⟨true, .cells (sdLs s)⟩)]) (PT.rq_sat 3 ⟨_, _, rfl, rfl, rfl⟩) ?_)
  rintro _ _ a1 w1 β1 ok1 ⟨rfl, rfl⟩ S1
  refine wpIn_seq (rk_step (by decide) rk_at6 S1 (rk_r1 s) (K := fun vs hp => vs = [.lf (.ptr 16 0), .lf (.ptr 64 0), .lf (.ptr 80 0), .lf (.ptr 96 0)] ∧ hp = rkHp (sdFx s lives) (rkX0 s)) ?_ ?_)
  · refine RT.sat (r := lives) (again := fun _ => none) (fun _ h => by cases h) ⟨_, _, rfl, rfl, rfl⟩ ?_
    simp only [RT.run, hm1, hm2, hlive, hlv, if_true]
  rintro _ _ a2 w2 β2 ok2 ⟨rfl, rfl⟩ S2
  refine wpIn_seq (wpIn_seq (rk_step (by decide) rk_at28 (S2 : Sim π w0 own w2 a2 (ptSt 86 rkPts 0 (rkHp (sdFx s lives) (rkX0 s))) β2 ok2) (rk_r2 s lives)
    (K := fun vs hp => vs = [.lf (.ptr 16 0), .lf (.ptr 64 0), .lf (.ptr 80 0), .lf (.ptr 96 0), .lf (.fn 210 [385])] ∧ hp = rkHp (sdFx s lives) (rkX0 s) ++ [(385, ⟨true, .cells [.dat tI ord]⟩)]) ?_ ?_))
  · refine RT.sat (r := ord) (again := fun _ => none) (fun _ h => by cases h) ⟨_, _, rfl, rfl, rfl⟩ ?_
    simp only [RT.run, hord, hov, if_true]
  rintro _ _ a3 w3 β3 ok3 ⟨rfl, rfl⟩ S3
  have ha3 : a3.defers = [] := S3.def0.trans hdf
  have hsz : 86 = a3.tmps.size := by rw [S3.size]; exact (spTmps_length ..).symm
  have tv3 : ∀ t, (spSt 86 [1, 4, 5, 6, 24] [.lf (.ptr 16 0), .lf (.ptr 64 0), .lf (.ptr 80 0), .lf (.ptr 96 0), .lf (.fn 210 [385])] (rkHp (sdFx s lives) (rkX0 s) ++ [(385, ⟨true, .cells [.dat tI ord]⟩)])).tv t =
      if t = 24 then .lf (.fn 210 [385]) else (ptSt 86 rkPts 0 (rkHp (sdFx s lives) (rkX0 s))).tv t := fun t => by
    have e1 : (spSt 86 [1, 4, 5, 6, 24] [.lf (.ptr 16 0), .lf (.ptr 64 0), .lf (.ptr 80 0), .lf (.ptr 96 0), .lf (.fn 210 [385])] (rkHp (sdFx s lives) (rkX0 s) ++ [(385, ⟨true, .cells [.dat tI ord]⟩)])).tv t =
      if t < 86 then lookT [1, 4, 5, 6, 24] [.lf (.ptr 16 0), .lf (.ptr 64 0), .lf (.ptr 80 0), .lf (.ptr 96 0), .lf (.fn 210 [385])] (0 + t) else .lf .undef := spTmps_get _ _ 86 0 t
    have e2 : (ptSt 86 rkPts 0 (rkHp (sdFx s lives) (rkX0 s))).tv t = if t < 86 then lookT [1, 4, 5, 6] [.lf (.ptr 16 0), .lf (.ptr 64 0), .lf (.ptr 80 0), .lf (.ptr 96 0)] (0 + t) else .lf .undef := spTmps_get _ _ 86 0 t
    rw [e1, e2, Nat.zero_add]
    by_cases h8 : t = 24
    · subst h8; rfl
    · rw [if_neg h8]
      split
      · simp only [lookT]
        split; · rfl
        split; · rfl
        split; · rfl
        split; · rfl
        rw [if_neg (fun e => h8 e.symm)]
      · rfl
  have hk385 : hget (rkHp (sdFx s lives) (rkX0 s)) 385 = none := by
    cases h : hget (rkHp (sdFx s lives) (rkX0 s)) 385 with
    | none => rfl
    | some e => exact absurd (rkHp_ids _ _ _ _ h).1 (by decide)
  have hget385 : hget (rkHp (sdFx s lives) (rkX0 s) ++ [(385, ⟨true, .cells [.dat tI ord]⟩)]) 385 = some ⟨true, .cells [.dat tI ord]⟩ := rfl
  have t24 := S3.tmps 24
  rw [tv3, if_pos rfl] at t24
  obtain ⟨vs, hv24, hcaps⟩ := t24
  obtain ⟨cv, rfl, g, hβg, hcv⟩ : ∃ cv, vs = [cv] ∧ ∃ b, β3 385 = some (.pointer (some ⟨b, 0, none⟩)) ∧ cv = .pointer (some ⟨b, 0, none⟩) := by
    match vs, hcaps with
    | [cv], ⟨⟨b, h1, h2⟩, _⟩ => exact ⟨cv, rfl, b, h1, h2⟩
    | [], h => exact h.elim
    | _ :: _ :: _, ⟨_, h⟩ => exact h.elim
  subst hcv
  obtain ⟨g', cs, et, h1, h2, h3⟩ := S3.inv.ent 385 _ hget385
  rw [hβg] at h1
  cases h1
  obtain ⟨sv, hcs, hsv⟩ : ∃ sv, cs.toList = [sv] ∧ RepD w3 ok3 (.sl tI) [sv] ord := by
    generalize cs.toList = q at h3
    match q, h3 with
    | [u], ⟨h, _⟩ => exact ⟨u, rfl, h⟩
    | [], h => exact h.elim
    | _ :: _ :: _, ⟨_, h⟩ => exact h.elim
  have hcell : w3.cell? ⟨g, 0, none⟩ = some sv := by
    rw [show (⟨g, 0, none⟩ : Addr) = ⟨g, 0, none⟩ from rfl, cell_of_row w3 g 0 cs et (0, 0) h2]
    have : cs.toList[0]? = some sv := by rw [hcs]; rfl
    simpa using this
  let Z : Nat → Prop := fun k => k = g ∨ (ok3 k ∧ ∃ o n c, sv = .slice (some ⟨k, o, none⟩) n c)
  have hZlt : ∀ b, Z b → b < w3.heap.size := fun b hb => by
    rcases hb with rfl | ⟨hb, _⟩
    · exact (Array.getElem?_eq_some_iff.1 h2).1
    · exact S3.inv.okLt b hb
  have hints : Bw.Ints Z w3 sv ord := by
    obtain ⟨A, cap, he, k1, k2, k0, k3⟩ := hsv
    cases he
    by_cases hn : ord = []
    · exact .inl ⟨A, cap, by rw [hn]; rfl, hn⟩
    · have hpos : 0 < ord.length := List.length_pos_iff.2 hn
      obtain ⟨b, o, us, hA, hb, _⟩ := k3 0 hpos
      subst hA
      refine .inr ⟨b, o, cap, rfl, .inr ⟨hb, _, _, _, rfl⟩, fun j hj => ?_⟩
      obtain ⟨b', o', us', hA', _, hul, hm, hd⟩ := k3 j hj
      cases hA'
      obtain ⟨hus, _⟩ := hd
      subst hus
      have := hm 0 _ rfl
      rw [List.getElem?_eq_getElem hj]
      rw [show o + j * tI.size + 0 = o + j by show o + j * 1 + 0 = o + j; omega] at this
      simpa using this
  let β0 : Nat → Option Value := fun j => if j = 385 then none else β3 j
  have I0 : Inv w0 own w3 β0 ok3 (hget (rkHp (sdFx s lives) (rkX0 s))) := S3.inv.drop hk385 fun id e h hc => absurd ((rkHp_ids _ _ _ _ h).2.2 _ hc) (by decide)
  have S0 : Sim π w0 own w3 a3 (ptSt 86 rkPts 0 (rkHp (sdFx s lives) (rkX0 s))) β0 ok3 := by
    refine ⟨I0, fun t => ?_, hsz.symm.trans (spTmps_length ..).symm, S3.def0, fun id v h4 h5 => ?_, S3.okB⟩
    · have ht := S3.tmps t
      rw [tv3] at ht
      rcases ptSt_tv (N := 86) (pts := rkPts) (up := 0) (hp := rkHp (sdFx s lives) (rkX0 s)) t with h4 | ⟨p, hp, hpt, h4⟩
      · rw [h4]; trivial
      · have hne : t ≠ 24 := by
          simp only [rkPts, List.mem_cons, List.not_mem_nil, or_false] at hp
          rcases hp with rfl | rfl | rfl | rfl <;> (subst hpt; decide)
        rw [if_neg hne, h4] at ht
        rw [h4]
        obtain ⟨b, h5, h6⟩ := ht
        refine ⟨b, ?_, h6⟩
        have : 0 + p.2 ≠ 385 := by
          simp only [rkPts, List.mem_cons, List.not_mem_nil, or_false] at hp
          rcases hp with rfl | rfl | rfl | rfl <;> decide
        show (if 0 + p.2 = 385 then none else β3 (0 + p.2)) = _
        rw [if_neg this]; exact h5
    · have h5 : (if id = 385 then none else β3 id) = some v := h5
      split at h5
      · cases h5
      · exact S3.pin id v h4 h5
  rw [hrd]
  refine wpIn_block ?_
  rw [rk_58]
  refine wpR_n (n := 2) (range_wp (lb := #[.pointer (some ⟨g, 0, none⟩)]) (L := Bw.listP (rkP s) ord hP) (N := 86) (pts := rkPts) (hp := rkHp (sdFx s lives)) (f := f) (R := rkI s) (Z := Z) (rst := fun y x => rkRst (sdFx s lives) y.1.2 x) (a₁ := rkAct a3 s) (n := ord.length)
    (encs := fun x : rkA s => #[Value.int .i64 (x.1.1 : Int), Value.int .i64 x.1.2]) S0 (fun x id e h => ?_) (fun x id e h => (rkHp_ids _ _ _ _ h).2.1) (fun p hp x => ?_) hv24 rk_callFunc (fun b hb => ⟨hZlt b hb, ?_⟩)
    (Bw.stops (Fw none) 1 trivial rfl (by decide) g Z sv ord hlen w3 (.inl rfl) hZlt hcell hints (rkP s) hP) (fun _ => rfl) (fun l y W K hK => rk_assign s l y W K hsz hK) (fun y => ⟨by simp [rkAct, ← hsz], rfl⟩) (fun y x => ⟨spTmps_length .., rfl⟩) ?_ hR0 (fun y x hx => rk_round s lives f hf a3 y x hx) ?_)
  · obtain ⟨h4, _, h5⟩ := rkHp_ids _ _ _ _ h
    exact ⟨Nat.lt_trans h4 (by decide), fun j hj => Nat.lt_trans (h5 j hj) (by decide)⟩
  · simp only [rkPts, List.mem_cons, List.not_mem_nil, or_false] at hp
    rcases hp with rfl | rfl | rfl | rfl <;> rfl
  · -- what is read is not what is written
    rintro ⟨id, e, v, h4, h5, h6, h7⟩
    have h6' : (if id = 385 then none else β3 id) = some v := h6
    split at h6'
    · cases h6'
    rename_i hne
    rcases hb with rfl | ⟨hb, _⟩
    · have hup : hget (rkHp (sdFx s lives) (rkX0 s) ++ [(385, ⟨true, .cells [.dat tI ord]⟩)]) id = some e := by
        have hm := hget_mem h4
        simp only [rkHp, sdFx, List.mem_cons, Prod.mk.injEq, List.not_mem_nil, or_false] at hm
        rcases hm with ⟨rfl, rfl⟩ | ⟨rfl, rfl⟩ | ⟨rfl, rfl⟩ | ⟨rfl, rfl⟩ | ⟨rfl, rfl⟩ | ⟨rfl, rfl⟩ | ⟨rfl, rfl⟩ <;> rfl
      exact S3.inv.sep id e v 385 _ _ b hne hup hget385 h5 rfl h6' hβg h7 rfl
    · exact (I0.wr id e v b h4 h5 h6 h7).1 hb
  · -- the round's frame
    intro y x W β' ok' ht t
    have h0 := ht t
    rw [rkRst_tv, rk_getD s y hsz]
    by_cases h8 : t = 8
    · subst h8; rw [if_pos rfl, if_pos rfl]; exact ⟨rfl, y.2.2.1⟩
    · rw [if_neg h8, if_neg h8]
      rcases ptSt_tv (N := 86) (pts := rkPts) (up := parBase) (hp := upHp (rkHp (sdFx s lives) x)) t with h4 | ⟨p, hp, hpt, h4⟩
      · rw [h4]; trivial
      · have hne : t ≠ 26 ∧ t ≠ 25 := by
          simp only [rkPts, List.mem_cons, List.not_mem_nil, or_false] at hp
          rcases hp with rfl | rfl | rfl | rfl <;> (subst hpt; exact ⟨by decide, by decide⟩)
        rw [if_neg hne.1, if_neg hne.2]
        exact h0
  · -- behind the loop
    intro D W β4 ok4 hD hdD S4 _
    refine wpIn_mono (rk_tail (sdFx s lives) _ hrd hdf (Nat.le_trans S3.inv.fr.size hD) hdD S4 ha3) fun e a' w' h => .inr h
end
end
end Go.Proofs.YtlfdidaeachpoaaGreat

namespace Go.Proofs.YtlfdidaeachpoaaGreat
open Go Go.RowKit
set_option maxRecDepth 100000
noncomputable section
def rkCnt (b : List Tk) (lives cnt : List Bool) (am : List Int) (k : Int) : List Bool :=
  if (gI b k).2.2.2.1 == 1 then sI cnt k ((gI b k).2.2.2.2.2 && gI lives (gI b k).2.2.2.2.1)
  else if (gI b k).2.2.2.1 == 2 then sI cnt k ((gI b k).2.2.2.2.2 && decide (0 < gI am (gI b k).2.2.2.2.1)) else cnt
def rkStep (b : List Tk) (lives : List Bool) (c : Int) (x : (List Bool) × (List Int)) (k : Int) : (List Bool) × (List Int) :=
  (rkCnt b lives x.1 x.2 k, if gI (rkCnt b lives x.1 x.2 k) k then sI x.2 c (w64 (gI x.2 c + (gI b k).2.2.1)) else x.2)
def rkRound (b : List Tk) (lives : List Bool) (c : Int) (x : (List Bool) × (List Int)) : (List Bool) × (List Int) := (issued b c).foldl (rkStep b lives c) x
def tkOK (a b : Nat) (t : Tk) : Bool := !t.1 || ((!(t.2.2.2.1 == 1) || (decide (0 ≤ t.2.2.2.2.1) && decide (t.2.2.2.2.1 < (b : Int)))) && (!(t.2.2.2.1 == 2) || (decide (0 ≤ t.2.2.2.2.1) && decide (t.2.2.2.2.1 < (a : Int)))))
theorem rkCnt_length (b : List Tk) (lives cnt : List Bool) (am : List Int) (k : Int) : (rkCnt b lives cnt am k).length = cnt.length := by
  unfold rkCnt; split
  · simp [sI]
  · split <;> simp [sI]
theorem issued_mem {b : List Tk} {c k : Int} (h : k ∈ issued b c) : 0 ≤ k ∧ k < (b.length : Int) ∧ (gI b k).1 = true ∧ (gI b k).2.1 = c := by
  obtain ⟨j, hj, rfl⟩ := List.mem_map.1 h
  obtain ⟨h1, h2⟩ := List.mem_filter.1 hj
  rw [List.mem_range] at h1
  unfold isTk at h2
  rw [gI_nat]
  simp only [Bool.and_eq_true, beq_iff_eq] at h2
  exact ⟨by omega, by omega, h2⟩
theorem rk_loop (b : List Tk) (lives : List Bool) (c : Int) {na nb : Nat} (hb : b.length ≤ 1000000) (hok : b.all (tkOK na nb) = true) (hlv : lives.length = nb) (hc : 0 ≤ c ∧ c < (na : Int)) (hl : (issued b c).length ≤ 1000000) : ∀ (d i : Nat) (x : (List Bool) × (List Int)), i + d = (issued b c).length → x.1.length = b.length → x.2.length = na →
    lo live_reckon_r_b10 (c, ((issued b c).length : Int), b, lives, issued b c) ((i : Int), x.1, x.2) = some (((issued b c).drop i).foldl (rkStep b lives c) x)
  | 0, i, x, h, _, _ => by
    rw [lo_eq, live_reckon_r_b10]
    simp only [RT.run]
    rw [if_neg (by simp; omega), List.drop_eq_nil_of_le (by omega)]
    rfl
  | d + 1, i, x, h, h1, h2 => by
    have hi : i < (issued b c).length := by omega
    obtain ⟨k0, k1, k2, k3⟩ := issued_mem (List.getElem_mem hi)
    generalize hk : (issued b c)[i] = k at *
    have hkb : inB b k = true := inB_iff.2 ⟨k0, k1⟩
    have hkx : inB x.1 k = true := inB_iff.2 ⟨k0, by rw [h1]; exact k1⟩
    have hcx : inB x.2 c = true := inB_iff.2 ⟨hc.1, by rw [h2]; exact hc.2⟩
    have htk : tkOK na nb (gI b k) = true := by
      obtain ⟨j, rfl⟩ := Int.eq_ofNat_of_zero_le k0
      rw [gI_lt (by omega)]
      exact List.all_eq_true.1 hok _ (List.getElem_mem _)
    unfold tkOK at htk
    rw [k2] at htk
    simp only [Bool.not_true, Bool.false_or, Bool.and_eq_true, Bool.or_eq_true, Bool.not_eq_true', beq_eq_false_iff_ne, decide_eq_true_eq] at htk
    have hcnt : on live_reckon_r_b2662 (k, x.1, x.2, lives, (gI b k).2.2.2.1, (gI b k).2.2.2.2.1, (gI b k).2.2.2.2.2) = some (rkCnt b lives x.1 x.2 k) := by
      show (live_reckon_r_b2662 _).run _ = _
      rw [live_reckon_r_b2662]
      simp only [RT.run]
      unfold rkCnt
      by_cases q1 : (gI b k).2.2.2.1 = 1
      · have q1' : ((gI b k).2.2.2.1 == 1) = true := by simpa using q1
        have hin : inB lives (gI b k).2.2.2.2.1 = true := inB_iff.2 (by
          rcases htk.1 with h | h
          · exact absurd q1 h
          · rw [hlv]; exact h)
        rw [if_pos q1', if_pos q1']
        have : on live_reckon_r_b42602 (k, x.1, lives, (gI b k).2.2.2.2.1, (gI b k).2.2.2.2.2) = some (sI x.1 k ((gI b k).2.2.2.2.2 && gI lives (gI b k).2.2.2.2.1)) := by
          show (live_reckon_r_b42602 _).run _ = _
          rw [live_reckon_r_b42602]
          simp only [RT.run]
          cases (gI b k).2.2.2.2.2 with
          | true => rw [if_pos rfl, if_pos hin, if_pos hkx, Bool.true_and]
          | false => rw [if_neg (by simp), if_pos hkx, Bool.false_and]
        rw [this]; rfl
      · have q1' : ¬ ((gI b k).2.2.2.1 == 1) = true := by simpa using q1
        rw [if_neg q1', if_neg q1']
        by_cases q2 : (gI b k).2.2.2.1 = 2
        · have q2' : ((gI b k).2.2.2.1 == 2) = true := by simpa using q2
          have hin : inB x.2 (gI b k).2.2.2.2.1 = true := inB_iff.2 (by
            rcases htk.2 with h | h
            · exact absurd q2 h
            · rw [h2]; exact h)
          rw [if_pos q2', if_pos q2']
          have : on live_reckon_r_b170414 (k, x.1, x.2, (gI b k).2.2.2.2.1, (gI b k).2.2.2.2.2) = some (sI x.1 k ((gI b k).2.2.2.2.2 && decide (0 < gI x.2 (gI b k).2.2.2.2.1))) := by
            show (live_reckon_r_b170414 _).run _ = _
            rw [live_reckon_r_b170414]
            simp only [RT.run]
            cases (gI b k).2.2.2.2.2 with
            | true => rw [if_pos rfl, if_pos hin, if_pos hkx, Bool.true_and]
            | false => rw [if_neg (by simp), if_pos hkx, Bool.false_and]
          rw [this]; rfl
        · have q2' : ¬ ((gI b k).2.2.2.1 == 2) = true := by simpa using q2
          rw [if_neg q2', if_neg q2']
    have hgk : gI (issued b c) (i : Int) = k := by rw [gI_lt hi, hk]
    have hin4 : inB (rkCnt b lives x.1 x.2 k) k = true := inB_iff.2 ⟨k0, by rw [rkCnt_length, h1]; exact k1⟩
    rw [lo_eq, live_reckon_r_b10]
    simp only [RT.run]
    rw [if_pos (by simp; omega), if_pos (inB_iff.2 ⟨by omega, by omega⟩), hgk, if_pos hkb, hcnt, Option.bind_some, if_pos hin4, w64_in (by omega), show (i : Int) + 1 = ((i + 1 : Nat) : Int) by omega, List.drop_eq_getElem_cons hi, List.foldl_cons, hk]
    by_cases hv : gI (rkCnt b lives x.1 x.2 k) k = true
    · rw [if_pos hv, if_pos hcx, if_pos hcx]
      have := rk_loop b lives c hb hok hlv hc hl d (i + 1) (rkStep b lives c x k) (by omega) (by rw [rkStep, rkCnt_length, h1]) (by simp only [rkStep, if_pos hv, sI, List.length_set]; exact h2)
      simp only [rkStep, if_pos hv] at this ⊢
      exact this
    · rw [if_neg hv]
      have := rk_loop b lives c hb hok hlv hc hl d (i + 1) (rkStep b lives c x k) (by omega) (by rw [rkStep, rkCnt_length, h1]) (by simp only [rkStep, if_neg hv]; exact h2)
      simp only [rkStep, if_neg hv] at this ⊢
      exact this
theorem rkFold_len {b : List Tk} {lives : List Bool} {c : Int} : ∀ (l : List Int) (x : (List Bool) × (List Int)), (l.foldl (rkStep b lives c) x).1.length = x.1.length ∧ (l.foldl (rkStep b lives c) x).2.length = x.2.length
  | [], _ => ⟨rfl, rfl⟩
  | k :: l, x => by
    obtain ⟨h1, h2⟩ := rkFold_len (b := b) (lives := lives) (c := c) l (rkStep b lives c x k)
    rw [List.foldl_cons]
    refine ⟨h1.trans (by rw [rkStep, rkCnt_length]), h2.trans ?_⟩
    simp only [rkStep]
    split <;> simp [sI]
theorem kahn_len (m : Nat) (l : List (Int × Int)) : (ordV m l).2.length ≤ m := by
  unfold ordV
  cases h : kahn m l m [] with
  | none => simp
  | some o => have := kahn_length h; simp at this; show o.length ≤ m; omega
def reckV (s : SD) : (List Bool) × (List Int) := (sdOrd s).reverse.foldl (fun x c => rkRound s.2.1 (sdLive s) c x) (rkX0 s)
def reckOK (s : SD) : Bool := sdLiveOK s && (sdOrdOK s && s.2.1.all (tkOK s.1.length s.2.2.1.length))
def e_live_reckon : Entry := io_live_reckon.sp reckOK reckV
theorem issued_len (b : List Tk) (c : Int) : (issued b c).length ≤ b.length := by
  unfold issued
  rw [List.length_map]
  exact Nat.le_trans (List.length_filter_le ..) (by simp)
theorem reck_call (s : SD) (hc : reckOK s = true) : CallOK pg n_live_reckon (io_live_reckon.as s) (io_live_reckon.es s) (io_live_reckon.res (reckV s)) := by
  unfold reckOK at hc
  simp only [Bool.and_eq_true] at hc
  obtain ⟨hl, ho, ht⟩ := hc
  have ho' := ho
  have hl' := hl
  simp only [sdOrdOK, sdLiveOK, Bool.and_eq_true, decide_eq_true_eq] at ho' hl'
  have hlv : (sdLive s).length = s.2.2.1.length := by simp [sdLive, liveV]
  have hord : (sdOrd s).length ≤ s.1.length := by
    unfold sdOrd fordV
    exact Nat.le_trans (List.length_filter_le ..) (kahn_len _ _)
  have hin : inR s.1.length (sdOrd s) := fun k hk => (ordV_out _ _).inr k (List.mem_filter.1 hk).1
  have hP : ∀ j, j < (sdOrd s).length → rkP s (j, (sdOrd s)[j]?.getD 0) := fun j hj => by
    have hk := hin _ (List.getElem_mem hj)
    rw [List.getElem?_eq_getElem hj]
    have h1 : IntKind.i64.min = -9223372036854775808 := by decide
    have h2 : IntKind.i64.max = 9223372036854775807 := by decide
    refine ⟨wf_iff.2 (by rw [h1, h2]; simp only; omega), wf_iff.2 (by rw [h1, h2]; simp only [Option.getD_some]; omega), hk.1, hk.2⟩
  have := rk_call s (sdLive s) (sdOrd s) (fun y x => rkRound s.2.1 (sdLive s) y.1.2 x) hl rfl ho rfl (mkOK_iff.2 ⟨by omega, by omega, by omega⟩) (mkOK_iff.2 ⟨by omega, by omega, by omega⟩) (by omega) hP ⟨by simp [rkX0, repI], by simp [rkX0, repI]⟩ (fun y x hx => ?_)
  · have hfold : (Bw.listP (rkP s) (sdOrd s) hP).foldl (fun x y => rkRound s.2.1 (sdLive s) y.1.2 x) (rkX0 s) = reckV s := by
      unfold reckV
      rw [← Bw.list_snd, ← Bw.listP_val (p := rkP s) (hp := hP), List.map_map, List.foldl_map]
      rfl
    exact Eq.mp (congrArg (fun z : (List Bool) × (List Int) => CallOK pg n_live_reckon (io_live_reckon.as s) (io_live_reckon.es s) (io_live_reckon.res z)) hfold) this
  · obtain ⟨h1, h2⟩ := hx
    obtain ⟨h3, h4⟩ := rkFold_len (b := s.2.1) (lives := sdLive s) (c := y.1.2) (issued s.2.1 y.1.2) x
    refine ⟨⟨h3.trans h1, h4.trans h2⟩, ?_⟩
    obtain ⟨a, b, c, d, e, f⟩ := s
    obtain ⟨x1, x2⟩ := x
    show (live_reckon_r (y.1.2, a, b, c, d, e, f, x1, x2, sdLive (a, b, c, d, e, f))).run _ = _
    rw [live_reckon_r]
    simp only [RT.run]
    have hil := issued_len b y.1.2
    have := rk_loop b (sdLive (a, b, c, d, e, f)) y.1.2 (na := a.length) (nb := c.length) ho'.1 ht hlv ⟨y.2.2.2.1, y.2.2.2.2⟩ (Nat.le_trans hil ho'.1) (issued b y.1.2).length 0 (x1, x2) (by omega) h1 h2
    rw [show ((0 : Nat) : Int) = 0 from rfl] at this
    rw [if_pos (decide_eq_true ho'.1), this]
    rfl
theorem e_live_reckon_ok : e_live_reckon.ok pg := Entry.data_ok fun args es r h hv => by
  unfold Io.spAns at h
  simp only at h
  split at h
  case h_2 => cases h
  rename_i x hx
  cases h
  obtain ⟨h1, h2⟩ := Io.rd_as hx
  rw [← h1, ← h2]
  exact ⟨⟨f_live_reckon, by kernel_rfl, by kernel_rfl, by kernel_rfl⟩, CallOK.vc (reck_call x hv)⟩
end
end Go.Proofs.YtlfdidaeachpoaaGreat

namespace Go.Proofs.YtlfdidaeachpoaaGreat
open Go Go.RowKit
set_option maxRecDepth 100000
noncomputable section
def live_Tickets : ((List Bool) × (List Tk) × (List Th) × (List Lk) × (List Int) × Int) → RT Unit (List Bool)
| (s_0, s_1, s_2, s_3, s_4, s_5) =>
 .rq 3 (.req ((reckOK (s_0, s_1, s_2, s_3, s_4, s_5))) (.rq 7 (.done ((reckV (s_0, s_1, s_2, s_3, s_4, s_5))).1)))
def F_live_Tickets (x : (List Bool) × (List Tk) × (List Th) × (List Lk) × (List Int) × Int) : Option (List Bool) := (live_Tickets x).run fun _ => none
def io_live_Tickets : Io := ⟨n_live_Tickets, [.sl tB, .sl yK, .sl yH, .sl yL, .sl tI, tI], [.agg [qm 0, qm 1, qm 2, qm 3, qm 4, qm 5]], [], [[.sl tB, .sl yK, .sl yH, .sl yL, .sl tI, tI]], [.sl tB], .lf (qr 0), [], [(true, .arr 4 (qm 0))], false⟩
def live_Tickets_P : List Piece := []
def live_Tickets_T : CallT := tab [e_live_reckon]
theorem live_Tickets_To : SoundT pg live_Tickets_T := tab_sound ⟨e_live_reckon_ok, trivial⟩
theorem live_Tickets_go : FnOK pg (live_Tickets_T) io_live_Tickets f_live_Tickets (live_Tickets_P) [.nilRow 2 800002 4 tB, .ren 2 700002, .ren 2 900002] (live_Tickets) := ⟨by kernel_rfl, by kernel_rfl, fun x => by kernel_rfl⟩
theorem ok_live_Tickets : io_live_Tickets.Okay pg (F_live_Tickets) := fn_ok pg_mixed (live_Tickets_To) (live_Tickets_go) trivial
def e_live_Tickets : Entry := io_live_Tickets.sp (fun (a, b, c, d, e, f) => (reckOK (a, b, c, d, e, f))) (fun (a, b, c, d, e, f) => ((reckV (a, b, c, d, e, f)).1))
theorem sp_live_Tickets (h : ∀ (a : List Bool) (b : List Tk) (c : List Th) (d : List Lk) (e : List Int) (f : Int), WfT [.sl tB, .sl yK, .sl yH, .sl yL, .sl tI, tI] (a, b, c, d, e, f) → ((reckOK (a, b, c, d, e, f))) = true → (live_Tickets (a, b, c, d, e, f)).run (fun _ => none) = some ((reckV (a, b, c, d, e, f)).1)) : e_live_Tickets.ok pg := sp_ok ok_live_Tickets fun (a, b, c, d, e, f) hw hc => h a b c d e f hw hc
theorem e_live_Tickets_ok : e_live_Tickets.ok pg := sp_live_Tickets fun a b c d e f _ hc => by
  rw [live_Tickets]
  simp only [RT.run]
  rw [if_pos hc]
def live_Amounts : ((List Bool) × (List Tk) × (List Th) × (List Lk) × (List Int) × Int) → RT Unit (List Int)
| (s_0, s_1, s_2, s_3, s_4, s_5) =>
 .rq 3 (.req ((reckOK (s_0, s_1, s_2, s_3, s_4, s_5))) (.rq 7 (.done ((reckV (s_0, s_1, s_2, s_3, s_4, s_5))).2)))
def F_live_Amounts (x : (List Bool) × (List Tk) × (List Th) × (List Lk) × (List Int) × Int) : Option (List Int) := (live_Amounts x).run fun _ => none
def io_live_Amounts : Io := ⟨n_live_Amounts, [.sl tB, .sl yK, .sl yH, .sl yL, .sl tI, tI], [.agg [qm 0, qm 1, qm 2, qm 3, qm 4, qm 5]], [], [[.sl tB, .sl yK, .sl yH, .sl yL, .sl tI, tI]], [.sl tI], .lf (qr 0), [], [(true, .arr 3 (qm 0))], false⟩
def live_Amounts_P : List Piece := []
def live_Amounts_T : CallT := tab [e_live_reckon]
theorem live_Amounts_To : SoundT pg live_Amounts_T := tab_sound ⟨e_live_reckon_ok, trivial⟩
theorem live_Amounts_go : FnOK pg (live_Amounts_T) io_live_Amounts f_live_Amounts (live_Amounts_P) [.nilRow 2 800002 3 tI, .ren 2 700002, .ren 2 900002] (live_Amounts) := ⟨by kernel_rfl, by kernel_rfl, fun x => by kernel_rfl⟩
theorem ok_live_Amounts : io_live_Amounts.Okay pg (F_live_Amounts) := fn_ok pg_mixed (live_Amounts_To) (live_Amounts_go) trivial
def e_live_Amounts : Entry := io_live_Amounts.sp (fun (a, b, c, d, e, f) => (reckOK (a, b, c, d, e, f))) (fun (a, b, c, d, e, f) => ((reckV (a, b, c, d, e, f)).2))
theorem sp_live_Amounts (h : ∀ (a : List Bool) (b : List Tk) (c : List Th) (d : List Lk) (e : List Int) (f : Int), WfT [.sl tB, .sl yK, .sl yH, .sl yL, .sl tI, tI] (a, b, c, d, e, f) → ((reckOK (a, b, c, d, e, f))) = true → (live_Amounts (a, b, c, d, e, f)).run (fun _ => none) = some ((reckV (a, b, c, d, e, f)).2)) : e_live_Amounts.ok pg := sp_ok ok_live_Amounts fun (a, b, c, d, e, f) hw hc => h a b c d e f hw hc
theorem e_live_Amounts_ok : e_live_Amounts.ok pg := sp_live_Amounts fun a b c d e f _ hc => by
  rw [live_Amounts]
  simp only [RT.run]
  rw [if_pos hc]
def worth_reckon_b122 : Int → (Int × (List ((List Int) × List Int))) → RT (Int × (List ((List Int) × List Int))) (List ((List Int) × List Int))
| x28, (x29, r2) =>
 .rq 1 (.ite (decide (x29 < x28))
 (.rq 5 (.req (inB r2 x29) (.rq 3 (.again (w64 (x29 + 1), sI r2 x29 ([], digs B32 1))))))
 (.done r2))
def worth_reckon_p122 : Piece := ⟨122, true, [tI, .sl tB, .sl yK, .sl yH, .sl yL, .sl tI, tI, .sl (.pair (.sl tV) (.sl tV)), .sl tB, .sl tI], [tI, .sl (.pair (.sl tV) (.sl tV))], ⟨[.keep [1, 2, 3, 4, 5, 28, 29], .gc, .nilRow 2 800002 41 (.pair (.sl tV) (.sl tV)), .nilRow 3 800003 41 (.pair (.sl tV) (.sl tV)), .nilRow 4 800004 4 tB, .nilRow 5 800005 3 tI, .ren 2 700002, .ren 3 700003, .ren 4 700004, .ren 5 700005, .ren 2 900002, .ren 3 900003, .ren 4 900004, .ren 5 900005, .gc], [1, 2, 3, 4, 5, 28, 29], [.lf (qp 16), .lf (qr 900002), .lf (qr 900003), .lf (qr 900004), .lf (qr 900005), .lf (qi 0), .lf (qm 0)], [(16, true, .cells [qi 1, qi 2, qi 3, qi 4, qi 5, qi 6]), (900002, true, .arr 41 (qm 1)), (900003, true, .arr 41 (qi 7)), (900004, true, .arr 4 (qi 8)), (900005, true, .arr 3 (qi 9))]⟩, [⟨2, ⟨[.keep [1, 2, 3, 4, 5], .gc, .nilRow 2 800002 41 (.pair (.sl tV) (.sl tV)), .nilRow 3 800003 41 (.pair (.sl tV) (.sl tV)), .nilRow 4 800004 4 tB, .nilRow 5 800005 3 tI, .ren 2 700002, .ren 3 700003, .ren 4 700004, .ren 5 700005, .ren 2 900002, .ren 3 900003, .ren 4 900004, .ren 5 900005, .gc], [1, 2, 3, 4, 5], [.lf (qp 16), .lf (qr 900002), .lf (qr 900003), .lf (qr 900004), .lf (qr 900005)], [(16, true, .cells [qi 1, qi 2, qi 3, qi 4, qi 5, qi 6]), (900002, true, .arr 41 (qm 0)), (900003, true, .arr 41 (qi 7)), (900004, true, .arr 4 (qi 8)), (900005, true, .arr 3 (qi 9))]⟩, [.sl (.pair (.sl tV) (.sl tV))]⟩], (fun i => worth_reckon_b122 i.1)⟩
def worth_reckon_b250 : Int → (Int × (List ((List Int) × List Int))) → RT (Int × (List ((List Int) × List Int))) (List ((List Int) × List Int))
| i, (t, r3) =>
 .rq 1 (.ite (decide (t < i))
 (.rq 5 (.req (inB r3 t) (.rq 3 (.again (w64 (t + 1), sI r3 t ([], digs B32 1))))))
 (.done r3))
def worth_reckon_p250 : Piece := ⟨250, true, [tI, .sl tB, .sl yK, .sl yH, .sl yL, .sl tI, tI, .sl (.pair (.sl tV) (.sl tV)), .sl tB, .sl tI], [tI, .sl (.pair (.sl tV) (.sl tV))], ⟨[.keep [1, 2, 3, 4, 5, 38, 39], .gc, .nilRow 2 800002 41 (.pair (.sl tV) (.sl tV)), .nilRow 3 800003 41 (.pair (.sl tV) (.sl tV)), .nilRow 4 800004 4 tB, .nilRow 5 800005 3 tI, .ren 2 700002, .ren 3 700003, .ren 4 700004, .ren 5 700005, .ren 2 900002, .ren 3 900003, .ren 4 900004, .ren 5 900005, .gc], [1, 2, 3, 4, 5, 38, 39], [.lf (qp 16), .lf (qr 900002), .lf (qr 900003), .lf (qr 900004), .lf (qr 900005), .lf (qi 0), .lf (qm 0)], [(16, true, .cells [qi 1, qi 2, qi 3, qi 4, qi 5, qi 6]), (900002, true, .arr 41 (qi 7)), (900003, true, .arr 41 (qm 1)), (900004, true, .arr 4 (qi 8)), (900005, true, .arr 3 (qi 9))]⟩, [⟨4, ⟨[.keep [1, 2, 3, 4, 5], .gc, .nilRow 2 800002 41 (.pair (.sl tV) (.sl tV)), .nilRow 3 800003 41 (.pair (.sl tV) (.sl tV)), .nilRow 4 800004 4 tB, .nilRow 5 800005 3 tI, .ren 2 700002, .ren 3 700003, .ren 4 700004, .ren 5 700005, .ren 2 900002, .ren 3 900003, .ren 4 900004, .ren 5 900005, .gc], [1, 2, 3, 4, 5], [.lf (qp 16), .lf (qr 900002), .lf (qr 900003), .lf (qr 900004), .lf (qr 900005)], [(16, true, .cells [qi 1, qi 2, qi 3, qi 4, qi 5, qi 6]), (900002, true, .arr 41 (qi 7)), (900003, true, .arr 41 (qm 0)), (900004, true, .arr 4 (qi 8)), (900005, true, .arr 3 (qi 9))]⟩, [.sl (.pair (.sl tV) (.sl tV))]⟩], (fun i => worth_reckon_b250 i.1)⟩
def worth_reckon_b260710 : (Int × Int × (List Tk) × (List Bool) × (List Int) × (List Int)) → (Int × (List ((List Int) × List Int)) × (List ((List Int) × List Int))) → RT (Int × (List ((List Int) × List Int)) × (List ((List Int) × List Int))) ((List ((List Int) × List Int)) × (List ((List Int) × List Int)))
| (s, u, l_1, r4, r5, r66), (n, r2, r3) =>
 .rq 1 (.ite (decide (n < u))
 (.req (inB r66 n) (.rq 4 (.req (inB r4 (gI r66 n)) (.rq 2 (let t0 := w64 (n + 1);
 .ite (!(gI r4 (gI r66 n)))
 (.rq 2 (.again (t0, r2, r3)))
 (.rq 3 (.req (inB l_1 (gI r66 n)) (.rq 8 (.req (inB r5 s) (.rq 14 (.req (inB r2 s) (.rq 2 (let t1 := mkR (wu64 (gI l_1 (gI r66 n)).2.2.1).toNat (wu64 (gI r5 s)).toNat;
 let t2 := [(t1.2.1, t1.2.2), ((gI r2 s).1, (gI r2 s).2)];
 .req (okS t2) (.req (inB r3 (gI r66 n)) (.rq 4 (let t3 := rq (prodQ t2);
 let t4 := sI r3 (gI r66 n) (t3.1, t3.2);
 .ite ((gI l_1 (gI r66 n)).2.2.2.1 == 2)
 (.rq 6 (let t5 := inB r2 (gI l_1 (gI r66 n)).2.2.2.2.1;
 .req t5 (.rq 3 (.req (inB t4 (gI r66 n)) (.rq 2 (let t6 := gI r2 (gI l_1 (gI r66 n)).2.2.2.2.1;
 let t7 := gI t4 (gI r66 n);
 let t8 := [(t6.1, t6.2), (t7.1, t7.2)];
 .req (okS t8) (.req t5 (.rq 3 (let t9 := rq (sumQ t8);
 .again (t0, sI r2 (gI l_1 (gI r66 n)).2.2.2.2.1 (t9.1, t9.2), t4))))))))))
 (.rq 2 (.again (t0, r2, t4)))))))))))))))))))
 (.done (r2, r3)))
def worth_reckon_p260710 : Piece := ⟨260710, true, [tI, .sl tI, tI, tI, tI, .sl tB, .sl yK, .sl yH, .sl yL, .sl tI, tI, .sl tB, .sl tI, .sl tI], [tI, .sl (.pair (.sl tV) (.sl tV)), .sl (.pair (.sl tV) (.sl tV))], ⟨[.keep [1, 2, 3, 4, 5, 9, 58, 59, 60, 66, 67, 68], .gc, .nilRow 2 800002 41 (.pair (.sl tV) (.sl tV)), .nilRow 3 800003 41 (.pair (.sl tV) (.sl tV)), .nilRow 4 800004 4 tB, .nilRow 5 800005 3 tI, .nilRow 66 800066 3 tI, .ren 2 700002, .ren 3 700003, .ren 4 700004, .ren 5 700005, .ren 66 700066, .ren 2 900002, .ren 3 900003, .ren 4 900004, .ren 5 900005, .ren 66 900066, .gc], [1, 2, 3, 4, 5, 9, 58, 59, 60, 66, 67, 68], [.lf (qp 16), .lf (qr 900002), .lf (qr 900003), .lf (qr 900004), .lf (qr 900005), .lf (qi 0), .lf (qi 1), .lf (qi 2), .lf (qi 3), .lf (qr 900066), .lf (qi 4), .lf (qm 0)], [(16, true, .cells [qi 5, qi 6, qi 7, qi 8, qi 9, qi 10]), (900002, true, .arr 41 (qm 1)), (900003, true, .arr 41 (qm 2)), (900004, true, .arr 4 (qi 11)), (900005, true, .arr 3 (qi 12)), (900066, true, .arr 3 (qi 13))]⟩, [⟨8, ⟨[.keep [1, 2, 3, 4, 5, 58, 59, 60], .gc, .nilRow 2 800002 41 (.pair (.sl tV) (.sl tV)), .nilRow 3 800003 41 (.pair (.sl tV) (.sl tV)), .nilRow 4 800004 4 tB, .nilRow 5 800005 3 tI, .ren 2 700002, .ren 3 700003, .ren 4 700004, .ren 5 700005, .ren 2 900002, .ren 3 900003, .ren 4 900004, .ren 5 900005, .gc], [1, 2, 3, 4, 5, 58, 59, 60], [.lf (qp 16), .lf (qr 900002), .lf (qr 900003), .lf (qr 900004), .lf (qr 900005), .lf (qi 1), .lf (qi 2), .lf (qi 3)], [(16, true, .cells [qi 5, qi 6, qi 7, qi 8, qi 9, qi 10]), (900002, true, .arr 41 (qm 0)), (900003, true, .arr 41 (qm 1)), (900004, true, .arr 4 (qi 11)), (900005, true, .arr 3 (qi 12))]⟩, [.sl (.pair (.sl tV) (.sl tV)), .sl (.pair (.sl tV) (.sl tV))]⟩], (fun i => worth_reckon_b260710 (i.1, i.2.2.2.2.1, i.2.2.2.2.2.2.1, i.2.2.2.2.2.2.2.2.2.2.2.1, i.2.2.2.2.2.2.2.2.2.2.2.2.1, i.2.2.2.2.2.2.2.2.2.2.2.2.2))⟩
def worth_reckon_b1018 : ((List Int) × Int × (List Bool) × (List Tk) × (List Th) × (List Lk) × (List Int) × Int × (List Bool) × (List Int)) → (Int × (List ((List Int) × List Int)) × (List ((List Int) × List Int))) → RT (Int × (List ((List Int) × List Int)) × (List ((List Int) × List Int))) ((List ((List Int) × List Int)) × (List ((List Int) × List Int)))
| (x58, x59, l_0, l_1, l_2, l_3, l_4, l_5, r4, r5), (x60, r2, r3) =>
 .rq 1 (.ite (decide (x60 < x59))
 (.req (inB x58 x60) (.rq 4 (.req ((decide (l_1.length ≤ 1000000))) (.rq 2 (let t0 := (issued l_1 (gI x58 x60));
 .call (lo worth_reckon_b260710 (gI x58 x60, (t0.length : Int), l_1, r4, r5, t0) (0, r2, r3)) default fun v2 =>
 .rq 2 (.again (w64 (x60 + 1), v2.1, v2.2)))))))
 (.done (r2, r3)))
def worth_reckon_p1018 : Piece := ⟨1018, true, [.sl tI, tI, .sl tB, .sl yK, .sl yH, .sl yL, .sl tI, tI, .sl tB, .sl tI], [tI, .sl (.pair (.sl tV) (.sl tV)), .sl (.pair (.sl tV) (.sl tV))], ⟨[.keep [1, 2, 3, 4, 5, 58, 59, 60], .gc, .nilRow 2 800002 41 (.pair (.sl tV) (.sl tV)), .nilRow 3 800003 41 (.pair (.sl tV) (.sl tV)), .nilRow 4 800004 4 tB, .nilRow 5 800005 3 tI, .ren 2 700002, .ren 3 700003, .ren 4 700004, .ren 5 700005, .ren 2 900002, .ren 3 900003, .ren 4 900004, .ren 5 900005, .gc], [1, 2, 3, 4, 5, 58, 59, 60], [.lf (qp 16), .lf (qr 900002), .lf (qr 900003), .lf (qr 900004), .lf (qr 900005), .lf (qi 0), .lf (qi 1), .lf (qm 0)], [(16, true, .cells [qi 2, qi 3, qi 4, qi 5, qi 6, qi 7]), (900002, true, .arr 41 (qm 1)), (900003, true, .arr 41 (qm 2)), (900004, true, .arr 4 (qi 8)), (900005, true, .arr 3 (qi 9))]⟩, [⟨6, ⟨[.keep [2, 3], .gc, .nilRow 2 800002 41 (.pair (.sl tV) (.sl tV)), .nilRow 3 800003 41 (.pair (.sl tV) (.sl tV)), .ren 2 700002, .ren 3 700003, .ren 2 900002, .ren 3 900003, .gc], [2, 3], [.lf (qr 900002), .lf (qr 900003)], [(900002, true, .arr 41 (qm 0)), (900003, true, .arr 41 (qm 1))]⟩, [.sl (.pair (.sl tV) (.sl tV)), .sl (.pair (.sl tV) (.sl tV))]⟩], worth_reckon_b1018⟩
def worth_reckon : ((List Bool) × (List Tk) × (List Th) × (List Lk) × (List Int) × Int) → RT Unit ((List ((List Int) × List Int)) × (List ((List Int) × List Int)))
| (a0_0, a0_1, a0_2, a0_3, a0_4, a0_5) =>
 .rq 4 (let t0 := (reckOK (a0_0, a0_1, a0_2, a0_3, a0_4, a0_5));
 .req t0 (.rq 1 (.req t0 (.rq 5 (.req (mkOK 48 (a0_0.length : Int)) (.rq 3 (.req (mkOK 48 (a0_1.length : Int)) (.rq 5 (let t1 := repI (a0_0.length : Int) ([], []);
 .call (lo worth_reckon_b122 (t1.length : Int) (0, t1)) default fun v0 =>
 .rq 3 (let t2 := repI (a0_1.length : Int) ([], []);
 .call (lo worth_reckon_b250 (t2.length : Int) (0, t2)) default fun v1 =>
 .rq 2 (let t3 := ((reckV (a0_0, a0_1, a0_2, a0_3, a0_4, a0_5)).2);
 .req (inB t3 0) (.rq 6 (.req (inB v0 0) (.rq 2 (.req ((decide (a0_1.length ≤ 1000000) && decide (a0_0.length ≤ 4096))) (.rq 2 (let t4 := (fordV a0_0 a0_1);
 let t5 := mkR (wu64 (gI t3 0)).toNat (1 : Int).toNat;
 .call (lo worth_reckon_b1018 (t4, (t4.length : Int), a0_0, a0_1, a0_2, a0_3, a0_4, a0_5, ((reckV (a0_0, a0_1, a0_2, a0_3, a0_4, a0_5)).1), t3) (0, sI v0 0 (t5.2.1, t5.2.2), v1)) default fun v3 =>
 .rq 4 (.done (v3.1, v3.2)))))))))))))))))))
def F_worth_reckon (x : (List Bool) × (List Tk) × (List Th) × (List Lk) × (List Int) × Int) : Option ((List ((List Int) × List Int)) × (List ((List Int) × List Int))) := (worth_reckon x).run fun _ => none
def io_worth_reckon : Io := ⟨n_worth_reckon, [.sl tB, .sl yK, .sl yH, .sl yL, .sl tI, tI], [.agg [qm 0, qm 1, qm 2, qm 3, qm 4, qm 5]], [], [[.sl tB, .sl yK, .sl yH, .sl yL, .sl tI, tI]], [.sl (.pair (.sl tV) (.sl tV)), .sl (.pair (.sl tV) (.sl tV))], .tup [(false, [qr 0]), (false, [qr 1])], [], [(true, .arr 41 (qm 0)), (true, .arr 41 (qm 1))], true⟩
def worth_reckon_P : List Piece := [worth_reckon_p122, worth_reckon_p250, worth_reckon_p260710, worth_reckon_p1018]
def worth_reckon_T : CallT := tab [e_live_Amounts, e_live_Tickets, e_fund_Issued, e_fund_Order, e_ratio_Mul, e_ratio_Add, e_ratio_Of, e_ratio_Zero]
theorem worth_reckon_To : SoundT pg worth_reckon_T := tab_sound ⟨e_live_Amounts_ok, e_live_Tickets_ok, e_fund_Issued_ok, e_fund_Order_ok, e_ratio_Mul_ok, e_ratio_Add_ok, e_ratio_Of_ok, e_ratio_Zero_ok, trivial⟩
theorem worth_reckon_k122 : (worth_reckon_p122).OK pg (worth_reckon_T) (tell 126 (worth_reckon_P)) (codeOf f_worth_reckon) 126 := ⟨by kernel_rfl, fun i x => by kernel_rfl⟩
theorem worth_reckon_k250 : (worth_reckon_p250).OK pg (worth_reckon_T) (tell 126 (worth_reckon_P)) (codeOf f_worth_reckon) 126 := ⟨by kernel_rfl, fun i x => by kernel_rfl⟩
theorem worth_reckon_k260710 : (worth_reckon_p260710).OK pg (worth_reckon_T) (tell 126 (worth_reckon_P)) (codeOf f_worth_reckon) 126 := ⟨by kernel_rfl, fun i x => by kernel_rfl⟩
theorem worth_reckon_k1018 : (worth_reckon_p1018).OK pg (worth_reckon_T) (tell 126 (worth_reckon_P)) (codeOf f_worth_reckon) 126 := ⟨by kernel_rfl, fun i x => by kernel_rfl⟩
theorem worth_reckon_go : FnOK pg (worth_reckon_T) io_worth_reckon f_worth_reckon (worth_reckon_P) [.nilRow 2 800002 41 (.pair (.sl tV) (.sl tV)), .nilRow 3 800003 41 (.pair (.sl tV) (.sl tV)), .ren 2 700002, .ren 3 700003, .ren 2 900002, .ren 3 900003] (worth_reckon) := ⟨by kernel_rfl, by kernel_rfl, fun x => by kernel_rfl⟩
theorem ok_worth_reckon : io_worth_reckon.Okay pg (F_worth_reckon) := fn_ok pg_mixed (worth_reckon_To) (worth_reckon_go) ⟨worth_reckon_k122, worth_reckon_k250, worth_reckon_k260710, worth_reckon_k1018, trivial⟩
end
end Go.Proofs.YtlfdidaeachpoaaGreat
