/- Part 5 of the walk and of the plain law. -/
import Derived.Test.YtlfdidaeachpoaaGreatCCT4
set_option linter.unusedSimpArgs false
set_option linter.unusedVariables false
namespace Go.Proofs.YtlfdidaeachpoaaGreat
open Go Go.RowKit
set_option maxRecDepth 100000
noncomputable section
def R14_Coin : ((List Bool) × (List Tk) × (List Th) × (List Lk) × (List Int) × Int × Int) → RT Unit Bool
| (s_0, s_1, s_2, s_3, s_4, s_5, i) =>
 .rq 15 (let t0 := (decide (0 ≤ i)) && (decide (i < (s_0.length : Int)));
 .req ((inB s_0 i) || (!t0)) (.rq 3 (.done (t0 && (gI s_0 i)))))
def F_R14_Coin (x : (List Bool) × (List Tk) × (List Th) × (List Lk) × (List Int) × Int × Int) : Option Bool := (R14_Coin x).run fun _ => none
def io_R14_Coin : Io := ⟨n_R14_Coin, [.sl tB, .sl yK, .sl yH, .sl yL, .sl tI, tI, tI], [.agg [qm 0, qm 1, qm 2, qm 3, qm 4, qm 5], .lf (qm 6)], [], [[.sl tB, .sl yK, .sl yH, .sl yL, .sl tI, tI], [tI]], [tB], .lf (qm 0), [], [], false⟩
def R14_Coin_P : List Piece := []
def R14_Coin_T : CallT := tab []
theorem R14_Coin_To : SoundT pg R14_Coin_T := tab_sound trivial
theorem R14_Coin_go : FnOK pg (R14_Coin_T) io_R14_Coin f_R14_Coin (R14_Coin_P) [] (R14_Coin) := ⟨by kernel_rfl, by kernel_rfl, fun x => by kernel_rfl⟩
theorem ok_R14_Coin : io_R14_Coin.Okay pg (F_R14_Coin) := fn_ok pg_mixed (R14_Coin_To) (R14_Coin_go) trivial
def e_R14_Coin : Entry := io_R14_Coin.sp (fun (a, b, c, d, e, f, i) => true) (fun (a, b, c, d, e, f, i) => (inB a i && gI a i))
theorem sp_R14_Coin (h : ∀ (a : List Bool) (b : List Tk) (c : List Th) (d : List Lk) (e : List Int) (f : Int) (i : Int), WfT [.sl tB, .sl yK, .sl yH, .sl yL, .sl tI, tI, tI] (a, b, c, d, e, f, i) → (R14_Coin (a, b, c, d, e, f, i)).run (fun _ => none) = some (inB a i && gI a i)) : e_R14_Coin.ok pg := sp_ok ok_R14_Coin fun (a, b, c, d, e, f, i) hw hc => h a b c d e f i hw
theorem e_R14_Coin_ok : e_R14_Coin.ok pg := sp_R14_Coin fun a b c d e f i _ => by
  rw [R14_Coin]
  simp only [RT.run]
  show (if (inB a i || !(inB a i)) = true then some (inB a i && gI a i) else none) = _
  rw [if_pos (by cases inB a i <;> rfl)]
def R14_Thread : ((List Bool) × (List Tk) × (List Th) × (List Lk) × (List Int) × Int × Int) → RT Unit Bool
| (s_0, s_1, s_2, s_3, s_4, s_5, i) =>
 .rq 15 (let t0 := (decide (0 ≤ i)) && (decide (i < (s_2.length : Int)));
 .req ((inB s_2 i) || (!t0)) (.rq 5 (.done (t0 && ((gI s_2 i).1 != 0)))))
def F_R14_Thread (x : (List Bool) × (List Tk) × (List Th) × (List Lk) × (List Int) × Int × Int) : Option Bool := (R14_Thread x).run fun _ => none
def io_R14_Thread : Io := ⟨n_R14_Thread, [.sl tB, .sl yK, .sl yH, .sl yL, .sl tI, tI, tI], [.agg [qm 0, qm 1, qm 2, qm 3, qm 4, qm 5], .lf (qm 6)], [], [[.sl tB, .sl yK, .sl yH, .sl yL, .sl tI, tI], [tI]], [tB], .lf (qm 0), [], [], false⟩
def R14_Thread_P : List Piece := []
def R14_Thread_T : CallT := tab []
theorem R14_Thread_To : SoundT pg R14_Thread_T := tab_sound trivial
theorem R14_Thread_go : FnOK pg (R14_Thread_T) io_R14_Thread f_R14_Thread (R14_Thread_P) [] (R14_Thread) := ⟨by kernel_rfl, by kernel_rfl, fun x => by kernel_rfl⟩
theorem ok_R14_Thread : io_R14_Thread.Okay pg (F_R14_Thread) := fn_ok pg_mixed (R14_Thread_To) (R14_Thread_go) trivial
def e_R14_Thread : Entry := io_R14_Thread.sp (fun (a, b, c, d, e, f, i) => true) (fun (a, b, c, d, e, f, i) => (inB c i && (gI c i).1 != 0))
theorem sp_R14_Thread (h : ∀ (a : List Bool) (b : List Tk) (c : List Th) (d : List Lk) (e : List Int) (f : Int) (i : Int), WfT [.sl tB, .sl yK, .sl yH, .sl yL, .sl tI, tI, tI] (a, b, c, d, e, f, i) → (R14_Thread (a, b, c, d, e, f, i)).run (fun _ => none) = some (inB c i && (gI c i).1 != 0)) : e_R14_Thread.ok pg := sp_ok ok_R14_Thread fun (a, b, c, d, e, f, i) hw hc => h a b c d e f i hw
theorem e_R14_Thread_ok : e_R14_Thread.ok pg := sp_R14_Thread fun a b c d e f i _ => by
  rw [R14_Thread]
  simp only [RT.run]
  show (if (inB c i || !(inB c i)) = true then some (inB c i && (gI c i).1 != 0) else none) = _
  rw [if_pos (by cases inB c i <;> rfl)]
def R14_CoinArrows_b58 : (List Tk) → (Int × (List (Int × Int))) → RT (Int × (List (Int × Int))) (List (Int × Int))
| s_1, (i, r3) =>
 .rq 5 (.ite (decide (i < (s_1.length : Int)))
 (.rq 3 (.req (inB s_1 i) (.rq 10 (let t0 := w64 (i + 1);
 .ite ((gI s_1 i).1 && ((gI s_1 i).2.2.2.1 == 2))
 (.rq 7 (let t1 := [((gI s_1 i).2.1, (gI s_1 i).2.2.2.2.1)];
 .req (apOK 16 r3 t1) (.rq 4 (.again (t0, r3 ++ t1)))))
 (.rq 3 (.again (t0, r3)))))))
 (.done r3))
def R14_CoinArrows_p58 : Piece := ⟨58, true, [.sl tB, .sl yK, .sl yH, .sl yL, .sl tI, tI], [tI, .sl (.pair tI tI)], ⟨[.keep [1, 3, 4], .gc, .nilRow 3 800003 148 (.pair tI tI), .ren 3 700003, .ren 3 900003, .gc], [1, 3, 4], [.lf (qp 16), .lf (qr 900003), .lf (qm 0)], [(16, true, .cells [qi 0, qi 1, qi 2, qi 3, qi 4, qi 5]), (900003, true, .arr 148 (qm 1))]⟩, [⟨2, ⟨[.keep [3], .gc, .nilRow 3 800003 148 (.pair tI tI), .ren 3 700003, .ren 3 900003, .gc], [3], [.lf (qr 900003)], [(900003, true, .arr 148 (qm 0))]⟩, [.sl (.pair tI tI)]⟩], (fun i => R14_CoinArrows_b58 i.2.1)⟩
def R14_CoinArrows : ((List Bool) × (List Tk) × (List Th) × (List Lk) × (List Int) × Int) → RT Unit (List (Int × Int))
| (s_0, s_1, s_2, s_3, s_4, s_5) =>
 .rq 4 (.call (lo R14_CoinArrows_b58 s_1 (0, [])) default fun v0 =>
 .rq 2 (.done v0))
def F_R14_CoinArrows (x : (List Bool) × (List Tk) × (List Th) × (List Lk) × (List Int) × Int) : Option (List (Int × Int)) := (R14_CoinArrows x).run fun _ => none
def io_R14_CoinArrows : Io := ⟨n_R14_CoinArrows, [.sl tB, .sl yK, .sl yH, .sl yL, .sl tI, tI], [.agg [qm 0, qm 1, qm 2, qm 3, qm 4, qm 5]], [], [[.sl tB, .sl yK, .sl yH, .sl yL, .sl tI, tI]], [.sl (.pair tI tI)], .lf (qr 0), [], [(true, .arr 148 (qm 0))], false⟩
def R14_CoinArrows_P : List Piece := [R14_CoinArrows_p58]
def R14_CoinArrows_T : CallT := tab []
theorem R14_CoinArrows_To : SoundT pg R14_CoinArrows_T := tab_sound trivial
theorem R14_CoinArrows_k58 : (R14_CoinArrows_p58).OK pg (R14_CoinArrows_T) (tell 34 (R14_CoinArrows_P)) (codeOf f_R14_CoinArrows) 34 := ⟨by kernel_rfl, fun i x => by kernel_rfl⟩
theorem R14_CoinArrows_go : FnOK pg (R14_CoinArrows_T) io_R14_CoinArrows f_R14_CoinArrows (R14_CoinArrows_P) [.nilRow 2 800002 148 (.pair tI tI), .ren 2 700002, .ren 2 900002] (R14_CoinArrows) := ⟨by kernel_rfl, by kernel_rfl, fun x => by kernel_rfl⟩
theorem ok_R14_CoinArrows : io_R14_CoinArrows.Okay pg (F_R14_CoinArrows) := fn_ok pg_mixed (R14_CoinArrows_To) (R14_CoinArrows_go) ⟨R14_CoinArrows_k58, trivial⟩
theorem coinArrR_loop (b : List Tk) (hl : b.length ≤ 1000000) : ∀ (d i : Nat) (r : List (Int × Int)), i + d = b.length → r.length ≤ i →
    lo R14_CoinArrows_b58 b ((i : Int), r) = some (r ++ coinArr (b.drop i))
  | 0, i, r, h, _ => by
    rw [lo_eq, R14_CoinArrows_b58]
    simp only [RT.run]
    rw [if_neg (by simp; omega), List.drop_eq_nil_of_le (by omega)]
    simp [coinArr]
  | d + 1, i, r, h, hr => by
    have hi : i < b.length := by omega
    have hmax : maxLen = 9223372036854775807 := by decide
    rw [lo_eq, R14_CoinArrows_b58]
    simp only [RT.run]
    rw [if_pos (by simp; omega), if_pos (inB_iff.2 ⟨by omega, by omega⟩), gI_lt hi, List.drop_eq_getElem_cons hi, w64_in (by omega), show (i : Int) + 1 = ((i + 1 : Nat) : Int) by omega]
    unfold coinArr
    rw [List.filter_cons]
    by_cases hv : (b[i].1 && b[i].2.2.2.1 == 2) = true
    · rw [if_pos hv, if_pos (apOK_iff.2 ⟨by simp; omega, by simp; omega⟩), coinArrR_loop b hl d (i + 1) _ (by omega) (by simp; omega), if_pos hv]
      simp [coinArr]
    · rw [if_neg hv, coinArrR_loop b hl d (i + 1) _ (by omega) (by omega), if_neg hv]
      rfl
def e_R14_CoinArrows : Entry := io_R14_CoinArrows.sp (fun (a, b, c, d, e, f) => (decide (b.length ≤ 1000000))) (fun (a, b, c, d, e, f) => (coinArr b))
theorem sp_R14_CoinArrows (h : ∀ (a : List Bool) (b : List Tk) (c : List Th) (d : List Lk) (e : List Int) (f : Int), WfT [.sl tB, .sl yK, .sl yH, .sl yL, .sl tI, tI] (a, b, c, d, e, f) → ((decide (b.length ≤ 1000000))) = true → (R14_CoinArrows (a, b, c, d, e, f)).run (fun _ => none) = some (coinArr b)) : e_R14_CoinArrows.ok pg := sp_ok ok_R14_CoinArrows fun (a, b, c, d, e, f) hw hc => h a b c d e f hw hc
theorem e_R14_CoinArrows_ok : e_R14_CoinArrows.ok pg := sp_R14_CoinArrows fun a b c d e f _ hc => by
  have hl := of_decide_eq_true hc
  rw [R14_CoinArrows]
  simp only [RT.run]
  have := coinArrR_loop b hl b.length 0 [] (by omega) (by simp)
  rw [show ((0 : Nat) : Int) = 0 from rfl] at this
  rw [this]
  rfl
def R14_ThreadArrows_b3730 : (Int × (List (Int × Int)) × Int × Int) → RT Unit (List (Int × Int))
| (i, r3, t_0, t_1) =>
 .rq 3 (.ite (t_0 == 4)
 (.rq 6 (let t0 := [(i, t_1)];
 .req (apOK 16 r3 t0) (.rq 1 (.done (r3 ++ t0)))))
 (.done r3))
def R14_ThreadArrows_p3730 : Piece := ⟨3730, false, [tI, .sl tB, .sl yK, .sl yH, .sl yL, .sl tI, tI, .sl (.pair tI tI), tI, tI, tI, tI, tI], [], ⟨[.keep [1, 3, 4, 5], .gc], [1, 3, 4, 5], [.lf (qp 16), .lf (qr 900003), .lf (qi 0), .lf (qp 80)], [(16, true, .cells [qi 1, qi 2, qi 3, qi 4, qi 5, qi 6]), (900003, true, .arr 148 (qi 7)), (80, true, .cells [qi 8, qi 9, qi 10, qi 11, qi 12])]⟩, [⟨0, ⟨[.keep [1, 3, 4, 5], .gc, .nilRow 3 800003 148 (.pair tI tI), .ren 3 700003, .ren 3 900003, .gc], [1, 3, 4, 5], [.lf (qp 16), .lf (qr 900003), .lf (qi 0), .lf (qp 80)], [(16, true, .cells [qi 1, qi 2, qi 3, qi 4, qi 5, qi 6]), (900003, true, .arr 148 (qm 0)), (80, true, .cells [qi 8, qi 9, qi 10, qi 11, qi 12])]⟩, [.sl (.pair tI tI)]⟩], (fun i _ => R14_ThreadArrows_b3730 (i.1, i.2.2.2.2.2.2.2.1, i.2.2.2.2.2.2.2.2.1, i.2.2.2.2.2.2.2.2.2.1))⟩
def R14_ThreadArrows_b58 : ((List Th) × (List Lk)) → (Int × (List (Int × Int))) → RT (Int × (List (Int × Int))) (List (Int × Int))
| (s_2, s_3), (i, r3) =>
 .rq 5 (.ite (decide (i < (s_2.length : Int)))
 (.rq 3 (.req (inB s_2 i) (.rq 3 (.call (on R14_ThreadArrows_b3730 (i, r3, (gI s_2 i).1, (gI s_2 i).2.1)) default fun v1 =>
 .rq 3 (let t0 := w64 (i + 1);
 .ite ((gI s_2 i).1 == 6)
 (.rq 6 (.req (inB s_3 (gI s_2 i).2.1) (.rq 4 (let t1 := [(i, (gI s_3 (gI s_2 i).2.1).2)];
 .req (apOK 16 v1 t1) (.rq 4 (.again (t0, v1 ++ t1)))))))
 (.rq 3 (.again (t0, v1))))))))
 (.done r3))
def R14_ThreadArrows_p58 : Piece := ⟨58, true, [.sl tB, .sl yK, .sl yH, .sl yL, .sl tI, tI], [tI, .sl (.pair tI tI)], ⟨[.keep [1, 3, 4], .gc, .nilRow 3 800003 148 (.pair tI tI), .ren 3 700003, .ren 3 900003, .gc], [1, 3, 4], [.lf (qp 16), .lf (qr 900003), .lf (qm 0)], [(16, true, .cells [qi 0, qi 1, qi 2, qi 3, qi 4, qi 5]), (900003, true, .arr 148 (qm 1))]⟩, [⟨2, ⟨[.keep [3], .gc, .nilRow 3 800003 148 (.pair tI tI), .ren 3 700003, .ren 3 900003, .gc], [3], [.lf (qr 900003)], [(900003, true, .arr 148 (qm 0))]⟩, [.sl (.pair tI tI)]⟩], (fun i => R14_ThreadArrows_b58 (i.2.2.1, i.2.2.2.1))⟩
def R14_ThreadArrows : ((List Bool) × (List Tk) × (List Th) × (List Lk) × (List Int) × Int) → RT Unit (List (Int × Int))
| (s_0, s_1, s_2, s_3, s_4, s_5) =>
 .rq 4 (.call (lo R14_ThreadArrows_b58 (s_2, s_3) (0, [])) default fun v2 =>
 .rq 2 (.done v2))
def F_R14_ThreadArrows (x : (List Bool) × (List Tk) × (List Th) × (List Lk) × (List Int) × Int) : Option (List (Int × Int)) := (R14_ThreadArrows x).run fun _ => none
def io_R14_ThreadArrows : Io := ⟨n_R14_ThreadArrows, [.sl tB, .sl yK, .sl yH, .sl yL, .sl tI, tI], [.agg [qm 0, qm 1, qm 2, qm 3, qm 4, qm 5]], [], [[.sl tB, .sl yK, .sl yH, .sl yL, .sl tI, tI]], [.sl (.pair tI tI)], .lf (qr 0), [], [(true, .arr 148 (qm 0))], false⟩
def R14_ThreadArrows_P : List Piece := [R14_ThreadArrows_p3730, R14_ThreadArrows_p58]
def R14_ThreadArrows_T : CallT := tab []
theorem R14_ThreadArrows_To : SoundT pg R14_ThreadArrows_T := tab_sound trivial
theorem R14_ThreadArrows_k3730 : (R14_ThreadArrows_p3730).OK pg (R14_ThreadArrows_T) (tell 44 (R14_ThreadArrows_P)) (codeOf f_R14_ThreadArrows) 44 := ⟨by kernel_rfl, fun i x => by kernel_rfl⟩
theorem R14_ThreadArrows_k58 : (R14_ThreadArrows_p58).OK pg (R14_ThreadArrows_T) (tell 44 (R14_ThreadArrows_P)) (codeOf f_R14_ThreadArrows) 44 := ⟨by kernel_rfl, fun i x => by kernel_rfl⟩
theorem R14_ThreadArrows_go : FnOK pg (R14_ThreadArrows_T) io_R14_ThreadArrows f_R14_ThreadArrows (R14_ThreadArrows_P) [.nilRow 2 800002 148 (.pair tI tI), .ren 2 700002, .ren 2 900002] (R14_ThreadArrows) := ⟨by kernel_rfl, by kernel_rfl, fun x => by kernel_rfl⟩
theorem ok_R14_ThreadArrows : io_R14_ThreadArrows.Okay pg (F_R14_ThreadArrows) := fn_ok pg_mixed (R14_ThreadArrows_To) (R14_ThreadArrows_go) ⟨R14_ThreadArrows_k3730, R14_ThreadArrows_k58, trivial⟩
def thrOne (d : List Lk) (i : Int) (t : Th) : List (Int × Int) := (if t.1 == 4 then [(i, t.2.1)] else []) ++ (if t.1 == 6 then [(i, (gI d t.2.1).2)] else [])
def thrArr (c : List Th) (d : List Lk) : List (Int × Int) := (List.range c.length).flatMap fun (k : Nat) => thrOne d (k : Int) (c.getD k default)
def thrOK (c : List Th) (d : List Lk) : Bool := c.all fun t => !(t.1 == 6) || inB d t.2.1
theorem thrOne_len (d : List Lk) (i : Int) (t : Th) : (thrOne d i t).length ≤ 2 := by
  unfold thrOne
  split <;> split <;> simp
theorem thr_loop (c : List Th) (d : List Lk) (hl : c.length ≤ 1000000) (hok : thrOK c d = true) : ∀ (n i : Nat) (r : List (Int × Int)), i + n = c.length → r.length ≤ 2 * i →
    lo R14_ThreadArrows_b58 (c, d) ((i : Int), r) = some (r ++ (List.range' i n).flatMap fun (k : Nat) => thrOne d (k : Int) (c.getD k default))
  | 0, i, r, h, _ => by
    rw [lo_eq, R14_ThreadArrows_b58]
    simp only [RT.run]
    rw [if_neg (by simp; omega)]
    simp
  | n + 1, i, r, h, hr => by
    have hi : i < c.length := by omega
    have hmax : maxLen = 9223372036854775807 := by decide
    have hb : on R14_ThreadArrows_b3730 ((i : Int), r, c[i].1, c[i].2.1) = some (r ++ (if c[i].1 == 4 then [((i : Int), c[i].2.1)] else [])) := by
      show (R14_ThreadArrows_b3730 _).run _ = _
      rw [R14_ThreadArrows_b3730]
      simp only [RT.run]
      by_cases h4 : (c[i].1 == 4) = true
      · rw [if_pos h4, if_pos h4, if_pos (apOK_iff.2 ⟨by simp; omega, by simp; omega⟩)]
      · rw [if_neg h4, if_neg h4, List.append_nil]
    have hlen1 : (r ++ (if c[i].1 == 4 then [((i : Int), c[i].2.1)] else [])).length ≤ 2 * i + 1 := by
      rw [List.length_append]; split <;> simp <;> omega
    have hwt := List.all_eq_true.1 hok _ (List.getElem_mem hi)
    have hone : thrOne d (i : Int) (c.getD i default) = (if c[i].1 == 4 then [((i : Int), c[i].2.1)] else []) ++ (if c[i].1 == 6 then [((i : Int), (gI d c[i].2.1).2)] else []) := by
      rw [List.getD_eq_getElem?_getD, List.getElem?_eq_getElem hi]; rfl
    rw [lo_eq, R14_ThreadArrows_b58]
    simp only [RT.run]
    rw [if_pos (by simp; omega), if_pos (inB_iff.2 ⟨by omega, by omega⟩), gI_lt hi, hb, Option.bind_some, w64_in (by omega), show (i : Int) + 1 = ((i + 1 : Nat) : Int) by omega, List.range'_succ, List.flatMap_cons, hone]
    by_cases h6 : (c[i].1 == 6) = true
    · rw [if_pos h6, if_pos (by simpa [h6] using hwt), if_pos (apOK_iff.2 ⟨by simp only [List.length_singleton]; omega, by simp only [List.length_singleton]; omega⟩), if_pos h6,
        thr_loop c d hl hok n (i + 1) _ (by omega) (by rw [List.length_append, List.length_singleton]; omega)]
      simp
    · rw [if_neg h6, if_neg h6, thr_loop c d hl hok n (i + 1) _ (by omega) (by omega)]
      simp
def e_R14_ThreadArrows : Entry := io_R14_ThreadArrows.sp (fun (a, b, c, d, e, f) => (decide (c.length ≤ 1000000) && thrOK c d)) (fun (a, b, c, d, e, f) => (thrArr c d))
theorem sp_R14_ThreadArrows (h : ∀ (a : List Bool) (b : List Tk) (c : List Th) (d : List Lk) (e : List Int) (f : Int), WfT [.sl tB, .sl yK, .sl yH, .sl yL, .sl tI, tI] (a, b, c, d, e, f) → ((decide (c.length ≤ 1000000) && thrOK c d)) = true → (R14_ThreadArrows (a, b, c, d, e, f)).run (fun _ => none) = some (thrArr c d)) : e_R14_ThreadArrows.ok pg := sp_ok ok_R14_ThreadArrows fun (a, b, c, d, e, f) hw hc => h a b c d e f hw hc
theorem e_R14_ThreadArrows_ok : e_R14_ThreadArrows.ok pg := sp_R14_ThreadArrows fun a b c d e f _ hc => by
  rw [Bool.and_eq_true] at hc
  have hl := of_decide_eq_true hc.1
  rw [R14_ThreadArrows]
  simp only [RT.run]
  have := thr_loop c d hl hc.2 c.length 0 [] (by omega) (by simp)
  rw [show ((0 : Nat) : Int) = 0 from rfl] at this
  rw [this, List.nil_append, ← List.range_eq_range']
  rfl
def R16_Next_b58 : (Int × (List (Int × Int))) → Int → RT Int (LR Int Unit)
| (i, r5), k =>
 .rq 4 (.ite (decide (k < (r5.length : Int)))
 (.rq 2 (.req (inB r5 k) (.rq 4 (.ite ((gI r5 k).1 == i)
 (.rq 2 (.req (inB r5 k) (.rq 3 (.done (.ex (gI r5 k).2)))))
 (.rq 3 (.again (w64 (k + 1))))))))
 (.done (.rt ())))
def R16_Next_p58 : Piece := ⟨58, true, [tI, .sl (.pair tI tI)], [tI], ⟨[.keep [1, 5, 6], .gc, .nilRow 5 800005 148 (.pair tI tI), .ren 5 700005, .ren 5 900005, .gc], [1, 5, 6], [.lf (qi 0), .lf (qr 900005), .lf (qm 0)], [(900005, true, .arr 148 (qi 1))]⟩, [⟨1, ⟨[.keep [4], .gc], [4], [.lf (qm 0)], []⟩, [tI]⟩, ⟨2, ⟨[.keep [], .gc], [], [], []⟩, []⟩], R16_Next_b58⟩
def R16_Next : ((List Bool) × (List Tk) × (List Th) × (List Lk) × (List Int) × Int × Int) → RT Unit Int
| (s_0, s_1, s_2, s_3, s_4, s_5, i) =>
 .rq 3 (.req ((decide (s_2.length ≤ 1000000) && thrOK s_2 s_3)) (.rq 2 (.call (lo R16_Next_b58 (i, (thrArr s_2 s_3)) 0) default fun v0 =>
 .ite v0.isRt
 (.rq 1 (.done (-1)))
 (.done v0.getX))))
def F_R16_Next (x : (List Bool) × (List Tk) × (List Th) × (List Lk) × (List Int) × Int × Int) : Option Int := (R16_Next x).run fun _ => none
def io_R16_Next : Io := ⟨n_R16_Next, [.sl tB, .sl yK, .sl yH, .sl yL, .sl tI, tI, tI], [.agg [qm 0, qm 1, qm 2, qm 3, qm 4, qm 5], .lf (qm 6)], [], [[.sl tB, .sl yK, .sl yH, .sl yL, .sl tI, tI], [tI]], [tI], .lf (qm 0), [], [], false⟩
def R16_Next_P : List Piece := [R16_Next_p58]
def R16_Next_T : CallT := tab [e_R14_ThreadArrows]
theorem R16_Next_To : SoundT pg R16_Next_T := tab_sound ⟨e_R14_ThreadArrows_ok, trivial⟩
theorem R16_Next_k58 : (R16_Next_p58).OK pg (R16_Next_T) (tell 27 (R16_Next_P)) (codeOf f_R16_Next) 27 := ⟨by kernel_rfl, fun i x => by kernel_rfl⟩
theorem R16_Next_go : FnOK pg (R16_Next_T) io_R16_Next f_R16_Next (R16_Next_P) [] (R16_Next) := ⟨by kernel_rfl, by kernel_rfl, fun x => by kernel_rfl⟩
theorem ok_R16_Next : io_R16_Next.Okay pg (F_R16_Next) := fn_ok pg_mixed (R16_Next_To) (R16_Next_go) ⟨R16_Next_k58, trivial⟩
def nextR (l : List (Int × Int)) (i : Int) : Int := match l.find? (fun a => a.1 == i) with
  | some a => a.2
  | none => -1
theorem nextR_loop (l : List (Int × Int)) (v : Int) (hl : l.length ≤ 4000000) : ∀ d i : Nat, i + d = l.length →
    lo R16_Next_b58 (v, l) (i : Int) = some (match (l.drop i).find? (fun a => a.1 == v) with | some a => .ex a.2 | none => .rt ())
  | 0, i, h => by
    rw [lo_eq, R16_Next_b58]
    simp only [RT.run]
    rw [if_neg (by simp; omega), List.drop_eq_nil_of_le (by omega)]
    rfl
  | d + 1, i, h => by
    have hi : i < l.length := by omega
    have hin : inB l (i : Int) = true := inB_iff.2 ⟨by omega, by omega⟩
    rw [lo_eq, R16_Next_b58]
    simp only [RT.run]
    rw [if_pos (by simp; omega), if_pos hin, List.drop_eq_getElem_cons hi, List.find?_cons, gI_lt hi]
    by_cases hv : (l[i].1 == v) = true
    · rw [if_pos hv, if_pos hin, hv]
    · have hv' : (l[i].1 == v) = false := by simpa using hv
      rw [if_neg hv, hv', w64_in (by omega), show (i : Int) + 1 = ((i + 1 : Nat) : Int) by omega, nextR_loop l v hl d (i + 1) (by omega)]
theorem thrArr_len (c : List Th) (d : List Lk) : (thrArr c d).length ≤ 2 * c.length := by
  unfold thrArr
  have : ∀ (l : List Nat), (l.flatMap fun (k : Nat) => thrOne d (k : Int) (c.getD k default)).length ≤ 2 * l.length := by
    intro l
    induction l with
    | nil => simp
    | cons x l ih =>
      have := thrOne_len d (x : Int) (c.getD x default)
      rw [List.flatMap_cons, List.length_append, List.length_cons]
      omega
  have := this (List.range c.length)
  rwa [List.length_range] at this
def e_R16_Next : Entry := io_R16_Next.sp (fun (a, b, c, d, e, f, i) => (decide (c.length ≤ 1000000) && thrOK c d)) (fun (a, b, c, d, e, f, i) => (nextR (thrArr c d) i))
theorem sp_R16_Next (h : ∀ (a : List Bool) (b : List Tk) (c : List Th) (d : List Lk) (e : List Int) (f : Int) (i : Int), WfT [.sl tB, .sl yK, .sl yH, .sl yL, .sl tI, tI, tI] (a, b, c, d, e, f, i) → ((decide (c.length ≤ 1000000) && thrOK c d)) = true → (R16_Next (a, b, c, d, e, f, i)).run (fun _ => none) = some (nextR (thrArr c d) i)) : e_R16_Next.ok pg := sp_ok ok_R16_Next fun (a, b, c, d, e, f, i) hw hc => h a b c d e f i hw hc
theorem e_R16_Next_ok : e_R16_Next.ok pg := sp_R16_Next fun a b c d e f i _ hc => by
  have hc' := hc
  rw [Bool.and_eq_true] at hc'
  have hl := of_decide_eq_true hc'.1
  have hlen := thrArr_len c d
  rw [R16_Next]
  simp only [RT.run]
  have := nextR_loop (thrArr c d) i (by omega) (thrArr c d).length 0 (by omega)
  rw [show ((0 : Nat) : Int) = 0 from rfl, List.drop_zero] at this
  rw [if_pos hc, this]
  unfold nextR
  cases (thrArr c d).find? (fun a => a.1 == i) with
  | none => rfl
  | some a => rfl
def io_R16_Tail : Io := ⟨n_R16_Tail, [.sl tB, .sl yK, .sl yH, .sl yL, .sl tI, tI, tI], [.agg [qm 0, qm 1, qm 2, qm 3, qm 4, qm 5], .lf (qm 6)], [], [[.sl tB, .sl yK, .sl yH, .sl yL, .sl tI, tI], [tI]], [.sl tI], .lf (qm 0), [], [], true⟩
def R16_Tail (self : ((List Bool) × (List Tk) × (List Th) × (List Lk) × (List Int) × Int × Int) → Option (List Int)) : ((List Bool) × (List Tk) × (List Th) × (List Lk) × (List Int) × Int × Int) → RT Unit (List Int)
| (s_0, s_1, s_2, s_3, s_4, s_5, i) =>
 .rq 6 (.ite (!((inB s_2 i && (gI s_2 i).1 != 0)))
 (.rq 1 (.done []))
 (.rq 2 (.req ((decide (s_2.length ≤ 1000000) && thrOK s_2 s_3)) (.rq 3 (let t0 := (nextR (thrArr s_2 s_3) i);
 .ite (decide (t0 < 0))
 (.rq 3 (.done [i]))
 (.rq 4 (.call (self (s_0, s_1, s_2, s_3, s_4, s_5, t0)) default fun v0 =>
 .req (apOK 8 [i] v0) (.rq 1 (.done ([i] ++ v0))))))))))
def F_R16_Tail (self : ((List Bool) × (List Tk) × (List Th) × (List Lk) × (List Int) × Int × Int) → Option (List Int)) (x : (List Bool) × (List Tk) × (List Th) × (List Lk) × (List Int) × Int × Int) : Option (List Int) := (R16_Tail self x).run fun _ => none
def R16_Tail_P (self : ((List Bool) × (List Tk) × (List Th) × (List Lk) × (List Int) × Int × Int) → Option (List Int)) : List Piece := []
def R16_Tail_T (self : ((List Bool) × (List Tk) × (List Th) × (List Lk) × (List Int) × Int × Int) → Option (List Int)) : CallT := tab [io_R16_Tail.en self, e_R16_Next, e_R14_Thread]
theorem R16_Tail_To (self : ((List Bool) × (List Tk) × (List Th) × (List Lk) × (List Int) × Int × Int) → Option (List Int)) (hs : io_R16_Tail.Okay pg self) : SoundT pg (R16_Tail_T self) := tab_sound ⟨en_ok hs, e_R16_Next_ok, e_R14_Thread_ok, trivial⟩
theorem R16_Tail_go (self : ((List Bool) × (List Tk) × (List Th) × (List Lk) × (List Int) × Int × Int) → Option (List Int)) : FnOK pg (R16_Tail_T self) io_R16_Tail f_R16_Tail (R16_Tail_P self) [.toDat 4, .den 4 [.sl tI]] (R16_Tail self) := ⟨by kernel_rfl, by kernel_rfl, fun x => by kernel_rfl⟩
theorem ok_R16_Tail (self : ((List Bool) × (List Tk) × (List Th) × (List Lk) × (List Int) × Int × Int) → Option (List Int)) (hs : io_R16_Tail.Okay pg self) : io_R16_Tail.Okay pg (F_R16_Tail self) := fn_ok pg_mixed (R16_Tail_To self hs) (R16_Tail_go self) trivial
def R_R16_Tail : Nat → ((List Bool) × (List Tk) × (List Th) × (List Lk) × (List Int) × Int × Int) → Option (List Int)
  | 0 => fun _ => none
  | n + 1 => F_R16_Tail (R_R16_Tail n)
theorem okR_R16_Tail : ∀ n, io_R16_Tail.Okay pg (R_R16_Tail n)
  | 0 => ⟨⟨f_R16_Tail, by kernel_rfl, by kernel_rfl, by kernel_rfl⟩, fun _ _ h => by cases h⟩
  | n + 1 => ok_R16_Tail _ (okR_R16_Tail n)
def tailR (c : List Th) (d : List Lk) : Nat → Int → Option (List Int)
  | 0, _ => none
  | n + 1, i => if (!(inB c i && (gI c i).1 != 0)) = true then some [] else if nextR (thrArr c d) i < 0 then some [i] else (tailR c d n (nextR (thrArr c d) i)).map (i :: ·)
theorem tailR_len {c : List Th} {d : List Lk} : ∀ {n : Nat} {i : Int} {o : List Int}, tailR c d n i = some o → o.length ≤ n
  | 0, i, o, h => by cases h
  | n + 1, i, o, h => by
    unfold tailR at h
    split at h
    · cases h; simp
    · split at h
      · cases h; simp
      · obtain ⟨o', h1, rfl⟩ := Option.map_eq_some_iff.1 h
        have := tailR_len h1
        simp; omega
theorem tailR_run (a : List Bool) (b : List Tk) (c : List Th) (d : List Lk) (e : List Int) (f : Int) (hc : (decide (c.length ≤ 1000000) && thrOK c d) = true) : ∀ (n : Nat) (i : Int) (o : List Int), n ≤ 1000001 → tailR c d n i = some o → R_R16_Tail n (a, b, c, d, e, f, i) = some o
  | 0, i, o, _, h => by cases h
  | n + 1, i, o, hn, h => by
    have hmax : maxLen = 9223372036854775807 := by decide
    show (R16_Tail (R_R16_Tail n) (a, b, c, d, e, f, i)).run _ = _
    rw [R16_Tail]
    simp only [RT.run]
    unfold tailR at h
    split at h
    · rename_i h1
      cases h
      rw [if_pos h1]
    · rename_i h1
      rw [if_neg h1, if_pos hc]
      split at h
      · rename_i h2
        cases h
        rw [if_pos (decide_eq_true h2)]
      · rename_i h2
        obtain ⟨o', h3, rfl⟩ := Option.map_eq_some_iff.1 h
        have hlen := tailR_len h3
        rw [if_neg (by simpa using h2), tailR_run a b c d e f hc n _ o' (by omega) h3, Option.bind_some, if_pos (apOK_iff.2 ⟨by simp only [List.length_singleton]; omega, by simp only [List.length_singleton]; omega⟩)]
        rfl
def tailROK (c : List Th) (d : List Lk) (i : Int) : Bool := (decide (c.length ≤ 1000000) && thrOK c d) && (tailR c d (c.length + 1) i).isSome
def tailRV (c : List Th) (d : List Lk) (i : Int) : List Int := (tailR c d (c.length + 1) i).getD []
def e_R16_Tail : Entry := io_R16_Tail.sp (fun (a, b, c, d, e, f, i) => (tailROK c d i)) (fun (a, b, c, d, e, f, i) => (tailRV c d i))
theorem sp_R16_Tail (h : ∀ (a : List Bool) (b : List Tk) (c : List Th) (d : List Lk) (e : List Int) (f : Int) (i : Int), WfT [.sl tB, .sl yK, .sl yH, .sl yL, .sl tI, tI, tI] (a, b, c, d, e, f, i) → ((tailROK c d i)) = true → ∃ n, R_R16_Tail n (a, b, c, d, e, f, i) = some (tailRV c d i)) : e_R16_Tail.ok pg := sp_rec okR_R16_Tail fun (a, b, c, d, e, f, i) hw hc => h a b c d e f i hw hc
theorem e_R16_Tail_ok : e_R16_Tail.ok pg := sp_R16_Tail fun a b c d e f i _ hc => by
  unfold tailROK at hc
  rw [Bool.and_eq_true] at hc
  obtain ⟨o, ho⟩ := Option.isSome_iff_exists.1 hc.2
  have h1 := hc.1
  rw [Bool.and_eq_true] at h1
  have hl := of_decide_eq_true h1.1
  refine ⟨c.length + 1, ?_⟩
  rw [tailR_run a b c d e f hc.1 _ i o (by omega) ho, tailRV, ho]
  rfl
def R16_End : ((List Bool) × (List Tk) × (List Th) × (List Lk) × (List Int) × Int × Int) → RT Unit Int
| (s_0, s_1, s_2, s_3, s_4, s_5, i) =>
 .rq 4 (.req ((tailROK s_2 s_3 i)) (.rq 4 (let t0 := (tailRV s_2 s_3 i);
 let t1 := (t0.length : Int);
 .ite (t1 == 0)
 (.rq 1 (.done (-1)))
 (.rq 4 (let t2 := w64 (t1 - 1);
 .req (inB t0 t2) (.rq 2 (.done (gI t0 t2))))))))
def F_R16_End (x : (List Bool) × (List Tk) × (List Th) × (List Lk) × (List Int) × Int × Int) : Option Int := (R16_End x).run fun _ => none
def io_R16_End : Io := ⟨n_R16_End, [.sl tB, .sl yK, .sl yH, .sl yL, .sl tI, tI, tI], [.agg [qm 0, qm 1, qm 2, qm 3, qm 4, qm 5], .lf (qm 6)], [], [[.sl tB, .sl yK, .sl yH, .sl yL, .sl tI, tI], [tI]], [tI], .lf (qm 0), [], [], false⟩
def R16_End_P : List Piece := []
def R16_End_T : CallT := tab [e_R16_Tail]
theorem R16_End_To : SoundT pg R16_End_T := tab_sound ⟨e_R16_Tail_ok, trivial⟩
theorem R16_End_go : FnOK pg (R16_End_T) io_R16_End f_R16_End (R16_End_P) [] (R16_End) := ⟨by kernel_rfl, by kernel_rfl, fun x => by kernel_rfl⟩
theorem ok_R16_End : io_R16_End.Okay pg (F_R16_End) := fn_ok pg_mixed (R16_End_To) (R16_End_go) trivial
def e_R16_End : Entry := io_R16_End.sp (fun (a, b, c, d, e, f, i) => (tailROK c d i)) (fun (a, b, c, d, e, f, i) => ((tailRV c d i).getLastD (-1)))
theorem sp_R16_End (h : ∀ (a : List Bool) (b : List Tk) (c : List Th) (d : List Lk) (e : List Int) (f : Int) (i : Int), WfT [.sl tB, .sl yK, .sl yH, .sl yL, .sl tI, tI, tI] (a, b, c, d, e, f, i) → ((tailROK c d i)) = true → (R16_End (a, b, c, d, e, f, i)).run (fun _ => none) = some ((tailRV c d i).getLastD (-1))) : e_R16_End.ok pg := sp_ok ok_R16_End fun (a, b, c, d, e, f, i) hw hc => h a b c d e f i hw hc
theorem e_R16_End_ok : e_R16_End.ok pg := sp_R16_End fun a b c d e f i _ hc => by
  have hc' := hc
  unfold tailROK at hc'
  simp only [Bool.and_eq_true, decide_eq_true_eq] at hc'
  have hl := hc'.1.1
  have hlen : (tailRV c d i).length ≤ c.length + 1 := by
    unfold tailRV
    cases h : tailR c d (c.length + 1) i with
    | none => simp
    | some o => exact tailR_len h
  rw [R16_End]
  simp only [RT.run]
  rw [if_pos hc]
  generalize tailRV c d i = t at *
  by_cases ht : t = []
  · subst ht; rfl
  · have hpos : 0 < t.length := List.length_pos_iff.2 ht
    rw [if_neg (by simp; omega), w64_in (by omega), show (t.length : Int) - 1 = ((t.length - 1 : Nat) : Int) by omega, if_pos (inB_iff.2 ⟨by omega, by omega⟩), gI_lt (by omega), List.getLastD_eq_getLast?, List.getLast?_eq_getElem?, List.getElem?_eq_getElem (by omega)]
    rfl
def R16_Lives : ((List Bool) × (List Tk) × (List Th) × (List Lk) × (List Int) × Int × Int) → RT Unit Bool
| (s_0, s_1, s_2, s_3, s_4, s_5, i) =>
 .rq 4 (.req ((tailROK s_2 s_3 i)) (.rq 7 (let t0 := ((tailRV s_2 s_3 i).getLastD (-1));
 let t1 := inB s_2 t0;
 let t2 := decide (0 ≤ t0);
 .req (t1 || (!t2)) (.rq 7 (let t3 := (gI s_2 t0).1 == 2;
 .req (t1 || (!((!t3) && t2))) (.rq 6 (.done (t2 && (t3 || ((gI s_2 t0).1 == 3))))))))))
def F_R16_Lives (x : (List Bool) × (List Tk) × (List Th) × (List Lk) × (List Int) × Int × Int) : Option Bool := (R16_Lives x).run fun _ => none
def io_R16_Lives : Io := ⟨n_R16_Lives, [.sl tB, .sl yK, .sl yH, .sl yL, .sl tI, tI, tI], [.agg [qm 0, qm 1, qm 2, qm 3, qm 4, qm 5], .lf (qm 6)], [], [[.sl tB, .sl yK, .sl yH, .sl yL, .sl tI, tI], [tI]], [tB], .lf (qm 0), [], [], false⟩
def R16_Lives_P : List Piece := []
def R16_Lives_T : CallT := tab [e_R16_End]
theorem R16_Lives_To : SoundT pg R16_Lives_T := tab_sound ⟨e_R16_End_ok, trivial⟩
theorem R16_Lives_go : FnOK pg (R16_Lives_T) io_R16_Lives f_R16_Lives (R16_Lives_P) [] (R16_Lives) := ⟨by kernel_rfl, by kernel_rfl, fun x => by kernel_rfl⟩
theorem ok_R16_Lives : io_R16_Lives.Okay pg (F_R16_Lives) := fn_ok pg_mixed (R16_Lives_To) (R16_Lives_go) trivial
def endRV (c : List Th) (d : List Lk) (i : Int) : Int := (tailRV c d i).getLastD (-1)
def livesR (c : List Th) (d : List Lk) (i : Int) : Bool := decide (0 ≤ endRV c d i) && ((gI c (endRV c d i)).1 == 2 || (gI c (endRV c d i)).1 == 3)
def livesROK (c : List Th) (d : List Lk) (i : Int) : Bool := tailROK c d i && (inB c (endRV c d i) || !(decide (0 ≤ endRV c d i)))
def e_R16_Lives : Entry := io_R16_Lives.sp (fun (a, b, c, d, e, f, i) => (livesROK c d i)) (fun (a, b, c, d, e, f, i) => (livesR c d i))
theorem sp_R16_Lives (h : ∀ (a : List Bool) (b : List Tk) (c : List Th) (d : List Lk) (e : List Int) (f : Int) (i : Int), WfT [.sl tB, .sl yK, .sl yH, .sl yL, .sl tI, tI, tI] (a, b, c, d, e, f, i) → ((livesROK c d i)) = true → (R16_Lives (a, b, c, d, e, f, i)).run (fun _ => none) = some (livesR c d i)) : e_R16_Lives.ok pg := sp_ok ok_R16_Lives fun (a, b, c, d, e, f, i) hw hc => h a b c d e f i hw hc
theorem e_R16_Lives_ok : e_R16_Lives.ok pg := sp_R16_Lives fun a b c d e f i _ hc => by
  unfold livesROK at hc
  rw [Bool.and_eq_true] at hc
  rw [R16_Lives]
  simp only [RT.run]
  have h2 : (inB c ((tailRV c d i).getLastD (-1)) || !(decide (0 ≤ (tailRV c d i).getLastD (-1)))) = true := hc.2
  rw [if_pos hc.1, if_pos h2, if_pos]
  · rfl
  · cases hin : inB c ((tailRV c d i).getLastD (-1)) with
    | true => simp
    | false =>
      rw [hin] at h2
      have : decide (0 ≤ (tailRV c d i).getLastD (-1)) = false := by simpa using h2
      rw [this]; simp
def io_R17_Amount : Io := ⟨n_R17_Amount, [.sl tB, .sl yK, .sl yH, .sl yL, .sl tI, tI, tI], [.agg [qm 0, qm 1, qm 2, qm 3, qm 4, qm 5], .lf (qm 6)], [], [[.sl tB, .sl yK, .sl yH, .sl yL, .sl tI, tI], [tI]], [tI], .lf (qm 0), [], [], false⟩
def R17_Counts (self : ((List Bool) × (List Tk) × (List Th) × (List Lk) × (List Int) × Int × Int) → Option Int) : ((List Bool) × (List Tk) × (List Th) × (List Lk) × (List Int) × Int × Int) → RT Unit Bool
| (s_0, s_1, s_2, s_3, s_4, s_5, k) =>
 .rq 5 (.req (inB s_1 k) (.rq 11 (.ite ((!(gI s_1 k).1) || (!(gI s_1 k).2.2.2.2.2))
 (.rq 1 (.done false))
 (.rq 3 (.ite ((gI s_1 k).2.2.2.1 == 1)
 (.rq 3 (.req ((livesROK s_2 s_3 (gI s_1 k).2.2.2.2.1)) (.rq 1 (.done ((livesR s_2 s_3 (gI s_1 k).2.2.2.2.1))))))
 (.rq 7 (let t0 := (gI s_1 k).2.2.2.1 == 2;
 let t1 := self (s_0, s_1, s_2, s_3, s_4, s_5, (gI s_1 k).2.2.2.2.1);
 .req (t1.isSome || (!t0)) (.rq 3 (.done (t0 && (decide (0 < (Option.getD t1 default)))))))))))))
def F_R17_Counts (self : ((List Bool) × (List Tk) × (List Th) × (List Lk) × (List Int) × Int × Int) → Option Int) (x : (List Bool) × (List Tk) × (List Th) × (List Lk) × (List Int) × Int × Int) : Option Bool := (R17_Counts self x).run fun _ => none
def io_R17_Counts : Io := ⟨n_R17_Counts, [.sl tB, .sl yK, .sl yH, .sl yL, .sl tI, tI, tI], [.agg [qm 0, qm 1, qm 2, qm 3, qm 4, qm 5], .lf (qm 6)], [], [[.sl tB, .sl yK, .sl yH, .sl yL, .sl tI, tI], [tI]], [tB], .lf (qm 0), [], [], false⟩
def R17_Counts_P (self : ((List Bool) × (List Tk) × (List Th) × (List Lk) × (List Int) × Int × Int) → Option Int) : List Piece := []
def R17_Counts_T (self : ((List Bool) × (List Tk) × (List Th) × (List Lk) × (List Int) × Int × Int) → Option Int) : CallT := tab [io_R17_Amount.en self, e_R16_Lives]
theorem R17_Counts_To (self : ((List Bool) × (List Tk) × (List Th) × (List Lk) × (List Int) × Int × Int) → Option Int) (hs : io_R17_Amount.Okay pg self) : SoundT pg (R17_Counts_T self) := tab_sound ⟨en_ok hs, e_R16_Lives_ok, trivial⟩
theorem R17_Counts_go (self : ((List Bool) × (List Tk) × (List Th) × (List Lk) × (List Int) × Int × Int) → Option Int) : FnOK pg (R17_Counts_T self) io_R17_Counts f_R17_Counts (R17_Counts_P self) [] (R17_Counts self) := ⟨by kernel_rfl, by kernel_rfl, fun x => by kernel_rfl⟩
theorem ok_R17_Counts (self : ((List Bool) × (List Tk) × (List Th) × (List Lk) × (List Int) × Int × Int) → Option Int) (hs : io_R17_Amount.Okay pg self) : io_R17_Counts.Okay pg (F_R17_Counts self) := fn_ok pg_mixed (R17_Counts_To self hs) (R17_Counts_go self) trivial
def R17_Amount_b58 (self : ((List Bool) × (List Tk) × (List Th) × (List Lk) × (List Int) × Int × Int) → Option Bool) : (Int × (List Bool) × (List Tk) × (List Th) × (List Lk) × (List Int) × Int) → (Int × Int) → RT (Int × Int) Int
| (c, s_0, s_1, s_2, s_3, s_4, s_5), (n, k) =>
 .rq 5 (.ite (decide (k < (s_1.length : Int)))
 (.rq 3 (.req (inB s_1 k) (.rq 7 (let t0 := (gI s_1 k).2.1 == c;
 let t1 := self (s_0, s_1, s_2, s_3, s_4, s_5, k);
 .req (t1.isSome || (!t0)) (.rq 1 (let t2 := w64 (k + 1);
 .ite (t0 && (Option.getD t1 default))
 (.rq 4 (.req (inB s_1 k) (.rq 7 (.again (w64 (n + (gI s_1 k).2.2.1), t2)))))
 (.rq 3 (.again (n, t2)))))))))
 (.done n))
def R17_Amount_p58 (self : ((List Bool) × (List Tk) × (List Th) × (List Lk) × (List Int) × Int × Int) → Option Bool) : Piece := ⟨58, true, [tI, .sl tB, .sl yK, .sl yH, .sl yL, .sl tI, tI], [tI, tI], ⟨[.keep [1, 2, 5, 6], .gc], [1, 2, 5, 6], [.lf (qi 0), .lf (qp 32), .lf (qm 0), .lf (qm 1)], [(32, true, .cells [qi 1, qi 2, qi 3, qi 4, qi 5, qi 6])]⟩, [⟨2, ⟨[.keep [5], .gc], [5], [.lf (qm 0)], []⟩, [tI]⟩], (R17_Amount_b58 self)⟩
def R17_Amount (self : ((List Bool) × (List Tk) × (List Th) × (List Lk) × (List Int) × Int × Int) → Option Bool) : ((List Bool) × (List Tk) × (List Th) × (List Lk) × (List Int) × Int × Int) → RT Unit Int
| (s_0, s_1, s_2, s_3, s_4, s_5, c) =>
 .rq 4 (.call (lo (R17_Amount_b58 self) (c, s_0, s_1, s_2, s_3, s_4, s_5) (0, 0)) default fun v0 =>
 .rq 2 (.done v0))
def F_R17_Amount (self : ((List Bool) × (List Tk) × (List Th) × (List Lk) × (List Int) × Int × Int) → Option Bool) (x : (List Bool) × (List Tk) × (List Th) × (List Lk) × (List Int) × Int × Int) : Option Int := (R17_Amount self x).run fun _ => none
def R17_Amount_P (self : ((List Bool) × (List Tk) × (List Th) × (List Lk) × (List Int) × Int × Int) → Option Bool) : List Piece := [R17_Amount_p58 self]
def R17_Amount_T (self : ((List Bool) × (List Tk) × (List Th) × (List Lk) × (List Int) × Int × Int) → Option Bool) : CallT := tab [io_R17_Counts.en self]
theorem R17_Amount_To (self : ((List Bool) × (List Tk) × (List Th) × (List Lk) × (List Int) × Int × Int) → Option Bool) (hs : io_R17_Counts.Okay pg self) : SoundT pg (R17_Amount_T self) := tab_sound ⟨en_ok hs, trivial⟩
theorem R17_Amount_k58 (self : ((List Bool) × (List Tk) × (List Th) × (List Lk) × (List Int) × Int × Int) → Option Bool) : (R17_Amount_p58 self).OK pg (R17_Amount_T self) (tell 36 (R17_Amount_P self)) (codeOf f_R17_Amount) 36 := ⟨by kernel_rfl, fun i x => by kernel_rfl⟩
theorem R17_Amount_go (self : ((List Bool) × (List Tk) × (List Th) × (List Lk) × (List Int) × Int × Int) → Option Bool) : FnOK pg (R17_Amount_T self) io_R17_Amount f_R17_Amount (R17_Amount_P self) [] (R17_Amount self) := ⟨by kernel_rfl, by kernel_rfl, fun x => by kernel_rfl⟩
theorem ok_R17_Amount (self : ((List Bool) × (List Tk) × (List Th) × (List Lk) × (List Int) × Int × Int) → Option Bool) (hs : io_R17_Counts.Okay pg self) : io_R17_Amount.Okay pg (F_R17_Amount self) := fn_ok pg_mixed (R17_Amount_To self hs) (R17_Amount_go self) ⟨R17_Amount_k58 self, trivial⟩
def R_R17_Amount : Nat → ((List Bool) × (List Tk) × (List Th) × (List Lk) × (List Int) × Int × Int) → Option Int
  | 0 => fun _ => none
  | n + 1 => F_R17_Amount (F_R17_Counts (R_R17_Amount n))
theorem okR_R17_Amount : ∀ n, io_R17_Amount.Okay pg (R_R17_Amount n)
  | 0 => ⟨⟨f_R17_Amount, by kernel_rfl, by kernel_rfl, by kernel_rfl⟩, fun _ _ h => by cases h⟩
  | n + 1 => ok_R17_Amount _ (ok_R17_Counts _ (okR_R17_Amount n))
def R_R17_Counts (n : Nat) : ((List Bool) × (List Tk) × (List Th) × (List Lk) × (List Int) × Int × Int) → Option Bool := F_R17_Counts (R_R17_Amount n)
theorem okR_R17_Counts (n : Nat) : io_R17_Counts.Okay pg (R_R17_Counts n) := ok_R17_Counts _ (okR_R17_Amount n)
end
end Go.Proofs.YtlfdidaeachpoaaGreat

namespace Go.Proofs.YtlfdidaeachpoaaGreat
theorem nodup_lt : ∀ (m : Nat) (l : List Nat), l.Nodup → (∀ x ∈ l, x < m) → l.length ≤ m
  | 0, l, _, h => by
    cases l with
    | nil => simp
    | cons x l => exact absurd (h x (List.mem_cons_self ..)) (Nat.not_lt_zero x)
  | m + 1, l, hn, h => by
    have h1 := nodup_lt m (l.erase m) (hn.erase m) fun x hx => by
      have := hn.mem_erase_iff.1 hx
      have := h x this.2
      omega
    rw [List.length_erase] at h1
    split at h1 <;> omega
def Arr (m : Nat) (l : List (Int × Int)) (i j : Nat) : Prop := ∃ a ∈ l, hsOk m a = true ∧ a.1 = (i : Int) ∧ a.2 = (j : Int)
inductive Way (m : Nat) (l : List (Int × Int)) : Nat → Nat → Prop
  | one {i j : Nat} (h : Arr m l i j) : Way m l i j
  | more {i j k : Nat} (h : Arr m l i j) (h' : Way m l j k) : Way m l i k
theorem Way.trans {m : Nat} {l : List (Int × Int)} {i j k : Nat} (h : Way m l i j) (h' : Way m l j k) : Way m l i k := by
  induction h with
  | one h => exact .more h h'
  | more h _ ih => exact .more h (ih h')
theorem nxt_none {m : Nat} {l : List (Int × Int)} {out : List Int} (h : nxt m l out = none) {k : Nat} (hk : k < m) (ho : (k : Int) ∉ out) : ∃ j, j < m ∧ (j : Int) ∉ out ∧ Arr m l j k := by
  have h1 := List.findIdx?_eq_none_iff.1 h k (List.mem_range.2 hk)
  have hc : out.contains (k : Int) = false := by
    cases hc : out.contains (k : Int) with
    | false => rfl
    | true => exact absurd (List.contains_iff_mem.1 hc) ho
  rw [hc] at h1
  have h2 : indeg m l out (k : Int) ≠ 0 := by simpa using h1
  have h3 : 0 < (l.filter fun a => hsOk m a && a.2 == (k : Int) && !(out.contains a.1)).length := Nat.pos_of_ne_zero h2
  obtain ⟨a, ha⟩ := List.exists_mem_of_length_pos h3
  obtain ⟨h4, h5⟩ := List.mem_filter.1 ha
  simp only [Bool.and_eq_true, beq_iff_eq, Bool.not_eq_true'] at h5
  obtain ⟨⟨hok, h6⟩, h7⟩ := h5
  have hv := hok
  simp only [hsOk, Bool.and_eq_true, decide_eq_true_eq] at hv
  refine ⟨a.1.toNat, by omega, ?_, a, h4, hok, by omega, h6⟩
  rw [show ((a.1.toNat : Nat) : Int) = a.1 by omega]
  intro hm
  rw [List.contains_iff_mem.2 hm] at h7
  cases h7
theorem walk_back {m : Nat} {l : List (Int × Int)} {out : List Int} (h : nxt m l out = none) (hr : ∀ i, ¬ Way m l i i) {k : Nat} (hk : k < m) (ho : (k : Int) ∉ out) : ∀ n, ∃ (j : Nat) (p : List Nat), p.length = n ∧ (j :: p).Nodup ∧ (∀ x ∈ j :: p, x < m) ∧ (j : Int) ∉ out ∧ ∀ x ∈ p, Way m l j x
  | 0 => ⟨k, [], rfl, by simp, by simpa using hk, ho, by simp⟩
  | n + 1 => by
    obtain ⟨j, p, h1, h2, h3, h4, h5⟩ := walk_back h hr hk ho n
    obtain ⟨i, h6, h7, h8⟩ := nxt_none h (h3 j (List.mem_cons_self ..)) h4
    have hway : ∀ x ∈ j :: p, Way m l i x := fun x hx => by
      rcases List.mem_cons.1 hx with rfl | hx
      · exact .one h8
      · exact .more h8 (h5 x hx)
    refine ⟨i, j :: p, by simp [h1], ?_, ?_, h7, hway⟩
    · rw [List.nodup_cons]
      exact ⟨fun hm => hr i (hway i hm), h2⟩
    · intro x hx
      rcases List.mem_cons.1 hx with rfl | hx
      · exact h6
      · exact h3 x hx
theorem not_out {m : Nat} {l : List (Int × Int)} {out : List Int} (H : OutOf m l out) (h : out.length < m) : ∃ k : Nat, k < m ∧ (k : Int) ∉ out := by
  refine Classical.byContradiction fun hno => ?_
  have hall : ∀ k : Nat, k < m → (k : Int) ∈ out := fun k hk => Classical.byContradiction fun hn => hno ⟨k, hk, hn⟩
  have : ∀ (n : Nat) (o : List Int), (∀ k : Nat, k < n → (k : Int) ∈ o) → n ≤ o.length := by
    intro n
    induction n with
    | zero => intro o _; omega
    | succ n ih =>
      intro o ho
      have h1 := ho n (by omega)
      have h2 := ih (o.erase (n : Int)) fun k hk => (List.mem_erase_of_ne (by omega)).2 (ho k (by omega))
      rw [List.length_erase_of_mem h1] at h2
      have := List.length_pos_of_mem h1
      omega
  have := this m out hall
  omega
theorem kahn_some {m : Nat} {l : List (Int × Int)} (hr : ∀ i, ¬ Way m l i i) : ∀ (n : Nat) (out : List Int), OutOf m l out → out.length + n = m → ∃ o, kahn m l n out = some o
  | 0, out, _, _ => ⟨out, rfl⟩
  | n + 1, out, H, h => by
    unfold kahn
    cases hn : nxt m l out with
    | some k => exact kahn_some hr n _ (H.step hn) (by simp; omega)
    | none =>
      exfalso
      obtain ⟨k, hk, ho⟩ := not_out H (by omega)
      obtain ⟨j, p, h1, h2, h3, _⟩ := walk_back hn hr hk ho m
      have := nodup_lt m (j :: p) h2 h3
      rw [List.length_cons] at this
      omega
theorem ordV_ok {m : Nat} {l : List (Int × Int)} (hr : ∀ i, ¬ Way m l i i) : (ordV m l).1 = true ∧ (ordV m l).2.length = m := by
  obtain ⟨o, ho⟩ := kahn_some hr m [] (OutOf.nil m l) (by simp)
  unfold ordV
  rw [ho]
  refine ⟨rfl, ?_⟩
  have := kahn_length ho
  simpa using this
theorem kahn_prefix {m : Nat} {l : List (Int × Int)} : ∀ {n : Nat} {out o : List Int}, kahn m l n out = some o → ∃ r, o = out ++ r
  | 0, out, o, h => by cases h; exact ⟨[], by simp⟩
  | n + 1, out, o, h => by
    unfold kahn at h
    split at h
    · cases h
    · obtain ⟨r, hr⟩ := kahn_prefix h
      exact ⟨_, by rw [hr, List.append_assoc]⟩
theorem nxt_from {m : Nat} {l : List (Int × Int)} {out : List Int} {k : Nat} (h : nxt m l out = some k) {a : Int × Int} (ha : a ∈ l) (hok : hsOk m a = true) (h2 : a.2 = (k : Int)) : a.1 ∈ out := by
  obtain ⟨_, _, h3⟩ := nxt_spec h
  refine Classical.byContradiction fun hn => ?_
  have hc : out.contains a.1 = false := by
    cases hc : out.contains a.1 with
    | false => rfl
    | true => exact absurd (List.contains_iff_mem.1 hc) hn
  have : a ∈ l.filter fun a => hsOk m a && a.2 == (k : Int) && !(out.contains a.1) := by
    rw [List.mem_filter]
    refine ⟨ha, ?_⟩
    rw [hok, h2, hc]
    simp
  have hpos := List.length_pos_of_mem this
  unfold indeg at h3
  omega
theorem kahn_split {m : Nat} {l : List (Int × Int)} : ∀ {n : Nat} {out o : List Int}, kahn m l n out = some o → ∀ p k q, o = p ++ k :: q → out.length ≤ p.length → ∀ a ∈ l, hsOk m a = true → a.2 = k → a.1 ∈ p
  | 0, out, o, h, p, k, q, ho, hl, a, ha, hok, h2 => by
    cases h
    have := congrArg List.length ho
    simp at this
    omega
  | n + 1, out, o, h, p, k, q, ho, hl, a, ha, hok, h2 => by
    unfold kahn at h
    split at h
    · cases h
    · rename_i k0 hk0
      by_cases hp : p.length = out.length
      · obtain ⟨r, hr⟩ := kahn_prefix h
        have he : p ++ k :: q = out ++ ((k0 : Int) :: r) := by rw [← ho, hr, List.append_assoc]; rfl
        obtain ⟨h3, h4⟩ := List.append_inj he hp
        cases h4
        rw [h3]
        exact nxt_from hk0 ha hok h2
      · exact kahn_split h p k q ho (by simp; omega) a ha hok h2
theorem ordV_split {m : Nat} {l : List (Int × Int)} {p q : List Int} {k : Int} (ho : (ordV m l).2 = p ++ k :: q) {a : Int × Int} (ha : a ∈ l) (hok : hsOk m a = true) (h2 : a.2 = k) : a.1 ∈ p := by
  unfold ordV at ho
  cases h : kahn m l m [] with
  | none => rw [h] at ho; simp at ho
  | some o => rw [h] at ho; exact kahn_split h p k q ho (by simp) a ha hok h2
theorem ordV_all {m : Nat} {l : List (Int × Int)} (h : (ordV m l).2.length = m) {k : Nat} (hk : k < m) : (k : Int) ∈ (ordV m l).2 := by
  refine Classical.byContradiction fun hn => ?_
  have H := ordV_out m l
  have h1 : ((k : Int) :: (ordV m l).2).Nodup := List.nodup_cons.2 ⟨hn, H.nodup⟩
  have h2 := nodup_lt m (((k : Int) :: (ordV m l).2).map Int.toNat) ?_ ?_
  · rw [List.length_map, List.length_cons] at h2; omega
  · rw [List.nodup_iff_pairwise_ne, List.pairwise_map]
    have h3 := List.nodup_iff_pairwise_ne.1 h1
    refine List.Pairwise.imp_of_mem ?_ h3
    intro x y hx hy hxy
    have hb : ∀ z ∈ (k : Int) :: (ordV m l).2, 0 ≤ z := fun z hz => by
      rcases List.mem_cons.1 hz with rfl | hz
      · omega
      · exact (H.inr z hz).1
    have := hb x hx
    have := hb y hy
    omega
  · intro x hx
    obtain ⟨z, hz, rfl⟩ := List.mem_map.1 hx
    rcases List.mem_cons.1 hz with rfl | hz
    · omega
    · have := H.inr z hz; omega
def rchStep (m : Nat) (i : Int) (x : Bool × List Bool) (a : Int × Int) : Bool × List Bool :=
  if (!(hsOk m a) || gI x.2 a.2) = true then x else if (a.1 == i || gI x.2 a.1) = true then (true, sI x.2 a.2 true) else x
theorem gI_sI {r : List Bool} {k j : Int} (hk : 0 ≤ k ∧ k < (r.length : Int)) (hj : 0 ≤ j) : gI (sI r k true) j = if k = j then true else gI r j := by
  obtain ⟨k, rfl⟩ := Int.eq_ofNat_of_zero_le hk.1
  obtain ⟨j, rfl⟩ := Int.eq_ofNat_of_zero_le hj
  simp only [gI, sI, Int.toNat_natCast, List.getD_eq_getElem?_getD]
  by_cases h : k = j
  · subst h
    rw [List.getElem?_set_self (by omega), if_pos rfl]; rfl
  · rw [List.getElem?_set_ne h, if_neg (by omega)]
structure Pass (m : Nat) (l : List (Int × Int)) (i : Nat) (r r' : List Bool) (ch : Bool) : Prop where
  len : r'.length = r.length
  mono : ∀ j : Int, 0 ≤ j → gI r j = true → gI r' j = true
  sound : (∀ j : Nat, j < m → gI r (j : Int) = true → Way m l i j) → ∀ j : Nat, j < m → gI r' (j : Int) = true → Way m l i j
  more : ch = true → r.count true < r'.count true
  le : r.count true ≤ r'.count true
  same : ch = false → r' = r
theorem count_set {r : List Bool} : ∀ {k : Nat}, k < r.length → r.getD k default = false → (r.set k true).count true = r.count true + 1 := by
  induction r with
  | nil => intro k h; exact absurd h (Nat.not_lt_zero k)
  | cons x r ih =>
    intro k h hf
    cases k with
    | zero =>
      have hx : x = false := by simpa using hf
      subst hx
      simp
    | succ k =>
      have := ih (k := k) (by simpa using h) (by simpa using hf)
      simp only [List.set_cons_succ, List.count_cons, this]
      omega
theorem pass_fold {m : Nat} {l0 : List (Int × Int)} {i : Nat} (hi : i < m) : ∀ (l : List (Int × Int)) (ch : Bool) (r r0 : List Bool), (∀ a ∈ l, a ∈ l0) → r.length = m → Pass m l0 i r0 r ch → Pass m l0 i r0 (l.foldl (rchStep m (i : Int)) (ch, r)).2 (l.foldl (rchStep m (i : Int)) (ch, r)).1
  | [], _, _, _, _, _, H => H
  | a :: l, ch, r, r0, hsub, hr, H => by
    have hsub' : ∀ x ∈ l, x ∈ l0 := fun x hx => hsub x (List.mem_cons_of_mem _ hx)
    rw [List.foldl_cons]
    unfold rchStep
    by_cases h1 : (!(hsOk m a) || gI r a.2) = true
    · simp only [if_pos h1]; exact pass_fold hi l ch r r0 hsub' hr H
    · simp only [if_neg h1]
      by_cases h2 : (a.1 == (i : Int) || gI r a.1) = true
      · simp only [if_pos h2]
        have h1' : hsOk m a = true ∧ gI r a.2 = false := by
          cases h : hsOk m a <;> cases h' : gI r a.2 <;> simp_all
        obtain ⟨hok, hf⟩ := h1'
        have hv := hok
        simp only [hsOk, Bool.and_eq_true, decide_eq_true_eq] at hv
        have hk : 0 ≤ a.2 ∧ a.2 < (r.length : Int) := by rw [hr]; omega
        have hcount : (sI r a.2 true).count true = r.count true + 1 := count_set (by omega) hf
        refine pass_fold hi l true _ r0 hsub' (by simp [sI, hr]) ⟨by simp [sI, H.len], fun j hj h => ?_, fun hs j hj h => ?_, fun _ => ?_, ?_, fun h => by cases h⟩
        · rw [gI_sI hk hj]
          split
          · rfl
          · exact H.mono j hj h
        · rw [gI_sI hk (by omega)] at h
          split at h
          · rename_i he
            have ha := hsub a (List.mem_cons_self ..)
            rw [Bool.or_eq_true] at h2
            rcases h2 with h3 | h3
            · exact .one ⟨a, ha, hok, by simpa using h3, he⟩
            · have hw := H.sound hs a.1.toNat (by omega) (by rw [show ((a.1.toNat : Nat) : Int) = a.1 by omega]; exact h3)
              exact hw.trans (.one ⟨a, ha, hok, by omega, he⟩)
          · exact H.sound hs j hj h
        · rw [hcount]; have := H.le; omega
        · rw [hcount]; have := H.le; omega
      · simp only [if_neg h2]; exact pass_fold hi l ch r r0 hsub' hr H
theorem rch_true {m : Nat} {i : Int} : ∀ (l : List (Int × Int)) (r : List Bool), (l.foldl (rchStep m i) (true, r)).1 = true
  | [], _ => rfl
  | a :: l, r => by
    rw [List.foldl_cons]
    unfold rchStep
    split
    · exact rch_true l r
    · split
      · exact rch_true l _
      · exact rch_true l r
theorem rch_closed {m : Nat} {i : Int} : ∀ (l : List (Int × Int)) (r : List Bool), (l.foldl (rchStep m i) (false, r)).1 = false → (l.foldl (rchStep m i) (false, r)).2 = r ∧ ∀ a ∈ l, hsOk m a = true → (a.1 = i ∨ gI r a.1 = true) → gI r a.2 = true
  | [], _, _ => ⟨rfl, fun a h => by cases h⟩
  | a :: l, r, h => by
    rw [List.foldl_cons] at h ⊢
    have hst : rchStep m i (false, r) a = (false, r) ∧ (hsOk m a = true → (a.1 = i ∨ gI r a.1 = true) → gI r a.2 = true) := by
      by_cases h1 : (!(hsOk m a) || gI r a.2) = true
      · refine ⟨by unfold rchStep; rw [if_pos h1], fun hok _ => ?_⟩
        rw [hok] at h1
        simpa using h1
      · by_cases h2 : (a.1 == i || gI r a.1) = true
        · have he : rchStep m i (false, r) a = (true, sI r a.2 true) := by unfold rchStep; rw [if_neg h1, if_pos h2]
          rw [he, rch_true] at h
          cases h
        · refine ⟨by unfold rchStep; rw [if_neg h1, if_neg h2], fun _ hh => absurd ?_ h2⟩
          rcases hh with hh | hh
          · simp [hh]
          · simp [hh]
    rw [hst.1] at h ⊢
    obtain ⟨h1, h2⟩ := rch_closed l r h
    refine ⟨h1, fun x hx => ?_⟩
    rcases List.mem_cons.1 hx with rfl | hx
    · exact hst.2
    · exact h2 x hx
open Classical in
noncomputable def reachV (m : Nat) (l : List (Int × Int)) (i : Nat) : List Bool := (List.range m).map fun (j : Nat) => decide (Way m l i j)
open Classical in
theorem reach_eq {m : Nat} {l : List (Int × Int)} {i : Nat} {r : List Bool} (hr : r.length = m) (hs : ∀ j : Nat, j < m → gI r (j : Int) = true → Way m l i j) (hc : ∀ a ∈ l, hsOk m a = true → (a.1 = (i : Int) ∨ gI r a.1 = true) → gI r a.2 = true) : r = reachV m l i := by
  have hall : ∀ {k j : Nat}, Way m l k j → (k = i ∨ gI r (k : Int) = true) → gI r (j : Int) = true := by
    intro k j hw
    induction hw with
    | one h =>
      intro hk
      obtain ⟨a, ha, hok, e1, e2⟩ := h
      rw [← e2]
      refine hc a ha hok ?_
      rcases hk with rfl | hk
      · exact .inl e1
      · exact .inr (by rw [e1]; exact hk)
    | more h _ ih =>
      intro hk
      obtain ⟨a, ha, hok, e1, e2⟩ := h
      refine ih (.inr ?_)
      rw [← e2]
      refine hc a ha hok ?_
      rcases hk with rfl | hk
      · exact .inl e1
      · exact .inr (by rw [e1]; exact hk)
  apply List.ext_getElem
  · simp [reachV, hr]
  · intro j h1 h2
    have hj : j < m := by rw [← hr]; exact h1
    have hg : gI r (j : Int) = r[j] := gI_lt h1
    simp only [reachV, List.getElem_map, List.getElem_range]
    cases h : r[j] with
    | true => rw [h] at hg; exact (decide_eq_true (hs j hj hg)).symm
    | false =>
      rw [h] at hg
      symm
      refine decide_eq_false fun hw => ?_
      rw [hall hw (.inl rfl)] at hg
      cases hg
theorem ord_lt {m : Nat} {l : List (Int × Int)} (h : (ordV m l).2.length = m) {i j : Nat} (ha : Arr m l i j) : (ordV m l).2.idxOf (i : Int) < (ordV m l).2.idxOf (j : Int) := by
  obtain ⟨x, hx, hok, e1, e2⟩ := ha
  have hj : j < m := by
    simp only [hsOk, Bool.and_eq_true, decide_eq_true_eq] at hok
    omega
  have hm := ordV_all h hj
  have hn := (ordV_out m l).nodup
  obtain ⟨p, q, ho⟩ := List.append_of_mem hm
  have hp := ordV_split ho hx hok e2
  rw [ho] at hn ⊢
  rw [e1] at hp
  have hjp : (j : Int) ∉ p := fun h => (List.nodup_append.1 hn).2.2 _ h _ (List.mem_cons_self ..) rfl
  rw [List.idxOf_append, if_pos hp, List.idxOf_append, if_neg hjp]
  have := List.idxOf_lt_length_of_mem hp
  omega
theorem way_lt {m : Nat} {l : List (Int × Int)} (h : (ordV m l).2.length = m) {i j : Nat} (hw : Way m l i j) : (ordV m l).2.idxOf (i : Int) < (ordV m l).2.idxOf (j : Int) := by
  induction hw with
  | one h1 => exact ord_lt h h1
  | more h1 _ ih => exact Nat.lt_trans (ord_lt h h1) ih
def ringV (m : Nat) (l : List (Int × Int)) : Bool := !(ordV m l).1
theorem ordV_len {m : Nat} {l : List (Int × Int)} (h : (ordV m l).1 = true) : (ordV m l).2.length = m := by
  unfold ordV at h ⊢
  cases hk : kahn m l m [] with
  | none => rw [hk] at h; cases h
  | some o => have := kahn_length hk; simp at this; exact this
theorem ringV_iff {m : Nat} {l : List (Int × Int)} : ringV m l = true ↔ ∃ i : Nat, i < m ∧ Way m l i i := by
  unfold ringV
  constructor
  · intro h
    refine Classical.byContradiction fun hn => ?_
    have := (ordV_ok (m := m) (l := l) fun i hw => hn ⟨i, ?_, hw⟩).1
    · rw [this] at h; cases h
    · cases hw with
      | one h =>
        obtain ⟨x, _, hok, e1, _⟩ := h
        simp only [hsOk, Bool.and_eq_true, decide_eq_true_eq] at hok
        omega
      | more h _ =>
        obtain ⟨x, _, hok, e1, _⟩ := h
        simp only [hsOk, Bool.and_eq_true, decide_eq_true_eq] at hok
        omega
  · rintro ⟨i, _, hw⟩
    cases ho : (ordV m l).1 with
    | false => rfl
    | true => exact absurd (way_lt (ordV_len ho) hw) (Nat.lt_irrefl _)
end Go.Proofs.YtlfdidaeachpoaaGreat

namespace Go.Proofs.YtlfdidaeachpoaaGreat
open Go Go.RowKit
set_option maxRecDepth 100000
noncomputable section
def R13_Reach_b3862 : (Int × (List (Int × Int)) × Int) → (Bool × Int × (List Bool)) → RT (Bool × Int × (List Bool)) (Bool × (List Bool))
| (x0, l, i), (i_2, s, r7) =>
 .rq 4 (.ite (decide (s < (l.length : Int)))
 (.rq 2 (.req (inB l s) (.rq 27 (let t0 := inB r7 (gI l s).2;
 let t1 := (((decide ((gI l s).1 < 0)) || (decide (x0 ≤ (gI l s).1))) || (decide ((gI l s).2 < 0))) || (decide (x0 ≤ (gI l s).2));
 .req (t0 || (!(!t1))) (.rq 2 (let t2 := w64 (s + 1);
 let t3 := (i_2, t2, r7);
 .ite (t1 || (gI r7 (gI l s).2))
 (.rq 3 (.again t3))
 (.rq 8 (let t4 := (gI l s).1 == i;
 .req ((inB r7 (gI l s).1) || (!(!t4))) (.rq 2 (.ite (t4 || (gI r7 (gI l s).1))
 (.rq 3 (.req t0 (.rq 5 (.again (true, t2, sI r7 (gI l s).2 true)))))
 (.rq 3 (.again t3))))))))))))
 (.done (i_2, r7)))
def R13_Reach_p3862 : Piece := ⟨3862, true, [tI, .sl (.pair tI tI), tI], [tB, tI, .sl tB], ⟨[.keep [0, 1, 2, 7, 8, 9], .gc, .nilRow 7 800007 4 tB, .ren 7 700007, .ren 7 900007, .gc], [0, 1, 2, 7, 8, 9], [.lf (qi 0), .lf (qi 1), .lf (qi 2), .lf (qr 900007), .lf (qm 0), .lf (qm 1)], [(900007, true, .arr 4 (qm 2))]⟩, [⟨4, ⟨[.keep [0, 1, 2, 7, 8], .gc, .nilRow 7 800007 4 tB, .ren 7 700007, .ren 7 900007, .gc], [0, 1, 2, 7, 8], [.lf (qi 0), .lf (qi 1), .lf (qi 2), .lf (qr 900007), .lf (qm 0)], [(900007, true, .arr 4 (qm 1))]⟩, [tB, .sl tB]⟩], R13_Reach_b3862⟩
def R13_Reach_b60 : (Int × (List (Int × Int)) × Int) → (Bool × (List Bool)) → RT (Bool × (List Bool)) (List Bool)
| (x0, l, i), (i_2, r7) =>
 .rq 1 (.ite i_2
 (.rq 2 (.call (lo R13_Reach_b3862 (x0, l, i) (false, 0, r7)) default fun v0 =>
 .again (v0.1, v0.2)))
 (.done r7))
def R13_Reach_p60 : Piece := ⟨60, true, [tI, .sl (.pair tI tI), tI], [tB, .sl tB], ⟨[.keep [0, 1, 2, 7, 8], .gc, .nilRow 7 800007 4 tB, .ren 7 700007, .ren 7 900007, .gc], [0, 1, 2, 7, 8], [.lf (qi 0), .lf (qi 1), .lf (qi 2), .lf (qr 900007), .lf (qm 0)], [(900007, true, .arr 4 (qm 1))]⟩, [⟨2, ⟨[.keep [7], .gc, .nilRow 7 800007 4 tB, .ren 7 700007, .ren 7 900007, .gc], [7], [.lf (qr 900007)], [(900007, true, .arr 4 (qm 0))]⟩, [.sl tB]⟩], R13_Reach_b60⟩
def R13_Reach : (Int × (List (Int × Int)) × Int) → RT Unit (List Bool)
| (a0, l, i) =>
 .rq 2 (.req (mkOK 1 a0) (.rq 2 (.call (lo R13_Reach_b60 (a0, l, i) (true, repI a0 false)) default fun v1 =>
 .rq 2 (.done v1))))
def F_R13_Reach (x : Int × (List (Int × Int)) × Int) : Option (List Bool) := (R13_Reach x).run fun _ => none
def io_R13_Reach : Io := ⟨n_R13_Reach, [tI, .sl (.pair tI tI), tI], [.lf (qm 0), .lf (qm 1), .lf (qm 2)], [], [[tI], [.sl (.pair tI tI)], [tI]], [.sl tB], .lf (qr 0), [], [(true, .arr 4 (qm 0))], false⟩
def R13_Reach_P : List Piece := [R13_Reach_p3862, R13_Reach_p60]
def R13_Reach_T : CallT := tab []
theorem R13_Reach_To : SoundT pg R13_Reach_T := tab_sound trivial
theorem R13_Reach_k3862 : (R13_Reach_p3862).OK pg (R13_Reach_T) (tell 67 (R13_Reach_P)) (codeOf f_R13_Reach) 67 := ⟨by kernel_rfl, fun i x => by kernel_rfl⟩
theorem R13_Reach_k60 : (R13_Reach_p60).OK pg (R13_Reach_T) (tell 67 (R13_Reach_P)) (codeOf f_R13_Reach) 67 := ⟨by kernel_rfl, fun i x => by kernel_rfl⟩
theorem R13_Reach_go : FnOK pg (R13_Reach_T) io_R13_Reach f_R13_Reach (R13_Reach_P) [.nilRow 6 800006 4 tB, .ren 6 700006, .ren 6 900006] (R13_Reach) := ⟨by kernel_rfl, by kernel_rfl, fun x => by kernel_rfl⟩
theorem ok_R13_Reach : io_R13_Reach.Okay pg (F_R13_Reach) := fn_ok pg_mixed (R13_Reach_To) (R13_Reach_go) ⟨R13_Reach_k3862, R13_Reach_k60, trivial⟩
theorem hsOk_not (m : Nat) (a : Int × Int) : (((decide (a.1 < 0) || decide ((m : Int) ≤ a.1)) || decide (a.2 < 0)) || decide ((m : Int) ≤ a.2)) = !(hsOk m a) := by
  unfold hsOk
  by_cases h1 : a.1 < 0 <;> by_cases h2 : (m : Int) ≤ a.1 <;> by_cases h3 : a.2 < 0 <;> by_cases h4 : (m : Int) ≤ a.2 <;> simp [h1, h2, h3, h4] <;> omega
theorem rch_loop (m : Nat) (l : List (Int × Int)) (i : Int) (hl : l.length ≤ 4000000) (hi : 0 ≤ i ∧ i < (m : Int)) : ∀ (d s : Nat) (ch : Bool) (r : List Bool), s + d = l.length → r.length = m →
    lo R13_Reach_b3862 ((m : Int), l, i) (ch, (s : Int), r) = some ((l.drop s).foldl (rchStep m i) (ch, r))
  | 0, s, ch, r, h, _ => by
    rw [lo_eq, R13_Reach_b3862]
    simp only [RT.run]
    rw [if_neg (by simp; omega), List.drop_eq_nil_of_le (by omega)]
    rfl
  | d + 1, s, ch, r, h, hr => by
    have hs : s < l.length := by omega
    have hv : hsOk m l[s] = true → (inB r l[s].1 = true ∧ inB r l[s].2 = true) := fun hok => by
      simp only [hsOk, Bool.and_eq_true, decide_eq_true_eq] at hok
      exact ⟨inB_iff.2 (by rw [hr]; omega), inB_iff.2 (by rw [hr]; omega)⟩
    rw [lo_eq, R13_Reach_b3862]
    simp only [RT.run]
    rw [if_pos (by simp; omega), if_pos (inB_iff.2 ⟨by omega, by omega⟩), gI_lt hs, hsOk_not, w64_in (by omega), show (s : Int) + 1 = ((s + 1 : Nat) : Int) by omega, List.drop_eq_getElem_cons hs, List.foldl_cons]
    cases hok : hsOk m l[s] with
    | false =>
      rw [if_pos (by simp), if_pos (by simp), rch_loop m l i hl hi d (s + 1) ch r (by omega) hr]
      simp [rchStep, hok]
    | true =>
      obtain ⟨h1, h2⟩ := hv hok
      rw [if_pos (by rw [h2]; rfl)]
      by_cases hg : gI r l[s].2 = true
      · rw [if_pos (by rw [hg]; rfl), rch_loop m l i hl hi d (s + 1) ch r (by omega) hr]
        simp [rchStep, hg]
      · have hg' : gI r l[s].2 = false := by simpa using hg
        rw [if_neg (by rw [hg']; simp), if_pos (by rw [h1]; rfl)]
        by_cases ha : (l[s].1 == i || gI r l[s].1) = true
        · rw [if_pos ha, if_pos h2, rch_loop m l i hl hi d (s + 1) true _ (by omega) (by simp [sI, hr])]
          simp only [rchStep, hok, hg', Bool.not_true, Bool.or_self, Bool.false_eq_true, if_false, ha, if_true]
        · rw [if_neg ha, rch_loop m l i hl hi d (s + 1) ch r (by omega) hr]
          simp only [rchStep, hok, hg', Bool.not_true, Bool.or_self, Bool.false_eq_true, if_false, ha]
theorem rch_outer (m : Nat) (l : List (Int × Int)) (i : Nat) (hl : l.length ≤ 4000000) (hi : i < m) : ∀ (n : Nat) (r : List Bool), r.length = m → m - r.count true ≤ n → (∀ j : Nat, j < m → gI r (j : Int) = true → Way m l i j) →
    lo R13_Reach_b60 ((m : Int), l, (i : Int)) (true, r) = some (reachV m l i)
  | n, r, hr, hn, hs => by
    have h1 := rch_loop m l (i : Int) hl (by omega) l.length 0 false r (by omega) hr
    rw [show ((0 : Nat) : Int) = 0 from rfl, List.drop_zero] at h1
    have hp := pass_fold (l0 := l) hi l false r r (fun _ h => h) hr ⟨rfl, fun _ _ h => h, fun h => h, (fun h => by cases h), Nat.le_refl _, fun _ => rfl⟩
    have hcl := rch_closed (m := m) (i := (i : Int)) l r
    rw [lo_eq, R13_Reach_b60]
    simp only [RT.run]
    rw [if_pos trivial, h1, Option.bind_some]
    generalize hx : l.foldl (rchStep m (i : Int)) (false, r) = x at *
    obtain ⟨ch, r'⟩ := x
    cases ch with
    | false =>
      obtain ⟨h2, h3⟩ := hcl rfl
      have h2 : r' = r := h2
      subst h2
      show lo R13_Reach_b60 _ (false, r') = _
      rw [lo_eq, R13_Reach_b60]
      simp only [RT.run]
      rw [if_neg (by simp), reach_eq hr hs h3]
    | true =>
      have hm := hp.more rfl
      have hlt : r'.count true ≤ r'.length := List.count_le_length
      have hlen : r'.length = m := hp.len.trans hr
      match n, hn with
      | 0, hn => exfalso; have hm : r.count true < r'.count true := hm; omega
      | n + 1, hn => exact rch_outer m l i hl hi n r' hlen (by have hm : r.count true < r'.count true := hm; omega) (hp.sound hs)
def e_R13_Reach : Entry := io_R13_Reach.sp (fun (n, l, i) => (decide (l.length ≤ 4000000) && (decide (0 ≤ n) && decide (n ≤ 1000000)) && (decide (0 ≤ i) && decide (i < n)))) (fun (n, l, i) => (reachV n.toNat l i.toNat))
theorem sp_R13_Reach (h : ∀ (n : Int) (l : List (Int × Int)) (i : Int), WfT [tI, .sl (.pair tI tI), tI] (n, l, i) → ((decide (l.length ≤ 4000000) && (decide (0 ≤ n) && decide (n ≤ 1000000)) && (decide (0 ≤ i) && decide (i < n)))) = true → (R13_Reach (n, l, i)).run (fun _ => none) = some (reachV n.toNat l i.toNat)) : e_R13_Reach.ok pg := sp_ok ok_R13_Reach fun (n, l, i) hw hc => h n l i hw hc
theorem e_R13_Reach_ok : e_R13_Reach.ok pg := sp_R13_Reach fun n l i _ hc => by
  simp only [Bool.and_eq_true, decide_eq_true_eq] at hc
  obtain ⟨⟨hl, h0, hn⟩, hi0, hi⟩ := hc
  obtain ⟨m, rfl⟩ := Int.eq_ofNat_of_zero_le h0
  obtain ⟨j, rfl⟩ := Int.eq_ofNat_of_zero_le hi0
  rw [R13_Reach]
  simp only [RT.run, Int.toNat_natCast]
  rw [if_pos (mkOK_iff.2 ⟨by omega, by omega, by omega⟩), repI, Int.toNat_natCast, rch_outer m l j hl (by omega) m (List.replicate m false) (by simp) (by omega) fun k hk h => ?_]
  · rfl
  · rw [gI_lt (by simpa using hk)] at h; simp at h
def R13_Ring_b26 : (Int × (List (Int × Int))) → Int → RT Int (LR Unit Unit)
| (n, l), i =>
 .rq 3 (.ite (decide (i < n))
 (.rq 3 (.req ((decide (l.length ≤ 4000000) && (decide (0 ≤ n) && decide (n ≤ 1000000)) && (decide (0 ≤ i) && decide (i < n)))) (.rq 1 (let t0 := (reachV n.toNat l i.toNat);
 .req (inB t0 i) (.rq 1 (.ite (gI t0 i)
 (.rq 1 (.done (.ex ())))
 (.rq 3 (.again (w64 (i + 1))))))))))
 (.done (.rt ())))
def R13_Ring_p26 : Piece := ⟨26, true, [tI, .sl (.pair tI tI)], [tI], ⟨[.keep [0, 1, 5], .gc], [0, 1, 5], [.lf (qi 0), .lf (qi 1), .lf (qm 0)], []⟩, [⟨1, ⟨[.keep [4], .gc], [4], [.lf (.fix (.bool true))], []⟩, []⟩, ⟨2, ⟨[.keep [], .gc], [], [], []⟩, []⟩], R13_Ring_b26⟩
def R13_Ring : (Int × (List (Int × Int))) → RT Unit Bool
| (n, l) =>
 .rq 2 (.call (lo R13_Ring_b26 (n, l) 0) default fun v0 =>
 .ite v0.isRt
 (.rq 1 (.done false))
 (.done true))
def F_R13_Ring (x : Int × (List (Int × Int))) : Option Bool := (R13_Ring x).run fun _ => none
def io_R13_Ring : Io := ⟨n_R13_Ring, [tI, .sl (.pair tI tI)], [.lf (qm 0), .lf (qm 1)], [], [[tI], [.sl (.pair tI tI)]], [tB], .lf (qm 0), [], [], false⟩
def R13_Ring_P : List Piece := [R13_Ring_p26]
def R13_Ring_T : CallT := tab [e_R13_Reach]
theorem R13_Ring_To : SoundT pg R13_Ring_T := tab_sound ⟨e_R13_Reach_ok, trivial⟩
theorem R13_Ring_k26 : (R13_Ring_p26).OK pg (R13_Ring_T) (tell 18 (R13_Ring_P)) (codeOf f_R13_Ring) 18 := ⟨by kernel_rfl, fun i x => by kernel_rfl⟩
theorem R13_Ring_go : FnOK pg (R13_Ring_T) io_R13_Ring f_R13_Ring (R13_Ring_P) [] (R13_Ring) := ⟨by kernel_rfl, by kernel_rfl, fun x => by kernel_rfl⟩
theorem ok_R13_Ring : io_R13_Ring.Okay pg (F_R13_Ring) := fn_ok pg_mixed (R13_Ring_To) (R13_Ring_go) ⟨R13_Ring_k26, trivial⟩
open Classical in
theorem ring_loop (m : Nat) (l : List (Int × Int)) (hl : l.length ≤ 4000000) (hm : m ≤ 1000000) : ∀ (d i : Nat), i + d = m → (∀ k : Nat, k < i → ¬ Way m l k k) →
    lo R13_Ring_b26 ((m : Int), l) (i : Int) = some (if ringV m l = true then .ex () else .rt ())
  | 0, i, h, hno => by
    rw [lo_eq, R13_Ring_b26]
    simp only [RT.run]
    have hr : ringV m l = false := Bool.eq_false_iff.2 fun h => by
      obtain ⟨k, hk, hw⟩ := ringV_iff.1 h
      exact hno k (by omega) hw
    rw [if_neg (by simp; omega), hr, if_neg (by decide)]
  | d + 1, i, h, hno => by
    have hi : i < m := by omega
    have hlen : (reachV m l i).length = m := by simp [reachV]
    have hget : gI (reachV m l i) (i : Int) = decide (Way m l i i) := by
      rw [gI_lt (by rw [hlen]; exact hi)]
      simp [reachV]
    rw [lo_eq, R13_Ring_b26]
    simp only [RT.run, Int.toNat_natCast]
    rw [if_pos (by simp; omega), if_pos (by simp only [Bool.and_eq_true, decide_eq_true_eq]; omega), if_pos (inB_iff.2 ⟨by omega, by rw [hlen]; omega⟩)]
    by_cases hw : Way m l i i
    · have hr : ringV m l = true := ringV_iff.2 ⟨i, hi, hw⟩
      rw [if_pos (hget.trans (decide_eq_true hw)), hr, if_pos rfl]
    · rw [if_neg (by rw [hget]; simpa using hw), w64_in (by omega), show (i : Int) + 1 = ((i + 1 : Nat) : Int) by omega]
      refine ring_loop m l hl hm d (i + 1) (by omega) fun k hk => ?_
      by_cases hki : k = i
      · subst hki; exact hw
      · exact hno k (by omega)
def e_R13_Ring : Entry := io_R13_Ring.sp (fun (n, l) => (decide (l.length ≤ 4000000) && (decide (0 ≤ n) && decide (n ≤ 1000000)))) (fun (n, l) => (ringV n.toNat l))
theorem sp_R13_Ring (h : ∀ (n : Int) (l : List (Int × Int)), WfT [tI, .sl (.pair tI tI)] (n, l) → ((decide (l.length ≤ 4000000) && (decide (0 ≤ n) && decide (n ≤ 1000000)))) = true → (R13_Ring (n, l)).run (fun _ => none) = some (ringV n.toNat l)) : e_R13_Ring.ok pg := sp_ok ok_R13_Ring fun (n, l) hw hc => h n l hw hc
theorem e_R13_Ring_ok : e_R13_Ring.ok pg := sp_R13_Ring fun n l _ hc => by
  simp only [Bool.and_eq_true, decide_eq_true_eq] at hc
  obtain ⟨hl, h0, hn⟩ := hc
  obtain ⟨m, rfl⟩ := Int.eq_ofNat_of_zero_le h0
  rw [R13_Ring]
  simp only [RT.run, Int.toNat_natCast]
  have := ring_loop m l hl (by omega) m 0 (by omega) fun k hk => absurd hk (Nat.not_lt_zero k)
  rw [show ((0 : Nat) : Int) = 0 from rfl] at this
  rw [this]
  cases ringV m l <;> rfl
theorem ring_order {m : Nat} {l : List (Int × Int)} (h : ringV m l = false) : (ordV m l).1 = true ∧ (ordV m l).2.length = m := by
  have h1 : (ordV m l).1 = true := by unfold ringV at h; simpa using h
  exact ⟨h1, ordV_len h1⟩
end
end Go.Proofs.YtlfdidaeachpoaaGreat

namespace Go.Proofs.YtlfdidaeachpoaaGreat
open Go Go.RowKit
set_option maxRecDepth 100000
noncomputable section
def R14_Lock : ((List Bool) × (List Tk) × (List Th) × (List Lk) × (List Int) × Int × Int) → RT Unit Bool
| (s_0, s_1, s_2, s_3, s_4, s_5, i) =>
 .rq 15 (let t0 := (decide (0 ≤ i)) && (decide (i < (s_3.length : Int)));
 .req ((inB s_3 i) || (!t0)) (.rq 4 (.done (t0 && (gI s_3 i).1))))
def F_R14_Lock (x : (List Bool) × (List Tk) × (List Th) × (List Lk) × (List Int) × Int × Int) : Option Bool := (R14_Lock x).run fun _ => none
def io_R14_Lock : Io := ⟨n_R14_Lock, [.sl tB, .sl yK, .sl yH, .sl yL, .sl tI, tI, tI], [.agg [qm 0, qm 1, qm 2, qm 3, qm 4, qm 5], .lf (qm 6)], [], [[.sl tB, .sl yK, .sl yH, .sl yL, .sl tI, tI], [tI]], [tB], .lf (qm 0), [], [], false⟩
def R14_Lock_P : List Piece := []
def R14_Lock_T : CallT := tab []
theorem R14_Lock_To : SoundT pg R14_Lock_T := tab_sound trivial
theorem R14_Lock_go : FnOK pg (R14_Lock_T) io_R14_Lock f_R14_Lock (R14_Lock_P) [] (R14_Lock) := ⟨by kernel_rfl, by kernel_rfl, fun x => by kernel_rfl⟩
theorem ok_R14_Lock : io_R14_Lock.Okay pg (F_R14_Lock) := fn_ok pg_mixed (R14_Lock_To) (R14_Lock_go) trivial
def e_R14_Lock : Entry := io_R14_Lock.sp (fun (a, b, c, d, e, f, i) => true) (fun (a, b, c, d, e, f, i) => (inB d i && (gI d i).1))
theorem sp_R14_Lock (h : ∀ (a : List Bool) (b : List Tk) (c : List Th) (d : List Lk) (e : List Int) (f : Int) (i : Int), WfT [.sl tB, .sl yK, .sl yH, .sl yL, .sl tI, tI, tI] (a, b, c, d, e, f, i) → (R14_Lock (a, b, c, d, e, f, i)).run (fun _ => none) = some (inB d i && (gI d i).1)) : e_R14_Lock.ok pg := sp_ok ok_R14_Lock fun (a, b, c, d, e, f, i) hw hc => h a b c d e f i hw
theorem e_R14_Lock_ok : e_R14_Lock.ok pg := sp_R14_Lock fun a b c d e f i _ => by
  rw [R14_Lock]
  simp only [RT.run]
  show (if (inB d i || !(inB d i)) = true then some (inB d i && (gI d i).1) else none) = _
  rw [if_pos (by cases inB d i <;> rfl)]
def R14_Is : ((List Bool) × (List Tk) × (List Th) × (List Lk) × (List Int) × Int × Int × Int × Int) → RT Unit Bool
| (s_0, s_1, s_2, s_3, s_4, s_5, i, state, what) =>
 .rq 9 (let t0 := (inB s_2 i && (gI s_2 i).1 != 0);
 .req ((inB s_2 i) || (!t0)) (.rq 9 (let t1 := t0 && ((gI s_2 i).1 == state);
 .req ((inB s_2 i) || (!t1)) (.rq 6 (.done (t1 && ((gI s_2 i).2.1 == what)))))))
def F_R14_Is (x : (List Bool) × (List Tk) × (List Th) × (List Lk) × (List Int) × Int × Int × Int × Int) : Option Bool := (R14_Is x).run fun _ => none
def io_R14_Is : Io := ⟨n_R14_Is, [.sl tB, .sl yK, .sl yH, .sl yL, .sl tI, tI, tI, tI, tI], [.agg [qm 0, qm 1, qm 2, qm 3, qm 4, qm 5], .lf (qm 6), .lf (qm 7), .lf (qm 8)], [], [[.sl tB, .sl yK, .sl yH, .sl yL, .sl tI, tI], [tI], [tI], [tI]], [tB], .lf (qm 0), [], [], false⟩
def R14_Is_P : List Piece := []
def R14_Is_T : CallT := tab [e_R14_Thread]
theorem R14_Is_To : SoundT pg R14_Is_T := tab_sound ⟨e_R14_Thread_ok, trivial⟩
theorem R14_Is_go : FnOK pg (R14_Is_T) io_R14_Is f_R14_Is (R14_Is_P) [] (R14_Is) := ⟨by kernel_rfl, by kernel_rfl, fun x => by kernel_rfl⟩
theorem ok_R14_Is : io_R14_Is.Okay pg (F_R14_Is) := fn_ok pg_mixed (R14_Is_To) (R14_Is_go) trivial
def isV (c : List Th) (i st what : Int) : Bool := ((inB c i && (gI c i).1 != 0) && ((gI c i).1 == st)) && ((gI c i).2.1 == what)
def e_R14_Is : Entry := io_R14_Is.sp (fun (a, b, c, d, e, f, i, state, what) => true) (fun (a, b, c, d, e, f, i, state, what) => (isV c i state what))
theorem sp_R14_Is (h : ∀ (a : List Bool) (b : List Tk) (c : List Th) (d : List Lk) (e : List Int) (f : Int) (i : Int) (state : Int) (what : Int), WfT [.sl tB, .sl yK, .sl yH, .sl yL, .sl tI, tI, tI, tI, tI] (a, b, c, d, e, f, i, state, what) → (R14_Is (a, b, c, d, e, f, i, state, what)).run (fun _ => none) = some (isV c i state what)) : e_R14_Is.ok pg := sp_ok ok_R14_Is fun (a, b, c, d, e, f, i, state, what) hw hc => h a b c d e f i state what hw
theorem e_R14_Is_ok : e_R14_Is.ok pg := sp_R14_Is fun a b c d e f i st what _ => by
  rw [R14_Is]
  simp only [RT.run]
  unfold isV
  cases h : inB c i with
  | false => simp
  | true => simp
def R14_Queues : ((List Bool) × (List Tk) × (List Th) × (List Lk) × (List Int) × Int × Int) → RT Unit Bool
| (s_0, s_1, s_2, s_3, s_4, s_5, i) =>
 .rq 5 (.req (inB s_2 i) (.rq 6 (.ite ((gI s_2 i).1 == 4)
 (.rq 4 (.req (inB s_2 (gI s_2 i).2.1) (.rq 5 (.done ((gI s_2 (gI s_2 i).2.1).2.2.1 != i)))))
 (.rq 4 (.done ((gI s_2 i).1 == 6))))))
def F_R14_Queues (x : (List Bool) × (List Tk) × (List Th) × (List Lk) × (List Int) × Int × Int) : Option Bool := (R14_Queues x).run fun _ => none
def io_R14_Queues : Io := ⟨n_R14_Queues, [.sl tB, .sl yK, .sl yH, .sl yL, .sl tI, tI, tI], [.agg [qm 0, qm 1, qm 2, qm 3, qm 4, qm 5], .lf (qm 6)], [], [[.sl tB, .sl yK, .sl yH, .sl yL, .sl tI, tI], [tI]], [tB], .lf (qm 0), [], [], false⟩
def R14_Queues_P : List Piece := []
def R14_Queues_T : CallT := tab []
theorem R14_Queues_To : SoundT pg R14_Queues_T := tab_sound trivial
theorem R14_Queues_go : FnOK pg (R14_Queues_T) io_R14_Queues f_R14_Queues (R14_Queues_P) [] (R14_Queues) := ⟨by kernel_rfl, by kernel_rfl, fun x => by kernel_rfl⟩
theorem ok_R14_Queues : io_R14_Queues.Okay pg (F_R14_Queues) := fn_ok pg_mixed (R14_Queues_To) (R14_Queues_go) trivial
def e_R14_Queues : Entry := io_R14_Queues.en F_R14_Queues
theorem e_R14_Queues_ok : e_R14_Queues.ok pg := en_ok ok_R14_Queues
def R14_tickets_b26 : ((List Bool) × (List Tk) × (List Th) × (List Lk) × (List Int) × Int) → Int → RT Int (LR Unit Unit)
| (l_0, l_1, l_2, l_3, l_4, l_5), s =>
 .rq 5 (.ite (decide (s < (l_1.length : Int)))
 (.rq 3 (.req (inB l_1 s) (.rq 6 (let t0 := w64 (s + 1);
 let t1 := (gI l_1 s).2.2.2.1 == 0;
 let t2 := (gI l_1 s).2.2.2.2.1 == 0;
 .ite (!(gI l_1 s).1)
 (.rq 3 (.ite ((((gI l_1 s).1 == false) && (((gI l_1 s).2.1 == 0) && (((gI l_1 s).2.2.1 == 0) && (t1 && (t2 && (((gI l_1 s).2.2.2.2.2 == false) && true)))))) != true)
 (.rq 1 (.done (.ex ())))
 (.rq 3 (.again t0))))
 (.rq 55 (.ite ((((!((inB l_0 (gI l_1 s).2.1 && gI l_0 (gI l_1 s).2.1))) || (decide ((gI l_1 s).2.2.1 < 1))) || (decide (1048576 < (gI l_1 s).2.2.1))) || (!(((t1 && t2) || (((gI l_1 s).2.2.2.1 == 1) && ((inB l_2 (gI l_1 s).2.2.2.2.1 && (gI l_2 (gI l_1 s).2.2.2.2.1).1 != 0)))) || ((((gI l_1 s).2.2.2.1 == 2) && ((gI l_1 s).2.2.2.2.1 != 0)) && ((inB l_0 (gI l_1 s).2.2.2.2.1 && gI l_0 (gI l_1 s).2.2.2.2.1))))))
 (.rq 1 (.done (.ex ())))
 (.rq 3 (.again t0))))))))
 (.done (.rt ())))
def R14_tickets_p26 : Piece := ⟨26, true, [.sl tB, .sl yK, .sl yH, .sl yL, .sl tI, tI], [tI], ⟨[.keep [1, 3], .gc], [1, 3], [.lf (qp 16), .lf (qm 0)], [(16, true, .cells [qi 0, qi 1, qi 2, qi 3, qi 4, qi 5])]⟩, [⟨1, ⟨[.keep [2], .gc], [2], [.lf (.fix (.bool false))], []⟩, []⟩, ⟨2, ⟨[.keep [1], .gc], [1], [.lf (qp 16)], [(16, true, .cells [qi 0, qi 1, qi 2, qi 3, qi 4, qi 5])]⟩, []⟩], R14_tickets_b26⟩
def R14_tickets : ((List Bool) × (List Tk) × (List Th) × (List Lk) × (List Int) × Int) → RT Unit Bool
| (a0_0, a0_1, a0_2, a0_3, a0_4, a0_5) =>
 .rq 3 (.call (lo R14_tickets_b26 (a0_0, a0_1, a0_2, a0_3, a0_4, a0_5) 0) default fun v0 =>
 .ite v0.isRt
 (.rq 14 (let t0 := (a0_1.length : Int) == 0;
 let t1 := decide ((a0_1.length : Int) ≤ 96);
 let t2 := w64 ((a0_1.length : Int) - 1);
 .req ((inB a0_1 t2) || (!((!t0) && t1))) (.rq 5 (.done (t1 && (t0 || (gI a0_1 t2).1))))))
 (.done false))
def F_R14_tickets (x : (List Bool) × (List Tk) × (List Th) × (List Lk) × (List Int) × Int) : Option Bool := (R14_tickets x).run fun _ => none
def io_R14_tickets : Io := ⟨n_R14_tickets, [.sl tB, .sl yK, .sl yH, .sl yL, .sl tI, tI], [.agg [qm 0, qm 1, qm 2, qm 3, qm 4, qm 5]], [], [[.sl tB, .sl yK, .sl yH, .sl yL, .sl tI, tI]], [tB], .lf (qm 0), [], [], false⟩
def R14_tickets_P : List Piece := [R14_tickets_p26]
def R14_tickets_T : CallT := tab [e_R14_Thread, e_R14_Coin]
theorem R14_tickets_To : SoundT pg R14_tickets_T := tab_sound ⟨e_R14_Thread_ok, e_R14_Coin_ok, trivial⟩
theorem R14_tickets_k26 : (R14_tickets_p26).OK pg (R14_tickets_T) (tell 97 (R14_tickets_P)) (codeOf f_R14_tickets) 97 := ⟨by kernel_rfl, fun i x => by kernel_rfl⟩
theorem R14_tickets_go : FnOK pg (R14_tickets_T) io_R14_tickets f_R14_tickets (R14_tickets_P) [] (R14_tickets) := ⟨by kernel_rfl, by kernel_rfl, fun x => by kernel_rfl⟩
theorem ok_R14_tickets : io_R14_tickets.Okay pg (F_R14_tickets) := fn_ok pg_mixed (R14_tickets_To) (R14_tickets_go) ⟨R14_tickets_k26, trivial⟩
def tkFine (a : List Bool) (c : List Th) (t : Tk) : Bool :=
  if (!t.1) = true then !((((t.1 == false) && ((t.2.1 == 0) && ((t.2.2.1 == 0) && ((t.2.2.2.1 == 0) && ((t.2.2.2.2.1 == 0) && ((t.2.2.2.2.2 == false) && true)))))) != true))
  else !((((!((inB a t.2.1 && gI a t.2.1))) || (decide (t.2.2.1 < 1))) || (decide (1048576 < t.2.2.1))) || (!(((t.2.2.2.1 == 0 && t.2.2.2.2.1 == 0) || ((t.2.2.2.1 == 1) && ((inB c t.2.2.2.2.1 && (gI c t.2.2.2.2.1).1 != 0)))) || (((t.2.2.2.1 == 2) && (t.2.2.2.2.1 != 0)) && ((inB a t.2.2.2.2.1 && gI a t.2.2.2.2.1))))))
theorem tickets_loop (a : List Bool) (b : List Tk) (c : List Th) (d : List Lk) (e : List Int) (f : Int) (hl : b.length ≤ 1000000) : ∀ (n i : Nat), i + n = b.length →
    lo R14_tickets_b26 (a, b, c, d, e, f) (i : Int) = some (if (b.drop i).all (tkFine a c) = true then .rt () else .ex ())
  | 0, i, h => by
    rw [lo_eq, R14_tickets_b26]
    simp only [RT.run]
    rw [if_neg (by simp; omega), List.drop_eq_nil_of_le (by omega)]
    rfl
  | n + 1, i, h => by
    have hi : i < b.length := by omega
    have ih := tickets_loop a b c d e f hl n (i + 1) (by omega)
    rw [lo_eq, R14_tickets_b26]
    simp only [RT.run]
    rw [if_pos (by simp; omega), if_pos (inB_iff.2 ⟨by omega, by omega⟩), gI_lt hi, List.drop_eq_getElem_cons hi, List.all_cons, w64_in (by omega), show (i : Int) + 1 = ((i + 1 : Nat) : Int) by omega, ih]
    generalize (b.drop (i + 1)).all (tkFine a c) = q
    unfold tkFine
    generalize b[i] = t
    by_cases h1 : (!t.1) = true
    · rw [if_pos h1, if_pos h1]
      split
      · rename_i h2
        rw [h2]; simp
      · rename_i h2
        rw [Bool.eq_false_iff.2 h2]; simp
    · rw [if_neg h1, if_neg h1]
      split
      · rename_i h2
        rw [h2]; simp
      · rename_i h2
        rw [Bool.eq_false_iff.2 h2]; simp
def ticketsV (a : List Bool) (b : List Tk) (c : List Th) : Bool := b.all (tkFine a c) && (decide ((b.length : Int) ≤ 96) && (((b.length : Int) == 0) || (gI b ((b.length : Int) - 1)).1))
def e_R14_tickets : Entry := io_R14_tickets.sp (fun (a, b, c, d, e, f) => (decide (b.length ≤ 1000000))) (fun (a, b, c, d, e, f) => (ticketsV a b c))
theorem sp_R14_tickets (h : ∀ (a : List Bool) (b : List Tk) (c : List Th) (d : List Lk) (e : List Int) (f : Int), WfT [.sl tB, .sl yK, .sl yH, .sl yL, .sl tI, tI] (a, b, c, d, e, f) → ((decide (b.length ≤ 1000000))) = true → (R14_tickets (a, b, c, d, e, f)).run (fun _ => none) = some (ticketsV a b c)) : e_R14_tickets.ok pg := sp_ok ok_R14_tickets fun (a, b, c, d, e, f) hw hc => h a b c d e f hw hc
theorem e_R14_tickets_ok : e_R14_tickets.ok pg := sp_R14_tickets fun a b c d e f _ hc => by
  have hl := of_decide_eq_true hc
  rw [R14_tickets]
  simp only [RT.run]
  have := tickets_loop a b c d e f hl b.length 0 (by omega)
  rw [show ((0 : Nat) : Int) = 0 from rfl, List.drop_zero] at this
  rw [this, Option.bind_some, w64_in (by omega)]
  unfold ticketsV
  cases b.all (tkFine a c) with
  | false => rfl
  | true =>
    rw [if_pos (by rfl), if_pos]
    · rw [Bool.true_and]
    · by_cases h0 : b.length = 0
      · simp [h0]
      · rw [inB_iff.2 ⟨by omega, by omega⟩]; rfl
def R14_threads_b7462 : (Int × Int) → RT Unit Int
| (s, x5_0) =>
 .rq 3 (.ite (x5_0 == 3)
 (.rq 3 (.done (w64 (s + 1))))
 (.done s))
def R14_threads_p7462 : Piece := ⟨7462, false, [tI, tI, .sl tB, .sl yK, .sl yH, .sl yL, .sl tI, tI, tI, tI, tI, tI, tI], [], ⟨[.keep [1, 3, 4, 5], .gc], [1, 3, 4, 5], [.lf (qp 16), .lf (qi 0), .lf (qi 1), .lf (qp 80)], [(16, true, .cells [qi 2, qi 3, qi 4, qi 5, qi 6, qi 7]), (80, true, .cells [qi 8, qi 9, qi 10, qi 11, qi 12])]⟩, [⟨0, ⟨[.keep [1, 3, 4, 5], .gc], [1, 3, 4, 5], [.lf (qp 16), .lf (qm 0), .lf (qi 1), .lf (qp 80)], [(16, true, .cells [qi 2, qi 3, qi 4, qi 5, qi 6, qi 7]), (80, true, .cells [qi 8, qi 9, qi 10, qi 11, qi 12])]⟩, [tI]⟩], (fun i _ => R14_threads_b7462 (i.1, i.2.2.2.2.2.2.2.2.1))⟩
def R14_threads_b58 : ((List Bool) × (List Tk) × (List Th) × (List Lk) × (List Int) × Int) → (Int × Int) → RT (Int × Int) (LR Unit Int)
| (l_0, l_1, l_2, l_3, l_4, l_5), (s, t) =>
 .rq 5 (.ite (decide (t < (l_2.length : Int)))
 (.rq 3 (.req (inB l_2 t) (.rq 6 (let t0 := w64 (t + 1);
 let t1 := (gI l_2 t).1 == 0;
 .ite t1
 (.rq 3 (.ite ((t1 && (((gI l_2 t).2.1 == 0) && (((gI l_2 t).2.2.1 == 0) && (((gI l_2 t).2.2.2.1 == 0) && (((gI l_2 t).2.2.2.2 == 0) && true))))) != true)
 (.rq 1 (.done (.ex ())))
 (.rq 3 (.again (s, t0)))))
 (.call (on R14_threads_b7462 (s, (gI l_2 t).1)) default fun v0 =>
 .rq 101 (.ite (((!((((((decide (0 < (gI l_2 t).1)) && (decide ((gI l_2 t).1 < 6))) && ((gI l_2 t).1 != 4)) && ((gI l_2 t).2.1 == (-1))) || ((((gI l_2 t).1 == 4) && ((gI l_2 t).2.1 != t)) && ((inB l_2 (gI l_2 t).2.1 && (gI l_2 (gI l_2 t).2.1).1 != 0)))) || (((gI l_2 t).1 == 6) && ((inB l_3 (gI l_2 t).2.1 && (gI l_3 (gI l_2 t).2.1).1))))) || (!(((gI l_2 t).2.2.1 == (-1)) || (((gI l_2 t).1 != 5) && ((isV l_2 (gI l_2 t).2.2.1 (4 : Int) t)))))) || ((!(((gI l_2 t).2.2.2.1 == 1) && ((gI l_2 t).2.2.2.2 == 1))) && (((decide ((gI l_2 t).2.2.2.2 < 1)) || (decide ((gI l_2 t).2.2.2.1 ≤ (gI l_2 t).2.2.2.2))) || (decide (l_5 < (gI l_2 t).2.2.2.1)))))
 (.rq 1 (.done (.ex ())))
 (.rq 3 (.again (v0, t0)))))))))
 (.done (.rt s)))
def R14_threads_p58 : Piece := ⟨58, true, [.sl tB, .sl yK, .sl yH, .sl yL, .sl tI, tI], [tI, tI], ⟨[.keep [1, 3, 4], .gc], [1, 3, 4], [.lf (qp 16), .lf (qm 0), .lf (qm 1)], [(16, true, .cells [qi 0, qi 1, qi 2, qi 3, qi 4, qi 5])]⟩, [⟨1, ⟨[.keep [2], .gc], [2], [.lf (.fix (.bool false))], []⟩, []⟩, ⟨2, ⟨[.keep [1, 3], .gc], [1, 3], [.lf (qp 16), .lf (qm 0)], [(16, true, .cells [qi 0, qi 1, qi 2, qi 3, qi 4, qi 5])]⟩, [tI]⟩], R14_threads_b58⟩
def R14_threads : ((List Bool) × (List Tk) × (List Th) × (List Lk) × (List Int) × Int) → RT Unit Bool
| (a0_0, a0_1, a0_2, a0_3, a0_4, a0_5) =>
 .rq 4 (.call (lo R14_threads_b58 (a0_0, a0_1, a0_2, a0_3, a0_4, a0_5) (0, 0)) default fun v1 =>
 .ite v1.isRt
 (.rq 18 (let t0 := (a0_2.length : Int) == 0;
 let t1 := w64 ((a0_2.length : Int) - 1);
 let t2 := (decide (v1.getR < 2)) && (decide ((a0_2.length : Int) ≤ 32));
 .req ((inB a0_2 t1) || (!((!t0) && t2))) (.rq 6 (.done (t2 && (t0 || ((gI a0_2 t1).1 != 0)))))))
 (.done false))
def F_R14_threads (x : (List Bool) × (List Tk) × (List Th) × (List Lk) × (List Int) × Int) : Option Bool := (R14_threads x).run fun _ => none
def io_R14_threads : Io := ⟨n_R14_threads, [.sl tB, .sl yK, .sl yH, .sl yL, .sl tI, tI], [.agg [qm 0, qm 1, qm 2, qm 3, qm 4, qm 5]], [], [[.sl tB, .sl yK, .sl yH, .sl yL, .sl tI, tI]], [tB], .lf (qm 0), [], [], false⟩
def R14_threads_P : List Piece := [R14_threads_p7462, R14_threads_p58]
def R14_threads_T : CallT := tab [e_R14_Is, e_R14_Lock, e_R14_Thread]
theorem R14_threads_To : SoundT pg R14_threads_T := tab_sound ⟨e_R14_Is_ok, e_R14_Lock_ok, e_R14_Thread_ok, trivial⟩
theorem R14_threads_k7462 : (R14_threads_p7462).OK pg (R14_threads_T) (tell 154 (R14_threads_P)) (codeOf f_R14_threads) 154 := ⟨by kernel_rfl, fun i x => by kernel_rfl⟩
theorem R14_threads_k58 : (R14_threads_p58).OK pg (R14_threads_T) (tell 154 (R14_threads_P)) (codeOf f_R14_threads) 154 := ⟨by kernel_rfl, fun i x => by kernel_rfl⟩
theorem R14_threads_go : FnOK pg (R14_threads_T) io_R14_threads f_R14_threads (R14_threads_P) [] (R14_threads) := ⟨by kernel_rfl, by kernel_rfl, fun x => by kernel_rfl⟩
theorem ok_R14_threads : io_R14_threads.Okay pg (F_R14_threads) := fn_ok pg_mixed (R14_threads_To) (R14_threads_go) ⟨R14_threads_k7462, R14_threads_k58, trivial⟩
def thFine (c : List Th) (d : List Lk) (f : Int) (i : Int) : Bool :=
  if ((gI c i).1 == 0) = true then !(((gI c i).1 == 0 && (((gI c i).2.1 == 0) && (((gI c i).2.2.1 == 0) && (((gI c i).2.2.2.1 == 0) && (((gI c i).2.2.2.2 == 0) && true))))) != true)
  else !(((!((((((decide (0 < (gI c i).1)) && (decide ((gI c i).1 < 6))) && ((gI c i).1 != 4)) && ((gI c i).2.1 == (-1))) || ((((gI c i).1 == 4) && ((gI c i).2.1 != i)) && ((inB c (gI c i).2.1 && (gI c (gI c i).2.1).1 != 0)))) || (((gI c i).1 == 6) && ((inB d (gI c i).2.1 && (gI d (gI c i).2.1).1))))) || (!(((gI c i).2.2.1 == (-1)) || (((gI c i).1 != 5) && ((isV c (gI c i).2.2.1 (4 : Int) i)))))) || ((!(((gI c i).2.2.2.1 == 1) && ((gI c i).2.2.2.2 == 1))) && (((decide ((gI c i).2.2.2.2 < 1)) || (decide ((gI c i).2.2.2.1 ≤ (gI c i).2.2.2.2))) || (decide (f < (gI c i).2.2.2.1)))))
def runs (c : List Th) (i n : Nat) : Nat := ((List.range' i n).filter fun (k : Nat) => (gI c (k : Int)).1 == 3).length
theorem threads_loop (a : List Bool) (b : List Tk) (c : List Th) (d : List Lk) (e : List Int) (f : Int) (hl : c.length ≤ 1000000) : ∀ (n i s : Nat), i + n = c.length → s ≤ i →
    ∃ v : Int, 0 ≤ v ∧ v ≤ c.length ∧ v = s + (runs c i n : Int) ∧ lo R14_threads_b58 (a, b, c, d, e, f) ((s : Int), (i : Int)) = some (if (List.range' i n).all (fun (k : Nat) => thFine c d f (k : Int)) = true then .rt v else .ex ())
  | 0, i, s, h, hs => by
    refine ⟨(s : Int), by omega, by omega, by simp [runs], ?_⟩
    rw [lo_eq, R14_threads_b58]
    simp only [RT.run]
    rw [if_neg (by simp; omega)]
    rfl
  | n + 1, i, s, h, hs => by
    have hi : i < c.length := by omega
    have hin : inB c (i : Int) = true := inB_iff.2 ⟨by omega, by omega⟩
    by_cases h0 : ((gI c (i : Int)).1 == 0) = true
    · obtain ⟨v, h1, h2, hv, ih⟩ := threads_loop a b c d e f hl n (i + 1) s (by omega) (by omega)
      have hne : ((gI c (i : Int)).1 == 3) = false := by rw [beq_iff_eq] at h0; rw [h0]; rfl
      refine ⟨v, h1, h2, by rw [hv, runs, runs, List.range'_succ, List.filter_cons, hne]; rfl, ?_⟩
      rw [lo_eq, R14_threads_b58]
      simp only [RT.run]
      rw [if_pos (by simp; omega), if_pos hin, if_pos h0, w64_in (by omega), show (i : Int) + 1 = ((i + 1 : Nat) : Int) by omega, ih, List.range'_succ, List.all_cons]
      generalize (List.range' (i + 1) n).all (fun (k : Nat) => thFine c d f (k : Int)) = q
      unfold thFine
      rw [if_pos h0]
      split
      · rename_i h3; rw [h3]; simp
      · rename_i h3; rw [Bool.eq_false_iff.2 h3]; simp
    · have hb : ∃ s' : Nat, s' ≤ i + 1 ∧ s' = s + (if ((gI c (i : Int)).1 == 3) = true then 1 else 0) ∧ on R14_threads_b7462 ((s : Int), (gI c (i : Int)).1) = some (s' : Int) := by
        show ∃ s' : Nat, s' ≤ i + 1 ∧ s' = s + (if ((gI c (i : Int)).1 == 3) = true then 1 else 0) ∧ (R14_threads_b7462 _).run _ = _
        rw [R14_threads_b7462]
        simp only [RT.run]
        split
        · rename_i h3; exact ⟨s + 1, by omega, rfl, by rw [w64_in (by omega)]; rfl⟩
        · rename_i h3; exact ⟨s, by omega, rfl, rfl⟩
      obtain ⟨s', hs', hse, hb⟩ := hb
      obtain ⟨v, h1, h2, hv, ih⟩ := threads_loop a b c d e f hl n (i + 1) s' (by omega) hs'
      refine ⟨v, h1, h2, by rw [hv, hse, runs, runs, List.range'_succ, List.filter_cons]; split <;> simp <;> omega, ?_⟩
      rw [lo_eq, R14_threads_b58]
      simp only [RT.run]
      rw [if_pos (by simp; omega), if_pos hin, if_neg h0, hb, Option.bind_some, w64_in (by omega), show (i : Int) + 1 = ((i + 1 : Nat) : Int) by omega, ih, List.range'_succ, List.all_cons]
      generalize (List.range' (i + 1) n).all (fun (k : Nat) => thFine c d f (k : Int)) = q
      unfold thFine
      rw [if_neg h0]
      split
      · rename_i h3; rw [h3]; simp
      · rename_i h3; rw [Bool.eq_false_iff.2 h3]; simp
def threadsV (c : List Th) (d : List Lk) (f : Int) : Bool := (List.range c.length).all (fun (k : Nat) => thFine c d f (k : Int)) &&
  ((decide ((runs c 0 c.length : Int) < 2) && decide ((c.length : Int) ≤ 32)) && (((c.length : Int) == 0) || ((gI c ((c.length : Int) - 1)).1 != 0)))
def e_R14_threads : Entry := io_R14_threads.sp (fun (a, b, c, d, e, f) => (decide (c.length ≤ 1000000))) (fun (a, b, c, d, e, f) => (threadsV c d f))
theorem sp_R14_threads (h : ∀ (a : List Bool) (b : List Tk) (c : List Th) (d : List Lk) (e : List Int) (f : Int), WfT [.sl tB, .sl yK, .sl yH, .sl yL, .sl tI, tI] (a, b, c, d, e, f) → ((decide (c.length ≤ 1000000))) = true → (R14_threads (a, b, c, d, e, f)).run (fun _ => none) = some (threadsV c d f)) : e_R14_threads.ok pg := sp_ok ok_R14_threads fun (a, b, c, d, e, f) hw hc => h a b c d e f hw hc
theorem e_R14_threads_ok : e_R14_threads.ok pg := sp_R14_threads fun a b c d e f _ hc => by
  have hl := of_decide_eq_true hc
  rw [R14_threads]
  simp only [RT.run]
  obtain ⟨v, h1, h2, hv, this⟩ := threads_loop a b c d e f hl c.length 0 0 (by omega) (by omega)
  rw [show ((0 : Nat) : Int) = 0 from rfl, ← List.range_eq_range'] at this
  rw [this, Option.bind_some, w64_in (by omega)]
  unfold threadsV
  cases (List.range c.length).all (fun (k : Nat) => thFine c d f (k : Int)) with
  | false => rfl
  | true =>
    have hv' : v = (runs c 0 c.length : Int) := by rw [hv]; simp
    subst hv'
    rw [if_pos (by rfl), if_pos]
    · rw [Bool.true_and]; rfl
    · by_cases h0 : c.length = 0
      · simp [h0]
      · rw [inB_iff.2 ⟨by omega, by omega⟩]; rfl
def R14_locks_b13470 : (Int × (List Bool) × (List Tk) × (List Th) × (List Lk) × (List Int) × Int × Int) → Int → RT Int (LR Unit Unit)
| (s, l_0, l_1, l_2, l_3, l_4, l_5, t_1), x5 =>
 .rq 5 (.ite (decide (x5 < (l_2.length : Int)))
 (.rq 15 (.ite (((isV l_2 x5 (6 : Int) s)) && ((t_1 == (-1)) || (t_1 == x5)))
 (.rq 1 (.done (.ex ())))
 (.rq 3 (.again (w64 (x5 + 1))))))
 (.done (.rt ())))
def R14_locks_p13470 : Piece := ⟨13470, true, [tI, .sl tB, .sl yK, .sl yH, .sl yL, .sl tI, tI, tB, tI], [tI], ⟨[.keep [1, 3, 4, 5], .gc], [1, 3, 4, 5], [.lf (qp 16), .lf (qi 0), .lf (qp 64), .lf (qm 0)], [(16, true, .cells [qi 1, qi 2, qi 3, qi 4, qi 5, qi 6]), (64, true, .cells [qi 7, qi 8])]⟩, [⟨1, ⟨[.keep [2], .gc], [2], [.lf (.fix (.bool false))], []⟩, []⟩, ⟨4, ⟨[.keep [1, 3], .gc], [1, 3], [.lf (qp 16), .lf (qi 0)], [(16, true, .cells [qi 1, qi 2, qi 3, qi 4, qi 5, qi 6])]⟩, []⟩], (fun i => R14_locks_b13470 (i.1, i.2.1, i.2.2.1, i.2.2.2.1, i.2.2.2.2.1, i.2.2.2.2.2.1, i.2.2.2.2.2.2.1, i.2.2.2.2.2.2.2.2))⟩
def R14_locks_b26 : ((List Bool) × (List Tk) × (List Th) × (List Lk) × (List Int) × Int) → Int → RT Int (LR Unit Unit)
| (l_0, l_1, l_2, l_3, l_4, l_5), s =>
 .rq 5 (.ite (decide (s < (l_3.length : Int)))
 (.rq 3 (.req (inB l_3 s) (.rq 6 (let t0 := w64 (s + 1);
 .ite (!(gI l_3 s).1)
 (.rq 3 (.ite ((gI l_3 s).2 != 0)
 (.rq 1 (.done (.ex ())))
 (.rq 3 (.again t0))))
 (.rq 10 (.ite (((gI l_3 s).2 != (-1)) && (!((inB l_2 (gI l_3 s).2 && (gI l_2 (gI l_3 s).2).1 != 0))))
 (.rq 1 (.done (.ex ())))
 (.rq 1 (.call (lo R14_locks_b13470 (s, l_0, l_1, l_2, l_3, l_4, l_5, (gI l_3 s).2) 0) default fun v0 =>
 .ite v0.isRt
 (.rq 3 (.again t0))
 (.done (.ex ()))))))))))
 (.done (.rt ())))
def R14_locks_p26 : Piece := ⟨26, true, [.sl tB, .sl yK, .sl yH, .sl yL, .sl tI, tI], [tI], ⟨[.keep [1, 3], .gc], [1, 3], [.lf (qp 16), .lf (qm 0)], [(16, true, .cells [qi 0, qi 1, qi 2, qi 3, qi 4, qi 5])]⟩, [⟨1, ⟨[.keep [2], .gc], [2], [.lf (.fix (.bool false))], []⟩, []⟩, ⟨2, ⟨[.keep [1], .gc], [1], [.lf (qp 16)], [(16, true, .cells [qi 0, qi 1, qi 2, qi 3, qi 4, qi 5])]⟩, []⟩], R14_locks_b26⟩
def R14_locks : ((List Bool) × (List Tk) × (List Th) × (List Lk) × (List Int) × Int) → RT Unit Bool
| (a0_0, a0_1, a0_2, a0_3, a0_4, a0_5) =>
 .rq 3 (.call (lo R14_locks_b26 (a0_0, a0_1, a0_2, a0_3, a0_4, a0_5) 0) default fun v1 =>
 .ite v1.isRt
 (.rq 14 (let t0 := (a0_3.length : Int) == 0;
 let t1 := decide ((a0_3.length : Int) ≤ 8);
 let t2 := w64 ((a0_3.length : Int) - 1);
 .req ((inB a0_3 t2) || (!((!t0) && t1))) (.rq 5 (.done (t1 && (t0 || (gI a0_3 t2).1))))))
 (.done false))
def F_R14_locks (x : (List Bool) × (List Tk) × (List Th) × (List Lk) × (List Int) × Int) : Option Bool := (R14_locks x).run fun _ => none
def io_R14_locks : Io := ⟨n_R14_locks, [.sl tB, .sl yK, .sl yH, .sl yL, .sl tI, tI], [.agg [qm 0, qm 1, qm 2, qm 3, qm 4, qm 5]], [], [[.sl tB, .sl yK, .sl yH, .sl yL, .sl tI, tI]], [tB], .lf (qm 0), [], [], false⟩
def R14_locks_P : List Piece := [R14_locks_p13470, R14_locks_p26]
def R14_locks_T : CallT := tab [e_R14_Is, e_R14_Thread]
theorem R14_locks_To : SoundT pg R14_locks_T := tab_sound ⟨e_R14_Is_ok, e_R14_Thread_ok, trivial⟩
theorem R14_locks_k13470 : (R14_locks_p13470).OK pg (R14_locks_T) (tell 75 (R14_locks_P)) (codeOf f_R14_locks) 75 := ⟨by kernel_rfl, fun i x => by kernel_rfl⟩
theorem R14_locks_k26 : (R14_locks_p26).OK pg (R14_locks_T) (tell 75 (R14_locks_P)) (codeOf f_R14_locks) 75 := ⟨by kernel_rfl, fun i x => by kernel_rfl⟩
theorem R14_locks_go : FnOK pg (R14_locks_T) io_R14_locks f_R14_locks (R14_locks_P) [] (R14_locks) := ⟨by kernel_rfl, by kernel_rfl, fun x => by kernel_rfl⟩
theorem ok_R14_locks : io_R14_locks.Okay pg (F_R14_locks) := fn_ok pg_mixed (R14_locks_To) (R14_locks_go) ⟨R14_locks_k13470, R14_locks_k26, trivial⟩
def lkFine (c : List Th) (i : Int) (l : Lk) : Bool :=
  if (!l.1) = true then !(l.2 != 0) else !((l.2 != (-1)) && (!((inB c l.2 && (gI c l.2).1 != 0)))) && (List.range c.length).all fun (k : Nat) => !((isV c (k : Int) 6 i) && ((l.2 == (-1)) || (l.2 == (k : Int))))
theorem locks_inner (a : List Bool) (b : List Tk) (c : List Th) (d : List Lk) (e : List Int) (f : Int) (i h : Int) (hl : c.length ≤ 1000000) : ∀ (n k : Nat), k + n = c.length →
    lo R14_locks_b13470 (i, a, b, c, d, e, f, h) (k : Int) = some (if (List.range' k n).all (fun (k : Nat) => !((isV c (k : Int) 6 i) && ((h == (-1)) || (h == (k : Int))))) = true then .rt () else .ex ())
  | 0, k, hk => by
    rw [lo_eq, R14_locks_b13470]
    simp only [RT.run]
    rw [if_neg (by simp; omega)]
    rfl
  | n + 1, k, hk => by
    rw [lo_eq, R14_locks_b13470]
    simp only [RT.run]
    rw [if_pos (by simp; omega), w64_in (by omega), show (k : Int) + 1 = ((k + 1 : Nat) : Int) by omega, locks_inner a b c d e f i h hl n (k + 1) (by omega), List.range'_succ, List.all_cons]
    generalize (List.range' (k + 1) n).all (fun (k : Nat) => !((isV c (k : Int) 6 i) && ((h == (-1)) || (h == (k : Int))))) = q
    split
    · rename_i h3; rw [h3]; simp
    · rename_i h3; rw [Bool.eq_false_iff.2 h3]; simp
theorem locks_loop (a : List Bool) (b : List Tk) (c : List Th) (d : List Lk) (e : List Int) (f : Int) (hl : c.length ≤ 1000000) (hd : d.length ≤ 1000000) : ∀ (n i : Nat), i + n = d.length →
    lo R14_locks_b26 (a, b, c, d, e, f) (i : Int) = some (if (List.range' i n).all (fun (k : Nat) => lkFine c (k : Int) (gI d (k : Int))) = true then .rt () else .ex ())
  | 0, i, h => by
    rw [lo_eq, R14_locks_b26]
    simp only [RT.run]
    rw [if_neg (by simp; omega)]
    rfl
  | n + 1, i, h => by
    have hi : i < d.length := by omega
    have hin := locks_inner a b c d e f (i : Int) (gI d (i : Int)).2 hl c.length 0 (by omega)
    rw [show ((0 : Nat) : Int) = 0 from rfl, ← List.range_eq_range'] at hin
    rw [lo_eq, R14_locks_b26]
    simp only [RT.run]
    rw [if_pos (by simp; omega), if_pos (inB_iff.2 ⟨by omega, by omega⟩), w64_in (by omega), show (i : Int) + 1 = ((i + 1 : Nat) : Int) by omega, locks_loop a b c d e f hl hd n (i + 1) (by omega), List.range'_succ, List.all_cons, hin, Option.bind_some]
    generalize (List.range' (i + 1) n).all (fun (k : Nat) => lkFine c (k : Int) (gI d (k : Int))) = q
    unfold lkFine
    generalize (List.range c.length).all (fun (k : Nat) => !((isV c (k : Int) 6 (i : Int)) && (((gI d (i : Int)).2 == (-1)) || ((gI d (i : Int)).2 == (k : Int))))) = q2
    by_cases h1 : (!(gI d (i : Int)).1) = true
    · rw [if_pos h1, if_pos h1]
      cases ((gI d (i : Int)).2 != 0) <;> simp
    · rw [if_neg h1, if_neg h1]
      split
      · rename_i h2; rw [h2]; simp
      · rename_i h2
        rw [Bool.eq_false_iff.2 h2]
        cases q2 <;> simp [LR.isRt]
def locksV (c : List Th) (d : List Lk) : Bool := (List.range d.length).all (fun (k : Nat) => lkFine c (k : Int) (gI d (k : Int))) &&
  (decide ((d.length : Int) ≤ 8) && (((d.length : Int) == 0) || (gI d ((d.length : Int) - 1)).1))
def e_R14_locks : Entry := io_R14_locks.sp (fun (a, b, c, d, e, f) => (decide (c.length ≤ 1000000) && decide (d.length ≤ 1000000))) (fun (a, b, c, d, e, f) => (locksV c d))
theorem sp_R14_locks (h : ∀ (a : List Bool) (b : List Tk) (c : List Th) (d : List Lk) (e : List Int) (f : Int), WfT [.sl tB, .sl yK, .sl yH, .sl yL, .sl tI, tI] (a, b, c, d, e, f) → ((decide (c.length ≤ 1000000) && decide (d.length ≤ 1000000))) = true → (R14_locks (a, b, c, d, e, f)).run (fun _ => none) = some (locksV c d)) : e_R14_locks.ok pg := sp_ok ok_R14_locks fun (a, b, c, d, e, f) hw hc => h a b c d e f hw hc
theorem e_R14_locks_ok : e_R14_locks.ok pg := sp_R14_locks fun a b c d e f _ hc => by
  rw [Bool.and_eq_true] at hc
  have hl := of_decide_eq_true hc.1
  have hd := of_decide_eq_true hc.2
  rw [R14_locks]
  simp only [RT.run]
  have := locks_loop a b c d e f hl hd d.length 0 (by omega)
  rw [show ((0 : Nat) : Int) = 0 from rfl, ← List.range_eq_range'] at this
  rw [this, Option.bind_some, w64_in (by omega)]
  unfold locksV
  cases (List.range d.length).all (fun (k : Nat) => lkFine c (k : Int) (gI d (k : Int))) with
  | false => rfl
  | true =>
    rw [if_pos (by rfl), if_pos]
    · rw [Bool.true_and]
    · by_cases h0 : d.length = 0
      · simp [h0]
      · rw [inB_iff.2 ⟨by omega, by omega⟩]; rfl
def R14_queue_b6730 : (Int × (List Int)) → (Int × Int) → RT (Int × Int) Int
| (s, l_4), (t, x5) =>
 .rq 5 (.ite (decide (x5 < (l_4.length : Int)))
 (.rq 3 (.req (inB l_4 x5) (.rq 3 (let t0 := w64 (x5 + 1);
 .ite ((gI l_4 x5) == s)
 (.rq 6 (.again (w64 (t + 1), t0)))
 (.rq 3 (.again (t, t0)))))))
 (.done t))
def R14_queue_p6730 : Piece := ⟨6730, true, [tI, .sl tB, .sl yK, .sl yH, .sl yL, .sl tI, tI], [tI, tI], ⟨[.keep [1, 3, 4, 5], .gc], [1, 3, 4, 5], [.lf (qp 16), .lf (qi 0), .lf (qm 0), .lf (qm 1)], [(16, true, .cells [qi 1, qi 2, qi 3, qi 4, qi 5, qi 6])]⟩, [⟨4, ⟨[.keep [1, 3, 4], .gc], [1, 3, 4], [.lf (qp 16), .lf (qi 0), .lf (qm 0)], [(16, true, .cells [qi 1, qi 2, qi 3, qi 4, qi 5, qi 6])]⟩, [tI]⟩], (fun i => R14_queue_b6730 (i.1, i.2.2.2.2.2.1))⟩
def R14_queue_b6734 : (Int × Int × (List Th)) → RT Unit Bool
| (s, t, l_2) =>
 .rq 3 (let t0 := inB l_2 (gI l_2 s).2.1;
 let t1 := (gI l_2 (gI l_2 s).2.1).1 == 5;
 .ite (t == 1)
 (.rq 3 (.req (inB l_2 s) (.rq 5 (.ite ((gI l_2 s).1 == 4)
 (.rq 5 (.req (inB l_2 s) (.rq 2 (.req t0 (.rq 4 (.done t1))))))
 (.rq 1 (.done false))))))
 (.rq 2 (.ite false
 (.rq 5 (.req (inB l_2 s) (.rq 2 (.req t0 (.rq 4 (.done t1))))))
 (.rq 1 (.done false)))))
def R14_queue_p6734 : Piece := ⟨6734, false, [tI, tI, .sl tB, .sl yK, .sl yH, .sl yL, .sl tI, tI], [], ⟨[.keep [1, 3, 4], .gc], [1, 3, 4], [.lf (qp 16), .lf (qi 0), .lf (qi 1)], [(16, true, .cells [qi 2, qi 3, qi 4, qi 5, qi 6, qi 7])]⟩, [⟨0, ⟨[.keep [1, 3, 64], .gc], [1, 3, 64], [.lf (qp 16), .lf (qi 0), .lf (qm 0)], [(16, true, .cells [qi 2, qi 3, qi 4, qi 5, qi 6, qi 7])]⟩, [tB]⟩], (fun i _ => R14_queue_b6734 (i.1, i.2.1, i.2.2.2.2.1))⟩
def R14_queue_b26 : ((List Bool) × (List Tk) × (List Th) × (List Lk) × (List Int) × Int) → Int → RT Int (LR Unit Unit)
| (l_0, l_1, l_2, l_3, l_4, l_5), s =>
 .rq 5 (.ite (decide (s < (l_2.length : Int)))
 (.rq 2 (.call (lo R14_queue_b6730 (s, l_4) (0, 0)) default fun v0 =>
 .rq 2 (.call (F_R14_Queues (l_0, l_1, l_2, l_3, l_4, l_5, s)) default fun v1 =>
 .rq 7 (.ite (((v1 == (v0 == 1)) != true) || (decide (1 < v0)))
 (.rq 1 (.done (.ex ())))
 (.call (on R14_queue_b6734 (s, v0, l_2)) default fun v2 =>
 .ite v2
 (.rq 1 (.done (.ex ())))
 (.rq 3 (.again (w64 (s + 1)))))))))
 (.done (.rt ())))
def R14_queue_p26 : Piece := ⟨26, true, [.sl tB, .sl yK, .sl yH, .sl yL, .sl tI, tI], [tI], ⟨[.keep [1, 3], .gc], [1, 3], [.lf (qp 16), .lf (qm 0)], [(16, true, .cells [qi 0, qi 1, qi 2, qi 3, qi 4, qi 5])]⟩, [⟨1, ⟨[.keep [2], .gc], [2], [.lf (.fix (.bool false))], []⟩, []⟩, ⟨2, ⟨[.keep [1], .gc], [1], [.lf (qp 16)], [(16, true, .cells [qi 0, qi 1, qi 2, qi 3, qi 4, qi 5])]⟩, []⟩], R14_queue_b26⟩
def R14_queue_b1864 : (Int × (List Th) × (List Int)) → RT Unit Bool
| (x6, l_2, l_4) =>
 .rq 3 (.req (inB l_4 x6) (.rq 3 (.ite (decide ((gI l_4 x6) < 0))
 (.rq 1 (.done true))
 (.rq 3 (.req (inB l_4 x6) (.rq 6 (.done (decide ((l_2.length : Int) ≤ (gI l_4 x6))))))))))
def R14_queue_p1864 : Piece := ⟨1864, false, [tI, .sl tB, .sl yK, .sl yH, .sl yL, .sl tI, tI], [], ⟨[.keep [1, 6], .gc], [1, 6], [.lf (qp 16), .lf (qi 0)], [(16, true, .cells [qi 1, qi 2, qi 3, qi 4, qi 5, qi 6])]⟩, [⟨0, ⟨[.keep [1, 6, 88], .gc], [1, 6, 88], [.lf (qp 16), .lf (qi 0), .lf (qm 0)], [(16, true, .cells [qi 1, qi 2, qi 3, qi 4, qi 5, qi 6])]⟩, [tB]⟩], (fun i _ => R14_queue_b1864 (i.1, i.2.2.2.1, i.2.2.2.2.2.1))⟩
def R14_queue_b58 : ((List Th) × (List Int)) → Int → RT Int (LR Unit Unit)
| (l_2, l_4), x6 =>
 .rq 5 (.ite (decide (x6 < (l_4.length : Int)))
 (.call (on R14_queue_b1864 (x6, l_2, l_4)) default fun v4 =>
 .ite v4
 (.rq 1 (.done (.ex ())))
 (.rq 3 (.again (w64 (x6 + 1)))))
 (.done (.rt ())))
def R14_queue_p58 : Piece := ⟨58, true, [.sl tB, .sl yK, .sl yH, .sl yL, .sl tI, tI], [tI], ⟨[.keep [1, 6], .gc], [1, 6], [.lf (qp 16), .lf (qm 0)], [(16, true, .cells [qi 0, qi 1, qi 2, qi 3, qi 4, qi 5])]⟩, [⟨1, ⟨[.keep [2], .gc], [2], [.lf (.fix (.bool false))], []⟩, []⟩, ⟨6, ⟨[.keep [], .gc], [], [], []⟩, []⟩], (fun i => R14_queue_b58 (i.2.2.1, i.2.2.2.2.1))⟩
def R14_queue : ((List Bool) × (List Tk) × (List Th) × (List Lk) × (List Int) × Int) → RT Unit Bool
| (a0_0, a0_1, a0_2, a0_3, a0_4, a0_5) =>
 .rq 3 (.call (lo R14_queue_b26 (a0_0, a0_1, a0_2, a0_3, a0_4, a0_5) 0) default fun v3 =>
 .ite v3.isRt
 (.rq 1 (.call (lo R14_queue_b58 (a0_2, a0_4) 0) default fun v5 =>
 .ite v5.isRt
 (.rq 1 (.done true))
 (.done false)))
 (.done false))
def F_R14_queue (x : (List Bool) × (List Tk) × (List Th) × (List Lk) × (List Int) × Int) : Option Bool := (R14_queue x).run fun _ => none
def io_R14_queue : Io := ⟨n_R14_queue, [.sl tB, .sl yK, .sl yH, .sl yL, .sl tI, tI], [.agg [qm 0, qm 1, qm 2, qm 3, qm 4, qm 5]], [], [[.sl tB, .sl yK, .sl yH, .sl yL, .sl tI, tI]], [tB], .lf (qm 0), [], [], false⟩
def R14_queue_P : List Piece := [R14_queue_p6730, R14_queue_p6734, R14_queue_p26, R14_queue_p1864, R14_queue_p58]
def R14_queue_T : CallT := tab [e_R14_Queues]
theorem R14_queue_To : SoundT pg R14_queue_T := tab_sound ⟨e_R14_Queues_ok, trivial⟩
theorem R14_queue_k6730 : (R14_queue_p6730).OK pg (R14_queue_T) (tell 89 (R14_queue_P)) (codeOf f_R14_queue) 89 := ⟨by kernel_rfl, fun i x => by kernel_rfl⟩
theorem R14_queue_k6734 : (R14_queue_p6734).OK pg (R14_queue_T) (tell 89 (R14_queue_P)) (codeOf f_R14_queue) 89 := ⟨by kernel_rfl, fun i x => by kernel_rfl⟩
theorem R14_queue_k26 : (R14_queue_p26).OK pg (R14_queue_T) (tell 89 (R14_queue_P)) (codeOf f_R14_queue) 89 := ⟨by kernel_rfl, fun i x => by kernel_rfl⟩
theorem R14_queue_k1864 : (R14_queue_p1864).OK pg (R14_queue_T) (tell 89 (R14_queue_P)) (codeOf f_R14_queue) 89 := ⟨by kernel_rfl, fun i x => by kernel_rfl⟩
theorem R14_queue_k58 : (R14_queue_p58).OK pg (R14_queue_T) (tell 89 (R14_queue_P)) (codeOf f_R14_queue) 89 := ⟨by kernel_rfl, fun i x => by kernel_rfl⟩
theorem R14_queue_go : FnOK pg (R14_queue_T) io_R14_queue f_R14_queue (R14_queue_P) [] (R14_queue) := ⟨by kernel_rfl, by kernel_rfl, fun x => by kernel_rfl⟩
theorem ok_R14_queue : io_R14_queue.Okay pg (F_R14_queue) := fn_ok pg_mixed (R14_queue_To) (R14_queue_go) ⟨R14_queue_k6730, R14_queue_k6734, R14_queue_k26, R14_queue_k1864, R14_queue_k58, trivial⟩
def queuesV (c : List Th) (i : Int) : Bool := if ((gI c i).1 == 4) = true then (gI c (gI c i).2.1).2.2.1 != i else (gI c i).1 == 6
def qOne (c : List Th) (e : List Int) (i : Int) : Bool :=
  !(((queuesV c i == ((e.count i : Int) == 1)) != true) || (decide (1 < (e.count i : Int)))) && !(((e.count i : Int) == 1) && ((gI c i).1 == 4 && (gI c (gI c i).2.1).1 == 5))
def waitOK (c : List Th) : Bool := (List.range c.length).all fun (k : Nat) => !((gI c (k : Int)).1 == 4) || inB c (gI c (k : Int)).2.1
theorem queue_count (e : List Int) (s : Int) (he : e.length ≤ 1000000) : ∀ (n k t : Nat), k + n = e.length → t ≤ k → lo R14_queue_b6730 (s, e) ((t : Int), (k : Int)) = some ((t + (e.drop k).count s : Nat) : Int)
  | 0, k, t, h, _ => by
    rw [lo_eq, R14_queue_b6730]
    simp only [RT.run]
    rw [if_neg (by simp; omega), List.drop_eq_nil_of_le (by omega)]
    simp
  | n + 1, k, t, h, ht => by
    have hk : k < e.length := by omega
    rw [lo_eq, R14_queue_b6730]
    simp only [RT.run]
    rw [if_pos (by simp; omega), if_pos (inB_iff.2 ⟨by omega, by omega⟩), w64_in (by omega), w64_in (by omega), show (k : Int) + 1 = ((k + 1 : Nat) : Int) by omega, show (t : Int) + 1 = ((t + 1 : Nat) : Int) by omega,
      queue_count e s he n (k + 1) (t + 1) (by omega) (by omega), queue_count e s he n (k + 1) t (by omega) (by omega), gI_lt hk, List.drop_eq_getElem_cons hk, List.count_cons]
    split <;> congr 2 <;> omega
theorem queue_b58 (c : List Th) (e : List Int) (he : e.length ≤ 1000000) : ∀ (n k : Nat), k + n = e.length → lo R14_queue_b58 (c, e) (k : Int) = some (if (e.drop k).all (inB c) = true then .rt () else .ex ())
  | 0, k, h => by
    rw [lo_eq, R14_queue_b58]
    simp only [RT.run]
    rw [if_neg (by simp; omega), List.drop_eq_nil_of_le (by omega)]
    rfl
  | n + 1, k, h => by
    have hk : k < e.length := by omega
    have hin : inB e (k : Int) = true := inB_iff.2 ⟨by omega, by omega⟩
    have hb : on R14_queue_b1864 ((k : Int), c, e) = some (!(inB c e[k])) := by
      show (R14_queue_b1864 _).run _ = _
      rw [R14_queue_b1864]
      simp only [RT.run]
      rw [if_pos hin, if_pos hin, gI_lt hk]
      unfold inB
      by_cases h0 : e[k] < 0
      · rw [if_pos (by simpa using h0), decide_eq_false (show ¬ 0 ≤ e[k] by omega)]; rfl
      · rw [if_neg (by simpa using h0)]
        by_cases h1 : (c.length : Int) ≤ e[k]
        · rw [decide_eq_true h1, decide_eq_false (show ¬ e[k] < (c.length : Int) by omega), Bool.and_false]; rfl
        · rw [decide_eq_false h1, decide_eq_true (show 0 ≤ e[k] by omega), decide_eq_true (show e[k] < (c.length : Int) by omega)]; rfl
    rw [lo_eq, R14_queue_b58]
    simp only [RT.run]
    rw [if_pos (by simp; omega), hb, Option.bind_some, w64_in (by omega), show (k : Int) + 1 = ((k + 1 : Nat) : Int) by omega, queue_b58 c e he n (k + 1) (by omega), List.drop_eq_getElem_cons hk, List.all_cons]
    cases inB c e[k] <;> simp
theorem queue_loop (a : List Bool) (b : List Tk) (c : List Th) (d : List Lk) (e : List Int) (f : Int) (hl : c.length ≤ 1000000) (he : e.length ≤ 1000000) (hw : waitOK c = true) : ∀ (n i : Nat), i + n = c.length →
    lo R14_queue_b26 (a, b, c, d, e, f) (i : Int) = some (if (List.range' i n).all (fun (k : Nat) => qOne c e (k : Int)) = true then .rt () else .ex ())
  | 0, i, h => by
    rw [lo_eq, R14_queue_b26]
    simp only [RT.run]
    rw [if_neg (by simp; omega)]
    rfl
  | n + 1, i, h => by
    have hi : i < c.length := by omega
    have hin : inB c (i : Int) = true := inB_iff.2 ⟨by omega, by omega⟩
    have hwi := List.all_eq_true.1 hw i (List.mem_range.2 hi)
    have hcnt := queue_count e (i : Int) he e.length 0 0 (by omega) (by omega)
    rw [show ((0 : Nat) : Int) = 0 from rfl, List.drop_zero, Nat.zero_add] at hcnt
    have hq : F_R14_Queues (a, b, c, d, e, f, (i : Int)) = some (queuesV c (i : Int)) := by
      show (R14_Queues _).run _ = _
      rw [R14_Queues]
      simp only [RT.run]
      unfold queuesV
      rw [if_pos hin]
      by_cases h4 : ((gI c (i : Int)).1 == 4) = true
      · rw [h4] at hwi
        rw [if_pos h4, if_pos (by simpa using hwi), if_pos h4]
      · rw [if_neg h4, if_neg h4]
    have hb : on R14_queue_b6734 ((i : Int), (e.count (i : Int) : Int), c) = some (((e.count (i : Int) : Int) == 1) && ((gI c (i : Int)).1 == 4 && (gI c (gI c (i : Int)).2.1).1 == 5)) := by
      show (R14_queue_b6734 _).run _ = _
      rw [R14_queue_b6734]
      simp only [RT.run]
      rw [if_pos hin]
      by_cases h1 : ((e.count (i : Int) : Int) == 1) = true
      · rw [if_pos h1, h1]
        by_cases h4 : ((gI c (i : Int)).1 == 4) = true
        · rw [h4] at hwi
          rw [if_pos h4, if_pos hin, if_pos (by simpa using hwi), h4]; rfl
        · rw [if_neg h4, Bool.eq_false_iff.2 h4]; rfl
      · rw [if_neg h1, Bool.eq_false_iff.2 h1]; rfl
    rw [lo_eq, R14_queue_b26]
    simp only [RT.run]
    rw [if_pos (by simp; omega), hcnt, Option.bind_some, hq, Option.bind_some, hb, Option.bind_some, w64_in (by omega), show (i : Int) + 1 = ((i + 1 : Nat) : Int) by omega, queue_loop a b c d e f hl he hw n (i + 1) (by omega), List.range'_succ, List.all_cons]
    generalize (List.range' (i + 1) n).all (fun (k : Nat) => qOne c e (k : Int)) = q
    unfold qOne
    split
    · rename_i h2; rw [h2]; simp
    · rename_i h2
      rw [Bool.eq_false_iff.2 h2]
      cases (((e.count (i : Int) : Int) == 1) && ((gI c (i : Int)).1 == 4 && (gI c (gI c (i : Int)).2.1).1 == 5)) <;> simp
def queueV (c : List Th) (e : List Int) : Bool := (List.range c.length).all (fun (k : Nat) => qOne c e (k : Int)) && e.all (inB c)
def e_R14_queue : Entry := io_R14_queue.sp (fun (a, b, c, d, e, f) => ((decide (c.length ≤ 1000000) && decide (e.length ≤ 1000000)) && waitOK c)) (fun (a, b, c, d, e, f) => (queueV c e))
theorem sp_R14_queue (h : ∀ (a : List Bool) (b : List Tk) (c : List Th) (d : List Lk) (e : List Int) (f : Int), WfT [.sl tB, .sl yK, .sl yH, .sl yL, .sl tI, tI] (a, b, c, d, e, f) → (((decide (c.length ≤ 1000000) && decide (e.length ≤ 1000000)) && waitOK c)) = true → (R14_queue (a, b, c, d, e, f)).run (fun _ => none) = some (queueV c e)) : e_R14_queue.ok pg := sp_ok ok_R14_queue fun (a, b, c, d, e, f) hw hc => h a b c d e f hw hc
theorem e_R14_queue_ok : e_R14_queue.ok pg := sp_R14_queue fun a b c d e f _ hc => by
  simp only [Bool.and_eq_true, decide_eq_true_eq] at hc
  obtain ⟨⟨hl, he⟩, hw⟩ := hc
  rw [R14_queue]
  simp only [RT.run]
  have h1 := queue_loop a b c d e f hl he hw c.length 0 (by omega)
  have h2 := queue_b58 c e he e.length 0 (by omega)
  rw [show ((0 : Nat) : Int) = 0 from rfl, ← List.range_eq_range'] at h1
  rw [show ((0 : Nat) : Int) = 0 from rfl, List.drop_zero] at h2
  rw [h1, Option.bind_some, h2, Option.bind_some]
  unfold queueV
  cases (List.range c.length).all (fun (k : Nat) => qOne c e (k : Int)) with
  | false => rfl
  | true => cases e.all (inB c) <;> rfl
theorem wait_of_threads {c : List Th} {d : List Lk} {f : Int} (h : threadsV c d f = true) : waitOK c = true := by
  refine List.all_eq_true.2 fun k hk => ?_
  unfold threadsV at h
  simp only [Bool.and_eq_true] at h
  have h1 := List.all_eq_true.1 h.1 k hk
  unfold thFine at h1
  by_cases h4 : (gI c (k : Int)).1 = 4
  · rw [if_neg (by rw [h4]; decide)] at h1
    rw [h4] at h1
    have : inB c (gI c (k : Int)).2.1 = true := by
      cases hin : inB c (gI c (k : Int)).2.1 with
      | true => rfl
      | false => rw [hin] at h1; simp at h1
    rw [this]; simp
  · have : ((gI c (k : Int)).1 == 4) = false := by simpa using h4
    rw [this]; rfl
theorem thr_of_threads {c : List Th} {d : List Lk} {f : Int} (h : threadsV c d f = true) : thrOK c d = true := by
  refine List.all_eq_true.2 fun t ht => ?_
  obtain ⟨k, hk, rfl⟩ := List.mem_iff_getElem.1 ht
  unfold threadsV at h
  simp only [Bool.and_eq_true] at h
  have h1 := List.all_eq_true.1 h.1 k (List.mem_range.2 hk)
  unfold thFine at h1
  rw [gI_lt hk] at h1
  by_cases h6 : c[k].1 = 6
  · rw [if_neg (by rw [h6]; decide)] at h1
    rw [h6] at h1
    have : inB d c[k].2.1 = true := by
      cases hin : inB d c[k].2.1 with
      | true => rfl
      | false => rw [hin] at h1; simp at h1
    rw [this]; simp
  · have : (c[k].1 == 6) = false := by simpa using h6
    rw [this]; rfl
def R14_Small : ((List Bool) × (List Tk) × (List Th) × (List Lk) × (List Int) × Int) → RT Unit Bool
| (s_0, s_1, s_2, s_3, s_4, s_5) =>
 .rq 31 (.done (((((decide ((s_0.length : Int) ≤ 40)) && (decide ((s_1.length : Int) ≤ 200))) && (decide ((s_2.length : Int) ≤ 80))) && (decide ((s_3.length : Int) ≤ 40))) && (decide ((s_4.length : Int) ≤ 100))))
def F_R14_Small (x : (List Bool) × (List Tk) × (List Th) × (List Lk) × (List Int) × Int) : Option Bool := (R14_Small x).run fun _ => none
def io_R14_Small : Io := ⟨n_R14_Small, [.sl tB, .sl yK, .sl yH, .sl yL, .sl tI, tI], [.agg [qm 0, qm 1, qm 2, qm 3, qm 4, qm 5]], [], [[.sl tB, .sl yK, .sl yH, .sl yL, .sl tI, tI]], [tB], .lf (qm 0), [], [], false⟩
def R14_Small_P : List Piece := []
def R14_Small_T : CallT := tab []
theorem R14_Small_To : SoundT pg R14_Small_T := tab_sound trivial
theorem R14_Small_go : FnOK pg (R14_Small_T) io_R14_Small f_R14_Small (R14_Small_P) [] (R14_Small) := ⟨by kernel_rfl, by kernel_rfl, fun x => by kernel_rfl⟩
theorem ok_R14_Small : io_R14_Small.Okay pg (F_R14_Small) := fn_ok pg_mixed (R14_Small_To) (R14_Small_go) trivial
def smallV (a : List Bool) (b : List Tk) (c : List Th) (d : List Lk) (e : List Int) : Bool :=
  ((((decide ((a.length : Int) ≤ 40)) && (decide ((b.length : Int) ≤ 200))) && (decide ((c.length : Int) ≤ 80))) && (decide ((d.length : Int) ≤ 40))) && (decide ((e.length : Int) ≤ 100))
def e_R14_Small : Entry := io_R14_Small.sp (fun (a, b, c, d, e, f) => true) (fun (a, b, c, d, e, f) => (smallV a b c d e))
theorem sp_R14_Small (h : ∀ (a : List Bool) (b : List Tk) (c : List Th) (d : List Lk) (e : List Int) (f : Int), WfT [.sl tB, .sl yK, .sl yH, .sl yL, .sl tI, tI] (a, b, c, d, e, f) → (R14_Small (a, b, c, d, e, f)).run (fun _ => none) = some (smallV a b c d e)) : e_R14_Small.ok pg := sp_ok ok_R14_Small fun (a, b, c, d, e, f) hw hc => h a b c d e f hw
theorem e_R14_Small_ok : e_R14_Small.ok pg := sp_R14_Small fun a b c d e f _ => by
  rw [R14_Small]; rfl
def R14_Fine_b62 : (Int × (List Bool) × (List Tk) × (List Th) × (List Lk) × (List Int) × Int) → RT Unit Bool
| (s, l_0, l_1, l_2, l_3, l_4, l_5) =>
 .rq 2 (.req ((decide (l_1.length ≤ 1000000))) (let t0 := (coinArr l_1);
 .req ((decide (t0.length ≤ 4000000) && (decide (0 ≤ s) && decide (s ≤ 1000000)))) (.rq 2 (.ite (!((ringV s.toNat t0)))
 (.rq 4 (.req ((decide (l_2.length ≤ 1000000) && thrOK l_2 l_3)) (let t1 := (thrArr l_2 l_3);
 .req ((decide (t1.length ≤ 4000000) && (decide (0 ≤ (l_2.length : Int)) && decide ((l_2.length : Int) ≤ 1000000)))) (.rq 3 (.done (!((ringV (l_2.length : Int).toNat t1))))))))
 (.rq 2 (.done false))))))
def R14_Fine_p62 : Piece := ⟨62, false, [tI, .sl tB, .sl yK, .sl yH, .sl yL, .sl tI, tI], [], ⟨[.keep [1, 3], .gc], [1, 3], [.lf (qp 16), .lf (qi 0)], [(16, true, .cells [qi 1, qi 2, qi 3, qi 4, qi 5, qi 6])]⟩, [⟨0, ⟨[.keep [2], .gc], [2], [.lf (qm 0)], []⟩, [tB]⟩], (fun i _ => R14_Fine_b62 i)⟩
def R14_Fine : ((List Bool) × (List Tk) × (List Th) × (List Lk) × (List Int) × Int) → RT Unit Bool
| (a0_0, a0_1, a0_2, a0_3, a0_4, a0_5) =>
 .rq 25 (let t0 := (((decide (a0_5 < 1)) || (decide (1000 < a0_5))) || (decide ((a0_0.length : Int) < 1))) || (decide (16 < (a0_0.length : Int)));
 .req ((inB a0_0 0) || (!(!t0))) (.rq 8 (let t1 := w64 ((a0_0.length : Int) - 1);
 let t2 := t0 || (!(gI a0_0 0));
 .req ((inB a0_0 t1) || (!(!t2))) (.rq 3 (.ite (t2 || (!(gI a0_0 t1)))
 (.rq 1 (.done false))
 (.rq 1 (.req ((decide (a0_1.length ≤ 1000000))) (.rq 3 (let t3 := !((ticketsV a0_0 a0_1 a0_2));
 .req (((decide (a0_2.length ≤ 1000000))) || (!(!t3))) (.rq 4 (let t4 := t3 || (!((threadsV a0_2 a0_3 a0_5)));
 .req (((decide (a0_2.length ≤ 1000000) && decide (a0_3.length ≤ 1000000))) || (!(!t4))) (.rq 4 (let t5 := t4 || (!((locksV a0_2 a0_3)));
 .req ((((decide (a0_2.length ≤ 1000000) && decide (a0_4.length ≤ 1000000)) && waitOK a0_2)) || (!(!t5))) (.rq 2 (.ite (t5 || (!((queueV a0_2 a0_4))))
 (.rq 1 (.done false))
 (.call (on R14_Fine_b62 ((a0_0.length : Int), a0_0, a0_1, a0_2, a0_3, a0_4, a0_5)) default fun v0 =>
 .done v0))))))))))))))))
def F_R14_Fine (x : (List Bool) × (List Tk) × (List Th) × (List Lk) × (List Int) × Int) : Option Bool := (R14_Fine x).run fun _ => none
def io_R14_Fine : Io := ⟨n_R14_Fine, [.sl tB, .sl yK, .sl yH, .sl yL, .sl tI, tI], [.agg [qm 0, qm 1, qm 2, qm 3, qm 4, qm 5]], [], [[.sl tB, .sl yK, .sl yH, .sl yL, .sl tI, tI]], [tB], .lf (qm 0), [], [], false⟩
def R14_Fine_P : List Piece := [R14_Fine_p62]
def R14_Fine_T : CallT := tab [e_R14_queue, e_R14_locks, e_R14_threads, e_R14_tickets, e_R13_Ring, e_R14_ThreadArrows, e_R14_CoinArrows]
theorem R14_Fine_To : SoundT pg R14_Fine_T := tab_sound ⟨e_R14_queue_ok, e_R14_locks_ok, e_R14_threads_ok, e_R14_tickets_ok, e_R13_Ring_ok, e_R14_ThreadArrows_ok, e_R14_CoinArrows_ok, trivial⟩
theorem R14_Fine_k62 : (R14_Fine_p62).OK pg (R14_Fine_T) (tell 71 (R14_Fine_P)) (codeOf f_R14_Fine) 71 := ⟨by kernel_rfl, fun i x => by kernel_rfl⟩
theorem R14_Fine_go : FnOK pg (R14_Fine_T) io_R14_Fine f_R14_Fine (R14_Fine_P) [] (R14_Fine) := ⟨by kernel_rfl, by kernel_rfl, fun x => by kernel_rfl⟩
theorem ok_R14_Fine : io_R14_Fine.Okay pg (F_R14_Fine) := fn_ok pg_mixed (R14_Fine_To) (R14_Fine_go) ⟨R14_Fine_k62, trivial⟩
def fineV (a : List Bool) (b : List Tk) (c : List Th) (d : List Lk) (e : List Int) (f : Int) : Bool :=
  (!(((((((decide (f < 1)) || (decide (1000 < f))) || (decide ((a.length : Int) < 1))) || (decide (16 < (a.length : Int)))) || (!(gI a 0))) || (!(gI a ((a.length : Int) - 1))))) &&
  (ticketsV a b c && (threadsV c d f && (locksV c d && queueV c e)))) && (!ringV a.length (coinArr b) && !ringV c.length (thrArr c d))
def e_R14_Fine : Entry := io_R14_Fine.sp (fun (a, b, c, d, e, f) => (smallV a b c d e)) (fun (a, b, c, d, e, f) => (fineV a b c d e f))
theorem sp_R14_Fine (h : ∀ (a : List Bool) (b : List Tk) (c : List Th) (d : List Lk) (e : List Int) (f : Int), WfT [.sl tB, .sl yK, .sl yH, .sl yL, .sl tI, tI] (a, b, c, d, e, f) → ((smallV a b c d e)) = true → (R14_Fine (a, b, c, d, e, f)).run (fun _ => none) = some (fineV a b c d e f)) : e_R14_Fine.ok pg := sp_ok ok_R14_Fine fun (a, b, c, d, e, f) hw hc => h a b c d e f hw hc
theorem e_R14_Fine_ok : e_R14_Fine.ok pg := sp_R14_Fine fun a b c d e f _ hc => by
  unfold smallV at hc
  simp only [Bool.and_eq_true, decide_eq_true_eq] at hc
  obtain ⟨⟨⟨⟨ha, hb⟩, hcl⟩, hd⟩, he⟩ := hc
  have la := coinArr_len b
  have lt := thrArr_len c d
  rw [R14_Fine]
  simp only [RT.run]
  rw [w64_in (by omega)]
  unfold fineV
  generalize hX : ((((decide (f < 1)) || (decide (1000 < f))) || (decide ((a.length : Int) < 1))) || (decide (16 < (a.length : Int)))) = X
  have hin : X = false → inB a 0 = true ∧ inB a ((a.length : Int) - 1) = true := fun h => by
    subst h
    simp only [Bool.or_eq_false_iff, decide_eq_false_iff_not] at hX
    exact ⟨inB_iff.2 (by omega), inB_iff.2 (by omega)⟩
  rw [if_pos (by cases X with | true => simp | false => rw [(hin rfl).1]; rfl), if_pos (by cases X with | true => simp | false => rw [(hin rfl).2]; rfl)]
  cases hY : ((X || !(gI a 0)) || !(gI a ((a.length : Int) - 1))) with
  | true => rw [if_pos rfl]; rfl
  | false =>
    rw [if_neg (by simp), if_pos (by simp; omega), if_pos (by simp; omega), if_pos (by simp; omega)]
    cases hT : ticketsV a b c with
    | false => simp
    | true =>
      cases hH : threadsV c d f with
      | false => simp
      | true =>
        cases hL : locksV c d with
        | false => simp
        | true =>
          have hw := wait_of_threads hH
          have ht := thr_of_threads hH
          rw [if_pos (by rw [hw]; simp; omega)]
          cases hQ : queueV c e with
          | false => simp
          | true =>
            have : on R14_Fine_b62 ((a.length : Int), a, b, c, d, e, f) = some (!ringV a.length (coinArr b) && !ringV c.length (thrArr c d)) := by
              show (R14_Fine_b62 _).run _ = _
              rw [R14_Fine_b62]
              simp only [RT.run, Int.toNat_natCast]
              rw [if_pos (by simp; omega), if_pos (by simp; omega)]
              by_cases hr : ringV a.length (coinArr b) = true
              · rw [if_neg (by rw [hr]; decide), hr]; rfl
              · have hr' := Bool.eq_false_iff.2 hr
                rw [if_pos (by rw [hr']; decide), if_pos (by rw [ht]; simp; omega), if_pos (by simp; omega), hr']; rfl
            rw [this]
            simp
def R17_Light_b58 : (List Tk) → (Int × Int) → RT (Int × Int) Int
| s_1, (n, k) =>
 .rq 5 (.ite (decide (k < (s_1.length : Int)))
 (.rq 3 (.req (inB s_1 k) (.rq 3 (let t0 := w64 (k + 1);
 .ite ((gI s_1 k).2.2.2.1 == 2)
 (.rq 6 (.again (w64 (n + 1), t0)))
 (.rq 3 (.again (n, t0)))))))
 (.done n))
def R17_Light_p58 : Piece := ⟨58, true, [.sl tB, .sl yK, .sl yH, .sl yL, .sl tI, tI], [tI, tI], ⟨[.keep [1, 3, 4], .gc], [1, 3, 4], [.lf (qp 16), .lf (qm 0), .lf (qm 1)], [(16, true, .cells [qi 0, qi 1, qi 2, qi 3, qi 4, qi 5])]⟩, [⟨2, ⟨[.keep [1, 3], .gc], [1, 3], [.lf (qp 16), .lf (qm 0)], [(16, true, .cells [qi 0, qi 1, qi 2, qi 3, qi 4, qi 5])]⟩, [tI]⟩], (fun i => R17_Light_b58 i.2.1)⟩
def R17_Light : ((List Bool) × (List Tk) × (List Th) × (List Lk) × (List Int) × Int) → RT Unit Bool
| (s_0, s_1, s_2, s_3, s_4, s_5) =>
 .rq 4 (.call (lo R17_Light_b58 s_1 (0, 0)) default fun v0 =>
 .rq 9 (.done ((decide ((s_1.length : Int) ≤ 30)) && (decide (v0 ≤ 8)))))
def F_R17_Light (x : (List Bool) × (List Tk) × (List Th) × (List Lk) × (List Int) × Int) : Option Bool := (R17_Light x).run fun _ => none
def io_R17_Light : Io := ⟨n_R17_Light, [.sl tB, .sl yK, .sl yH, .sl yL, .sl tI, tI], [.agg [qm 0, qm 1, qm 2, qm 3, qm 4, qm 5]], [], [[.sl tB, .sl yK, .sl yH, .sl yL, .sl tI, tI]], [tB], .lf (qm 0), [], [], false⟩
def R17_Light_P : List Piece := [R17_Light_p58]
def R17_Light_T : CallT := tab []
theorem R17_Light_To : SoundT pg R17_Light_T := tab_sound trivial
theorem R17_Light_k58 : (R17_Light_p58).OK pg (R17_Light_T) (tell 29 (R17_Light_P)) (codeOf f_R17_Light) 29 := ⟨by kernel_rfl, fun i x => by kernel_rfl⟩
theorem R17_Light_go : FnOK pg (R17_Light_T) io_R17_Light f_R17_Light (R17_Light_P) [] (R17_Light) := ⟨by kernel_rfl, by kernel_rfl, fun x => by kernel_rfl⟩
theorem ok_R17_Light : io_R17_Light.Okay pg (F_R17_Light) := fn_ok pg_mixed (R17_Light_To) (R17_Light_go) ⟨R17_Light_k58, trivial⟩
def cnt2 (b : List Tk) : Nat := (b.filter fun t => t.2.2.2.1 == 2).length
theorem light_loop (b : List Tk) (hl : b.length ≤ 1000000) : ∀ (d i n : Nat), i + d = b.length → n ≤ i → lo R17_Light_b58 b ((n : Int), (i : Int)) = some ((n + cnt2 (b.drop i) : Nat) : Int)
  | 0, i, n, h, _ => by
    rw [lo_eq, R17_Light_b58]
    simp only [RT.run]
    rw [if_neg (by simp; omega), List.drop_eq_nil_of_le (by omega)]
    simp [cnt2]
  | d + 1, i, n, h, hn => by
    have hi : i < b.length := by omega
    rw [lo_eq, R17_Light_b58]
    simp only [RT.run]
    rw [if_pos (by simp; omega), if_pos (inB_iff.2 ⟨by omega, by omega⟩), gI_lt hi, List.drop_eq_getElem_cons hi, w64_in (by omega), show (i : Int) + 1 = ((i + 1 : Nat) : Int) by omega]
    unfold cnt2
    rw [List.filter_cons]
    by_cases hv : (b[i].2.2.2.1 == 2) = true
    · rw [if_pos hv, w64_in (by omega), show (n : Int) + 1 = ((n + 1 : Nat) : Int) by omega, light_loop b hl d (i + 1) (n + 1) (by omega) (by omega), if_pos hv]
      simp only [cnt2, List.length_cons]
      congr 2; omega
    · rw [if_neg hv, w64_in (by omega), light_loop b hl d (i + 1) n (by omega) (by omega), if_neg hv]
      rfl
def e_R17_Light : Entry := io_R17_Light.sp (fun (a, b, c, d, e, f) => (decide (b.length ≤ 1000000))) (fun (a, b, c, d, e, f) => (decide (b.length ≤ 30) && decide (cnt2 b ≤ 8)))
theorem sp_R17_Light (h : ∀ (a : List Bool) (b : List Tk) (c : List Th) (d : List Lk) (e : List Int) (f : Int), WfT [.sl tB, .sl yK, .sl yH, .sl yL, .sl tI, tI] (a, b, c, d, e, f) → ((decide (b.length ≤ 1000000))) = true → (R17_Light (a, b, c, d, e, f)).run (fun _ => none) = some (decide (b.length ≤ 30) && decide (cnt2 b ≤ 8))) : e_R17_Light.ok pg := sp_ok ok_R17_Light fun (a, b, c, d, e, f) hw hc => h a b c d e f hw hc
theorem e_R17_Light_ok : e_R17_Light.ok pg := sp_R17_Light fun a b c d e f _ hc => by
  have hl := of_decide_eq_true hc
  rw [R17_Light]
  simp only [RT.run]
  have := light_loop b hl b.length 0 0 (by omega) (by omega)
  rw [show ((0 : Nat) : Int) = 0 from rfl, List.drop_zero, Nat.zero_add] at this
  rw [this, Option.bind_some]
  congr 2
  · by_cases h : b.length ≤ 30
    · rw [decide_eq_true h, decide_eq_true (by omega)]
    · rw [decide_eq_false h, decide_eq_false (by omega)]
  · by_cases h : cnt2 b ≤ 8
    · rw [decide_eq_true h, decide_eq_true (by omega)]
    · rw [decide_eq_false h, decide_eq_false (by omega)]
end
end Go.Proofs.YtlfdidaeachpoaaGreat

namespace Go.Proofs.YtlfdidaeachpoaaGreat
open Go Go.RowKit
set_option maxRecDepth 100000
theorem gI_set {α : Type} [Inhabited α] {xs : List α} {i j : Int} {y : α} (hi : 0 ≤ i ∧ i < (xs.length : Int)) (hj : 0 ≤ j) : gI (sI xs i y) j = if i = j then y else gI xs j := by
  obtain ⟨i, rfl⟩ := Int.eq_ofNat_of_zero_le hi.1
  obtain ⟨j, rfl⟩ := Int.eq_ofNat_of_zero_le hj
  have hi' : i < xs.length := by omega
  simp only [gI_nat, sI, Int.toNat_natCast, List.getD_eq_getElem?_getD, List.getElem?_set]
  by_cases h : i = j
  · subst h; simp [hi']
  · rw [if_neg h, if_neg (by omega)]
theorem sI_len {α : Type} {xs : List α} {i : Int} {y : α} : (sI xs i y).length = xs.length := by simp [sI]
structure Fine0 (a : List Bool) (b : List Tk) (c : List Th) (d : List Lk) (e : List Int) (f : Int) : Prop where
  coins : 1 ≤ a.length ∧ a.length ≤ 16 ∧ gI a 0 = true
  tks : ticketsV a b c = true
  ths : threadsV c d f = true
  lks : locksV c d = true
  que : queueV c e = true
  noC : ringV a.length (coinArr b) = false
  noT : ringV c.length (thrArr c d) = false
  qua : 1 ≤ f ∧ f ≤ 1000
theorem fine0 {a : List Bool} {b : List Tk} {c : List Th} {d : List Lk} {e : List Int} {f : Int} (h : fineV a b c d e f = true) : Fine0 a b c d e f := by
  unfold fineV at h
  simp only [Bool.and_eq_true, Bool.not_eq_true', Bool.or_eq_false_iff, decide_eq_false_iff_not, Bool.not_eq_false'] at h
  obtain ⟨⟨⟨⟨⟨⟨⟨h1, h2⟩, h3⟩, h4⟩, h5⟩, h6⟩, h7, h8, h9, h10⟩, h11, h12⟩ := h
  exact ⟨⟨by omega, by omega, h5⟩, h7, h8, h9, h10, h11, h12, by omega⟩
def usT (c : List Th) (i : Int) : Bool := inB c i && (gI c i).1 != 0
def usC (a : List Bool) (i : Int) : Bool := inB a i && gI a i
section facts
variable {a : List Bool} {b : List Tk} {c : List Th} {d : List Lk} {e : List Int} {f : Int}
theorem Fine0.lenB (H : Fine0 a b c d e f) : b.length ≤ 96 := by
  have h := H.tks
  unfold ticketsV at h
  simp only [Bool.and_eq_true, decide_eq_true_eq] at h
  omega
theorem Fine0.lenC (H : Fine0 a b c d e f) : c.length ≤ 32 := by
  have h := H.ths
  unfold threadsV at h
  simp only [Bool.and_eq_true, decide_eq_true_eq] at h
  omega
structure TkF (a : List Bool) (c : List Th) (t : Tk) : Prop where
  coin : usC a t.2.1 = true
  amt : 1 ≤ t.2.2.1 ∧ t.2.2.1 ≤ 1048576
  to : (t.2.2.2.1 = 0 ∧ t.2.2.2.2.1 = 0) ∨ (t.2.2.2.1 = 1 ∧ usT c t.2.2.2.2.1 = true) ∨ (t.2.2.2.1 = 2 ∧ t.2.2.2.2.1 ≠ 0 ∧ usC a t.2.2.2.2.1 = true)
theorem gI_mem {α : Type} [Inhabited α] {xs : List α} {k : Int} (hk : 0 ≤ k ∧ k < (xs.length : Int)) : gI xs k ∈ xs := by
  obtain ⟨k, rfl⟩ := Int.eq_ofNat_of_zero_le hk.1
  rw [gI_lt (by omega)]
  exact List.getElem_mem _
theorem Fine0.tk (H : Fine0 a b c d e f) {k : Int} (hk : 0 ≤ k ∧ k < (b.length : Int)) (hu : (gI b k).1 = true) : TkF a c (gI b k) := by
  have h := H.tks
  unfold ticketsV at h
  rw [Bool.and_eq_true] at h
  have h1 := List.all_eq_true.1 h.1 _ (gI_mem hk)
  unfold tkFine at h1
  rw [hu] at h1
  simp only [Bool.not_true, Bool.false_eq_true, if_false, Bool.not_eq_true', Bool.or_eq_false_iff, decide_eq_false_iff_not, Bool.not_eq_false', Bool.or_eq_true, Bool.and_eq_true, beq_iff_eq, bne_iff_ne, ne_eq] at h1
  obtain ⟨⟨⟨h2, h3⟩, h4⟩, h5⟩ := h1
  refine ⟨by unfold usC; simp [h2], by omega, ?_⟩
  rcases h5 with (h5 | h5) | h5
  · exact .inl h5
  · exact .inr (.inl ⟨h5.1, by unfold usT; simp [h5.2]⟩)
  · exact .inr (.inr ⟨h5.1.1, h5.1.2, by unfold usC; simp [h5.2]⟩)
theorem Fine0.tk0 (H : Fine0 a b c d e f) {k : Int} (hk : 0 ≤ k ∧ k < (b.length : Int)) (hu : (gI b k).1 = false) : gI b k = (false, 0, 0, 0, 0, false) := by
  have h := H.tks
  unfold ticketsV at h
  rw [Bool.and_eq_true] at h
  have h1 := List.all_eq_true.1 h.1 _ (gI_mem hk)
  unfold tkFine at h1
  rw [if_pos (by rw [hu]; rfl)] at h1
  simp only [Bool.not_eq_true', bne_eq_false_iff_eq, Bool.and_eq_true, beq_iff_eq] at h1
  obtain ⟨h2, h3, h4, h5, h6, h7, _⟩ := h1
  generalize gI b k = t at *
  obtain ⟨t1, t2, t3, t4, t5, t6⟩ := t
  simp only at h2 h3 h4 h5 h6 h7
  subst h2 h3 h4 h5 h6 h7
  rfl
theorem Fine0.th (H : Fine0 a b c d e f) {i : Int} (hu : usT c i = true) : ((gI c i).1 = 4 → (gI c i).2.1 ≠ i ∧ usT c (gI c i).2.1 = true) ∧ ((gI c i).1 = 6 → inB d (gI c i).2.1 = true ∧ (gI d (gI c i).2.1).1 = true) := by
  have h := H.ths
  unfold usT at hu
  rw [Bool.and_eq_true] at hu
  obtain ⟨hin, hne⟩ := hu
  have hin := inB_iff.1 hin
  unfold threadsV at h
  rw [Bool.and_eq_true] at h
  obtain ⟨k, rfl⟩ := Int.eq_ofNat_of_zero_le hin.1
  have h1 := List.all_eq_true.1 h.1 k (List.mem_range.2 (by omega))
  simp only [bne_iff_ne, ne_eq] at hne
  unfold thFine at h1
  rw [if_neg (by simpa using hne)] at h1
  simp only [Bool.not_eq_true', Bool.or_eq_false_iff] at h1
  have h2 := h1.1.1
  simp only [Bool.not_eq_false'] at h2
  constructor
  · intro h4
    rw [h4] at h2
    unfold usT
    simp at h2
    exact ⟨h2.1, by simpa using h2.2⟩
  · intro h6
    rw [h6] at h2
    simp at h2
    exact h2
theorem Fine0.lk (H : Fine0 a b c d e f) {i : Int} (hu : usT c i = true) (h6 : (gI c i).1 = 6) : usT c (gI d (gI c i).2.1).2 = true := by
  obtain ⟨h1, h2⟩ := (H.th hu).2 h6
  have h := H.lks
  unfold usT at hu
  rw [Bool.and_eq_true] at hu
  have hin := inB_iff.1 hu.1
  have hj := inB_iff.1 h1
  unfold locksV at h
  rw [Bool.and_eq_true] at h
  obtain ⟨k, rfl⟩ := Int.eq_ofNat_of_zero_le hin.1
  generalize hj' : (gI c (k : Int)).2.1 = j at *
  obtain ⟨j, rfl⟩ := Int.eq_ofNat_of_zero_le hj.1
  have h3 := List.all_eq_true.1 h.1 j (List.mem_range.2 (by omega))
  unfold lkFine at h3
  rw [h2] at h3
  simp only [Bool.not_true, Bool.false_eq_true, if_false, Bool.and_eq_true, Bool.not_eq_true'] at h3
  have h4 := List.all_eq_true.1 h3.2 k (List.mem_range.2 (by omega))
  have h5 : isV c (k : Int) 6 (j : Int) = true := by
    unfold isV
    rw [hu.1, hu.2, h6, hj']
    simp
  rw [h5] at h4
  simp only [Bool.true_and, Bool.not_eq_true', Bool.or_eq_false_iff, beq_eq_false_iff_ne, ne_eq] at h4
  have h7 := h3.1
  cases hq : usT c (gI d (j : Int)).2 with
  | true => rfl
  | false =>
    unfold usT at hq
    rw [hq] at h7
    simp at h7
    exact absurd h7 h4.1
theorem findSome_one {α : Type} (f : Nat → Option α) (i : Nat) (h : ∀ k, k ≠ i → f k = none) : ∀ n, (List.range n).findSome? f = if i < n then f i else none
  | 0 => by simp
  | n + 1 => by
    rw [List.range_succ, List.findSome?_append, findSome_one f i h n]
    by_cases h1 : i < n
    · rw [if_pos h1, if_pos (by omega)]
      simp only [List.findSome?_cons, List.findSome?_nil]
      rw [h n (by omega)]
      simp
    · rw [if_neg h1]
      by_cases h2 : i = n
      · subst h2
        rw [if_pos (by omega)]
        simp only [List.findSome?_cons, List.findSome?_nil, Option.none_or]
        cases f i <;> rfl
      · rw [if_neg (by omega)]
        simp only [List.findSome?_cons, List.findSome?_nil, Option.none_or]
        rw [h n (by omega)]
theorem nextR_at {i : Nat} (hi : i < c.length) : nextR (thrArr c d) (i : Int) = if (gI c (i : Int)).1 == 4 then (gI c (i : Int)).2.1 else if (gI c (i : Int)).1 == 6 then (gI d (gI c (i : Int)).2.1).2 else -1 := by
  have h : (thrArr c d).find? (fun x => x.1 == (i : Int)) = (thrOne d (i : Int) (gI c (i : Int))).head? := by
    unfold thrArr
    rw [List.find?_flatMap, findSome_one _ i (fun k hk => ?_) c.length, if_pos hi, gI_nat]
    · unfold thrOne
      cases ((c.getD i default).1 == 4) <;> cases ((c.getD i default).1 == 6) <;> simp
    · have hne : ((k : Int) == (i : Int)) = false := by simp; omega
      unfold thrOne
      cases ((c.getD k default).1 == 4) <;> cases ((c.getD k default).1 == 6) <;> simp [List.find?_cons, hne]
  unfold nextR
  rw [h]
  unfold thrOne
  by_cases h4 : ((gI c (i : Int)).1 == 4) = true
  · simp [h4]
  · rw [if_neg h4, if_neg h4]
    by_cases h6 : ((gI c (i : Int)).1 == 6) = true
    · simp [h6]
    · rw [if_neg h6, if_neg h6]; rfl
theorem usT_in {i : Int} (h : usT c i = true) : 0 ≤ i ∧ i < (c.length : Int) := by
  unfold usT at h
  rw [Bool.and_eq_true] at h
  exact inB_iff.1 h.1
theorem usC_in {i : Int} (h : usC a i = true) : 0 ≤ i ∧ i < (a.length : Int) := by
  unfold usC at h
  rw [Bool.and_eq_true] at h
  exact inB_iff.1 h.1
theorem getThread_us {i : Int} (h : usT c i = true) : getThread c i = ((gI c i).1, (gI c i).2.1, (gI c i).2.2.1, (gI c i).2.2.2.1, (gI c i).2.2.2.2, true) := by
  unfold getThread
  unfold usT at h
  rw [if_pos h]
theorem getThread_no {i : Int} (h : usT c i = false) : getThread c i = (0, 0, 0, 0, 0, false) := by
  unfold getThread
  rw [if_neg (by unfold usT at h; rw [h]; decide)]
theorem thrArr_mem {i j : Nat} (hi : i < c.length) (hj : j < c.length) (h : ((i : Int), (j : Int)) ∈ thrOne d (i : Int) (gI c (i : Int))) : Arr c.length (thrArr c d) i j := by
  refine ⟨((i : Int), (j : Int)), ?_, ?_, rfl, rfl⟩
  · unfold thrArr
    refine List.mem_flatMap.2 ⟨i, List.mem_range.2 hi, ?_⟩
    rwa [gI_nat] at h
  · simp only [hsOk, Bool.and_eq_true, decide_eq_true_eq]
    omega
theorem Fine0.next (H : Fine0 a b c d e f) {i : Int} (hu : usT c i = true) : nextR (thrArr c d) i = nextV c d i ∧ (nextV c d i = -1 ∨ (usT c (nextV c d i) = true ∧ Arr c.length (thrArr c d) i.toNat (nextV c d i).toNat)) := by
  obtain ⟨h4, h6⟩ := H.th hu
  have hin := usT_in hu
  have hlk := H.lk hu
  have hg := getThread_us hu
  obtain ⟨k, rfl⟩ := Int.eq_ofNat_of_zero_le hin.1
  have hk : k < c.length := by omega
  rw [nextR_at hk]
  unfold nextV
  rw [hg]
  simp only
  by_cases q4 : (gI c (k : Int)).1 = 4
  · obtain ⟨h1, h2⟩ := h4 q4
    have hj := usT_in h2
    have e4 : ((gI c (k : Int)).1 == 4) = true := by simpa using q4
    rw [if_pos e4, if_pos e4]
    refine ⟨rfl, .inr ⟨h2, thrArr_mem (by simpa using hk) (by omega) ?_⟩⟩
    unfold thrOne
    rw [Int.toNat_natCast, if_pos e4, Int.toNat_of_nonneg hj.1]
    simp
  · have e4 : ¬((gI c (k : Int)).1 == 4) = true := by simpa using q4
    rw [if_neg e4, if_neg e4]
    by_cases q6 : (gI c (k : Int)).1 = 6
    · obtain ⟨h1, h2⟩ := h6 q6
      have h3 := hlk q6
      have hj := usT_in h3
      have e6 : ((gI c (k : Int)).1 == 6) = true := by simpa using q6
      have hgl : getLock d (gI c (k : Int)).2.1 = ((gI d (gI c (k : Int)).2.1).1, (gI d (gI c (k : Int)).2.1).2, true) := by
        unfold getLock
        rw [if_pos (by rw [h1, h2]; rfl)]
      rw [if_pos e6, if_pos e6, hgl]
      refine ⟨rfl, .inr ⟨h3, thrArr_mem (by simpa using hk) (by simp only; omega) ?_⟩⟩
      unfold thrOne
      rw [Int.toNat_natCast, if_neg e4, if_pos e6]
      simp only
      rw [Int.toNat_of_nonneg hj.1]
      simp
    · have e6 : ¬((gI c (k : Int)).1 == 6) = true := by simpa using q6
      rw [if_neg e6, if_neg e6]
      exact ⟨rfl, .inl rfl⟩
open Classical in
theorem no_way {m : Nat} {l : List (Int × Int)} (h : ringV m l = false) (i : Nat) : ¬ Way m l i i := fun hw => by
  have hno : ¬ ∃ i : Nat, i < m ∧ Way m l i i := fun hx => by rw [ringV_iff.2 hx] at h; cases h
  have hi : i < m := by
    cases hw with
    | one h =>
      obtain ⟨x, _, hok, e1, _⟩ := h
      simp only [hsOk, Bool.and_eq_true, decide_eq_true_eq] at hok
      omega
    | more h _ =>
      obtain ⟨x, _, hok, e1, _⟩ := h
      simp only [hsOk, Bool.and_eq_true, decide_eq_true_eq] at hok
      omega
  exact hno ⟨i, hi, hw⟩
theorem Way.snoc {m : Nat} {l : List (Int × Int)} {i j k : Nat} (h : Way m l i j) (h' : Arr m l j k) : Way m l i k := h.trans (.one h')
theorem Fine0.tail (H : Fine0 a b c d e f) : ∀ (n : Nat) (p : List Nat) (i : Int), usT c i = true → p.Nodup → (∀ x ∈ p, x < c.length) → (∀ x ∈ p, Way c.length (thrArr c d) x i.toNat) → c.length ≤ p.length + n →
    ∃ o, tailF c d n i = some o ∧ tailR c d (n + 1) i = some o ∧ o ≠ [] ∧ ∀ x ∈ o, usT c x = true := by
  intro n
  induction n with
  | zero =>
    intro p i hu hn hl hw hlen
    exfalso
    have hin := usT_in hu
    have hi : i.toNat ∉ p := fun h => no_way H.noT _ (hw _ h)
    have := nodup_lt c.length (i.toNat :: p) (List.nodup_cons.2 ⟨hi, hn⟩) (fun x hx => by
      rcases List.mem_cons.1 hx with rfl | hx
      · omega
      · exact hl x hx)
    simp at this
    omega
  | succ n ih =>
    intro p i hu hn hl hw hlen
    have hin := usT_in hu
    have hi : i.toNat ∉ p := fun h => no_way H.noT _ (hw _ h)
    obtain ⟨hR, hN⟩ := H.next hu
    have hi1 : i ≠ -1 := by omega
    unfold tailF tailR
    rw [if_neg hi1, if_neg (by unfold usT at hu; rw [hu]; decide), hR]
    rcases hN with hN | ⟨hN1, hN2⟩
    · rw [hN, if_pos (by decide)]
      have : tailF c d n (-1) = some [] := by cases n <;> rfl
      rw [this]
      exact ⟨[i], rfl, rfl, by simp, fun x hx => by rw [List.mem_singleton.1 hx]; exact hu⟩
    · have hj := usT_in hN1
      obtain ⟨o, h1, h2, h3, h4⟩ := ih (i.toNat :: p) (nextV c d i) hN1 (List.nodup_cons.2 ⟨hi, hn⟩) (fun x hx => by
          rcases List.mem_cons.1 hx with rfl | hx
          · omega
          · exact hl x hx) (fun x hx => by
          rcases List.mem_cons.1 hx with rfl | hx
          · exact .one hN2
          · exact (hw x hx).snoc hN2) (by simp; omega)
      rw [if_neg (by omega), h1, h2]
      exact ⟨i :: o, rfl, rfl, by simp, fun x hx => by
        rcases List.mem_cons.1 hx with rfl | hx
        · exact hu
        · exact h4 x hx⟩
theorem Fine0.tail0 (H : Fine0 a b c d e f) {i : Int} (hu : usT c i = true) : ∃ o, tailF c d c.length i = some o ∧ tailR c d (c.length + 1) i = some o ∧ o ≠ [] ∧ ∀ x ∈ o, usT c x = true :=
  H.tail c.length [] i hu List.nodup_nil (fun x hx => by cases hx) (fun x hx => by cases hx) (by simp)
theorem Fine0.tailOK (H : Fine0 a b c d e f) (i : Int) : tailOK c d i = true := by
  unfold Go.Proofs.YtlfdidaeachpoaaGreat.tailOK
  cases hu : usT c i with
  | false => rw [getThread_no hu]; rfl
  | true =>
    obtain ⟨o, h1, _⟩ := H.tail0 hu
    rw [h1]; simp
theorem Fine0.liveOK (H : Fine0 a b c d e f) : liveOK c d = true := List.all_eq_true.2 fun i _ => H.tailOK _
theorem Fine0.tails (H : Fine0 a b c d e f) {i : Int} (hu : usT c i = true) : ∃ o, tailV c d i = o ∧ tailRV c d i = o ∧ tailROK c d i = true ∧ o ≠ [] ∧ ∀ x ∈ o, usT c x = true := by
  obtain ⟨o, h1, h2, h3, h4⟩ := H.tail0 hu
  have hl := H.lenC
  refine ⟨o, ?_, ?_, ?_, h3, h4⟩
  · unfold tailV
    rw [getThread_us hu, h1]; rfl
  · unfold tailRV
    rw [h2]; rfl
  · unfold tailROK
    rw [h2, thr_of_threads H.ths, decide_eq_true (by omega)]; rfl
theorem Fine0.lives (H : Fine0 a b c d e f) {i : Int} (hu : usT c i = true) : livesROK c d i = true ∧ livesR c d i = livesV c d i := by
  obtain ⟨o, h1, h2, h3, h4, h5⟩ := H.tails hu
  have he : endV c d i = o.getLastD (-1) := by unfold endV; rw [h1]
  have heR : endRV c d i = o.getLastD (-1) := by unfold endRV; rw [h2]
  have hue : usT c (o.getLastD (-1)) = true := by
    apply h5
    rw [List.getLastD_eq_getLast?, List.getLast?_eq_some_getLast h4]
    exact List.getLast_mem h4
  have hin := usT_in hue
  constructor
  · unfold livesROK
    rw [h3, heR, inB_iff.2 hin]; rfl
  · unfold livesR livesV
    rw [he, heR, getThread_us hue, decide_eq_true hin.1, Bool.true_and]
theorem mem_issued {c' k : Int} : k ∈ issued b c' ↔ (0 ≤ k ∧ k < (b.length : Int)) ∧ (gI b k).1 = true ∧ (gI b k).2.1 = c' := by
  constructor
  · intro h
    obtain ⟨h1, h2, h3⟩ := issued_mem h
    exact ⟨⟨h1, h2⟩, h3⟩
  · rintro ⟨⟨h1, h2⟩, h3, h4⟩
    obtain ⟨j, rfl⟩ := Int.eq_ofNat_of_zero_le h1
    unfold issued
    refine List.mem_map.2 ⟨j, List.mem_filter.2 ⟨List.mem_range.2 (by omega), ?_⟩, rfl⟩
    unfold isTk
    rw [gI_nat] at h3 h4
    rw [h3, h4]; simp
theorem nodup_map_nat {l : List Nat} (h : l.Nodup) : (l.map fun (k : Nat) => (k : Int)).Nodup := by
  rw [List.nodup_iff_pairwise_ne, List.pairwise_map]
  exact List.Pairwise.imp (fun h => by omega) (List.nodup_iff_pairwise_ne.1 h)
theorem issued_nodup {c' : Int} : (issued b c').Nodup := nodup_map_nat (List.Nodup.sublist List.filter_sublist List.nodup_range)
theorem Fine0.arr (H : Fine0 a b c d e f) {k : Int} (hk : 0 ≤ k ∧ k < (b.length : Int)) (hu : (gI b k).1 = true) (h2 : (gI b k).2.2.2.1 = 2) : ((gI b k).2.1, (gI b k).2.2.2.2.1) ∈ coinArr b ∧ hsOk a.length ((gI b k).2.1, (gI b k).2.2.2.2.1) = true := by
  have ht := H.tk hk hu
  have h3 := usC_in ht.coin
  have h4 : usC a (gI b k).2.2.2.2.1 = true := by
    rcases ht.to with h | h | h
    · omega
    · omega
    · exact h.2.2
  have h5 := usC_in h4
  refine ⟨?_, ?_⟩
  · unfold coinArr
    exact List.mem_map.2 ⟨gI b k, List.mem_filter.2 ⟨gI_mem hk, by rw [hu, h2]; rfl⟩, rfl⟩
  · simp only [hsOk, Bool.and_eq_true, decide_eq_true_eq]
    omega
theorem Fine0.ord_nodup (_ : Fine0 a b c d e f) : (fordV a b).Nodup := (ordV_out a.length (coinArr b)).nodup.sublist List.filter_sublist
theorem Fine0.ord_mem (H : Fine0 a b c d e f) {k : Int} : k ∈ fordV a b ↔ usC a k = true := by
  obtain ⟨h1, h2⟩ := ring_order H.noC
  unfold fordV usC
  rw [List.mem_filter, Bool.and_eq_true, inB_iff]
  constructor
  · rintro ⟨h3, h4⟩
    exact ⟨(ordV_out _ _).inr _ h3, h4⟩
  · rintro ⟨h3, h4⟩
    obtain ⟨j, rfl⟩ := Int.eq_ofNat_of_zero_le h3.1
    exact ⟨ordV_all h2 (by omega), h4⟩
theorem Fine0.ord_split (H : Fine0 a b c d e f) {p q : List Int} {x : Int} (ho : fordV a b = p ++ x :: q) {k : Int} (hk : 0 ≤ k ∧ k < (b.length : Int)) (hu : (gI b k).1 = true) (h2 : (gI b k).2.2.2.1 = 2) (hto : (gI b k).2.2.2.2.1 = x) : (gI b k).2.1 ∈ p := by
  obtain ⟨h3, h4⟩ := H.arr hk hu h2
  have hc := (H.tk hk hu).coin
  unfold usC at hc
  rw [Bool.and_eq_true] at hc
  unfold fordV at ho
  obtain ⟨P, R, e1, e2, e3⟩ := List.filter_eq_append_iff.1 ho
  obtain ⟨S, Q, e4, e5, e6, e7⟩ := List.filter_eq_cons_iff.1 e3
  have := ordV_split (p := P ++ S) (q := Q) (k := x) (by rw [e1, e4, List.append_assoc]) h3 h4 hto
  rw [← e2]
  rcases List.mem_append.1 this with h | h
  · exact List.mem_filter.2 ⟨h, hc.2⟩
  · exact absurd hc.2 (e5 _ h)
theorem Fine0.ord_to (H : Fine0 a b c d e f) {p q : List Int} {x : Int} (ho : fordV a b = p ++ x :: q) {k : Int} (hk : 0 ≤ k ∧ k < (b.length : Int)) (hu : (gI b k).1 = true) (h2 : (gI b k).2.2.2.1 = 2) (hc : (gI b k).2.1 ∈ x :: q) : (gI b k).2.2.2.2.1 ∈ q ∧ (gI b k).2.2.2.2.1 ≠ x := by
  have hn := H.ord_nodup
  have h4 : usC a (gI b k).2.2.2.2.1 = true := by
    rcases (H.tk hk hu).to with h | h | h
    · omega
    · omega
    · exact h.2.2
  have hm := H.ord_mem.2 h4
  have hnp : ∀ (p' q' : List Int) (y : Int), fordV a b = p' ++ y :: q' → y = (gI b k).2.2.2.2.1 → (gI b k).2.1 ∈ p' := fun p' q' y ho' hy => H.ord_split ho' hk hu h2 hy.symm
  have hno : ∀ y ∈ p, y ∉ x :: q := by
    rw [ho] at hn
    intro y hy hy'
    exact (List.nodup_append.1 hn).2.2 y hy y hy' rfl
  have hne : (gI b k).2.2.2.2.1 ≠ x := fun h => hno _ (hnp p q x ho h.symm) hc
  refine ⟨?_, hne⟩
  rw [ho] at hm
  rcases List.mem_append.1 hm with h | h
  · exfalso
    obtain ⟨s, t, rfl⟩ := List.append_of_mem h
    have := hnp s (t ++ x :: q) _ (by rw [ho]; simp) rfl
    exact hno _ (List.mem_append_left _ this) hc
  · rcases List.mem_cons.1 h with h | h
    · exact absurd h hne
    · exact h
end facts
def good (b : List Tk) (lives : List Bool) (am : List Int) (k : Int) : Bool :=
  (gI b k).2.2.2.2.2 && (((gI b k).2.2.2.1 == 1 && gI lives (gI b k).2.2.2.2.1) || ((gI b k).2.2.2.1 == 2 && decide (0 < gI am (gI b k).2.2.2.2.1)))
def amtIf (b : List Tk) (q : Bool) (k : Int) : Int := if q = true then (gI b k).2.2.1 else 0
theorem rkCnt_get {b : List Tk} {lives cnt : List Bool} {am : List Int} {k j : Int} (hk : 0 ≤ k ∧ k < (cnt.length : Int)) (hj : 0 ≤ j) (h0 : gI cnt k = false) :
    gI (rkCnt b lives cnt am k) j = if k = j then good b lives am k else gI cnt j := by
  unfold rkCnt good
  by_cases h1 : ((gI b k).2.2.2.1 == 1) = true
  · have h2 : ((gI b k).2.2.2.1 == 2) = false := by
      rw [beq_iff_eq] at h1; rw [h1]; rfl
    rw [if_pos h1, gI_set hk hj, h1, h2, Bool.true_and, Bool.false_and, Bool.or_false]
  · rw [if_neg h1]
    by_cases h2 : ((gI b k).2.2.2.1 == 2) = true
    · rw [if_pos h2, gI_set hk hj, h2, Bool.eq_false_iff.2 h1, Bool.true_and, Bool.false_and, Bool.false_or]
    · rw [if_neg h2, Bool.eq_false_iff.2 h1, Bool.eq_false_iff.2 h2, Bool.false_and, Bool.false_and, Bool.false_or, Bool.and_false]
      split
      · rename_i h; rw [← h]; exact h0
      · rfl
theorem good_same {b : List Tk} {lives : List Bool} {am am' : List Int} {k : Int} (h : (gI b k).2.2.2.1 = 2 → gI am' (gI b k).2.2.2.2.1 = gI am (gI b k).2.2.2.2.1) : good b lives am' k = good b lives am k := by
  unfold good
  by_cases h2 : (gI b k).2.2.2.1 = 2
  · rw [h h2]
  · have : ((gI b k).2.2.2.1 == 2) = false := by simpa using h2
    rw [this, Bool.false_and, Bool.false_and]
theorem rk_inner {b : List Tk} {lives : List Bool} {c : Int} : ∀ (l : List Int) (x : List Bool × List Int), l.Nodup → (0 ≤ c ∧ c < (x.2.length : Int)) →
    (∀ k ∈ l, (0 ≤ k ∧ k < (x.1.length : Int)) ∧ gI x.1 k = false ∧ 0 ≤ (gI b k).2.2.1 ∧ (gI b k).2.2.1 ≤ 1048576 ∧ ((gI b k).2.2.2.1 = 2 → 0 ≤ (gI b k).2.2.2.2.1 ∧ (gI b k).2.2.2.2.1 ≠ c)) →
    0 ≤ gI x.2 c → gI x.2 c + 1048576 * (l.length : Int) ≤ 1000000000000 →
    (∀ j : Int, 0 ≤ j → gI (l.foldl (rkStep b lives c) x).1 j = if j ∈ l then good b lives x.2 j else gI x.1 j) ∧
    (∀ j : Int, 0 ≤ j → j ≠ c → gI (l.foldl (rkStep b lives c) x).2 j = gI x.2 j) ∧
    gI (l.foldl (rkStep b lives c) x).2 c = gI x.2 c + (l.map fun k => amtIf b (good b lives x.2 k) k).sum
  | [], x, _, _, _, _, _ => ⟨fun j _ => by simp, fun j _ _ => rfl, by simp⟩
  | k :: l, x, hn, hc, hl, h0, hm => by
    obtain ⟨hk1, hk2, hk3, hk4, hk5⟩ := hl k (List.mem_cons_self ..)
    obtain ⟨hkn, hn'⟩ := List.nodup_cons.1 hn
    simp only [List.length_cons, Int.natCast_add, Int.natCast_one] at hm
    have e1 : ∀ j : Int, 0 ≤ j → gI (rkStep b lives c x k).1 j = if k = j then good b lives x.2 k else gI x.1 j := fun j hj => rkCnt_get hk1 hj hk2
    have e2 : ∀ j : Int, 0 ≤ j → gI (rkStep b lives c x k).2 j = if c = j then gI x.2 c + amtIf b (good b lives x.2 k) k else gI x.2 j := fun j hj => by
      have e0 := e1 k hk1.1
      rw [if_pos rfl] at e0
      show gI (if gI (rkStep b lives c x k).1 k = true then sI x.2 c (w64 (gI x.2 c + (gI b k).2.2.1)) else x.2) j = _
      rw [e0]
      unfold amtIf
      by_cases hg : good b lives x.2 k = true
      · rw [if_pos hg, if_pos hg, gI_set hc hj, w64_in (by omega)]
      · rw [if_neg hg, if_neg hg, Int.add_zero]
        split
        · rename_i h; rw [h]
        · rfl
    have ha : 0 ≤ amtIf b (good b lives x.2 k) k ∧ amtIf b (good b lives x.2 k) k ≤ 1048576 := by
      unfold amtIf; split <;> omega
    have hlen1 : (rkStep b lives c x k).1.length = x.1.length := by rw [rkStep, rkCnt_length]
    have hlen2 : (rkStep b lives c x k).2.length = x.2.length := by simp only [rkStep]; split <;> simp [sI]
    have hgood : ∀ j ∈ l, good b lives (rkStep b lives c x k).2 j = good b lives x.2 j := fun j hj => good_same fun h2 => by
      obtain ⟨_, _, _, _, h5⟩ := hl j (List.mem_cons_of_mem _ hj)
      rw [e2 _ (h5 h2).1, if_neg (fun h => (h5 h2).2 h.symm)]
    have hself : good b lives (rkStep b lives c x k).2 k = good b lives x.2 k := good_same fun h2 => by
      rw [e2 _ (hk5 h2).1, if_neg (fun h => (hk5 h2).2 h.symm)]
    have ec : gI (rkStep b lives c x k).2 c = gI x.2 c + amtIf b (good b lives x.2 k) k := by rw [e2 c hc.1, if_pos rfl]
    obtain ⟨i1, i2, i3⟩ := rk_inner l (rkStep b lives c x k) hn' (by rw [hlen2]; exact hc) (fun j hj => by
      obtain ⟨h1, h2, h3⟩ := hl j (List.mem_cons_of_mem _ hj)
      refine ⟨by rw [hlen1]; exact h1, ?_, h3⟩
      rw [e1 j h1.1, if_neg (show ¬ k = j from fun h => hkn (by rw [h]; exact hj))]
      exact h2) (by omega) (by omega)
    rw [List.foldl_cons]
    refine ⟨fun j hj => ?_, fun j hj hjc => ?_, ?_⟩
    · rw [i1 j hj]
      by_cases hjl : j ∈ l
      · rw [if_pos hjl, if_pos (List.mem_cons_of_mem _ hjl), hgood j hjl]
      · rw [if_neg hjl, e1 j hj]
        by_cases hjk : k = j
        · subst hjk
          rw [if_pos rfl, if_pos (List.mem_cons_self ..)]
        · rw [if_neg hjk, if_neg (fun h => by
            rcases List.mem_cons.1 h with h | h
            · exact hjk h.symm
            · exact hjl h)]
    · rw [i2 j hj hjc, e2 j hj, if_neg (fun h => hjc h.symm)]
    · rw [i3, ec, List.map_cons, List.sum_cons]
      have : (l.map fun k_1 => amtIf b (good b lives (rkStep b lives c x k).2 k_1) k_1) = l.map fun k_1 => amtIf b (good b lives x.2 k_1) k_1 := List.map_congr_left fun j hj => by rw [hgood j hj]
      rw [this]; omega
structure RkInv (a : List Bool) (b : List Tk) (lives : List Bool) (q : List Int) (x : List Bool × List Int) : Prop where
  len1 : x.1.length = b.length
  len2 : x.2.length = a.length
  cnt : ∀ k : Int, 0 ≤ k ∧ k < (b.length : Int) → gI x.1 k = if (gI b k).1 = true ∧ (gI b k).2.1 ∈ q then good b lives x.2 k else false
  amt : ∀ c ∈ q, gI x.2 c = ((issued b c).map fun k => amtIf b (gI x.1 k) k).sum
  non : ∀ c : Int, 0 ≤ c ∧ c < (a.length : Int) → c ∉ q → gI x.2 c = 0
theorem gI_rep {α : Type} [Inhabited α] {n : Nat} {z : α} {k : Int} (hk : 0 ≤ k ∧ k < (n : Int)) : gI (repI (n : Int) z) k = z := by
  obtain ⟨j, rfl⟩ := Int.eq_ofNat_of_zero_le hk.1
  have hj : j < n := by omega
  rw [gI_nat]
  simp [repI, List.getD_eq_getElem?_getD, List.getElem?_replicate, hj]
theorem sum_le {l : List Int} {f : Int → Int} {m : Int} (h : ∀ k ∈ l, 0 ≤ f k ∧ f k ≤ m) : 0 ≤ (l.map f).sum ∧ (l.map f).sum ≤ m * l.length := by
  induction l with
  | nil => simp
  | cons x l ih =>
    have h1 := h x (List.mem_cons_self ..)
    have h2 := ih fun k hk => h k (List.mem_cons_of_mem _ hk)
    rw [List.map_cons, List.sum_cons, List.length_cons, Int.natCast_add, Int.natCast_one, Int.mul_add, Int.mul_one]
    omega
theorem rk_inv {a : List Bool} {b : List Tk} {c : List Th} {d : List Lk} {e : List Int} {f : Int} (H : Fine0 a b c d e f) (lives : List Bool) : ∀ (q p : List Int), fordV a b = p ++ q →
    RkInv a b lives q (q.foldr (fun c x => rkRound b lives c x) (repI (b.length : Int) false, repI (a.length : Int) 0))
  | [], p, _ => by
    refine ⟨by simp [repI], by simp [repI], fun k hk => ?_, fun c hc => (by cases hc), fun c hc _ => gI_rep hc⟩
    rw [if_neg (by simp)]
    exact gI_rep hk
  | x :: q, p, ho => by
    have I := rk_inv H lives q (p ++ [x]) (by rw [ho]; simp)
    have hn := H.ord_nodup
    rw [ho] at hn
    have hxq : x ∉ q := (List.nodup_cons.1 (List.nodup_append.1 hn).2.1).1
    have hx := usC_in (H.ord_mem.1 (by rw [ho]; simp : x ∈ fordV a b))
    rw [List.foldr_cons]
    generalize q.foldr (fun c x => rkRound b lives c x) (repI (b.length : Int) false, repI (a.length : Int) 0) = y at *
    have hlb := H.lenB
    have hil := issued_len b x
    obtain ⟨h1, h2, h3⟩ := rk_inner (b := b) (lives := lives) (c := x) (issued b x) y issued_nodup (by rw [I.len2]; exact hx) (fun k hk => by
      obtain ⟨k1, k2, k3⟩ := mem_issued.1 hk
      have ht := H.tk k1 k2
      refine ⟨by rw [I.len1]; exact k1, ?_, by have := ht.amt; omega, ht.amt.2, fun hq => ?_⟩
      · rw [I.cnt k k1, if_neg]
        rintro ⟨_, hm⟩
        rw [k3] at hm
        exact hxq hm
      · obtain ⟨_, h5⟩ := H.ord_to ho k1 k2 hq (by rw [k3]; exact List.mem_cons_self ..)
        refine ⟨?_, h5⟩
        rcases ht.to with h | h | h
        · omega
        · omega
        · exact (usC_in h.2.2).1) (by rw [I.non x hx hxq]; decide) (by rw [I.non x hx hxq]; omega)
    obtain ⟨l1, l2⟩ := rkFold_len (b := b) (lives := lives) (c := x) (issued b x) y
    have hgood : ∀ k : Int, 0 ≤ k ∧ k < (b.length : Int) → (gI b k).1 = true → (gI b k).2.1 ∈ x :: q → good b lives ((issued b x).foldl (rkStep b lives x) y).2 k = good b lives y.2 k := fun k hk hu hc => good_same fun hq => by
      obtain ⟨h4, h5⟩ := H.ord_to ho hk hu hq hc
      have h6 := usC_in (H.ord_mem.1 (by rw [ho]; simp [h4] : (gI b k).2.2.2.2.1 ∈ fordV a b))
      exact h2 _ h6.1 h5
    show RkInv a b lives (x :: q) ((issued b x).foldl (rkStep b lives x) y)
    have hcnt : ∀ k : Int, 0 ≤ k ∧ k < (b.length : Int) → gI ((issued b x).foldl (rkStep b lives x) y).1 k = if (gI b k).1 = true ∧ (gI b k).2.1 ∈ x :: q then good b lives ((issued b x).foldl (rkStep b lives x) y).2 k else false := fun k hk => by
      rw [h1 k hk.1]
      by_cases hki : k ∈ issued b x
      · obtain ⟨_, k2, k3⟩ := mem_issued.1 hki
        rw [if_pos hki, if_pos ⟨k2, by rw [k3]; exact List.mem_cons_self ..⟩, hgood k hk k2 (by rw [k3]; exact List.mem_cons_self ..)]
      · rw [if_neg hki, I.cnt k hk]
        by_cases hq : (gI b k).1 = true ∧ (gI b k).2.1 ∈ q
        · rw [if_pos hq, if_pos ⟨hq.1, List.mem_cons_of_mem _ hq.2⟩, hgood k hk hq.1 (List.mem_cons_of_mem _ hq.2)]
        · rw [if_neg hq, if_neg]
          rintro ⟨k2, k3⟩
          rcases List.mem_cons.1 k3 with k3 | k3
          · exact hki (mem_issued.2 ⟨hk, k2, k3⟩)
          · exact hq ⟨k2, k3⟩
    refine ⟨l1.trans I.len1, l2.trans I.len2, hcnt, fun c' hc' => ?_, fun c' hc' hno => ?_⟩
    · rcases List.mem_cons.1 hc' with rfl | hc'
      · rw [h3, I.non c' hx hxq, Int.zero_add]
        congr 1
        refine List.map_congr_left fun k hk => ?_
        rw [h1 k (mem_issued.1 hk).1.1, if_pos hk]
      · have hne : c' ≠ x := fun h => hxq (h ▸ hc')
        have hin := usC_in (H.ord_mem.1 (by rw [ho]; simp [hc'] : c' ∈ fordV a b))
        rw [h2 c' hin.1 hne, I.amt c' hc']
        congr 1
        refine List.map_congr_left fun k hk => ?_
        obtain ⟨k1, k2, k3⟩ := mem_issued.1 hk
        rw [h1 k k1.1, if_neg (fun h => by
          have := (mem_issued.1 h).2.2
          exact hne (k3.symm.trans this))]
    · have hno' : c' ≠ x ∧ c' ∉ q := by simpa using hno
      rw [h2 c' hc'.1 hno'.1, I.non c' hc' hno'.2]
section
variable {a : List Bool} {b : List Tk} {c : List Th} {d : List Lk} {e : List Int} {f : Int}
theorem Fine0.reck (H : Fine0 a b c d e f) : RkInv a b (liveV c d) (fordV a b) (reckV (a, b, c, d, e, f)) := by
  have := rk_inv H (liveV c d) (fordV a b) [] rfl
  unfold reckV
  rw [List.foldl_reverse]
  exact this
theorem Fine0.tkOK (H : Fine0 a b c d e f) : b.all (tkOK a.length c.length) = true := List.all_eq_true.2 fun t ht => by
  obtain ⟨k, hk, rfl⟩ := List.mem_iff_getElem.1 ht
  have hg := gI_lt hk
  unfold Go.Proofs.YtlfdidaeachpoaaGreat.tkOK
  rw [← hg]
  cases hu : (gI b (k : Int)).1 with
  | false => rfl
  | true =>
    have h := H.tk (k := (k : Int)) ⟨by omega, by omega⟩ hu
    rcases h.to with h | h | h
    · rw [h.1]; rfl
    · have := usT_in h.2
      rw [h.1]; simp; omega
    · have := usC_in h.2.2
      rw [h.1]; simp; omega
theorem Fine0.reckOK (H : Fine0 a b c d e f) : reckOK (a, b, c, d, e, f) = true := by
  have h1 := H.lenB
  have h2 := H.lenC
  have h3 := H.coins
  unfold Go.Proofs.YtlfdidaeachpoaaGreat.reckOK sdLiveOK sdOrdOK
  simp only
  rw [H.liveOK, H.tkOK, decide_eq_true (by omega), decide_eq_true (by omega), decide_eq_true (by omega)]
  rfl
end
end Go.Proofs.YtlfdidaeachpoaaGreat

namespace Go.Proofs.YtlfdidaeachpoaaGreat
open Go Go.RowKit
set_option maxRecDepth 100000
noncomputable section
def cntV (a : List Bool) (b : List Tk) (c : List Th) (d : List Lk) (e : List Int) (f : Int) : List Bool := (reckV (a, b, c, d, e, f)).1
def amV (a : List Bool) (b : List Tk) (c : List Th) (d : List Lk) (e : List Int) (f : Int) : List Int := (reckV (a, b, c, d, e, f)).2
section
variable {a : List Bool} {b : List Tk} {c : List Th} {d : List Lk} {e : List Int} {f : Int}
theorem Fine0.cnt (H : Fine0 a b c d e f) {k : Int} (hk : 0 ≤ k ∧ k < (b.length : Int)) : gI (cntV a b c d e f) k = if (gI b k).1 = true then good b (liveV c d) (amV a b c d e f) k else false := by
  have := H.reck.cnt k hk
  unfold cntV amV
  rw [this]
  by_cases hu : (gI b k).1 = true
  · rw [if_pos hu, if_pos ⟨hu, H.ord_mem.2 (H.tk hk hu).coin⟩]
  · rw [if_neg hu, if_neg (fun h => hu h.1)]
theorem Fine0.amt (H : Fine0 a b c d e f) {x : Int} (hx : 0 ≤ x ∧ x < (a.length : Int)) : gI (amV a b c d e f) x = ((issued b x).map fun k => amtIf b (gI (cntV a b c d e f) k) k).sum := by
  by_cases h : x ∈ fordV a b
  · exact H.reck.amt x h
  · have h0 : gI (amV a b c d e f) x = 0 := H.reck.non x hx h
    rw [h0]
    have : issued b x = [] := by
      apply List.eq_nil_iff_forall_not_mem.2
      intro k hk
      obtain ⟨k1, k2, k3⟩ := mem_issued.1 hk
      exact h (H.ord_mem.2 (k3 ▸ (H.tk k1 k2).coin))
    rw [this]; rfl
theorem Fine0.len (H : Fine0 a b c d e f) : (cntV a b c d e f).length = b.length ∧ (amV a b c d e f).length = a.length := ⟨H.reck.len1, H.reck.len2⟩
theorem Fine0.cnt_used (H : Fine0 a b c d e f) {k : Int} (hk : 0 ≤ k ∧ k < (b.length : Int)) (h : gI (cntV a b c d e f) k = true) : (gI b k).1 = true := by
  rw [H.cnt hk] at h
  split at h
  · assumption
  · cases h
theorem Fine0.am_bound (H : Fine0 a b c d e f) {x : Int} (hx : 0 ≤ x ∧ x < (a.length : Int)) : 0 ≤ gI (amV a b c d e f) x ∧ gI (amV a b c d e f) x ≤ 1048576 * 96 := by
  have hb := H.lenB
  have hl := issued_len b x
  have := sum_le (l := issued b x) (f := fun k => amtIf b (gI (cntV a b c d e f) k) k) (m := 1048576) fun k hk => by
    obtain ⟨k1, k2, _⟩ := mem_issued.1 hk
    have := (H.tk k1 k2).amt
    unfold amtIf
    split <;> omega
  rw [H.amt hx]
  omega
theorem sum_mem_le {l : List Int} {g : Int → Int} (h : ∀ k ∈ l, 0 ≤ g k) {x : Int} (hx : x ∈ l) : g x ≤ (l.map g).sum := by
  induction l with
  | nil => cases hx
  | cons y l ih =>
    rw [List.map_cons, List.sum_cons]
    have hy := h y (List.mem_cons_self ..)
    have hs := (show 0 ≤ (l.map g).sum from by
      clear ih hx
      induction l with
      | nil => simp
      | cons z l ih2 =>
        rw [List.map_cons, List.sum_cons]
        have h1 := h z (by simp)
        have h2 := ih2 fun k hk => h k (by
          rcases List.mem_cons.1 hk with rfl | hk
          · simp
          · simp [hk])
        omega)
    rcases List.mem_cons.1 hx with rfl | hx
    · omega
    · have := ih (fun k hk => h k (List.mem_cons_of_mem _ hk)) hx
      omega
theorem Fine0.awake (H : Fine0 a b c d e f) {k : Int} (hk : 0 ≤ k ∧ k < (b.length : Int)) (h : gI (cntV a b c d e f) k = true) : 0 < gI (amV a b c d e f) (gI b k).2.1 := by
  have hu := H.cnt_used hk h
  have ht := H.tk hk hu
  rw [H.amt (usC_in ht.coin)]
  have := sum_mem_le (l := issued b (gI b k).2.1) (g := fun k => amtIf b (gI (cntV a b c d e f) k) k) (fun k hk => by
    obtain ⟨k1, k2, _⟩ := mem_issued.1 hk
    have := (H.tk k1 k2).amt
    unfold amtIf
    split <;> omega) (mem_issued.2 ⟨hk, hu, rfl⟩)
  have e1 : amtIf b (gI (cntV a b c d e f) k) k = (gI b k).2.2.1 := by unfold amtIf; rw [if_pos h]
  have this' : amtIf b (gI (cntV a b c d e f) k) k ≤ ((issued b (gI b k).2.1).map fun k => amtIf b (gI (cntV a b c d e f) k) k).sum := this
  have := ht.amt
  omega
theorem live_get {i : Int} (hi : 0 ≤ i ∧ i < (c.length : Int)) : gI (liveV c d) i = livesV c d i := by
  obtain ⟨j, rfl⟩ := Int.eq_ofNat_of_zero_le hi.1
  have hj : j < c.length := by omega
  rw [gI_lt (by simpa [liveV] using hj)]
  simp [liveV]
theorem counts_eq (H : Fine0 a b c d e f) (self : SD × Int → Option Int) (self' : ((List Bool) × (List Tk) × (List Th) × (List Lk) × (List Int) × Int × Int) → Option Int) {k : Int} (hk : 0 ≤ k ∧ k < (b.length : Int))
    (hs : (gI b k).1 = true → (gI b k).2.2.2.1 = 2 → self' (a, b, c, d, e, f, (gI b k).2.2.2.2.1) = some (gI (amV a b c d e f) (gI b k).2.2.2.2.1)) :
    F_R17_Counts self' (a, b, c, d, e, f, k) = some (gI (cntV a b c d e f) k) := by
  show (R17_Counts self' _).run _ = _
  rw [R17_Counts]
  simp only [RT.run]
  rw [if_pos (inB_iff.2 hk), H.cnt hk]
  cases hu : (gI b k).1 with
  | false => rfl
  | true =>
    unfold good
    cases ho : (gI b k).2.2.2.2.2 with
    | false => rfl
    | true =>
      rw [if_neg (by decide), if_pos rfl, Bool.true_and]
      have ht := H.tk hk hu
      by_cases h1 : (gI b k).2.2.2.1 = 1
      · have hut : usT c (gI b k).2.2.2.2.1 = true := by
          rcases ht.to with h | h | h
          · omega
          · exact h.2
          · omega
        obtain ⟨h3, h4⟩ := H.lives hut
        rw [if_pos (by simpa using h1), if_pos h3, h4, h1, live_get (usT_in hut)]
        simp
      · rw [if_neg (by simpa using h1)]
        have e1 : ((gI b k).2.2.2.1 == 1) = false := by simpa using h1
        rw [e1, Bool.false_and, Bool.false_or]
        by_cases h2 : (gI b k).2.2.2.1 = 2
        · rw [hs hu h2, if_pos (by simp)]
          rfl
        · have e2 : ((gI b k).2.2.2.1 == 2) = false := by simpa using h2
          rw [e2, if_pos (by simp)]
          rfl
theorem amount_loop (H : Fine0 a b c d e f) (self : ((List Bool) × (List Tk) × (List Th) × (List Lk) × (List Int) × Int × Int) → Option Bool) (x : Int)
    (hs : ∀ k : Int, 0 ≤ k ∧ k < (b.length : Int) → (gI b k).2.1 = x → self (a, b, c, d, e, f, k) = some (gI (cntV a b c d e f) k)) : ∀ (n i : Nat) (r : Int), i + n = b.length → 0 ≤ r ∧ r ≤ 1048576 * (i : Int) →
    lo (R17_Amount_b58 self) (x, a, b, c, d, e, f) (r, (i : Int)) = some (r + ((((List.range' i n).filter (isTk b x)).map fun (k : Nat) => (k : Int)).map fun k => amtIf b (gI (cntV a b c d e f) k) k).sum)
  | 0, i, r, h, _ => by
    rw [lo_eq, R17_Amount_b58]
    simp only [RT.run]
    rw [if_neg (by simp; omega)]
    simp
  | n + 1, i, r, h, hr => by
    have hlb := H.lenB
    have hi : 0 ≤ (i : Int) ∧ (i : Int) < (b.length : Int) := by omega
    have hin : inB b (i : Int) = true := inB_iff.2 hi
    have tk : isTk b x i = ((gI b (i : Int)).1 && (gI b (i : Int)).2.1 == x) := by unfold isTk; rw [gI_nat]
    rw [lo_eq, R17_Amount_b58]
    simp only [RT.run]
    rw [if_pos (by simp; omega), if_pos hin, w64_in (show -9223372036854775808 ≤ (i : Int) + 1 ∧ (i : Int) + 1 ≤ 9223372036854775807 by omega), show (i : Int) + 1 = ((i + 1 : Nat) : Int) by omega, List.range'_succ, List.filter_cons, tk]
    by_cases hx : (gI b (i : Int)).2.1 = x
    · have ex : ((gI b (i : Int)).2.1 == x) = true := by simpa using hx
      rw [hs _ hi hx, if_pos (by simp), ex, Bool.true_and, Bool.and_true]
      simp only [Option.getD_some]
      cases hq : gI (cntV a b c d e f) (i : Int) with
      | true =>
        have hu := H.cnt_used hi hq
        have ha := (H.tk hi hu).amt
        rw [if_pos rfl, if_pos hin, hu, if_pos rfl, w64_in (by omega), amount_loop H self x hs n (i + 1) _ (by omega) (by omega), List.map_cons, List.map_cons, List.sum_cons]
        simp only [amtIf, hq, if_true]
        congr 1; omega
      | false =>
        rw [if_neg (by decide), amount_loop H self x hs n (i + 1) r (by omega) (by omega)]
        cases hu : (gI b (i : Int)).1 with
        | false => simp
        | true =>
          rw [if_pos rfl, List.map_cons, List.map_cons, List.sum_cons]
          simp only [amtIf, hq, Bool.false_eq_true, if_false, Int.zero_add]
    · have ex : ((gI b (i : Int)).2.1 == x) = false := by simpa using hx
      rw [ex, if_pos (by simp), Bool.false_and, if_neg (by decide), Bool.and_false, if_neg (by decide), amount_loop H self x hs n (i + 1) r (by omega) (by omega)]
theorem amount_of (H : Fine0 a b c d e f) (self : ((List Bool) × (List Tk) × (List Th) × (List Lk) × (List Int) × Int × Int) → Option Bool) {x : Int} (hx : 0 ≤ x ∧ x < (a.length : Int))
    (hs : ∀ k : Int, 0 ≤ k ∧ k < (b.length : Int) → (gI b k).2.1 = x → self (a, b, c, d, e, f, k) = some (gI (cntV a b c d e f) k)) : F_R17_Amount self (a, b, c, d, e, f, x) = some (gI (amV a b c d e f) x) := by
  show (R17_Amount self _).run _ = _
  rw [R17_Amount]
  simp only [RT.run]
  have := amount_loop H self x hs b.length 0 0 (by omega) (by omega)
  rw [show ((0 : Nat) : Int) = 0 from rfl, ← List.range_eq_range', Int.zero_add] at this
  rw [this, H.amt hx]
  rfl
theorem amount_rec (H : Fine0 a b c d e f) : ∀ (q p : List Int), fordV a b = p ++ q → ∀ n, q.length ≤ n → ∀ x ∈ q, R_R17_Amount n (a, b, c, d, e, f, x) = some (gI (amV a b c d e f) x)
  | [], _, _, _, _, x, hx => by cases hx
  | y :: q, p, ho, 0, hn, x, hx => by simp at hn
  | y :: q, p, ho, n + 1, hn, x, hx => by
    have ih := amount_rec H q (p ++ [y]) (by rw [ho]; simp)
    rcases List.mem_cons.1 hx with rfl | hxq
    · have hin := usC_in (H.ord_mem.1 (by rw [ho]; simp : x ∈ fordV a b))
      refine amount_of H (F_R17_Counts (R_R17_Amount n)) hin fun k hk hc => counts_eq H (fun _ => none) (R_R17_Amount n) hk fun hu h2 => ?_
      obtain ⟨h3, h4⟩ := H.ord_to ho hk hu h2 (by rw [hc]; exact List.mem_cons_self ..)
      exact ih n (by simpa using hn) _ h3
    · exact ih (n + 1) (by simp at hn; omega) x hxq
theorem amount_all (H : Fine0 a b c d e f) {x : Int} (hx : 0 ≤ x ∧ x < (a.length : Int)) : R_R17_Amount ((fordV a b).length + 1) (a, b, c, d, e, f, x) = some (gI (amV a b c d e f) x) := by
  by_cases h : x ∈ fordV a b
  · exact amount_rec H (fordV a b) [] rfl _ (by omega) x h
  · refine amount_of H _ hx fun k hk hc => ?_
    exfalso
    cases hu : (gI b k).1 with
    | true => exact h (H.ord_mem.2 (hc ▸ (H.tk hk hu).coin))
    | false =>
      have h0 := H.tk0 hk hu
      rw [h0] at hc
      refine h (H.ord_mem.2 ?_)
      rw [← hc]
      unfold usC
      rw [H.coins.2.2, inB_iff.2 (by have := H.coins; simp only; omega)]; rfl
end
def e_R17_Amount : Entry := io_R17_Amount.sp (fun (a, b, c, d, e, f, x) => (fineV a b c d e f && inB a x)) (fun (a, b, c, d, e, f, x) => (gI (α := Int) (amV a b c d e f) x))
theorem sp_R17_Amount (h : ∀ (a : List Bool) (b : List Tk) (c : List Th) (d : List Lk) (e : List Int) (f : Int) (x : Int), WfT [.sl tB, .sl yK, .sl yH, .sl yL, .sl tI, tI, tI] (a, b, c, d, e, f, x) → ((fineV a b c d e f && inB a x)) = true → ∃ n, R_R17_Amount n (a, b, c, d, e, f, x) = some (gI (α := Int) (amV a b c d e f) x)) : e_R17_Amount.ok pg := sp_rec okR_R17_Amount fun (a, b, c, d, e, f, x) hw hc => h a b c d e f x hw hc
theorem e_R17_Amount_ok : e_R17_Amount.ok pg := sp_R17_Amount fun a b c d e f x _ hc => by
  rw [Bool.and_eq_true] at hc
  exact ⟨_, amount_all (fine0 hc.1) (inB_iff.1 hc.2)⟩
def e_R17_Counts : Entry := io_R17_Counts.sp (fun (a, b, c, d, e, f, k) => (fineV a b c d e f && inB b k)) (fun (a, b, c, d, e, f, k) => (gI (α := Bool) (cntV a b c d e f) k))
theorem sp_R17_Counts (h : ∀ (a : List Bool) (b : List Tk) (c : List Th) (d : List Lk) (e : List Int) (f : Int) (k : Int), WfT [.sl tB, .sl yK, .sl yH, .sl yL, .sl tI, tI, tI] (a, b, c, d, e, f, k) → ((fineV a b c d e f && inB b k)) = true → ∃ n, R_R17_Counts n (a, b, c, d, e, f, k) = some (gI (α := Bool) (cntV a b c d e f) k)) : e_R17_Counts.ok pg := sp_rec okR_R17_Counts fun (a, b, c, d, e, f, k) hw hc => h a b c d e f k hw hc
theorem e_R17_Counts_ok : e_R17_Counts.ok pg := sp_R17_Counts fun a b c d e f k _ hc => by
  rw [Bool.and_eq_true] at hc
  have H := fine0 hc.1
  have hk := inB_iff.1 hc.2
  refine ⟨(fordV a b).length + 1, counts_eq H (fun _ => none) _ hk fun hu h2 => amount_all H ?_⟩
  rcases (H.tk hk hu).to with h | h | h
  · omega
  · omega
  · exact usC_in h.2.2
def R15_Tickets_b58 : (Int × Int × (List Tk)) → (Int × (List Int)) → RT (Int × (List Int)) (List Int)
| (l, i, s_1), (i_2, r7) =>
 .rq 5 (.ite (decide (i_2 < (s_1.length : Int)))
 (.rq 3 (.req (inB s_1 i_2) (.rq 47 (let t0 := w64 (i_2 + 1);
 let t1 := (gI s_1 i_2).2.2.2.2.1 == i;
 .ite ((gI s_1 i_2).1 && ((((l == 0) && ((gI s_1 i_2).2.1 == i)) || (((l == 1) && ((gI s_1 i_2).2.2.2.1 == 2)) && t1)) || (((l == 2) && ((gI s_1 i_2).2.2.2.1 == 1)) && t1)))
 (.rq 3 (.req (apOK 8 r7 [i_2]) (.rq 4 (.again (t0, r7 ++ [i_2])))))
 (.rq 3 (.again (t0, r7)))))))
 (.done r7))
def R15_Tickets_p58 : Piece := ⟨58, true, [tI, tI, .sl tB, .sl yK, .sl yH, .sl yL, .sl tI, tI], [tI, .sl tI], ⟨[.keep [1, 2, 3, 7, 8], .gc, .nilRow 7 800007 3 tI, .ren 7 700007, .ren 7 900007, .gc], [1, 2, 3, 7, 8], [.lf (qi 0), .lf (qi 1), .lf (qp 48), .lf (qr 900007), .lf (qm 0)], [(48, true, .cells [qi 2, qi 3, qi 4, qi 5, qi 6, qi 7]), (900007, true, .arr 3 (qm 1))]⟩, [⟨2, ⟨[.keep [7], .gc, .nilRow 7 800007 3 tI, .ren 7 700007, .ren 7 900007, .gc], [7], [.lf (qr 900007)], [(900007, true, .arr 3 (qm 0))]⟩, [.sl tI]⟩], (fun i => R15_Tickets_b58 (i.1, i.2.1, i.2.2.2.1))⟩
def R15_Tickets : ((List Bool) × (List Tk) × (List Th) × (List Lk) × (List Int) × Int × Int × Int) → RT Unit (List Int)
| (a0_0, a0_1, a0_2, a0_3, a0_4, a0_5, l, i) =>
 .rq 4 (.call (lo R15_Tickets_b58 (l, i, a0_1) (0, [])) default fun v0 =>
 .rq 2 (.done v0))
def F_R15_Tickets (x : (List Bool) × (List Tk) × (List Th) × (List Lk) × (List Int) × Int × Int × Int) : Option (List Int) := (R15_Tickets x).run fun _ => none
def io_R15_Tickets : Io := ⟨n_R15_Tickets, [.sl tB, .sl yK, .sl yH, .sl yL, .sl tI, tI, tI, tI], [.agg [qm 0, qm 1, qm 2, qm 3, qm 4, qm 5], .lf (qm 6), .lf (qm 7)], [], [[.sl tB, .sl yK, .sl yH, .sl yL, .sl tI, tI], [tI], [tI]], [.sl tI], .lf (qr 0), [], [(true, .arr 3 (qm 0))], false⟩
def R15_Tickets_P : List Piece := [R15_Tickets_p58]
def R15_Tickets_T : CallT := tab []
theorem R15_Tickets_To : SoundT pg R15_Tickets_T := tab_sound trivial
theorem R15_Tickets_k58 : (R15_Tickets_p58).OK pg (R15_Tickets_T) (tell 71 (R15_Tickets_P)) (codeOf f_R15_Tickets) 71 := ⟨by kernel_rfl, fun i x => by kernel_rfl⟩
theorem R15_Tickets_go : FnOK pg (R15_Tickets_T) io_R15_Tickets f_R15_Tickets (R15_Tickets_P) [.nilRow 6 800006 3 tI, .ren 6 700006, .ren 6 900006] (R15_Tickets) := ⟨by kernel_rfl, by kernel_rfl, fun x => by kernel_rfl⟩
theorem ok_R15_Tickets : io_R15_Tickets.Okay pg (F_R15_Tickets) := fn_ok pg_mixed (R15_Tickets_To) (R15_Tickets_go) ⟨R15_Tickets_k58, trivial⟩
def isOf (b : List Tk) (w i k : Int) : Bool := (gI b k).1 && ((((w == 0) && ((gI b k).2.1 == i)) || (((w == 1) && ((gI b k).2.2.2.1 == 2)) && ((gI b k).2.2.2.2.1 == i))) || (((w == 2) && ((gI b k).2.2.2.1 == 1)) && ((gI b k).2.2.2.2.1 == i)))
def tksOf (b : List Tk) (w i : Int) : List Int := ((List.range b.length).map fun (k : Nat) => (k : Int)).filter (isOf b w i)
theorem tksOf_loop (b : List Tk) (w x : Int) (hl : b.length ≤ 1000000) : ∀ (n i : Nat) (r : List Int), i + n = b.length → r.length ≤ i →
    lo R15_Tickets_b58 (w, x, b) ((i : Int), r) = some (r ++ ((List.range' i n).map fun (k : Nat) => (k : Int)).filter (isOf b w x))
  | 0, i, r, h, _ => by
    rw [lo_eq, R15_Tickets_b58]
    simp only [RT.run]
    rw [if_neg (by simp; omega)]
    simp
  | n + 1, i, r, h, hr => by
    have hi : i < b.length := by omega
    have hmax : maxLen = 9223372036854775807 := by decide
    rw [lo_eq, R15_Tickets_b58]
    simp only [RT.run]
    rw [if_pos (by simp; omega), if_pos (inB_iff.2 ⟨by omega, by omega⟩), w64_in (by omega), show (i : Int) + 1 = ((i + 1 : Nat) : Int) by omega, List.range'_succ, List.map_cons, List.filter_cons]
    by_cases hv : isOf b w x (i : Int) = true
    · have hv' := hv
      unfold isOf at hv'
      rw [if_pos hv', if_pos (apOK_iff.2 ⟨by simp; omega, by simp; omega⟩), tksOf_loop b w x hl n (i + 1) _ (by omega) (by simp; omega), if_pos hv]
      simp
    · have hv' := hv
      unfold isOf at hv'
      rw [if_neg hv', tksOf_loop b w x hl n (i + 1) _ (by omega) (by omega), if_neg hv]
def e_R15_Tickets : Entry := io_R15_Tickets.sp (fun (a, b, c, d, e, f, w, i) => (decide (b.length ≤ 1000000))) (fun (a, b, c, d, e, f, w, i) => (tksOf b w i))
theorem sp_R15_Tickets (h : ∀ (a : List Bool) (b : List Tk) (c : List Th) (d : List Lk) (e : List Int) (f : Int) (w : Int) (i : Int), WfT [.sl tB, .sl yK, .sl yH, .sl yL, .sl tI, tI, tI, tI] (a, b, c, d, e, f, w, i) → ((decide (b.length ≤ 1000000))) = true → (R15_Tickets (a, b, c, d, e, f, w, i)).run (fun _ => none) = some (tksOf b w i)) : e_R15_Tickets.ok pg := sp_ok ok_R15_Tickets fun (a, b, c, d, e, f, w, i) hw hc => h a b c d e f w i hw hc
theorem e_R15_Tickets_ok : e_R15_Tickets.ok pg := sp_R15_Tickets fun a b c d e f w i _ hc => by
  have hl := of_decide_eq_true hc
  rw [R15_Tickets]
  simp only [RT.run]
  have := tksOf_loop b w i hl b.length 0 [] (by omega) (by simp)
  rw [show ((0 : Nat) : Int) = 0 from rfl, ← List.range_eq_range', List.nil_append] at this
  rw [this]
  rfl
def io_R18_Coin : Io := ⟨n_R18_Coin, [.sl tB, .sl yK, .sl yH, .sl yL, .sl tI, tI, tI], [.agg [qm 0, qm 1, qm 2, qm 3, qm 4, qm 5], .lf (qm 6)], [], [[.sl tB, .sl yK, .sl yH, .sl yL, .sl tI, tI], [tI]], [.sl tI, .sl tI], .agg [qr 0, qr 1], [], [(true, .arr 3 (qm 0)), (true, .arr 3 (qm 1))], false⟩
def R18_Ticket (self : ((List Bool) × (List Tk) × (List Th) × (List Lk) × (List Int) × Int × Int) → Option ((List Int) × (List Int))) : ((List Bool) × (List Tk) × (List Th) × (List Lk) × (List Int) × Int × Int) → RT Unit ((List Int) × (List Int))
| (s_0, s_1, s_2, s_3, s_4, s_5, k) =>
 .rq 5 (.req (inB s_1 k) (.rq 5 (.req ((fineV s_0 s_1 s_2 s_3 s_4 s_5 && inB s_1 k)) (.rq 1 (.ite (!((gI (α := Bool) (cntV s_0 s_1 s_2 s_3 s_4 s_5) k)))
 (.rq 2 (.done ((rQ (((0 : Int).toNat : Nat) : Rat)).1, (rQ (((0 : Int).toNat : Nat) : Rat)).2)))
 (.rq 3 (let t0 := wu64 (gI s_1 k).2.2.1;
 .ite ((gI s_1 k).2.1 == 0)
 (.rq 5 (let t1 := rQ ((t0.toNat : Nat) : Rat);
 .done (t1.1, t1.2)))
 (.rq 6 (.req ((fineV s_0 s_1 s_2 s_3 s_4 s_5 && inB s_0 (gI s_1 k).2.1)) (.rq 1 (let t2 := wu64 ((gI (α := Int) (amV s_0 s_1 s_2 s_3 s_4 s_5) (gI s_1 k).2.1));
 .req (decide (t2 ≠ 0)) (.rq 3 (.call (self (s_0, s_1, s_2, s_3, s_4, s_5, (gI s_1 k).2.1)) default fun v0 =>
 let t3 := rQ (mkRat ((t0.toNat : Nat) : Int) t2.toNat);
 .req (okq t3.1 t3.2 && okq v0.1 v0.2) (.rq 1 (let t4 := rQ (toQ16 t3.1 t3.2 * toQ16 v0.1 v0.2);
 .done (t4.1, t4.2))))))))))))))))
def F_R18_Ticket (self : ((List Bool) × (List Tk) × (List Th) × (List Lk) × (List Int) × Int × Int) → Option ((List Int) × (List Int))) (x : (List Bool) × (List Tk) × (List Th) × (List Lk) × (List Int) × Int × Int) : Option ((List Int) × (List Int)) := (R18_Ticket self x).run fun _ => none
def io_R18_Ticket : Io := ⟨n_R18_Ticket, [.sl tB, .sl yK, .sl yH, .sl yL, .sl tI, tI, tI], [.agg [qm 0, qm 1, qm 2, qm 3, qm 4, qm 5], .lf (qm 6)], [], [[.sl tB, .sl yK, .sl yH, .sl yL, .sl tI, tI], [tI]], [.sl tI, .sl tI], .agg [qr 0, qr 1], [], [(true, .arr 3 (qm 0)), (true, .arr 3 (qm 1))], false⟩
def R18_Ticket_P (self : ((List Bool) × (List Tk) × (List Th) × (List Lk) × (List Int) × Int × Int) → Option ((List Int) × (List Int))) : List Piece := []
def R18_Ticket_T (self : ((List Bool) × (List Tk) × (List Th) × (List Lk) × (List Int) × Int × Int) → Option ((List Int) × (List Int))) : CallT := tab [io_R18_Coin.en self, e_R17_Counts, e_R17_Amount, e_R04_Mul, e_R04_Int, e_R04_Of]
theorem R18_Ticket_To (self : ((List Bool) × (List Tk) × (List Th) × (List Lk) × (List Int) × Int × Int) → Option ((List Int) × (List Int))) (hs : io_R18_Coin.Okay pg self) : SoundT pg (R18_Ticket_T self) := tab_sound ⟨en_ok hs, e_R17_Counts_ok, e_R17_Amount_ok, e_R04_Mul_ok, e_R04_Int_ok, e_R04_Of_ok, trivial⟩
theorem R18_Ticket_go (self : ((List Bool) × (List Tk) × (List Th) × (List Lk) × (List Int) × Int × Int) → Option ((List Int) × (List Int))) : FnOK pg (R18_Ticket_T self) io_R18_Ticket f_R18_Ticket (R18_Ticket_P self) [.cellRow 64 0 600064 3 tI, .cellRow 64 1 600065 3 tI, .cellRen 64 0 600064, .cellRen 64 1 600065] (R18_Ticket self) := ⟨by kernel_rfl, by kernel_rfl, fun x => by kernel_rfl⟩
theorem ok_R18_Ticket (self : ((List Bool) × (List Tk) × (List Th) × (List Lk) × (List Int) × Int × Int) → Option ((List Int) × (List Int))) (hs : io_R18_Coin.Okay pg self) : io_R18_Ticket.Okay pg (F_R18_Ticket self) := fn_ok pg_mixed (R18_Ticket_To self hs) (R18_Ticket_go self) trivial
def R18_Coin_b250 (self : ((List Bool) × (List Tk) × (List Th) × (List Lk) × (List Int) × Int × Int) → Option ((List Int) × (List Int))) : ((List Bool) × (List Tk) × (List Th) × (List Lk) × (List Int) × Int × (List Int)) → (Int × (List Int) × (List Int)) → RT (Int × (List Int) × (List Int)) ((List Int) × (List Int))
| (s_0, s_1, s_2, s_3, s_4, s_5, r6), (i, r80, r81) =>
 .rq 4 (.ite (decide (i < (r6.length : Int)))
 (.rq 4 (.req (inB r6 i) (.rq 1 (.call (self (s_0, s_1, s_2, s_3, s_4, s_5, gI r6 i)) default fun v0 =>
 .req (okq r80 r81 && okq v0.1 v0.2) (.rq 4 (let t0 := rQ (toQ16 r80 r81 + toQ16 v0.1 v0.2);
 .again (w64 (i + 1), t0.1, t0.2)))))))
 (.done (r80, r81)))
def R18_Coin_p250 (self : ((List Bool) × (List Tk) × (List Th) × (List Lk) × (List Int) × Int × Int) → Option ((List Int) × (List Int))) : Piece := ⟨250, true, [.sl tB, .sl yK, .sl yH, .sl yL, .sl tI, tI, .sl tI], [tI, .sl tI, .sl tI], ⟨[.keep [2, 4, 5, 6, 7], .gc, .nilRow 6 800006 3 tI, .ren 6 700006, .ren 6 900006, .cellRow 80 0 600080 3 tI, .cellRow 80 1 600081 3 tI, .cellRen 80 0 600080, .cellRen 80 1 600081, .gc], [2, 4, 5, 6, 7], [.lf (qp 32), .lf (qp 64), .lf (qp 80), .lf (qr 900006), .lf (qm 0)], [(32, true, .cells [qi 0, qi 1, qi 2, qi 3, qi 4, qi 5]), (64, true, .cells [.fix (.nil), .fix (.nil)]), (80, true, .cells [qr 600080, qr 600081]), (900006, true, .arr 3 (qi 6)), (600080, true, .arr 3 (qm 1)), (600081, true, .arr 3 (qm 2))]⟩, [⟨2, ⟨[.keep [4, 5], .gc, .cellRow 80 0 600080 3 tI, .cellRow 80 1 600081 3 tI, .cellRen 80 0 600080, .cellRen 80 1 600081, .gc], [4, 5], [.lf (qp 64), .lf (qp 80)], [(64, true, .cells [.fix (.nil), .fix (.nil)]), (80, true, .cells [qr 600080, qr 600081]), (600080, true, .arr 3 (qm 0)), (600081, true, .arr 3 (qm 1))]⟩, [.sl tI, .sl tI]⟩], (R18_Coin_b250 self)⟩
def R18_Coin (self : ((List Bool) × (List Tk) × (List Th) × (List Lk) × (List Int) × Int × Int) → Option ((List Int) × (List Int))) : ((List Bool) × (List Tk) × (List Th) × (List Lk) × (List Int) × Int × Int) → RT Unit ((List Int) × (List Int))
| (s_0, s_1, s_2, s_3, s_4, s_5, c) =>
 .rq 4 (.ite (c == 0)
 (.rq 1 (.req ((fineV s_0 s_1 s_2 s_3 s_4 s_5 && inB s_0 (0 : Int))) (.rq 3 (let t0 := rQ (((wu64 ((gI (α := Int) (amV s_0 s_1 s_2 s_3 s_4 s_5) (0 : Int)))).toNat : Nat) : Rat);
 .done (t0.1, t0.2)))))
 (.rq 5 (.req ((decide (s_1.length ≤ 1000000))) (.rq 2 (.call (lo (R18_Coin_b250 self) (s_0, s_1, s_2, s_3, s_4, s_5, (tksOf s_1 (1 : Int) c)) (0, (rQ (((0 : Int).toNat : Nat) : Rat)).1, (rQ (((0 : Int).toNat : Nat) : Rat)).2)) default fun v1 =>
 .rq 2 (.done (v1.1, v1.2)))))))
def F_R18_Coin (self : ((List Bool) × (List Tk) × (List Th) × (List Lk) × (List Int) × Int × Int) → Option ((List Int) × (List Int))) (x : (List Bool) × (List Tk) × (List Th) × (List Lk) × (List Int) × Int × Int) : Option ((List Int) × (List Int)) := (R18_Coin self x).run fun _ => none
def R18_Coin_P (self : ((List Bool) × (List Tk) × (List Th) × (List Lk) × (List Int) × Int × Int) → Option ((List Int) × (List Int))) : List Piece := [R18_Coin_p250 self]
def R18_Coin_T (self : ((List Bool) × (List Tk) × (List Th) × (List Lk) × (List Int) × Int × Int) → Option ((List Int) × (List Int))) : CallT := tab [io_R18_Ticket.en self, e_R15_Tickets, e_R17_Amount, e_R04_Add, e_R04_Int]
theorem R18_Coin_To (self : ((List Bool) × (List Tk) × (List Th) × (List Lk) × (List Int) × Int × Int) → Option ((List Int) × (List Int))) (hs : io_R18_Ticket.Okay pg self) : SoundT pg (R18_Coin_T self) := tab_sound ⟨en_ok hs, e_R15_Tickets_ok, e_R17_Amount_ok, e_R04_Add_ok, e_R04_Int_ok, trivial⟩
theorem R18_Coin_k250 (self : ((List Bool) × (List Tk) × (List Th) × (List Lk) × (List Int) × Int × Int) → Option ((List Int) × (List Int))) : (R18_Coin_p250 self).OK pg (R18_Coin_T self) (tell 33 (R18_Coin_P self)) (codeOf f_R18_Coin) 33 := ⟨by kernel_rfl, fun i x => by kernel_rfl⟩
theorem R18_Coin_go (self : ((List Bool) × (List Tk) × (List Th) × (List Lk) × (List Int) × Int × Int) → Option ((List Int) × (List Int))) : FnOK pg (R18_Coin_T self) io_R18_Coin f_R18_Coin (R18_Coin_P self) [.cellRow 64 0 600064 3 tI, .cellRow 64 1 600065 3 tI, .cellRen 64 0 600064, .cellRen 64 1 600065] (R18_Coin self) := ⟨by kernel_rfl, by kernel_rfl, fun x => by kernel_rfl⟩
theorem ok_R18_Coin (self : ((List Bool) × (List Tk) × (List Th) × (List Lk) × (List Int) × Int × Int) → Option ((List Int) × (List Int))) (hs : io_R18_Ticket.Okay pg self) : io_R18_Coin.Okay pg (F_R18_Coin self) := fn_ok pg_mixed (R18_Coin_To self hs) (R18_Coin_go self) ⟨R18_Coin_k250 self, trivial⟩
def R_R18_Coin : Nat → ((List Bool) × (List Tk) × (List Th) × (List Lk) × (List Int) × Int × Int) → Option ((List Int) × (List Int))
  | 0 => fun _ => none
  | n + 1 => F_R18_Coin (F_R18_Ticket (R_R18_Coin n))
theorem okR_R18_Coin : ∀ n, io_R18_Coin.Okay pg (R_R18_Coin n)
  | 0 => ⟨⟨f_R18_Coin, by kernel_rfl, by kernel_rfl, by kernel_rfl⟩, fun _ _ h => by cases h⟩
  | n + 1 => ok_R18_Coin _ (ok_R18_Ticket _ (okR_R18_Coin n))
def R_R18_Ticket (n : Nat) : ((List Bool) × (List Tk) × (List Th) × (List Lk) × (List Int) × Int × Int) → Option ((List Int) × (List Int)) := F_R18_Ticket (R_R18_Coin n)
theorem okR_R18_Ticket (n : Nat) : io_R18_Ticket.Okay pg (R_R18_Ticket n) := ok_R18_Ticket _ (okR_R18_Coin n)
end
end Go.Proofs.YtlfdidaeachpoaaGreat

namespace Go.Proofs.YtlfdidaeachpoaaGreat
open Go Go.RowKit
set_option maxRecDepth 100000
def rsum (l : List Rat) : Rat := l.foldr (· + ·) 0
theorem rsum_cons (x : Rat) (l : List Rat) : rsum (x :: l) = x + rsum l := rfl
theorem rsum_append : ∀ (l m : List Rat), rsum (l ++ m) = rsum l + rsum m
  | [], m => (Rat.zero_add _).symm
  | x :: l, m => by rw [List.cons_append, rsum_cons, rsum_append l m, rsum_cons, Rat.add_assoc]
theorem rsum_perm {l m : List Rat} (h : l.Perm m) : rsum l = rsum m := by
  unfold rsum
  exact h.foldr_eq' (fun x _ y _ z => by grind) 0
theorem rsum_nonneg {l : List Rat} (h : ∀ x ∈ l, 0 ≤ x) : 0 ≤ rsum l := by
  induction l with
  | nil => decide
  | cons x l ih => exact Rat.add_nonneg (h x (List.mem_cons_self ..)) (ih fun y hy => h y (List.mem_cons_of_mem _ hy))
theorem rsum_filter {α : Type} {l : List α} {g : α → Rat} {p : α → Bool} (h : ∀ x ∈ l, p x = false → g x = 0) : rsum ((l.filter p).map g) = rsum (l.map g) := by
  induction l with
  | nil => rfl
  | cons x l ih =>
    have ih := ih fun y hy => h y (List.mem_cons_of_mem _ hy)
    rw [List.filter_cons]
    cases hp : p x with
    | true => rw [if_pos rfl, List.map_cons, List.map_cons, rsum_cons, rsum_cons, ih]
    | false => rw [if_neg (by decide), ih, List.map_cons, rsum_cons, h x (List.mem_cons_self ..) hp, Rat.zero_add]
def shareV (b : List Tk) (am : List Int) (k : Int) : Rat := mkRat (gI b k).2.2.1 (gI am (gI b k).2.1).toNat
def wStep (b : List Tk) (cnt : List Bool) (am : List Int) (x : List Rat × List Rat) (k : Int) : List Rat × List Rat :=
  if gI cnt k = true then
    (if (gI b k).2.2.2.1 = 2 then sI x.1 (gI b k).2.2.2.2.1 (gI x.1 (gI b k).2.2.2.2.1 + shareV b am k * gI x.1 (gI b k).2.1) else x.1, sI x.2 k (shareV b am k * gI x.1 (gI b k).2.1))
  else x
def w0 (a : List Bool) (b : List Tk) (am : List Int) : List Rat × List Rat := (sI (repI (a.length : Int) 0) 0 ((gI am 0 : Int) : Rat), repI (b.length : Int) 0)
def tkOrd (a : List Bool) (b : List Tk) : List Int := (fordV a b).flatMap (issued b)
def worthV (a : List Bool) (b : List Tk) (c : List Th) (d : List Lk) (e : List Int) (f : Int) : List Rat × List Rat := (tkOrd a b).foldl (wStep b (cntV a b c d e f) (amV a b c d e f)) (w0 a b (amV a b c d e f))
def brings (b : List Tk) (cnt : List Bool) (c k : Int) (v : Rat) : Rat := if gI cnt k = true ∧ (gI b k).2.2.2.1 = 2 ∧ (gI b k).2.2.2.2.1 = c then v else 0
theorem wStep_len (b : List Tk) (cnt : List Bool) (am : List Int) (x : List Rat × List Rat) (k : Int) : (wStep b cnt am x k).1.length = x.1.length ∧ (wStep b cnt am x k).2.length = x.2.length := by
  unfold wStep
  split
  · simp only
    split <;> simp [sI]
  · exact ⟨rfl, rfl⟩
theorem w_fold {b : List Tk} {cnt : List Bool} {am : List Int} {na nb : Nat} : ∀ (l : List Int) (x : List Rat × List Rat), x.1.length = na → x.2.length = nb → l.Nodup →
    (∀ k ∈ l, (0 ≤ k ∧ k < (nb : Int)) ∧ (0 ≤ (gI b k).2.1 ∧ (gI b k).2.1 < (na : Int)) ∧ ((gI b k).2.2.2.1 = 2 → (0 ≤ (gI b k).2.2.2.2.1 ∧ (gI b k).2.2.2.2.1 < (na : Int)) ∧ (gI b k).2.2.2.2.1 ≠ (gI b k).2.1)) →
    l.Pairwise (fun k j => (gI b j).2.2.2.1 = 2 → (gI b j).2.2.2.2.1 ≠ (gI b k).2.1) →
    (∀ j : Int, 0 ≤ j → j ∉ l → gI (l.foldl (wStep b cnt am) x).2 j = gI x.2 j) ∧
    (∀ c : Int, 0 ≤ c → (∀ k ∈ l, (gI b k).2.2.2.1 = 2 → (gI b k).2.2.2.2.1 ≠ c) → gI (l.foldl (wStep b cnt am) x).1 c = gI x.1 c) ∧
    (∀ c : Int, 0 ≤ c → gI (l.foldl (wStep b cnt am) x).1 c = gI x.1 c + rsum (l.map fun k => brings b cnt c k (gI (l.foldl (wStep b cnt am) x).2 k))) ∧
    (∀ k ∈ l, gI (l.foldl (wStep b cnt am) x).2 k = if gI cnt k = true then shareV b am k * gI (l.foldl (wStep b cnt am) x).1 (gI b k).2.1 else gI x.2 k)
  | [], x, _, _, _, _, _ => ⟨fun _ _ _ => rfl, fun _ _ _ => rfl, fun _ _ => (Rat.add_zero _).symm, fun k hk => (by cases hk)⟩
  | k :: l, x, hx1, hx2, hn, hl, hp => by
    obtain ⟨k1, k2, k3⟩ := hl k (List.mem_cons_self ..)
    obtain ⟨hkn, hn'⟩ := List.nodup_cons.1 hn
    obtain ⟨hpk, hp'⟩ := List.pairwise_cons.1 hp
    obtain ⟨q1, q2⟩ := wStep_len b cnt am x k
    obtain ⟨ia, ib, ic, id⟩ := w_fold (b := b) (cnt := cnt) (am := am) l (wStep b cnt am x k) (q1.trans hx1) (q2.trans hx2) hn' (fun j hj => hl j (List.mem_cons_of_mem _ hj)) hp'
    have eK : ∀ j : Int, 0 ≤ j → gI (wStep b cnt am x k).2 j = if k = j ∧ gI cnt k = true then shareV b am k * gI x.1 (gI b k).2.1 else gI x.2 j := fun j hj => by
      unfold wStep
      by_cases hc : gI cnt k = true
      · rw [if_pos hc]
        simp only
        rw [gI_set (by rw [hx2]; exact k1) hj]
        by_cases h : k = j
        · rw [if_pos h, if_pos ⟨h, hc⟩]
        · rw [if_neg h, if_neg (fun h' => h h'.1)]
      · rw [if_neg hc, if_neg (fun h' => hc h'.2)]
    have eC : ∀ c : Int, 0 ≤ c → gI (wStep b cnt am x k).1 c = gI x.1 c + brings b cnt c k (shareV b am k * gI x.1 (gI b k).2.1) := fun c hc0 => by
      unfold wStep brings
      by_cases hc : gI cnt k = true
      · rw [if_pos hc]
        simp only
        by_cases h2 : (gI b k).2.2.2.1 = 2
        · rw [if_pos h2, gI_set (by rw [hx1]; exact (k3 h2).1) hc0]
          by_cases h : (gI b k).2.2.2.2.1 = c
          · rw [if_pos h, if_pos ⟨hc, h2, h⟩, h]
          · rw [if_neg h, if_neg (fun h' => h h'.2.2), Rat.add_zero]
        · rw [if_neg h2, if_neg (fun h' => h2 h'.2.1), Rat.add_zero]
      · rw [if_neg hc, if_neg (fun h' => hc h'.1), Rat.add_zero]
    have brings_no : ∀ c v, ((gI b k).2.2.2.1 = 2 → (gI b k).2.2.2.2.1 ≠ c) → brings b cnt c k v = 0 := fun c v h => by
      unfold brings
      rw [if_neg (fun h' => h h'.2.1 h'.2.2)]
    rw [List.foldl_cons]
    have hself : gI (l.foldl (wStep b cnt am) (wStep b cnt am x k)).2 k = if gI cnt k = true then shareV b am k * gI x.1 (gI b k).2.1 else gI x.2 k := by
      rw [ia k k1.1 hkn, eK k k1.1]
      by_cases hc : gI cnt k = true
      · rw [if_pos ⟨rfl, hc⟩, if_pos hc]
      · rw [if_neg (fun h => hc h.2), if_neg hc]
    refine ⟨fun j hj hjl => ?_, fun c hc hno => ?_, fun c hc => ?_, fun j hj => ?_⟩
    · have hj' : j ≠ k ∧ j ∉ l := by simpa using hjl
      rw [ia j hj hj'.2, eK j hj, if_neg (fun h => hj'.1 h.1.symm)]
    · rw [ib c hc fun j hj => hno j (List.mem_cons_of_mem _ hj), eC c hc, brings_no c _ (hno k (List.mem_cons_self ..)), Rat.add_zero]
    · rw [ic c hc, eC c hc, List.map_cons, rsum_cons, hself, Rat.add_assoc]
      congr 2
      unfold brings
      by_cases hc : gI cnt k = true
      · rw [if_pos hc]
      · rw [if_neg (fun h => hc h.1), if_neg (fun h => hc h.1)]
    · rcases List.mem_cons.1 hj with rfl | hj
      · rw [hself, ib _ k2.1 fun i hi => hpk i hi, eC _ k2.1, brings_no _ _ fun h => (k3 h).2, Rat.add_zero]
      · rw [id j hj, eK j (hl j (List.mem_cons_of_mem _ hj)).1.1, if_neg (show ¬ (k = j ∧ gI cnt k = true) from fun h => hkn (by rw [h.1]; exact hj))]
section
variable {a : List Bool} {b : List Tk} {c : List Th} {d : List Lk} {e : List Int} {f : Int}
theorem Fine0.tkOrd_suf (H : Fine0 a b c d e f) : ∀ (q p : List Int), fordV a b = p ++ q → (q.flatMap (issued b)).Nodup ∧ (q.flatMap (issued b)).Pairwise (fun k j => (gI b j).2.2.2.1 = 2 → (gI b j).2.2.2.2.1 ≠ (gI b k).2.1) ∧
    ∀ k, k ∈ q.flatMap (issued b) ↔ (0 ≤ k ∧ k < (b.length : Int)) ∧ (gI b k).1 = true ∧ (gI b k).2.1 ∈ q
  | [], _, _ => ⟨List.nodup_nil, List.Pairwise.nil, fun k => by simp⟩
  | x :: q, p, ho => by
    obtain ⟨i1, i2, i3⟩ := H.tkOrd_suf q (p ++ [x]) (by rw [ho]; simp)
    have hn := H.ord_nodup
    rw [ho] at hn
    have hxq : x ∉ q := (List.nodup_cons.1 (List.nodup_append.1 hn).2.1).1
    have hto : ∀ j : Int, (0 ≤ j ∧ j < (b.length : Int)) → (gI b j).1 = true → (gI b j).2.1 ∈ x :: q → (gI b j).2.2.2.1 = 2 → (gI b j).2.2.2.2.1 ≠ x := fun j hj hu hc h2 => (H.ord_to ho hj hu h2 hc).2
    rw [List.flatMap_cons]
    refine ⟨List.nodup_append.2 ⟨issued_nodup, i1, fun k hk j hj h => ?_⟩, List.pairwise_append.2 ⟨?_, i2, fun k hk j hj h2 => ?_⟩, fun k => ?_⟩
    · subst h
      exact hxq ((mem_issued.1 hk).2.2 ▸ ((i3 k).1 hj).2.2)
    · refine List.Pairwise.imp_of_mem (R := fun _ _ => True) (fun {k j} hk hj _ h2 => ?_) (List.pairwise_of_forall fun _ _ => trivial)
      obtain ⟨_, _, k3⟩ := mem_issued.1 hk
      obtain ⟨j1, j2, j3⟩ := mem_issued.1 hj
      rw [k3]
      exact hto j j1 j2 (by rw [j3]; exact List.mem_cons_self ..) h2
    · obtain ⟨_, _, k3⟩ := mem_issued.1 hk
      obtain ⟨j1, j2, j3⟩ := (i3 j).1 hj
      rw [k3]
      exact hto j j1 j2 (List.mem_cons_of_mem _ j3) h2
    · rw [List.mem_append, mem_issued, i3, List.mem_cons]
      constructor
      · rintro (⟨h1, h2, h3⟩ | ⟨h1, h2, h3⟩)
        · exact ⟨h1, h2, .inl h3⟩
        · exact ⟨h1, h2, .inr h3⟩
      · rintro ⟨h1, h2, h3 | h3⟩
        · exact .inl ⟨h1, h2, h3⟩
        · exact .inr ⟨h1, h2, h3⟩
theorem Fine0.tkOrd_mem (H : Fine0 a b c d e f) {k : Int} : k ∈ tkOrd a b ↔ (0 ≤ k ∧ k < (b.length : Int)) ∧ (gI b k).1 = true := by
  have h := (H.tkOrd_suf (fordV a b) [] rfl).2.2 k
  unfold tkOrd
  rw [h]
  exact ⟨fun h => ⟨h.1, h.2.1⟩, fun h => ⟨h.1, h.2, H.ord_mem.2 (H.tk h.1 h.2).coin⟩⟩
theorem Fine0.tkOrd_nodup (H : Fine0 a b c d e f) : (tkOrd a b).Nodup := (H.tkOrd_suf (fordV a b) [] rfl).1
theorem Fine0.tkOrd_hyp (H : Fine0 a b c d e f) : ∀ k ∈ tkOrd a b, (0 ≤ k ∧ k < (b.length : Int)) ∧ (0 ≤ (gI b k).2.1 ∧ (gI b k).2.1 < (a.length : Int)) ∧ ((gI b k).2.2.2.1 = 2 → (0 ≤ (gI b k).2.2.2.2.1 ∧ (gI b k).2.2.2.2.1 < (a.length : Int)) ∧ (gI b k).2.2.2.2.1 ≠ (gI b k).2.1) := fun k hk => by
  obtain ⟨k1, k2⟩ := H.tkOrd_mem.1 hk
  have ht := H.tk k1 k2
  refine ⟨k1, usC_in ht.coin, fun h2 => ?_⟩
  have h4 : usC a (gI b k).2.2.2.2.1 = true := by
    rcases ht.to with h | h | h
    · omega
    · omega
    · exact h.2.2
  refine ⟨usC_in h4, ?_⟩
  obtain ⟨p, q, ho⟩ := List.append_of_mem (H.ord_mem.2 ht.coin)
  exact (H.ord_to ho k1 k2 h2 (List.mem_cons_self ..)).2
theorem w0_len : (w0 a b (amV a b c d e f)).1.length = a.length ∧ (w0 a b (amV a b c d e f)).2.length = b.length := by simp [w0, sI, repI]
theorem Fine0.worth (H : Fine0 a b c d e f) :
    (∀ c', 0 ≤ c' ∧ c' < (a.length : Int) → gI (worthV a b c d e f).1 c' = (if c' = 0 then ((gI (amV a b c d e f) 0 : Int) : Rat) else 0) + rsum ((tkOrd a b).map fun k => brings b (cntV a b c d e f) c' k (gI (worthV a b c d e f).2 k))) ∧
    (∀ k, 0 ≤ k ∧ k < (b.length : Int) → gI (worthV a b c d e f).2 k = if gI (cntV a b c d e f) k = true then shareV b (amV a b c d e f) k * gI (worthV a b c d e f).1 (gI b k).2.1 else 0) := by
  obtain ⟨q1, q2⟩ := w0_len (a := a) (b := b) (c := c) (d := d) (e := e) (f := f)
  obtain ⟨ia, ib, ic, id⟩ := w_fold (b := b) (cnt := cntV a b c d e f) (am := amV a b c d e f) (tkOrd a b) (w0 a b (amV a b c d e f)) q1 q2 H.tkOrd_nodup H.tkOrd_hyp (H.tkOrd_suf (fordV a b) [] rfl).2.1
  have hc := H.coins
  refine ⟨fun c' hc' => ?_, fun k hk => ?_⟩
  · unfold worthV
    rw [ic c' hc'.1]
    congr 1
    unfold w0
    simp only
    rw [gI_set (by simp [repI]; omega) hc'.1, gI_rep hc']
    by_cases h : c' = 0
    · rw [if_pos h.symm, if_pos h]
    · rw [if_neg (fun h' => h h'.symm), if_neg h]
  · have h0 : gI (w0 a b (amV a b c d e f)).2 k = 0 := by
      unfold w0
      exact gI_rep hk
    unfold worthV
    by_cases hu : (gI b k).1 = true
    · rw [id k (H.tkOrd_mem.2 ⟨hk, hu⟩), h0]
    · rw [ia k hk.1 (fun h => hu (H.tkOrd_mem.1 h).2), h0, if_neg (fun h => hu (H.cnt_used hk h))]
theorem wFold_len {cnt : List Bool} {am : List Int} : ∀ (l : List Int) (x : List Rat × List Rat), (l.foldl (wStep b cnt am) x).1.length = x.1.length ∧ (l.foldl (wStep b cnt am) x).2.length = x.2.length
  | [], _ => ⟨rfl, rfl⟩
  | k :: l, x => by
    obtain ⟨h1, h2⟩ := wStep_len b cnt am x k
    obtain ⟨h3, h4⟩ := wFold_len (cnt := cnt) (am := am) l (wStep b cnt am x k)
    exact ⟨h3.trans h1, h4.trans h2⟩
theorem worthV_len : (worthV a b c d e f).1.length = a.length ∧ (worthV a b c d e f).2.length = b.length := by
  obtain ⟨q1, q2⟩ := w0_len (a := a) (b := b) (c := c) (d := d) (e := e) (f := f)
  obtain ⟨h1, h2⟩ := wFold_len (b := b) (cnt := cntV a b c d e f) (am := amV a b c d e f) (tkOrd a b) (w0 a b (amV a b c d e f))
  exact ⟨h1.trans q1, h2.trans q2⟩
theorem Fine0.worthC (H : Fine0 a b c d e f) {c' : Int} (hc' : 0 ≤ c' ∧ c' < (a.length : Int)) (h0 : c' ≠ 0) : gI (worthV a b c d e f).1 c' = rsum ((tksOf b 1 c').map fun k => gI (worthV a b c d e f).2 k) := by
  have hz : ∀ k, 0 ≤ k ∧ k < (b.length : Int) → gI (cntV a b c d e f) k = false → gI (worthV a b c d e f).2 k = 0 := fun k hk h => by rw [H.worth.2 k hk, h]; rfl
  rw [H.worth.1 c' hc', if_neg h0, Rat.zero_add]
  have h1 : (tkOrd a b).map (fun k => brings b (cntV a b c d e f) c' k (gI (worthV a b c d e f).2 k)) = (tkOrd a b).map fun k => if isOf b 1 c' k = true then gI (worthV a b c d e f).2 k else 0 := by
    refine List.map_congr_left fun k hk => ?_
    obtain ⟨k1, k2⟩ := H.tkOrd_mem.1 hk
    unfold brings isOf
    rw [k2]
    by_cases hc : gI (cntV a b c d e f) k = true
    · by_cases h2 : (gI b k).2.2.2.1 = 2
      · by_cases h3 : (gI b k).2.2.2.2.1 = c'
        · rw [if_pos ⟨hc, h2, h3⟩, if_pos (by simp [h2, h3])]
        · rw [if_neg (fun h => h3 h.2.2), if_neg (by simp [h3])]
      · rw [if_neg (fun h => h2 h.2.1), if_neg (by simp [h2])]
    · rw [if_neg (fun h => hc h.1), hz k k1 (Bool.eq_false_iff.2 hc)]
      split <;> rfl
  have h2 : rsum ((tkOrd a b).map fun k => if isOf b 1 c' k = true then gI (worthV a b c d e f).2 k else 0) = rsum (((tkOrd a b).filter (isOf b 1 c')).map fun k => gI (worthV a b c d e f).2 k) := by
    rw [← rsum_filter (l := tkOrd a b) (p := isOf b 1 c') (g := fun k => if isOf b 1 c' k = true then gI (worthV a b c d e f).2 k else 0) (fun k _ h => by rw [if_neg (by rw [h]; decide)])]
    congr 1
    refine List.map_congr_left fun k hk => ?_
    rw [if_pos (List.mem_filter.1 hk).2]
  rw [h1, h2]
  refine rsum_perm (List.Perm.map _ ?_)
  refine (List.perm_ext_iff_of_nodup (H.tkOrd_nodup.sublist List.filter_sublist) ((nodup_map_nat List.nodup_range).sublist List.filter_sublist)).2 fun k => ?_
  rw [List.mem_filter, List.mem_filter, H.tkOrd_mem, List.mem_map]
  constructor
  · rintro ⟨⟨h3, h4⟩, h5⟩
    obtain ⟨j, rfl⟩ := Int.eq_ofNat_of_zero_le h3.1
    exact ⟨⟨j, List.mem_range.2 (by omega), rfl⟩, h5⟩
  · rintro ⟨⟨j, h3, rfl⟩, h5⟩
    refine ⟨⟨by have := List.mem_range.1 h3; omega, ?_⟩, h5⟩
    unfold isOf at h5
    rw [Bool.and_eq_true] at h5
    exact h5.1
theorem Fine0.worth0 (H : Fine0 a b c d e f) : gI (worthV a b c d e f).1 0 = ((gI (amV a b c d e f) 0 : Int) : Rat) := by
  have hc := H.coins
  rw [H.worth.1 0 (by omega), if_pos rfl]
  have : (tkOrd a b).map (fun k => brings b (cntV a b c d e f) 0 k (gI (worthV a b c d e f).2 k)) = (tkOrd a b).map fun _ => (0 : Rat) := by
    refine List.map_congr_left fun k hk => ?_
    obtain ⟨k1, k2⟩ := H.tkOrd_mem.1 hk
    unfold brings
    rw [if_neg]
    rintro ⟨_, h2, h3⟩
    rcases (H.tk k1 k2).to with h | h | h
    · omega
    · omega
    · exact h.2.1 h3
  rw [this]
  have : ∀ l : List Int, rsum (l.map fun _ => (0 : Rat)) = 0 := fun l => by
    induction l with
    | nil => rfl
    | cons x l ih => rw [List.map_cons, rsum_cons, ih]; exact Rat.add_zero 0
  rw [this, Rat.add_zero]
end
def nb (b : List Tk) : List Int → Nat → Nat
  | [], n => n
  | k :: l, n => nb b l (if (gI b k).2.2.2.1 = 2 then 2 * n + 29 else n)
theorem nb_le (b : List Tk) : ∀ (l : List Int) (n : Nat), n ≤ nb b l n
  | [], _ => Nat.le_refl _
  | k :: l, n => by
    unfold nb
    have := nb_le b l (if (gI b k).2.2.2.1 = 2 then 2 * n + 29 else n)
    split at this <;> split <;> omega
theorem nb_eq (b : List Tk) : ∀ (l : List Int) (n : Nat), nb b l n + 29 = (n + 29) * 2 ^ (l.filter fun k => (gI b k).2.2.2.1 == 2).length
  | [], _ => by simp [nb]
  | k :: l, n => by
    unfold nb
    rw [nb_eq b l, List.filter_cons]
    by_cases h : (gI b k).2.2.2.1 = 2
    · rw [if_pos h, if_pos (by simpa using h), List.length_cons, Nat.pow_succ]
      have : 2 * n + 29 + 29 = (n + 29) * 2 := by omega
      rw [this, Nat.mul_assoc, Nat.mul_comm 2]
    · rw [if_neg h, if_neg (by simpa using h)]
theorem nb_append (b : List Tk) : ∀ (l m : List Int) (n : Nat), nb b (l ++ m) n = nb b m (nb b l n)
  | [], _, _ => rfl
  | k :: l, m, n => by
    show nb b (l ++ m) (if (gI b k).2.2.2.1 = 2 then 2 * n + 29 else n) = nb b m (nb b l (if (gI b k).2.2.2.1 = 2 then 2 * n + 29 else n))
    exact nb_append b l m _
theorem cnt2_eq (b : List Tk) : cnt2 b = (((List.range b.length).map fun (k : Nat) => (k : Int)).filter fun k => (gI b k).2.2.2.1 == 2).length := by
  unfold cnt2
  have : b = ((List.range b.length).map fun (k : Nat) => (k : Int)).map (gI b) := by
    apply List.ext_getElem
    · simp
    · intro i h1 h2
      simp only [List.getElem_map, List.getElem_range]
      rw [gI_lt h1]
  conv => lhs; rw [this, List.filter_map]
  rw [List.length_map]
  rfl
theorem Fine0.nb_ord {a : List Bool} {b : List Tk} {c : List Th} {d : List Lk} {e : List Int} {f : Int} (H : Fine0 a b c d e f) (h8 : cnt2 b ≤ 8) {n : Nat} (hn : n ≤ 71) : nb b (tkOrd a b) n ≤ 25600 := by
  have h1 := nb_eq b (tkOrd a b) n
  have h2 : ((tkOrd a b).filter fun k => (gI b k).2.2.2.1 == 2).length ≤ cnt2 b := by
    rw [cnt2_eq]
    refine List.Nodup.length_le_of_subset (H.tkOrd_nodup.sublist List.filter_sublist) fun k hk => ?_
    obtain ⟨h3, h4⟩ := List.mem_filter.1 hk
    obtain ⟨h5, _⟩ := H.tkOrd_mem.1 h3
    obtain ⟨j, rfl⟩ := Int.eq_ofNat_of_zero_le h5.1
    exact List.mem_filter.2 ⟨List.mem_map.2 ⟨j, List.mem_range.2 (by omega), rfl⟩, h4⟩
  have h3 : 2 ^ ((tkOrd a b).filter fun k => (gI b k).2.2.2.1 == 2).length ≤ 2 ^ 8 := Nat.pow_le_pow_right (by decide) (Nat.le_trans h2 h8)
  have h4 := Nat.mul_le_mul (show n + 29 ≤ 100 by omega) h3
  omega
structure WB (n : Nat) (x : List Rat × List Rat) : Prop where
  c : ∀ q ∈ x.1, 0 ≤ q ∧ sm n q
  k : ∀ q ∈ x.2, 0 ≤ q ∧ sm (n + 28) q
theorem mem_sI {α : Type} {xs : List α} {i : Int} {y z : α} (h : z ∈ sI xs i y) : z = y ∨ z ∈ xs := by
  unfold sI at h
  exact (List.mem_or_eq_of_mem_set h).symm
theorem share_sm {a : List Bool} {b : List Tk} {c : List Th} {d : List Lk} {e : List Int} {f : Int} (H : Fine0 a b c d e f) {k : Int} (hk : 0 ≤ k ∧ k < (b.length : Int)) (h : gI (cntV a b c d e f) k = true) :
    0 ≤ shareV b (amV a b c d e f) k ∧ sm 28 (shareV b (amV a b c d e f) k) ∧ (gI (amV a b c d e f) (gI b k).2.1).toNat ≠ 0 := by
  have hu := H.cnt_used hk h
  have ht := H.tk hk hu
  have hw := H.awake hk h
  have hb := H.am_bound (usC_in ht.coin)
  have ha := ht.amt
  have hd : (gI (amV a b c d e f) (gI b k).2.1).toNat ≠ 0 := by omega
  unfold shareV
  obtain ⟨m, hm⟩ := Int.eq_ofNat_of_zero_le (show 0 ≤ (gI b k).2.2.1 by omega)
  rw [hm]
  exact ⟨mkRat_nonneg _ _, sm_mkRat hd (by omega) (by omega), hd⟩
theorem wb_step {a : List Bool} {b : List Tk} {c : List Th} {d : List Lk} {e : List Int} {f : Int} (H : Fine0 a b c d e f) {k : Int} (hk : 0 ≤ k ∧ k < (b.length : Int)) (hu : (gI b k).1 = true) {n : Nat} {x : List Rat × List Rat} (hx : x.1.length = a.length) (W : WB n x) :
    WB (if (gI b k).2.2.2.1 = 2 then 2 * n + 29 else n) (wStep b (cntV a b c d e f) (amV a b c d e f) x k) := by
  have W' : WB (if (gI b k).2.2.2.1 = 2 then 2 * n + 29 else n) x := by
    split
    · exact ⟨fun q hq => ⟨(W.c q hq).1, sm_mono (by omega) (W.c q hq).2⟩, fun q hq => ⟨(W.k q hq).1, sm_mono (by omega) (W.k q hq).2⟩⟩
    · exact W
  unfold wStep
  by_cases hc : gI (cntV a b c d e f) k = true
  · rw [if_pos hc]
    obtain ⟨s1, s2, _⟩ := share_sm H hk hc
    have ht := H.tk hk hu
    have hcm := W.c _ (gI_mem (xs := x.1) (k := (gI b k).2.1) (by rw [hx]; exact usC_in ht.coin))
    have v0 := Rat.mul_nonneg s1 hcm.1
    have v1 := sm_mul s1 hcm.1 s2 hcm.2
    refine ⟨fun q hq => ?_, fun q hq => ?_⟩
    · simp only at hq
      split at hq
      · rename_i h2
        rw [if_pos h2]
        have h4 : usC a (gI b k).2.2.2.2.1 = true := by
          rcases ht.to with h | h | h
          · omega
          · omega
          · exact h.2.2
        have hct := W.c _ (gI_mem (xs := x.1) (k := (gI b k).2.2.2.2.1) (by rw [hx]; exact usC_in h4))
        rcases mem_sI hq with rfl | hq
        · exact ⟨Rat.add_nonneg hct.1 v0, sm_mono (by omega) (sm_add hct.1 v0 hct.2 v1)⟩
        · exact ⟨(W.c q hq).1, sm_mono (by omega) (W.c q hq).2⟩
      · exact W'.c q hq
    · rcases mem_sI hq with rfl | hq
      · refine ⟨v0, sm_mono ?_ v1⟩
        split <;> omega
      · exact W'.k q hq
  · rw [if_neg hc]; exact W'
theorem wb_fold {a : List Bool} {b : List Tk} {c : List Th} {d : List Lk} {e : List Int} {f : Int} (H : Fine0 a b c d e f) : ∀ (l : List Int) (n : Nat) (x : List Rat × List Rat), (∀ k ∈ l, (0 ≤ k ∧ k < (b.length : Int)) ∧ (gI b k).1 = true) → x.1.length = a.length → WB n x →
    WB (nb b l n) (l.foldl (wStep b (cntV a b c d e f) (amV a b c d e f)) x)
  | [], _, _, _, _, W => W
  | k :: l, n, x, hl, hx, W => by
    obtain ⟨k1, k2⟩ := hl k (List.mem_cons_self ..)
    exact wb_fold H l _ _ (fun j hj => hl j (List.mem_cons_of_mem _ hj)) ((wStep_len ..).1.trans hx) (wb_step H k1 k2 hx W)
theorem sm_zero (n : Nat) (h : 1 ≤ n) : sm n 0 := by
  have : 2 ^ 1 ≤ 2 ^ n := Nat.pow_le_pow_right (by decide) h
  exact ⟨by simp; omega, by simp; omega⟩
theorem sm_int {m : Int} (h : 0 ≤ m ∧ m < 268435456) : 0 ≤ (m : Rat) ∧ sm 28 (m : Rat) := by
  obtain ⟨j, rfl⟩ := Int.eq_ofNat_of_zero_le h.1
  refine ⟨?_, ?_, ?_⟩
  · rw [← Rat.num_nonneg]
    simp
  · simp; omega
  · simp
theorem Fine0.wb0 {a : List Bool} {b : List Tk} {c : List Th} {d : List Lk} {e : List Int} {f : Int} (H : Fine0 a b c d e f) : WB 71 (w0 a b (amV a b c d e f)) := by
  have hc := H.coins
  have hb := H.am_bound (x := 0) (by omega)
  obtain ⟨h1, h2⟩ := sm_int (m := gI (amV a b c d e f) 0) (by omega)
  refine ⟨fun q hq => ?_, fun q hq => ?_⟩
  · rcases mem_sI hq with rfl | hq
    · exact ⟨h1, sm_mono (by decide) h2⟩
    · rw [(List.mem_replicate.1 hq).2]
      exact ⟨by decide, sm_zero _ (by decide)⟩
  · rw [(List.mem_replicate.1 hq).2]
    exact ⟨by decide, sm_zero _ (by decide)⟩
theorem Fine0.wb {a : List Bool} {b : List Tk} {c : List Th} {d : List Lk} {e : List Int} {f : Int} (H : Fine0 a b c d e f) (h8 : cnt2 b ≤ 8) : WB 25600 (worthV a b c d e f) := by
  have h := wb_fold H (tkOrd a b) 71 (w0 a b (amV a b c d e f)) (fun k hk => H.tkOrd_mem.1 hk) w0_len.1 H.wb0
  have hn := H.nb_ord h8 (n := 71) (by decide)
  exact ⟨fun q hq => ⟨(h.c q hq).1, sm_mono hn (h.c q hq).2⟩, fun q hq => ⟨(h.k q hq).1, sm_mono (by omega) (h.k q hq).2⟩⟩
end Go.Proofs.YtlfdidaeachpoaaGreat

namespace Go.Proofs.YtlfdidaeachpoaaGreat
open Go Go.RowKit
set_option maxRecDepth 100000
noncomputable section
theorem pe {α β : Type} (p : α × β) : (p.1, p.2) = p := rfl
theorem gI_map {α β : Type} [Inhabited α] [Inhabited β] (g : α → β) {xs : List α} {i : Int} (h : 0 ≤ i ∧ i < (xs.length : Int)) : gI (xs.map g) i = g (gI xs i) := by
  obtain ⟨j, rfl⟩ := Int.eq_ofNat_of_zero_le h.1
  have hj : j < xs.length := by omega
  rw [gI_lt (by simpa using hj), gI_lt hj, List.getElem_map]
theorem sI_map {α β : Type} (g : α → β) (xs : List α) (i : Int) (y : α) : sI (xs.map g) i (g y) = (sI xs i y).map g := by
  unfold sI; rw [List.map_set]
theorem rep_set {α : Type} (i n : Nat) (z z0 : α) : (List.replicate i z ++ List.replicate (n + 1) z0).set i z = List.replicate (i + 1) z ++ List.replicate n z0 := by
  rw [List.set_append, if_neg (by simp), List.length_replicate, Nat.sub_self, List.replicate_succ, List.set_cons_zero, List.replicate_succ', List.append_assoc]
  rfl
theorem zero_a (m : Nat) (hm : m ≤ 1000000) : ∀ (n i : Nat), i + n = m → lo worth_reckon_b122 (m : Int) ((i : Int), List.replicate i (rq 0) ++ List.replicate n ([], [])) = some (List.replicate m (rq 0))
  | 0, i, h => by
    rw [lo_eq, worth_reckon_b122]
    simp only [RT.run]
    rw [if_neg (by simp; omega), show i = m by omega]
    simp
  | n + 1, i, h => by
    rw [lo_eq, worth_reckon_b122]
    simp only [RT.run]
    rw [if_pos (by simp; omega), if_pos (inB_iff.2 ⟨by omega, by simp; omega⟩), w64_in (by omega), show (i : Int) + 1 = ((i + 1 : Nat) : Int) by omega, ← rq_zero, sI, Int.toNat_natCast, rep_set, zero_a m hm n (i + 1) (by omega)]
theorem zero_b (m : Nat) (hm : m ≤ 1000000) : ∀ (n i : Nat), i + n = m → lo worth_reckon_b250 (m : Int) ((i : Int), List.replicate i (rq 0) ++ List.replicate n ([], [])) = some (List.replicate m (rq 0))
  | 0, i, h => by
    rw [lo_eq, worth_reckon_b250]
    simp only [RT.run]
    rw [if_neg (by simp; omega), show i = m by omega]
    simp
  | n + 1, i, h => by
    rw [lo_eq, worth_reckon_b250]
    simp only [RT.run]
    rw [if_pos (by simp; omega), if_pos (inB_iff.2 ⟨by omega, by simp; omega⟩), w64_in (by omega), show (i : Int) + 1 = ((i + 1 : Nat) : Int) by omega, ← rq_zero, sI, Int.toNat_natCast, rep_set, zero_b m hm n (i + 1) (by omega)]
theorem rq_len {q : Rat} {n : Nat} (h : sm n q) : (rq q).1.length ≤ n ∧ (rq q).2.length ≤ n := ⟨digs_len2 (by decide) h.1, digs_len2 (by decide) h.2⟩
theorem okS2 {p q : Rat} {n m : Nat} (hp : sm n p) (hq : sm m q) (hn : n ≤ 4000000) (hm : m ≤ 4000000) : okS [rq p, rq q] = true := by
  obtain ⟨p1, p2⟩ := rq_len hp
  obtain ⟨q1, q2⟩ := rq_len hq
  rw [okS_iff]
  refine ⟨by simp, fun x hx => ?_, by simp [szS]; omega⟩
  simp only [List.mem_cons, List.not_mem_nil, or_false] at hx
  rcases hx with rfl | rfl
  · exact okr_rq hp (by omega)
  · exact okr_rq hq (by omega)
theorem prodQ2 {p q : Rat} (hp : 0 ≤ p) (hq : 0 ≤ q) : prodQ [rq p, rq q] = p * q := by
  simp only [prodQ, List.foldl_cons, List.foldl_nil, toQ_rq hp, toQ_rq hq, Rat.one_mul]
theorem sumQ2 {p q : Rat} (hp : 0 ≤ p) (hq : 0 ≤ q) : sumQ [rq p, rq q] = p + q := by
  simp only [sumQ, List.foldl_cons, List.foldl_nil, toQ_rq hp, toQ_rq hq, Rat.zero_add]
theorem mkR_rq {n d : Nat} (hd : d ≠ 0) : mkR n d = (true, rq (mkRat (n : Int) d)) := by unfold mkR; rw [if_neg hd]
section
variable {a : List Bool} {b : List Tk} {c : List Th} {d : List Lk} {e : List Int} {f : Int}
theorem w_inner (H : Fine0 a b c d e f) {x0 : Int} (hx0 : usC a x0 = true) : ∀ (m i n : Nat) (x : List Rat × List Rat), i + m = (issued b x0).length → x.1.length = a.length → x.2.length = b.length → WB n x → nb b ((issued b x0).drop i) n ≤ 25600 →
    lo worth_reckon_b260710 (x0, ((issued b x0).length : Int), b, cntV a b c d e f, amV a b c d e f, issued b x0) ((i : Int), x.1.map rq, x.2.map rq) =
      some ((((issued b x0).drop i).foldl (wStep b (cntV a b c d e f) (amV a b c d e f)) x).1.map rq, (((issued b x0).drop i).foldl (wStep b (cntV a b c d e f) (amV a b c d e f)) x).2.map rq)
  | 0, i, n, x, h, _, _, _, _ => by
    rw [lo_eq, worth_reckon_b260710]
    simp only [RT.run]
    rw [if_neg (by simp; omega), List.drop_eq_nil_of_le (by omega)]
    rfl
  | m + 1, i, n, x, h, h1, h2, W, hb => by
    have hlb := H.lenB
    have hil := issued_len b x0
    have hi : i < (issued b x0).length := by omega
    obtain ⟨k1, k2, k3⟩ := mem_issued.1 (List.getElem_mem hi)
    have hgk : gI (issued b x0) (i : Int) = (issued b x0)[i] := gI_lt hi
    rw [List.drop_eq_getElem_cons hi] at hb
    rw [List.drop_eq_getElem_cons hi, List.foldl_cons]
    generalize (issued b x0)[i] = k at *
    obtain ⟨l1, l2⟩ := H.len
    have ht := H.tk k1 k2
    have hcn : inB (cntV a b c d e f) k = true := inB_iff.2 (by rw [l1]; exact k1)
    have hxc := usC_in hx0
    have ham : inB (amV a b c d e f) x0 = true := inB_iff.2 (by rw [l2]; exact hxc)
    have hb' := nb_le b ((issued b x0).drop (i + 1)) (if (gI b k).2.2.2.1 = 2 then 2 * n + 29 else n)
    have hb2 : nb b ((issued b x0).drop (i + 1)) (if (gI b k).2.2.2.1 = 2 then 2 * n + 29 else n) ≤ 25600 := hb
    have hn : n ≤ 25600 := by
      split at hb' <;> split at hb2 <;> omega
    obtain ⟨s1, s2⟩ := wStep_len b (cntV a b c d e f) (amV a b c d e f) x k
    have ih := w_inner H hx0 m (i + 1) _ (wStep b (cntV a b c d e f) (amV a b c d e f) x k) (by omega) (s1.trans h1) (s2.trans h2) (wb_step H k1 k2 h1 W) hb
    rw [lo_eq, worth_reckon_b260710]
    simp only [RT.run, hgk]
    rw [if_pos (by simp; omega), if_pos (inB_iff.2 ⟨by omega, by omega⟩), if_pos hcn, w64_in (by omega), show (i : Int) + 1 = ((i + 1 : Nat) : Int) by omega]
    cases hc : gI (cntV a b c d e f) k with
    | false =>
      rw [if_pos (by decide)]
      have hw : wStep b (cntV a b c d e f) (amV a b c d e f) x k = x := by unfold wStep; rw [if_neg (by rw [hc]; decide)]
      rw [hw] at ih
      rw [hw, ih]
    | true =>
      obtain ⟨v0, v1, v2⟩ := share_sm H k1 hc
      rw [k3] at v2
      have hcx := W.c _ (gI_mem (xs := x.1) (k := x0) (by rw [h1]; exact hxc))
      have hamt := ht.amt
      have hab := H.am_bound hxc
      have e1 : mkR (wu64 (gI b k).2.2.1).toNat (wu64 (gI (amV a b c d e f) x0)).toNat = (true, rq (shareV b (amV a b c d e f) k)) := by
        rw [wu64_in (by omega), wu64_in (by omega), mkR_rq v2]
        unfold shareV
        rw [k3, Int.toNat_of_nonneg (by omega)]
      have e2 : gI (x.1.map rq) x0 = rq (gI x.1 x0) := gI_map rq (by rw [h1]; exact hxc)
      have in1 : inB (x.1.map rq) x0 = true := inB_iff.2 (by simp only [List.length_map]; rw [h1]; exact hxc)
      have in2 : inB (x.2.map rq) k = true := inB_iff.2 (by simp only [List.length_map]; rw [h2]; exact k1)
      have vv0 := Rat.mul_nonneg v0 hcx.1
      have vv1 := sm_mul v0 hcx.1 v1 hcx.2
      rw [if_neg (by decide), if_pos (inB_iff.2 k1), if_pos ham, if_pos in1]
      simp only [e1, e2, pe]
      rw [okS2 v1 hcx.2 (by omega) (by omega), prodQ2 v0 hcx.1, if_pos rfl, if_pos in2, sI_map]
      have hw : wStep b (cntV a b c d e f) (amV a b c d e f) x k = (if (gI b k).2.2.2.1 = 2 then sI x.1 (gI b k).2.2.2.2.1 (gI x.1 (gI b k).2.2.2.2.1 + shareV b (amV a b c d e f) k * gI x.1 x0) else x.1, sI x.2 k (shareV b (amV a b c d e f) k * gI x.1 x0)) := by
        unfold wStep
        rw [if_pos hc, k3]
      by_cases h2k : (gI b k).2.2.2.1 = 2
      · have h4 : usC a (gI b k).2.2.2.2.1 = true := by
          rcases ht.to with h | h | h
          · omega
          · omega
          · exact h.2.2
        have hto := usC_in h4
        have in3 : inB (x.1.map rq) (gI b k).2.2.2.2.1 = true := inB_iff.2 (by simp only [List.length_map]; rw [h1]; exact hto)
        have in4 : inB ((sI x.2 k (shareV b (amV a b c d e f) k * gI x.1 x0)).map rq) k = true := inB_iff.2 (by simp only [List.length_map, sI_len]; rw [h2]; exact k1)
        have e3 : gI (x.1.map rq) (gI b k).2.2.2.2.1 = rq (gI x.1 (gI b k).2.2.2.2.1) := gI_map rq (by rw [h1]; exact hto)
        have e4 : gI ((sI x.2 k (shareV b (amV a b c d e f) k * gI x.1 x0)).map rq) k = rq (shareV b (amV a b c d e f) k * gI x.1 x0) := by
          rw [gI_map rq (by rw [sI_len, h2]; exact k1), gI_set (by rw [h2]; exact k1) k1.1, if_pos rfl]
        have hct := W.c _ (gI_mem (xs := x.1) (k := (gI b k).2.2.2.2.1) (by rw [h1]; exact hto))
        rw [if_pos (by simpa using h2k), if_pos in3, if_pos in4]
        simp only [e3, e4, pe]
        rw [okS2 hct.2 vv1 (by omega) (by omega), sumQ2 hct.1 vv0, if_pos rfl, if_pos in3, sI_map]
        rw [hw, if_pos h2k] at ih
        rw [hw, if_pos h2k]
        exact ih
      · rw [if_neg (by simpa using h2k)]
        rw [hw, if_neg h2k] at ih
        rw [hw, if_neg h2k]
        exact ih
theorem w_outer (H : Fine0 a b c d e f) : ∀ (m i n : Nat) (x : List Rat × List Rat), i + m = (fordV a b).length → x.1.length = a.length → x.2.length = b.length → WB n x → nb b (((fordV a b).drop i).flatMap (issued b)) n ≤ 25600 →
    lo worth_reckon_b1018 (fordV a b, ((fordV a b).length : Int), a, b, c, d, e, f, cntV a b c d e f, amV a b c d e f) ((i : Int), x.1.map rq, x.2.map rq) =
      some (((((fordV a b).drop i).flatMap (issued b)).foldl (wStep b (cntV a b c d e f) (amV a b c d e f)) x).1.map rq, ((((fordV a b).drop i).flatMap (issued b)).foldl (wStep b (cntV a b c d e f) (amV a b c d e f)) x).2.map rq)
  | 0, i, n, x, h, _, _, _, _ => by
    rw [lo_eq, worth_reckon_b1018]
    simp only [RT.run]
    rw [if_neg (by simp; omega), List.drop_eq_nil_of_le (by omega)]
    rfl
  | m + 1, i, n, x, h, h1, h2, W, hb => by
    have hlb := H.lenB
    have hi : i < (fordV a b).length := by omega
    have hol : (fordV a b).length ≤ 16 := by
      have := kahn_len a.length (coinArr b)
      have h3 : (fordV a b).length ≤ (ordV a.length (coinArr b)).2.length := List.length_filter_le ..
      have := H.coins
      omega
    have hus := H.ord_mem.1 (List.getElem_mem hi)
    have hgk : gI (fordV a b) (i : Int) = (fordV a b)[i] := gI_lt hi
    rw [List.drop_eq_getElem_cons hi, List.flatMap_cons, nb_append] at hb
    rw [List.drop_eq_getElem_cons hi, List.flatMap_cons, List.foldl_append]
    generalize (fordV a b)[i] = x0 at *
    obtain ⟨s1, s2⟩ := wFold_len (b := b) (cnt := cntV a b c d e f) (am := amV a b c d e f) (issued b x0) x
    have hin := w_inner H hus (issued b x0).length 0 n x (by omega) h1 h2 W (by rw [List.drop_zero]; exact Nat.le_trans (nb_le b _ _) hb)
    rw [List.drop_zero, show ((0 : Nat) : Int) = 0 from rfl] at hin
    have ih := w_outer H m (i + 1) _ _ (by omega) (s1.trans h1) (s2.trans h2) (wb_fold H (issued b x0) n x (fun k hk => by
      obtain ⟨k1, k2, _⟩ := mem_issued.1 hk
      exact ⟨k1, k2⟩) h1 W) hb
    rw [lo_eq, worth_reckon_b1018]
    simp only [RT.run, hgk]
    rw [if_pos (by simp; omega), if_pos (inB_iff.2 ⟨by omega, by omega⟩), if_pos (decide_eq_true (by omega)), hin, Option.bind_some, w64_in (by omega), show (i : Int) + 1 = ((i + 1 : Nat) : Int) by omega]
    exact ih
end
def wOK (a : List Bool) (b : List Tk) (c : List Th) (d : List Lk) (e : List Int) (f : Int) : Bool := fineV a b c d e f && decide (cnt2 b ≤ 8)
theorem wOK_iff {a : List Bool} {b : List Tk} {c : List Th} {d : List Lk} {e : List Int} {f : Int} (h : wOK a b c d e f = true) : Fine0 a b c d e f ∧ cnt2 b ≤ 8 := by
  unfold wOK at h
  rw [Bool.and_eq_true, decide_eq_true_eq] at h
  exact ⟨fine0 h.1, h.2⟩
def e_worth_reckon : Entry := io_worth_reckon.sp (fun (a, b, c, d, e, f) => (wOK a b c d e f)) (fun (a, b, c, d, e, f) => ((worthV a b c d e f).1.map rq, (worthV a b c d e f).2.map rq))
theorem sp_worth_reckon (h : ∀ (a : List Bool) (b : List Tk) (c : List Th) (d : List Lk) (e : List Int) (f : Int), WfT [.sl tB, .sl yK, .sl yH, .sl yL, .sl tI, tI] (a, b, c, d, e, f) → ((wOK a b c d e f)) = true → (worth_reckon (a, b, c, d, e, f)).run (fun _ => none) = some ((worthV a b c d e f).1.map rq, (worthV a b c d e f).2.map rq)) : e_worth_reckon.ok pg := sp_ok ok_worth_reckon fun (a, b, c, d, e, f) hw hc => h a b c d e f hw hc
theorem e_worth_reckon_ok : e_worth_reckon.ok pg := sp_worth_reckon fun a b c d e f _ hc => by
  obtain ⟨H, h8⟩ := wOK_iff hc
  have hlb := H.lenB
  have hca := H.coins
  obtain ⟨l1, l2⟩ := H.len
  have za := zero_a a.length (by omega) a.length 0 (by omega)
  have zb := zero_b b.length (by omega) b.length 0 (by omega)
  rw [List.replicate_zero, List.nil_append, show ((0 : Nat) : Int) = 0 from rfl] at za zb
  have ab := H.am_bound (x := 0) (by omega)
  rw [worth_reckon]
  simp only [RT.run]
  have hra : ∀ n : Nat, (repI (n : Int) (([] : List Int), ([] : List Int))) = List.replicate n ([], []) := fun n => by unfold repI; rw [Int.toNat_natCast]
  rw [if_pos H.reckOK, if_pos H.reckOK, if_pos (mkOK_iff.2 ⟨by omega, by omega, by omega⟩), if_pos (mkOK_iff.2 ⟨by omega, by omega, by omega⟩), hra, hra, List.length_replicate, List.length_replicate, za, Option.bind_some, zb, Option.bind_some]
  show (if inB (amV a b c d e f) 0 = true then _ else none) = _
  have e1 : mkR (wu64 (gI (reckV (a, b, c, d, e, f)).2 0)).toNat (1 : Int).toNat = (true, rq ((gI (amV a b c d e f) 0 : Int) : Rat)) := by
    show mkR (wu64 (gI (amV a b c d e f) 0)).toNat (1 : Int).toNat = _
    rw [wu64_in (by omega), mkR_rq (by decide), show (1 : Int).toNat = 1 from rfl, Rat.mkRat_one, Int.toNat_of_nonneg ab.1]
  rw [if_pos (inB_iff.2 (by rw [l2]; omega)), if_pos (inB_iff.2 (by simp; omega)), if_pos (by rw [decide_eq_true (show b.length ≤ 1000000 by omega), decide_eq_true (show a.length ≤ 4096 by omega)]; rfl)]
  have hw := w_outer H (fordV a b).length 0 71 (w0 a b (amV a b c d e f)) (by omega) w0_len.1 w0_len.2 H.wb0 (by rw [List.drop_zero]; exact H.nb_ord h8 (by decide))
  rw [List.drop_zero, show ((0 : Nat) : Int) = 0 from rfl] at hw
  have hs : sI (List.replicate a.length (rq 0)) 0 (rq ((gI (amV a b c d e f) 0 : Int) : Rat)) = (w0 a b (amV a b c d e f)).1.map rq := by
    show _ = (sI (List.replicate a.length 0) 0 ((gI (amV a b c d e f) 0 : Int) : Rat)).map rq
    rw [← sI_map, List.map_replicate]
  have hk : List.replicate b.length (rq 0) = (w0 a b (amV a b c d e f)).2.map rq := by
    show _ = (List.replicate b.length 0).map rq
    rw [List.map_replicate]
  rw [e1]
  simp only [pe]
  rw [hs, hk]
  have hw' : lo worth_reckon_b1018 (fordV a b, ((fordV a b).length : Int), a, b, c, d, e, f, (reckV (a, b, c, d, e, f)).1, (reckV (a, b, c, d, e, f)).2) (0, (w0 a b (amV a b c d e f)).1.map rq, (w0 a b (amV a b c d e f)).2.map rq) = _ := hw
  rw [hw']
  rfl
def worth_Coins : ((List Bool) × (List Tk) × (List Th) × (List Lk) × (List Int) × Int) → RT Unit (List ((List Int) × List Int))
| (s_0, s_1, s_2, s_3, s_4, s_5) =>
 .rq 3 (.req ((wOK s_0 s_1 s_2 s_3 s_4 s_5)) (.rq 7 (.done ((worthV s_0 s_1 s_2 s_3 s_4 s_5).1.map rq))))
def worth_Tickets : ((List Bool) × (List Tk) × (List Th) × (List Lk) × (List Int) × Int) → RT Unit (List ((List Int) × List Int))
| (s_0, s_1, s_2, s_3, s_4, s_5) =>
 .rq 3 (.req ((wOK s_0 s_1 s_2 s_3 s_4 s_5)) (.rq 7 (.done ((worthV s_0 s_1 s_2 s_3 s_4 s_5).2.map rq))))
def F_worth_Tickets (x : (List Bool) × (List Tk) × (List Th) × (List Lk) × (List Int) × Int) : Option (List ((List Int) × List Int)) := (worth_Tickets x).run fun _ => none
def io_worth_Tickets : Io := ⟨n_worth_Tickets, [.sl tB, .sl yK, .sl yH, .sl yL, .sl tI, tI], [.agg [qm 0, qm 1, qm 2, qm 3, qm 4, qm 5]], [], [[.sl tB, .sl yK, .sl yH, .sl yL, .sl tI, tI]], [.sl (.pair (.sl tV) (.sl tV))], .lf (qr 0), [], [(true, .arr 41 (qm 0))], true⟩
def worth_Tickets_P : List Piece := []
def worth_Tickets_T : CallT := tab [e_worth_reckon]
theorem worth_Tickets_To : SoundT pg worth_Tickets_T := tab_sound ⟨e_worth_reckon_ok, trivial⟩
theorem worth_Tickets_go : FnOK pg (worth_Tickets_T) io_worth_Tickets f_worth_Tickets (worth_Tickets_P) [.nilRow 2 800002 41 (.pair (.sl tV) (.sl tV)), .ren 2 700002, .ren 2 900002] (worth_Tickets) := ⟨by kernel_rfl, by kernel_rfl, fun x => by kernel_rfl⟩
theorem ok_worth_Tickets : io_worth_Tickets.Okay pg (F_worth_Tickets) := fn_ok pg_mixed (worth_Tickets_To) (worth_Tickets_go) trivial
def e_worth_Tickets : Entry := io_worth_Tickets.sp (fun (a, b, c, d, e, f) => (wOK a b c d e f)) (fun (a, b, c, d, e, f) => ((worthV a b c d e f).2.map rq))
theorem sp_worth_Tickets (h : ∀ (a : List Bool) (b : List Tk) (c : List Th) (d : List Lk) (e : List Int) (f : Int), WfT [.sl tB, .sl yK, .sl yH, .sl yL, .sl tI, tI] (a, b, c, d, e, f) → ((wOK a b c d e f)) = true → (worth_Tickets (a, b, c, d, e, f)).run (fun _ => none) = some ((worthV a b c d e f).2.map rq)) : e_worth_Tickets.ok pg := sp_ok ok_worth_Tickets fun (a, b, c, d, e, f) hw hc => h a b c d e f hw hc
theorem e_worth_Tickets_ok : e_worth_Tickets.ok pg := sp_worth_Tickets fun a b c d e f _ hc => by
  rw [worth_Tickets]
  simp only [RT.run]
  rw [if_pos hc]
def worth_Threads_b122 : Int → (Int × (List ((List Int) × List Int))) → RT (Int × (List ((List Int) × List Int))) (List ((List Int) × List Int))
| x15, (x16, r4) =>
 .rq 1 (.ite (decide (x16 < x15))
 (.rq 5 (.req (inB r4 x16) (.rq 3 (.again (w64 (x16 + 1), sI r4 x16 ([], digs B32 1))))))
 (.done r4))
def worth_Threads_p122 : Piece := ⟨122, true, [tI, .sl tB, .sl yK, .sl yH, .sl yL, .sl tI, tI, .sl (.pair (.sl tV) (.sl tV))], [tI, .sl (.pair (.sl tV) (.sl tV))], ⟨[.keep [1, 3, 4, 15, 16], .gc, .nilRow 3 800003 41 (.pair (.sl tV) (.sl tV)), .nilRow 4 800004 41 (.pair (.sl tV) (.sl tV)), .ren 3 700003, .ren 4 700004, .ren 3 900003, .ren 4 900004, .gc], [1, 3, 4, 15, 16], [.lf (qp 16), .lf (qr 900003), .lf (qr 900004), .lf (qi 0), .lf (qm 0)], [(16, true, .cells [qi 1, qi 2, qi 3, qi 4, qi 5, qi 6]), (900003, true, .arr 41 (qi 7)), (900004, true, .arr 41 (qm 1))]⟩, [⟨2, ⟨[.keep [1, 3, 4], .gc, .nilRow 3 800003 41 (.pair (.sl tV) (.sl tV)), .nilRow 4 800004 41 (.pair (.sl tV) (.sl tV)), .ren 3 700003, .ren 4 700004, .ren 3 900003, .ren 4 900004, .gc], [1, 3, 4], [.lf (qp 16), .lf (qr 900003), .lf (qr 900004)], [(16, true, .cells [qi 1, qi 2, qi 3, qi 4, qi 5, qi 6]), (900003, true, .arr 41 (qi 7)), (900004, true, .arr 41 (qm 0))]⟩, [.sl (.pair (.sl tV) (.sl tV))]⟩], (fun i => worth_Threads_b122 i.1)⟩
def worth_Threads_b250 : ((List Tk) × Int × (List ((List Int) × List Int))) → (Int × (List ((List Int) × List Int))) → RT (Int × (List ((List Int) × List Int))) (List ((List Int) × List Int))
| (x25, x26, r3), (x27, r4) =>
 .rq 1 (.ite (decide (x27 < x26))
 (.rq 1 (.req (inB x25 x27) (.rq 11 (let t0 := w64 (x27 + 1);
 .ite ((gI x25 x27).1 && ((gI x25 x27).2.2.2.1 == 1))
 (.rq 6 (let t1 := inB r4 (gI x25 x27).2.2.2.2.1;
 .req t1 (.rq 3 (.req (inB r3 x27) (.rq 2 (let t2 := gI r4 (gI x25 x27).2.2.2.2.1;
 let t3 := [(t2.1, t2.2), ((gI r3 x27).1, (gI r3 x27).2)];
 .req (okS t3) (.req t1 (.rq 3 (let t4 := rq (sumQ t3);
 .again (t0, sI r4 (gI x25 x27).2.2.2.2.1 (t4.1, t4.2)))))))))))
 (.rq 2 (.again (t0, r4)))))))
 (.done r4))
def worth_Threads_p250 : Piece := ⟨250, true, [.sl yK, tI, .sl (.pair (.sl tV) (.sl tV))], [tI, .sl (.pair (.sl tV) (.sl tV))], ⟨[.keep [3, 4, 25, 26, 27], .gc, .nilRow 3 800003 41 (.pair (.sl tV) (.sl tV)), .nilRow 4 800004 41 (.pair (.sl tV) (.sl tV)), .ren 3 700003, .ren 4 700004, .ren 3 900003, .ren 4 900004, .gc], [3, 4, 25, 26, 27], [.lf (qr 900003), .lf (qr 900004), .lf (qi 0), .lf (qi 1), .lf (qm 0)], [(900003, true, .arr 41 (qi 2)), (900004, true, .arr 41 (qm 1))]⟩, [⟨4, ⟨[.keep [4], .gc, .nilRow 4 800004 41 (.pair (.sl tV) (.sl tV)), .ren 4 700004, .ren 4 900004, .gc], [4], [.lf (qr 900004)], [(900004, true, .arr 41 (qm 0))]⟩, [.sl (.pair (.sl tV) (.sl tV))]⟩], worth_Threads_b250⟩
def worth_Threads : ((List Bool) × (List Tk) × (List Th) × (List Lk) × (List Int) × Int) → RT Unit (List ((List Int) × List Int))
| (s_0, s_1, s_2, s_3, s_4, s_5) =>
 .rq 3 (.req ((wOK s_0 s_1 s_2 s_3 s_4 s_5)) (.rq 4 (.req (mkOK 48 (s_2.length : Int)) (.rq 4 (let t0 := repI (s_2.length : Int) ([], []);
 .call (lo worth_Threads_b122 (t0.length : Int) (0, t0)) default fun v0 =>
 .rq 4 (.call (lo worth_Threads_b250 (s_1, (s_1.length : Int), ((worthV s_0 s_1 s_2 s_3 s_4 s_5).2.map rq)) (0, v0)) default fun v1 =>
 .rq 2 (.done v1)))))))
def F_worth_Threads (x : (List Bool) × (List Tk) × (List Th) × (List Lk) × (List Int) × Int) : Option (List ((List Int) × List Int)) := (worth_Threads x).run fun _ => none
def io_worth_Threads : Io := ⟨n_worth_Threads, [.sl tB, .sl yK, .sl yH, .sl yL, .sl tI, tI], [.agg [qm 0, qm 1, qm 2, qm 3, qm 4, qm 5]], [], [[.sl tB, .sl yK, .sl yH, .sl yL, .sl tI, tI]], [.sl (.pair (.sl tV) (.sl tV))], .lf (qr 0), [], [(true, .arr 41 (qm 0))], true⟩
def worth_Threads_P : List Piece := [worth_Threads_p122, worth_Threads_p250]
def worth_Threads_T : CallT := tab [e_worth_Tickets, e_ratio_Add, e_ratio_Zero]
theorem worth_Threads_To : SoundT pg worth_Threads_T := tab_sound ⟨e_worth_Tickets_ok, e_ratio_Add_ok, e_ratio_Zero_ok, trivial⟩
theorem worth_Threads_k122 : (worth_Threads_p122).OK pg (worth_Threads_T) (tell 56 (worth_Threads_P)) (codeOf f_worth_Threads) 56 := ⟨by kernel_rfl, fun i x => by kernel_rfl⟩
theorem worth_Threads_k250 : (worth_Threads_p250).OK pg (worth_Threads_T) (tell 56 (worth_Threads_P)) (codeOf f_worth_Threads) 56 := ⟨by kernel_rfl, fun i x => by kernel_rfl⟩
theorem worth_Threads_go : FnOK pg (worth_Threads_T) io_worth_Threads f_worth_Threads (worth_Threads_P) [.nilRow 2 800002 41 (.pair (.sl tV) (.sl tV)), .ren 2 700002, .ren 2 900002] (worth_Threads) := ⟨by kernel_rfl, by kernel_rfl, fun x => by kernel_rfl⟩
theorem ok_worth_Threads : io_worth_Threads.Okay pg (F_worth_Threads) := fn_ok pg_mixed (worth_Threads_To) (worth_Threads_go) ⟨worth_Threads_k122, worth_Threads_k250, trivial⟩
theorem rsum_sm {l : List Rat} {n : Nat} (h : ∀ x ∈ l, 0 ≤ x ∧ sm n x) : 0 ≤ rsum l ∧ sm ((n + 1) * l.length + 1) (rsum l) := by
  induction l with
  | nil => exact ⟨by decide, sm_zero _ (by simp)⟩
  | cons x l ih =>
    obtain ⟨h1, h2⟩ := h x (List.mem_cons_self ..)
    obtain ⟨h3, h4⟩ := ih fun y hy => h y (List.mem_cons_of_mem _ hy)
    refine ⟨Rat.add_nonneg h1 h3, sm_mono ?_ (sm_add h1 h3 h2 h4)⟩
    rw [List.length_cons, Nat.mul_add, Nat.mul_one]
    omega
def sumOf (K : List Rat) (p : Int → Bool) (l : List Int) : Rat := rsum ((l.filter p).map (gI K))
def ints (n : Nat) : List Int := (List.range n).map fun (k : Nat) => (k : Int)
theorem ints_len (n : Nat) : (ints n).length = n := by simp [ints]
theorem ints_succ (n : Nat) : ints (n + 1) = ints n ++ [(n : Int)] := by unfold ints; rw [List.range_succ, List.map_append]; rfl
theorem mem_ints {n : Nat} {k : Int} : k ∈ ints n ↔ 0 ≤ k ∧ k < (n : Int) := by
  unfold ints
  rw [List.mem_map]
  constructor
  · rintro ⟨j, h, rfl⟩
    have := List.mem_range.1 h
    omega
  · rintro ⟨h1, h2⟩
    obtain ⟨j, rfl⟩ := Int.eq_ofNat_of_zero_le h1
    exact ⟨j, List.mem_range.2 (by omega), rfl⟩
theorem sumOf_succ (K : List Rat) (p : Int → Bool) (n : Nat) : sumOf K p (ints (n + 1)) = sumOf K p (ints n) + (if p (n : Int) = true then gI K (n : Int) else 0) := by
  unfold sumOf
  rw [ints_succ, List.filter_append, List.map_append, rsum_append]
  congr 1
  rw [List.filter_cons]
  split
  · rw [List.filter_nil, List.map_cons, rsum_cons]; exact Rat.add_zero _
  · rfl
theorem sumOf_sm {K : List Rat} {n : Nat} (h : ∀ x ∈ K, 0 ≤ x ∧ sm n x) (p : Int → Bool) {l : List Int} (hl : ∀ k ∈ l, 0 ≤ k ∧ k < (K.length : Int)) : 0 ≤ sumOf K p l ∧ sm ((n + 1) * l.length + 1) (sumOf K p l) := by
  obtain ⟨h1, h2⟩ := rsum_sm (l := (l.filter p).map (gI K)) (n := n) fun x hx => by
    obtain ⟨k, hk, rfl⟩ := List.mem_map.1 hx
    exact h _ (gI_mem (hl k (List.mem_filter.1 hk).1))
  refine ⟨h1, sm_mono ?_ h2⟩
  rw [List.length_map]
  have := List.length_filter_le p l
  have := Nat.mul_le_mul_left (n + 1) this
  omega
def thW (a : List Bool) (b : List Tk) (c : List Th) (d : List Lk) (e : List Int) (f : Int) : List Rat := (ints c.length).map fun i => sumOf (worthV a b c d e f).2 (isOf b 2 i) (ints b.length)
section
variable {a : List Bool} {b : List Tk} {c : List Th} {d : List Lk} {e : List Int} {f : Int}
def thPart (b : List Tk) (K : List Rat) (n m : Nat) : List Rat := (ints n).map fun i => sumOf K (isOf b 2 i) (ints m)
theorem thPart_get {b : List Tk} {K : List Rat} {n m : Nat} {i : Int} (h : 0 ≤ i ∧ i < (n : Int)) : gI (thPart b K n m) i = sumOf K (isOf b 2 i) (ints m) := by
  unfold thPart
  rw [gI_map (α := Int) _ (by rw [ints_len]; exact h)]
  congr 1
  obtain ⟨j, rfl⟩ := Int.eq_ofNat_of_zero_le h.1
  have hj : j < n := by omega
  rw [gI_lt (by rw [ints_len]; exact hj)]
  simp [ints]
theorem thPart_len {b : List Tk} {K : List Rat} {n m : Nat} : (thPart b K n m).length = n := by simp [thPart, ints]
theorem rat_ext {x y : List Rat} (hl : x.length = y.length) (h : ∀ i : Int, 0 ≤ i ∧ i < (x.length : Int) → gI x i = gI y i) : x = y := by
  refine List.ext_getElem hl fun i h1 h2 => ?_
  have := h (i : Int) (by omega)
  rwa [gI_lt h1, gI_lt h2] at this
theorem zero_t (m : Nat) (hm : m ≤ 1000000) : ∀ (n i : Nat), i + n = m → lo worth_Threads_b122 (m : Int) ((i : Int), List.replicate i (rq 0) ++ List.replicate n ([], [])) = some (List.replicate m (rq 0))
  | 0, i, h => by
    rw [lo_eq, worth_Threads_b122]
    simp only [RT.run]
    rw [if_neg (by simp; omega), show i = m by omega]
    simp
  | n + 1, i, h => by
    rw [lo_eq, worth_Threads_b122]
    simp only [RT.run]
    rw [if_pos (by simp; omega), if_pos (inB_iff.2 ⟨by omega, by simp; omega⟩), w64_in (by omega), show (i : Int) + 1 = ((i + 1 : Nat) : Int) by omega, ← rq_zero, sI, Int.toNat_natCast, rep_set, zero_t m hm n (i + 1) (by omega)]
theorem th_loop (H : Fine0 a b c d e f) {K : List Rat} (hK : K.length = b.length) (hs : ∀ x ∈ K, 0 ≤ x ∧ sm 25628 x) : ∀ (n i : Nat), i + n = b.length →
    lo worth_Threads_b250 (b, (b.length : Int), K.map rq) ((i : Int), (thPart b K c.length i).map rq) = some ((thPart b K c.length b.length).map rq)
  | 0, i, h => by
    rw [lo_eq, worth_Threads_b250]
    simp only [RT.run]
    rw [if_neg (by simp; omega), show i = b.length by omega]
  | n + 1, i, h => by
    have hlb := H.lenB
    have hi : 0 ≤ (i : Int) ∧ (i : Int) < (b.length : Int) := by omega
    have ih := th_loop H hK hs n (i + 1) (by omega)
    have sz : ∀ p, 0 ≤ sumOf K p (ints i) ∧ sm 2500000 (sumOf K p (ints i)) := fun p => by
      obtain ⟨h1, h2⟩ := sumOf_sm (n := 25628) hs p (l := ints i) (fun k hk => by have := mem_ints.1 hk; omega)
      exact ⟨h1, sm_mono (by rw [ints_len]; omega) h2⟩
    rw [lo_eq, worth_Threads_b250]
    simp only [RT.run]
    rw [if_pos (by simp; omega), if_pos (inB_iff.2 hi), w64_in (by omega), show (i : Int) + 1 = ((i + 1 : Nat) : Int) by omega]
    have hnx : ∀ j, isOf b 2 j (i : Int) = ((gI b (i : Int)).1 && (((gI b (i : Int)).2.2.2.1 == 1) && ((gI b (i : Int)).2.2.2.2.1 == j))) := fun j => by unfold isOf; simp
    by_cases hc : ((gI b (i : Int)).1 && ((gI b (i : Int)).2.2.2.1 == 1)) = true
    · rw [if_pos hc]
      rw [Bool.and_eq_true, beq_iff_eq] at hc
      have ht := H.tk hi hc.1
      have hut : usT c (gI b (i : Int)).2.2.2.2.1 = true := by
        rcases ht.to with h | h | h
        · omega
        · exact h.2
        · omega
      have hto := usT_in hut
      have in1 : inB ((thPart b K c.length i).map rq) (gI b (i : Int)).2.2.2.2.1 = true := inB_iff.2 (by rw [List.length_map, thPart_len]; exact hto)
      have in2 : inB (K.map rq) (i : Int) = true := inB_iff.2 (by rw [List.length_map, hK]; exact hi)
      have e1 : gI ((thPart b K c.length i).map rq) (gI b (i : Int)).2.2.2.2.1 = rq (sumOf K (isOf b 2 (gI b (i : Int)).2.2.2.2.1) (ints i)) := by rw [gI_map rq (by rw [thPart_len]; exact hto), thPart_get hto]
      have e2 : gI (K.map rq) (i : Int) = rq (gI K (i : Int)) := gI_map rq (by rw [hK]; exact hi)
      obtain ⟨s1, s2⟩ := sz (isOf b 2 (gI b (i : Int)).2.2.2.2.1)
      obtain ⟨s3, s4⟩ := hs _ (gI_mem (xs := K) (k := (i : Int)) (by rw [hK]; exact hi))
      simp only [e1, e2, pe]
      rw [if_pos in1, if_pos in2, okS2 s2 s4 (by decide) (by decide), sumQ2 s1 s3, if_pos rfl, if_pos in1, sI_map]
      have : sI (thPart b K c.length i) (gI b (i : Int)).2.2.2.2.1 (sumOf K (isOf b 2 (gI b (i : Int)).2.2.2.2.1) (ints i) + gI K (i : Int)) = thPart b K c.length (i + 1) := by
        refine rat_ext (by rw [sI_len, thPart_len, thPart_len]) fun j hj => ?_
        rw [sI_len, thPart_len] at hj
        rw [gI_set (by rw [thPart_len]; exact hto) hj.1, thPart_get hj, thPart_get hj, sumOf_succ, hnx j, hc.1, hc.2]
        by_cases hjt : (gI b (i : Int)).2.2.2.2.1 = j
        · rw [if_pos hjt, hjt]; simp
        · rw [if_neg hjt, if_neg (by simp [hjt]), Rat.add_zero]
      rw [this]
      exact ih
    · rw [if_neg hc]
      have : thPart b K c.length i = thPart b K c.length (i + 1) := by
        refine rat_ext (by rw [thPart_len, thPart_len]) fun j hj => ?_
        rw [thPart_len] at hj
        rw [thPart_get hj, thPart_get hj, sumOf_succ, hnx j, ← Bool.and_assoc, Bool.eq_false_iff.2 hc, Bool.false_and, if_neg (by decide), Rat.add_zero]
      rw [this]
      exact ih
end
def e_worth_Threads : Entry := io_worth_Threads.sp (fun (a, b, c, d, e, f) => (wOK a b c d e f)) (fun (a, b, c, d, e, f) => ((thW a b c d e f).map rq))
theorem sp_worth_Threads (h : ∀ (a : List Bool) (b : List Tk) (c : List Th) (d : List Lk) (e : List Int) (f : Int), WfT [.sl tB, .sl yK, .sl yH, .sl yL, .sl tI, tI] (a, b, c, d, e, f) → ((wOK a b c d e f)) = true → (worth_Threads (a, b, c, d, e, f)).run (fun _ => none) = some ((thW a b c d e f).map rq)) : e_worth_Threads.ok pg := sp_ok ok_worth_Threads fun (a, b, c, d, e, f) hw hc => h a b c d e f hw hc
theorem e_worth_Threads_ok : e_worth_Threads.ok pg := sp_worth_Threads fun a b c d e f _ hc => by
  obtain ⟨H, h8⟩ := wOK_iff hc
  have hlc := H.lenC
  have W := H.wb h8
  have za := zero_t c.length (by omega) c.length 0 (by omega)
  rw [List.replicate_zero, List.nil_append, show ((0 : Nat) : Int) = 0 from rfl] at za
  have hra : ∀ n : Nat, (repI (n : Int) (([] : List Int), ([] : List Int))) = List.replicate n ([], []) := fun n => by unfold repI; rw [Int.toNat_natCast]
  have hl := th_loop H (worthV_len (a := a) (b := b) (c := c) (d := d) (e := e) (f := f)).2 W.k b.length 0 (by omega)
  rw [worth_Threads]
  simp only [RT.run]
  rw [if_pos hc, if_pos (mkOK_iff.2 ⟨by omega, by omega, by omega⟩), hra, List.length_replicate, za, Option.bind_some]
  have h0 : List.replicate c.length (rq 0) = (thPart b (worthV a b c d e f).2 c.length 0).map rq := by
    rw [show List.replicate c.length (rq 0) = (List.replicate c.length 0).map rq from by rw [List.map_replicate]]
    congr 1
    refine rat_ext (by rw [thPart_len, List.length_replicate]) fun j hj => ?_
    rw [List.length_replicate] at hj
    rw [thPart_get hj]
    have := gI_rep (α := Rat) (n := c.length) (z := 0) (k := j) hj
    unfold repI at this
    rw [Int.toNat_natCast] at this
    rw [this]; rfl
  rw [h0]
  rw [show ((0 : Nat) : Int) = 0 from rfl] at hl
  rw [hl]
  rfl
end
end Go.Proofs.YtlfdidaeachpoaaGreat

namespace Go.Proofs.YtlfdidaeachpoaaGreat
open Go Go.RowKit
set_option maxRecDepth 100000
noncomputable section
theorem okq_rQ {q : Rat} {n : Nat} (h : sm n q) (hn : n ≤ 1073741824) : okq (rQ q).1 (rQ q).2 = true := by
  rw [okq_iff]
  have a := digs_len2 (b := B16) (by decide) h.1
  have b := digs_len2 (b := B16) (by decide) h.2
  refine ⟨isM_digs (Nat.le_trans a hn), isM_digs (Nat.le_trans b hn), ?_⟩
  have := rQ_den (q := q)
  rw [show val B16 (rQ q).2 = q.den from this]
  exact q.den_nz
section
variable {a : List Bool} {b : List Tk} {c : List Th} {d : List Lk} {e : List Int} {f : Int}
theorem cast_nat {m : Int} (h : 0 ≤ m) : ((m.toNat : Nat) : Rat) = (m : Rat) := by
  obtain ⟨j, rfl⟩ := Int.eq_ofNat_of_zero_le h
  rw [Int.toNat_natCast, Rat.intCast_natCast]
theorem ref_ticket (hw : wOK a b c d e f = true) (self : ((List Bool) × (List Tk) × (List Th) × (List Lk) × (List Int) × Int × Int) → Option ((List Int) × (List Int))) {k : Int} (hk : 0 ≤ k ∧ k < (b.length : Int))
    (hs : gI (cntV a b c d e f) k = true → (gI b k).2.1 ≠ 0 → self (a, b, c, d, e, f, (gI b k).2.1) = some (rQ (gI (worthV a b c d e f).1 (gI b k).2.1))) : F_R18_Ticket self (a, b, c, d, e, f, k) = some (rQ (gI (worthV a b c d e f).2 k)) := by
  obtain ⟨H, h8⟩ := wOK_iff hw
  have hf : fineV a b c d e f = true := by unfold wOK at hw; rw [Bool.and_eq_true] at hw; exact hw.1
  have hin : inB b k = true := inB_iff.2 hk
  show (R18_Ticket self _).run _ = _
  rw [R18_Ticket]
  simp only [RT.run]
  rw [if_pos hin, hf, hin, if_pos (by decide), H.worth.2 k hk]
  cases hc : gI (cntV a b c d e f) k with
  | false => rfl
  | true =>
    have hu := H.cnt_used hk hc
    have ht := H.tk hk hu
    have hamt := ht.amt
    have hco := usC_in ht.coin
    obtain ⟨v0, v1, v2⟩ := share_sm H hk hc
    have hab := H.am_bound hco
    rw [if_neg (by decide), if_pos rfl, wu64_in (by omega)]
    by_cases h0 : (gI b k).2.1 = 0
    · rw [if_pos (by simpa using h0), cast_nat (by omega)]
      congr 1
      rw [h0, H.worth0]
      unfold shareV
      rw [h0] at v2 hab ⊢
      rw [Rat.mkRat_eq_div, cast_nat hab.1, Rat.div_mul_cancel]
      intro h
      have : gI (amV a b c d e f) 0 = 0 := by simpa using h
      rw [this] at v2
      exact v2 rfl
    · have W := H.wb h8
      have hcx := W.c _ (gI_mem (xs := (worthV a b c d e f).1) (k := (gI b k).2.1) (by rw [worthV_len.1]; exact hco))
      rw [if_neg (by simpa using h0), inB_iff.2 hco, if_pos (by decide), wu64_in (by omega), if_pos (decide_eq_true (by omega)), hs hc h0, Option.bind_some]
      have e1 : mkRat (((gI b k).2.2.1.toNat : Nat) : Int) (gI (amV a b c d e f) (gI b k).2.1).toNat = shareV b (amV a b c d e f) k := by
        unfold shareV
        rw [Int.toNat_of_nonneg (by omega)]
      rw [e1, okq_rQ v1 (by decide), okq_rQ hcx.2 (by decide), if_pos (by decide), toQ16_rQ v0, toQ16_rQ hcx.1]
theorem coin_loop (self : ((List Bool) × (List Tk) × (List Th) × (List Lk) × (List Int) × Int × Int) → Option ((List Int) × (List Int))) (l : List Int) (hl : l.length ≤ 1000) (g : Int → Rat)
    (hs : ∀ k ∈ l, self (a, b, c, d, e, f, k) = some (rQ (g k)) ∧ 0 ≤ g k ∧ sm 25628 (g k)) : ∀ (n i m : Nat) (q : Rat), i + n = l.length → 0 ≤ q → sm m q → m + 25629 * n ≤ 100000000 →
    lo (R18_Coin_b250 self) (a, b, c, d, e, f, l) ((i : Int), (rQ q).1, (rQ q).2) = some (rQ (q + rsum ((l.drop i).map g)))
  | 0, i, m, q, h, _, _, _ => by
    rw [lo_eq, R18_Coin_b250]
    simp only [RT.run]
    rw [if_neg (by simp; omega), List.drop_eq_nil_of_le (by omega)]
    show some (rQ q) = some (rQ (q + 0))
    rw [Rat.add_zero]
  | n + 1, i, m, q, h, h0, hm, hb => by
    have hi : i < l.length := by omega
    obtain ⟨s1, s2, s3⟩ := hs _ (List.getElem_mem hi)
    have ih := coin_loop self l hl g hs n (i + 1) _ (q + g l[i]) (by omega) (Rat.add_nonneg h0 s2) (sm_add h0 s2 hm s3) (by omega)
    rw [lo_eq, R18_Coin_b250]
    simp only [RT.run]
    rw [if_pos (by simp; omega), if_pos (inB_iff.2 ⟨by omega, by omega⟩), gI_lt hi, s1, Option.bind_some, okq_rQ hm (by omega), okq_rQ s3 (by decide), if_pos (by decide), w64_in (by omega), show (i : Int) + 1 = ((i + 1 : Nat) : Int) by omega, toQ16_rQ h0, toQ16_rQ s2]
    show lo (R18_Coin_b250 self) _ (_, (rQ (q + g l[i])).1, (rQ (q + g l[i])).2) = _
    rw [ih, List.drop_eq_getElem_cons hi, List.map_cons, rsum_cons, Rat.add_assoc]
theorem mem_tksOf {w x k : Int} : k ∈ tksOf b w x ↔ (0 ≤ k ∧ k < (b.length : Int)) ∧ isOf b w x k = true := by
  unfold tksOf
  rw [List.mem_filter]
  exact and_congr (mem_ints (n := b.length)) Iff.rfl
theorem tksOf_len {w x : Int} : (tksOf b w x).length ≤ b.length := by
  unfold tksOf
  have := List.length_filter_le (isOf b w x) ((List.range b.length).map fun (k : Nat) => (k : Int))
  simpa using this
theorem ref_coin (hw : wOK a b c d e f = true) (self : ((List Bool) × (List Tk) × (List Th) × (List Lk) × (List Int) × Int × Int) → Option ((List Int) × (List Int))) {x : Int} (hx : 0 ≤ x ∧ x < (a.length : Int))
    (hs : ∀ k ∈ tksOf b 1 x, self (a, b, c, d, e, f, k) = some (rQ (gI (worthV a b c d e f).2 k))) : F_R18_Coin self (a, b, c, d, e, f, x) = some (rQ (gI (worthV a b c d e f).1 x)) := by
  obtain ⟨H, h8⟩ := wOK_iff hw
  have hf : fineV a b c d e f = true := by unfold wOK at hw; rw [Bool.and_eq_true] at hw; exact hw.1
  have hlb := H.lenB
  have hca := H.coins
  have W := H.wb h8
  show (R18_Coin self _).run _ = _
  rw [R18_Coin]
  simp only [RT.run]
  by_cases h0 : x = 0
  · have hab := H.am_bound (x := 0) (by omega)
    rw [if_pos (by simpa using h0), hf, inB_iff.2 (show 0 ≤ (0 : Int) ∧ (0 : Int) < (a.length : Int) by omega), if_pos (by decide), wu64_in (by omega), cast_nat hab.1, h0, H.worth0]
  · have htl := tksOf_len (b := b) (w := 1) (x := x)
    rw [if_neg (by simpa using h0), if_pos (decide_eq_true (by omega))]
    have := coin_loop (a := a) (b := b) (c := c) (d := d) (e := e) (f := f) self (tksOf b 1 x) (by omega) (fun k => gI (worthV a b c d e f).2 k) (fun k hk => by
      obtain ⟨k1, _⟩ := mem_tksOf.1 hk
      have := W.k _ (gI_mem (xs := (worthV a b c d e f).2) (k := k) (by rw [worthV_len.2]; exact k1))
      exact ⟨hs k hk, this.1, this.2⟩) (tksOf b 1 x).length 0 1 0 (by omega) (by decide) (sm_zero _ (by decide)) (by omega)
    rw [show ((0 : Nat) : Int) = 0 from rfl, List.drop_zero, Rat.zero_add, ← H.worthC hx h0] at this
    show (lo (R18_Coin_b250 self) _ (0, (rQ 0).1, (rQ 0).2)).bind _ = _
    rw [this]
    rfl
theorem coin_rec (hw : wOK a b c d e f = true) : ∀ (n m : Nat), n ≤ m → ∀ x ∈ (fordV a b).take n, R_R18_Coin m (a, b, c, d, e, f, x) = some (rQ (gI (worthV a b c d e f).1 x))
  | 0, _, _, x, hx => by simp at hx
  | n + 1, 0, h, _, _ => by omega
  | n + 1, m + 1, h, x, hx => by
    obtain ⟨H, h8⟩ := wOK_iff hw
    by_cases hxn : x ∈ (fordV a b).take n
    · exact coin_rec hw n (m + 1) (by omega) x hxn
    · by_cases hn : n < (fordV a b).length
      · rw [List.take_add_one, List.getElem?_eq_getElem hn, List.mem_append] at hx
        have hxe : x = (fordV a b)[n] := by
          rcases hx with hx | hx
          · exact absurd hx hxn
          · simpa using hx
        have ho : fordV a b = (fordV a b).take n ++ x :: (fordV a b).drop (n + 1) := by
          conv => lhs; rw [← List.take_append_drop n (fordV a b)]
          rw [List.drop_eq_getElem_cons hn, hxe]
        have hus := H.ord_mem.1 (by rw [hxe]; exact List.getElem_mem hn : x ∈ fordV a b)
        refine ref_coin hw (F_R18_Ticket (R_R18_Coin m)) (usC_in hus) fun k hk => ?_
        obtain ⟨k1, k2⟩ := mem_tksOf.1 hk
        unfold isOf at k2
        simp at k2
        refine ref_ticket hw (R_R18_Coin m) k1 fun _ _ => coin_rec hw n m (by omega) _ ?_
        exact H.ord_split ho k1 k2.1 k2.2.1 k2.2.2
      · rw [List.take_of_length_le (by omega)] at hx hxn
        exact absurd hx hxn
theorem coin_all (hw : wOK a b c d e f = true) {x : Int} (hx : 0 ≤ x ∧ x < (a.length : Int)) : R_R18_Coin ((fordV a b).length + 1) (a, b, c, d, e, f, x) = some (rQ (gI (worthV a b c d e f).1 x)) := by
  obtain ⟨H, h8⟩ := wOK_iff hw
  by_cases h : x ∈ fordV a b
  · exact coin_rec hw (fordV a b).length _ (by omega) x (by rw [List.take_length]; exact h)
  · refine ref_coin hw _ hx fun k hk => ?_
    exfalso
    obtain ⟨k1, k2⟩ := mem_tksOf.1 hk
    unfold isOf at k2
    simp at k2
    rcases (H.tk k1 k2.1).to with h' | h' | h'
    · omega
    · omega
    · exact h (H.ord_mem.2 (k2.2.2 ▸ h'.2.2))
end
def e_R18_Ticket : Entry := io_R18_Ticket.sp (fun (a, b, c, d, e, f, k) => (wOK a b c d e f && inB b k)) (fun (a, b, c, d, e, f, k) => (rQ (gI (worthV a b c d e f).2 k)))
theorem sp_R18_Ticket (h : ∀ (a : List Bool) (b : List Tk) (c : List Th) (d : List Lk) (e : List Int) (f : Int) (k : Int), WfT [.sl tB, .sl yK, .sl yH, .sl yL, .sl tI, tI, tI] (a, b, c, d, e, f, k) → ((wOK a b c d e f && inB b k)) = true → ∃ n, R_R18_Ticket n (a, b, c, d, e, f, k) = some (rQ (gI (worthV a b c d e f).2 k))) : e_R18_Ticket.ok pg := sp_rec okR_R18_Ticket fun (a, b, c, d, e, f, k) hw hc => h a b c d e f k hw hc
theorem e_R18_Ticket_ok : e_R18_Ticket.ok pg := sp_R18_Ticket fun a b c d e f k _ hc => by
  rw [Bool.and_eq_true] at hc
  have hk := inB_iff.1 hc.2
  obtain ⟨H, h8⟩ := wOK_iff hc.1
  exact ⟨(fordV a b).length + 1, ref_ticket hc.1 _ hk fun h _ => coin_all hc.1 (usC_in (H.tk hk (H.cnt_used hk h)).coin)⟩
def R18_Thread_b122 : ((List Bool) × (List Tk) × (List Th) × (List Lk) × (List Int) × Int × (List Int)) → (Int × (List Int) × (List Int)) → RT (Int × (List Int) × (List Int)) ((List Int) × (List Int))
| (s_0, s_1, s_2, s_3, s_4, s_5, r6), (k, r80, r81) =>
 .rq 4 (.ite (decide (k < (r6.length : Int)))
 (.rq 4 (.req (inB r6 k) (.rq 1 (.req ((wOK s_0 s_1 s_2 s_3 s_4 s_5 && inB s_1 (gI r6 k))) (let t0 := (rQ (gI (worthV s_0 s_1 s_2 s_3 s_4 s_5).2 (gI r6 k)));
 .req (okq r80 r81 && okq t0.1 t0.2) (.rq 4 (let t1 := rQ (toQ16 r80 r81 + toQ16 t0.1 t0.2);
 .again (w64 (k + 1), t1.1, t1.2))))))))
 (.done (r80, r81)))
def R18_Thread_p122 : Piece := ⟨122, true, [.sl tB, .sl yK, .sl yH, .sl yL, .sl tI, tI, .sl tI], [tI, .sl tI, .sl tI], ⟨[.keep [2, 4, 5, 6, 7], .gc, .nilRow 6 800006 3 tI, .ren 6 700006, .ren 6 900006, .cellRow 80 0 600080 3 tI, .cellRow 80 1 600081 3 tI, .cellRen 80 0 600080, .cellRen 80 1 600081, .gc], [2, 4, 5, 6, 7], [.lf (qp 32), .lf (qp 64), .lf (qp 80), .lf (qr 900006), .lf (qm 0)], [(32, true, .cells [qi 0, qi 1, qi 2, qi 3, qi 4, qi 5]), (64, true, .cells [.fix (.nil), .fix (.nil)]), (80, true, .cells [qr 600080, qr 600081]), (900006, true, .arr 3 (qi 6)), (600080, true, .arr 3 (qm 1)), (600081, true, .arr 3 (qm 2))]⟩, [⟨2, ⟨[.keep [4, 5], .gc, .cellRow 80 0 600080 3 tI, .cellRow 80 1 600081 3 tI, .cellRen 80 0 600080, .cellRen 80 1 600081, .gc], [4, 5], [.lf (qp 64), .lf (qp 80)], [(64, true, .cells [.fix (.nil), .fix (.nil)]), (80, true, .cells [qr 600080, qr 600081]), (600080, true, .arr 3 (qm 0)), (600081, true, .arr 3 (qm 1))]⟩, [.sl tI, .sl tI]⟩], R18_Thread_b122⟩
def R18_Thread : ((List Bool) × (List Tk) × (List Th) × (List Lk) × (List Int) × Int × Int) → RT Unit ((List Int) × (List Int))
| (s_0, s_1, s_2, s_3, s_4, s_5, i) =>
 .rq 7 (.req ((decide (s_1.length ≤ 1000000))) (.rq 2 (.call (lo R18_Thread_b122 (s_0, s_1, s_2, s_3, s_4, s_5, (tksOf s_1 (2 : Int) i)) (0, (rQ (((0 : Int).toNat : Nat) : Rat)).1, (rQ (((0 : Int).toNat : Nat) : Rat)).2)) default fun v0 =>
 .rq 2 (.done (v0.1, v0.2)))))
def F_R18_Thread (x : (List Bool) × (List Tk) × (List Th) × (List Lk) × (List Int) × Int × Int) : Option ((List Int) × (List Int)) := (R18_Thread x).run fun _ => none
def io_R18_Thread : Io := ⟨n_R18_Thread, [.sl tB, .sl yK, .sl yH, .sl yL, .sl tI, tI, tI], [.agg [qm 0, qm 1, qm 2, qm 3, qm 4, qm 5], .lf (qm 6)], [], [[.sl tB, .sl yK, .sl yH, .sl yL, .sl tI, tI], [tI]], [.sl tI, .sl tI], .agg [qr 0, qr 1], [], [(true, .arr 3 (qm 0)), (true, .arr 3 (qm 1))], false⟩
def R18_Thread_P : List Piece := [R18_Thread_p122]
def R18_Thread_T : CallT := tab [e_R18_Ticket, e_R15_Tickets, e_R04_Add, e_R04_Int]
theorem R18_Thread_To : SoundT pg R18_Thread_T := tab_sound ⟨e_R18_Ticket_ok, e_R15_Tickets_ok, e_R04_Add_ok, e_R04_Int_ok, trivial⟩
theorem R18_Thread_k122 : (R18_Thread_p122).OK pg (R18_Thread_T) (tell 27 (R18_Thread_P)) (codeOf f_R18_Thread) 27 := ⟨by kernel_rfl, fun i x => by kernel_rfl⟩
theorem R18_Thread_go : FnOK pg (R18_Thread_T) io_R18_Thread f_R18_Thread (R18_Thread_P) [.cellRow 64 0 600064 3 tI, .cellRow 64 1 600065 3 tI, .cellRen 64 0 600064, .cellRen 64 1 600065] (R18_Thread) := ⟨by kernel_rfl, by kernel_rfl, fun x => by kernel_rfl⟩
theorem ok_R18_Thread : io_R18_Thread.Okay pg (F_R18_Thread) := fn_ok pg_mixed (R18_Thread_To) (R18_Thread_go) ⟨R18_Thread_k122, trivial⟩
theorem th_loopR {a : List Bool} {b : List Tk} {c : List Th} {d : List Lk} {e : List Int} {f : Int} (hw : wOK a b c d e f = true) (l : List Int) (hl : l.length ≤ 1000) (hs : ∀ k ∈ l, 0 ≤ k ∧ k < (b.length : Int)) : ∀ (n i m : Nat) (q : Rat), i + n = l.length → 0 ≤ q → sm m q → m + 25629 * n ≤ 100000000 →
    lo R18_Thread_b122 (a, b, c, d, e, f, l) ((i : Int), (rQ q).1, (rQ q).2) = some (rQ (q + rsum ((l.drop i).map (gI (worthV a b c d e f).2))))
  | 0, i, m, q, h, _, _, _ => by
    rw [lo_eq, R18_Thread_b122]
    simp only [RT.run]
    rw [if_neg (by simp; omega), List.drop_eq_nil_of_le (by omega)]
    show some (rQ q) = some (rQ (q + 0))
    rw [Rat.add_zero]
  | n + 1, i, m, q, h, h0, hm, hb => by
    obtain ⟨H, h8⟩ := wOK_iff hw
    have W := H.wb h8
    have hi : i < l.length := by omega
    have hk := hs _ (List.getElem_mem hi)
    obtain ⟨s2, s3⟩ := W.k _ (gI_mem (xs := (worthV a b c d e f).2) (k := l[i]) (by rw [worthV_len.2]; exact hk))
    have ih := th_loopR hw l hl hs n (i + 1) _ (q + gI (worthV a b c d e f).2 l[i]) (by omega) (Rat.add_nonneg h0 s2) (sm_add h0 s2 hm s3) (by omega)
    rw [lo_eq, R18_Thread_b122]
    simp only [RT.run]
    rw [if_pos (by simp; omega), if_pos (inB_iff.2 ⟨by omega, by omega⟩), gI_lt hi, hw, inB_iff.2 hk, if_pos (by decide), okq_rQ hm (by omega), okq_rQ s3 (by decide), if_pos (by decide), w64_in (by omega), show (i : Int) + 1 = ((i + 1 : Nat) : Int) by omega, toQ16_rQ h0, toQ16_rQ s2]
    show lo R18_Thread_b122 _ (_, (rQ (q + gI (worthV a b c d e f).2 l[i])).1, (rQ (q + gI (worthV a b c d e f).2 l[i])).2) = _
    rw [ih, List.drop_eq_getElem_cons hi, List.map_cons, rsum_cons, Rat.add_assoc]
def e_R18_Thread : Entry := io_R18_Thread.sp (fun (a, b, c, d, e, f, i) => (wOK a b c d e f)) (fun (a, b, c, d, e, f, i) => (rQ (sumOf (worthV a b c d e f).2 (isOf b 2 i) (ints b.length))))
theorem sp_R18_Thread (h : ∀ (a : List Bool) (b : List Tk) (c : List Th) (d : List Lk) (e : List Int) (f : Int) (i : Int), WfT [.sl tB, .sl yK, .sl yH, .sl yL, .sl tI, tI, tI] (a, b, c, d, e, f, i) → ((wOK a b c d e f)) = true → (R18_Thread (a, b, c, d, e, f, i)).run (fun _ => none) = some (rQ (sumOf (worthV a b c d e f).2 (isOf b 2 i) (ints b.length)))) : e_R18_Thread.ok pg := sp_ok ok_R18_Thread fun (a, b, c, d, e, f, i) hw hc => h a b c d e f i hw hc
theorem e_R18_Thread_ok : e_R18_Thread.ok pg := sp_R18_Thread fun a b c d e f i _ hc => by
  obtain ⟨H, h8⟩ := wOK_iff hc
  have hlb := H.lenB
  have htl := tksOf_len (b := b) (w := 2) (x := i)
  rw [R18_Thread]
  simp only [RT.run]
  rw [if_pos (decide_eq_true (by omega))]
  have := th_loopR hc (tksOf b 2 i) (by omega) (fun k hk => (mem_tksOf.1 hk).1) (tksOf b 2 i).length 0 1 0 (by omega) (by decide) (sm_zero _ (by decide)) (by omega)
  rw [show ((0 : Nat) : Int) = 0 from rfl, List.drop_zero, Rat.zero_add] at this
  show (lo R18_Thread_b122 _ (0, (rQ 0).1, (rQ 0).2)).bind _ = _
  rw [this]
  rfl
def R18_Same_b58 : ((List ((List Int) × List Int)) × (List ((List Int) × List Int))) → Int → RT Int (LR Unit Unit)
| (a, l), i =>
 .rq 4 (.ite (decide (i < (a.length : Int)))
 (.rq 2 (.req (inB a i) (.rq 3 (.req (inB l i) (.rq 1 (.req (isM 38 (gI l i).1 && isM 38 (gI l i).2) (.rq 1 (.ite (!(decide ((gI a i).1 = digs B32 (val B16 (gI l i).1)) && decide ((gI a i).2 = digs B32 (val B16 (gI l i).2))))
 (.rq 1 (.done (.ex ())))
 (.rq 3 (.again (w64 (i + 1))))))))))))
 (.done (.rt ())))
def R18_Same_p58 : Piece := ⟨58, true, [.sl (.pair (.sl tV) (.sl tV)), .sl (.pair (.sl tI) (.sl tI))], [tI], ⟨[.keep [0, 1, 5], .gc], [0, 1, 5], [.lf (qi 0), .lf (qi 1), .lf (qm 0)], []⟩, [⟨1, ⟨[.keep [4], .gc], [4], [.lf (.fix (.bool false))], []⟩, []⟩, ⟨2, ⟨[.keep [], .gc], [], [], []⟩, []⟩], R18_Same_b58⟩
def R18_Same : ((List ((List Int) × List Int)) × (List ((List Int) × List Int))) → RT Unit Bool
| (a, l) =>
 .rq 6 (.ite ((a.length : Int) != (l.length : Int))
 (.rq 1 (.done false))
 (.rq 1 (.call (lo R18_Same_b58 (a, l) 0) default fun v0 =>
 .ite v0.isRt
 (.rq 1 (.done true))
 (.done false))))
def F_R18_Same (x : (List ((List Int) × List Int)) × (List ((List Int) × List Int))) : Option Bool := (R18_Same x).run fun _ => none
def io_R18_Same : Io := ⟨n_R18_Same, [.sl (.pair (.sl tV) (.sl tV)), .sl (.pair (.sl tI) (.sl tI))], [.lf (qm 0), .lf (qm 1)], [], [[.sl (.pair (.sl tV) (.sl tV))], [.sl (.pair (.sl tI) (.sl tI))]], [tB], .lf (qm 0), [], [], false⟩
def R18_Same_P : List Piece := [R18_Same_p58]
def R18_Same_T : CallT := tab [e_R04_Same]
theorem R18_Same_To : SoundT pg R18_Same_T := tab_sound ⟨e_R04_Same_ok, trivial⟩
theorem R18_Same_k58 : (R18_Same_p58).OK pg (R18_Same_T) (tell 27 (R18_Same_P)) (codeOf f_R18_Same) 27 := ⟨by kernel_rfl, fun i x => by kernel_rfl⟩
theorem R18_Same_go : FnOK pg (R18_Same_T) io_R18_Same f_R18_Same (R18_Same_P) [] (R18_Same) := ⟨by kernel_rfl, by kernel_rfl, fun x => by kernel_rfl⟩
theorem ok_R18_Same : io_R18_Same.Okay pg (F_R18_Same) := fn_ok pg_mixed (R18_Same_To) (R18_Same_go) ⟨R18_Same_k58, trivial⟩
def toB (y : List Int × List Int) : List Int × List Int := (digs B32 (val B16 y.1), digs B32 (val B16 y.2))
theorem toB_rQ (q : Rat) : toB (rQ q) = rq q := by
  unfold toB rq
  rw [show val B16 (rQ q).1 = q.num.toNat from rQ_num, show val B16 (rQ q).2 = q.den from rQ_den]
theorem same_loop (a l : List (List Int × List Int)) (hl : a.length = l.length) (ha : a.length ≤ 9223372036854775807) (hok : ∀ y ∈ l, isM 38 y.1 = true ∧ isM 38 y.2 = true) : ∀ (n i : Nat), i + n = a.length →
    lo R18_Same_b58 (a, l) (i : Int) = some (if a.drop i = (l.drop i).map toB then .rt () else .ex ())
  | 0, i, h => by
    rw [lo_eq, R18_Same_b58]
    simp only [RT.run]
    rw [if_neg (by simp; omega), List.drop_eq_nil_of_le (by omega), List.drop_eq_nil_of_le (by omega), List.map_nil, if_pos rfl]
  | n + 1, i, h => by
    have hi : i < a.length := by omega
    have hi' : i < l.length := by omega
    obtain ⟨h1, h2⟩ := hok _ (List.getElem_mem hi')
    have ih := same_loop a l hl ha hok n (i + 1) (by omega)
    rw [lo_eq, R18_Same_b58]
    simp only [RT.run]
    rw [if_pos (by simp; omega), if_pos (inB_iff.2 ⟨by omega, by omega⟩), if_pos (inB_iff.2 ⟨by omega, by omega⟩), gI_lt hi, gI_lt hi', h1, h2, if_pos (by decide), w64_in (by omega), show (i : Int) + 1 = ((i + 1 : Nat) : Int) by omega, ih, List.drop_eq_getElem_cons hi, List.drop_eq_getElem_cons hi', List.map_cons]
    by_cases he : a[i] = toB l[i]
    · rw [he]
      rw [if_neg (by simp [toB])]
      simp only [List.cons.injEq, true_and]
    · rw [if_pos, if_neg (fun h => he (List.cons.inj h).1)]
      simp only [Bool.not_eq_true', Bool.and_eq_false_iff, decide_eq_false_iff_not]
      by_cases h3 : a[i].1 = digs B32 (val B16 l[i].1)
      · exact .inr fun h4 => he (Prod.ext h3 h4)
      · exact .inl h3
def sameOK (l : List (List Int × List Int)) : Bool := l.all fun y => isM 38 y.1 && isM 38 y.2
def e_R18_Same : Entry := io_R18_Same.sp (fun (a, l) => (sameOK l)) (fun (a, l) => (decide (a = l.map toB)))
theorem sp_R18_Same (h : ∀ (a : List ((List Int) × List Int)) (l : List ((List Int) × List Int)), WfT [.sl (.pair (.sl tV) (.sl tV)), .sl (.pair (.sl tI) (.sl tI))] (a, l) → ((sameOK l)) = true → (R18_Same (a, l)).run (fun _ => none) = some (decide (a = l.map toB))) : e_R18_Same.ok pg := sp_ok ok_R18_Same fun (a, l) hw hc => h a l hw hc
theorem e_R18_Same_ok : e_R18_Same.ok pg := sp_R18_Same fun a l hw hc => by
  have hok : ∀ y ∈ l, isM 38 y.1 = true ∧ isM 38 y.2 = true := fun y hy => by
    have := List.all_eq_true.1 hc y hy
    rwa [Bool.and_eq_true] at this
  rw [R18_Same]
  simp only [RT.run]
  by_cases hl : a.length = l.length
  · have hla : a.length ≤ 9223372036854775807 := hw.1.1
    rw [if_neg (by simp; omega)]
    have := same_loop a l hl hla hok a.length 0 (by omega)
    rw [show ((0 : Nat) : Int) = 0 from rfl, List.drop_zero, List.drop_zero] at this
    rw [this, Option.bind_some]
    by_cases he : a = l.map toB
    · rw [if_pos he, decide_eq_true he]; rfl
    · rw [if_neg he, decide_eq_false he]; rfl
  · rw [if_pos (by simp; omega), decide_eq_false (fun h => hl (by rw [h, List.length_map]))]
end
end Go.Proofs.YtlfdidaeachpoaaGreat

namespace Go.Proofs.YtlfdidaeachpoaaGreat
open Go Go.RowKit
set_option maxRecDepth 100000
noncomputable section
theorem isM_rQ {q : Rat} {n : Nat} (h : sm n q) (hn : n ≤ 1073741824) : isM 38 (rQ q).1 = true ∧ isM 38 (rQ q).2 = true := by
  have := okq_rQ h hn
  rw [okq_iff] at this
  exact ⟨isM_up (by decide) this.1, isM_up (by decide) this.2.1⟩
theorem sameOK_map {l : List Rat} {n : Nat} (h : ∀ q ∈ l, sm n q) (hn : n ≤ 1073741824) : sameOK (l.map rQ) = true := by
  unfold sameOK
  refine List.all_eq_true.2 fun y hy => ?_
  obtain ⟨q, hq, rfl⟩ := List.mem_map.1 hy
  obtain ⟨h1, h2⟩ := isM_rQ (h q hq) hn
  rw [h1, h2]; rfl
theorem toB_map (l : List Rat) : (l.map rQ).map toB = l.map rq := by
  rw [List.map_map]
  exact List.map_congr_left fun q _ => toB_rQ q
theorem take_rQ (l : List Rat) {i : Nat} (h : i < l.length) : (l.take i).map rQ ++ [rQ (gI l (i : Int))] = (l.take (i + 1)).map rQ := by
  rw [List.take_add_one, List.getElem?_eq_getElem h, List.map_append, gI_lt h]
  rfl
theorem ap_small {α : Type} {k : Nat} {xs ys : List α} (hk : k ≤ 1000) (h : xs.length + ys.length ≤ 1000000) : apOK k xs ys = true := by
  rw [apOK_iff]
  refine ⟨?_, by rw [maxLen_eq]; omega⟩
  exact Nat.le_trans (Nat.mul_le_mul h hk) (by decide)
theorem thW_len {a : List Bool} {b : List Tk} {c : List Th} {d : List Lk} {e : List Int} {f : Int} : (thW a b c d e f).length = c.length := by simp [thW, ints]
theorem thW_get {a : List Bool} {b : List Tk} {c : List Th} {d : List Lk} {e : List Int} {f : Int} {i : Int} (h : 0 ≤ i ∧ i < (c.length : Int)) : gI (thW a b c d e f) i = sumOf (worthV a b c d e f).2 (isOf b 2 i) (ints b.length) := thPart_get h
section
variable {a : List Bool} {b : List Tk} {c : List Th} {d : List Lk} {e : List Int} {f : Int}
end
end
end Go.Proofs.YtlfdidaeachpoaaGreat

namespace Go.Proofs.YtlfdidaeachpoaaGreat
open Go Go.RowKit
set_option maxRecDepth 100000
theorem rsum_zero {α : Type} {l : List α} {g : α → Rat} (h : ∀ x ∈ l, g x = 0) : rsum (l.map g) = 0 := by
  induction l with
  | nil => rfl
  | cons x l ih => rw [List.map_cons, rsum_cons, h x (List.mem_cons_self ..), ih fun y hy => h y (List.mem_cons_of_mem _ hy), Rat.zero_add]
theorem rsum_add {α : Type} (l : List α) (g h : α → Rat) : rsum (l.map fun x => g x + h x) = rsum (l.map g) + rsum (l.map h) := by
  induction l with
  | nil => exact (Rat.zero_add 0).symm
  | cons x l ih => rw [List.map_cons, List.map_cons, List.map_cons, rsum_cons, rsum_cons, rsum_cons, ih]; grind
theorem rsum_mul {α : Type} (l : List α) (g : α → Rat) (q : Rat) : rsum (l.map fun x => g x * q) = rsum (l.map g) * q := by
  induction l with
  | nil => exact (Rat.zero_mul q).symm
  | cons x l ih => rw [List.map_cons, List.map_cons, rsum_cons, rsum_cons, ih, Rat.add_mul]
theorem rsum_comm {α β : Type} (l : List α) (m : List β) (g : α → β → Rat) : rsum (l.map fun x => rsum (m.map (g x))) = rsum (m.map fun y => rsum (l.map fun x => g x y)) := by
  induction l with
  | nil => exact (rsum_zero (l := m) (g := fun _ => rsum []) fun _ _ => rfl).symm
  | cons x l ih =>
    rw [List.map_cons, rsum_cons, ih, ← rsum_add]
    rfl
theorem rsum_flat {α β : Type} (l : List α) (f : α → List β) (g : β → Rat) : rsum ((l.flatMap f).map g) = rsum (l.map fun x => rsum ((f x).map g)) := by
  induction l with
  | nil => rfl
  | cons x l ih => rw [List.flatMap_cons, List.map_append, rsum_append, ih, List.map_cons, rsum_cons]
theorem rsum_one {l : List Int} (hn : l.Nodup) {c : Int} (hc : c ∈ l) (v : Rat) : rsum (l.map fun x => if c = x then v else 0) = v := by
  induction l with
  | nil => cases hc
  | cons x l ih =>
    obtain ⟨h1, h2⟩ := List.nodup_cons.1 hn
    rw [List.map_cons, rsum_cons]
    rcases List.mem_cons.1 hc with rfl | hc
    · rw [if_pos rfl, rsum_zero fun y hy => if_neg (fun h => h1 (by rw [h]; exact hy)), Rat.add_zero]
    · rw [if_neg (fun h => h1 (by rw [← h]; exact hc)), ih h2 hc, Rat.zero_add]
theorem rsum_int (l : List Int) : ((l.sum : Int) : Rat) = rsum (l.map fun (x : Int) => (x : Rat)) := by
  induction l with
  | nil => rfl
  | cons x l ih => rw [List.sum_cons, Rat.intCast_add, ih, List.map_cons, rsum_cons]
theorem rsum_congr {α : Type} {l : List α} {g h : α → Rat} (e : ∀ x ∈ l, g x = h x) : rsum (l.map g) = rsum (l.map h) := by rw [List.map_congr_left e]
section
variable {a : List Bool} {b : List Tk} {c : List Th} {d : List Lk} {e : List Int} {f : Int}
theorem Fine0.keep1 (H : Fine0 a b c d e f) {x : Int} (hx : usC a x = true) : rsum ((issued b x).map (gI (worthV a b c d e f).2)) = gI (worthV a b c d e f).1 x := by
  have hin := usC_in hx
  by_cases hz : gI (amV a b c d e f) x = 0
  · -- asleep
    have h0 : ∀ k ∈ issued b x, gI (worthV a b c d e f).2 k = 0 := fun k hk => by
      obtain ⟨k1, k2, k3⟩ := mem_issued.1 hk
      rw [H.worth.2 k k1, if_neg]
      intro hc
      have := H.awake k1 hc
      rw [k3] at this
      omega
    rw [rsum_zero h0]
    by_cases hx0 : x = 0
    · rw [hx0, H.worth0, ← hx0, hz]; rfl
    · rw [H.worthC hin hx0, rsum_zero fun k hk => ?_]
      obtain ⟨k1, k2⟩ := mem_tksOf.1 hk
      unfold isOf at k2
      simp at k2
      rw [H.worth.2 k k1, if_neg]
      intro hc
      rw [H.cnt k1, if_pos k2.1] at hc
      unfold good at hc
      rw [k2.2.1, k2.2.2, hz] at hc
      simp at hc
  · have hb := H.am_bound hin
    have hd : ((gI (amV a b c d e f) x : Int) : Rat) ≠ 0 := fun h => hz (by simpa using h)
    have h1 : ∀ k ∈ issued b x, gI (worthV a b c d e f).2 k = ((amtIf b (gI (cntV a b c d e f) k) k : Int) : Rat) * (((gI (amV a b c d e f) x : Int) : Rat)⁻¹ * gI (worthV a b c d e f).1 x) := fun k hk => by
      obtain ⟨k1, k2, k3⟩ := mem_issued.1 hk
      rw [H.worth.2 k k1]
      unfold amtIf
      by_cases hc : gI (cntV a b c d e f) k = true
      · rw [if_pos hc, if_pos hc]
        unfold shareV
        rw [k3, Rat.mkRat_eq_div, cast_nat hb.1, Rat.div_def, Rat.mul_assoc]
      · rw [if_neg hc, if_neg hc, show ((0 : Int) : Rat) = 0 from rfl, Rat.zero_mul]
    rw [rsum_congr h1, rsum_mul, show ((issued b x).map fun k => ((amtIf b (gI (cntV a b c d e f) k) k : Int) : Rat)) = ((issued b x).map fun k => amtIf b (gI (cntV a b c d e f) k) k).map (fun (z : Int) => (z : Rat)) from by rw [List.map_map]; rfl,
      ← rsum_int, ← H.amt hin, ← Rat.mul_assoc, Rat.mul_inv_cancel _ hd, Rat.one_mul]
theorem Fine0.perm_ord (H : Fine0 a b c d e f) : (tkOrd a b).Perm ((ints b.length).filter fun k => (gI b k).1) := by
  refine (List.perm_ext_iff_of_nodup H.tkOrd_nodup ((nodup_map_nat List.nodup_range).sublist List.filter_sublist)).2 fun k => ?_
  rw [H.tkOrd_mem, List.mem_filter]
  exact and_congr (mem_ints (n := b.length)).symm Iff.rfl
theorem Fine0.keep (H : Fine0 a b c d e f) : rsum (thW a b c d e f) = ((gI (amV a b c d e f) 0 : Int) : Rat) := by
  have hz : ∀ k, 0 ≤ k ∧ k < (b.length : Int) → gI (cntV a b c d e f) k = false → gI (worthV a b c d e f).2 k = 0 := fun k hk h => by rw [H.worth.2 k hk, h]; exact if_neg (by decide)
  have hA : rsum ((fordV a b).map (gI (worthV a b c d e f).1)) = rsum ((tkOrd a b).map (gI (worthV a b c d e f).2)) := by
    unfold tkOrd
    rw [rsum_flat]
    exact rsum_congr fun x hx => (H.keep1 (H.ord_mem.1 hx)).symm
  have hca := H.coins
  have h0 : (0 : Int) ∈ fordV a b := H.ord_mem.2 (by unfold usC; rw [hca.2.2, inB_iff.2 (by omega)]; rfl)
  have hB : rsum ((fordV a b).map (gI (worthV a b c d e f).1)) = ((gI (amV a b c d e f) 0 : Int) : Rat) + rsum ((tkOrd a b).map fun k => if (gI b k).2.2.2.1 = 2 then gI (worthV a b c d e f).2 k else 0) := by
    rw [rsum_congr fun x hx => H.worth.1 x (usC_in (H.ord_mem.1 hx)), rsum_add, rsum_comm]
    congr 1
    · rw [rsum_congr (h := fun x => if (0 : Int) = x then ((gI (amV a b c d e f) 0 : Int) : Rat) else 0) fun x _ => by
        by_cases h : x = 0
        · rw [if_pos h, if_pos h.symm]
        · rw [if_neg h, if_neg (fun h' => h h'.symm)]]
      exact rsum_one H.ord_nodup h0 _
    · refine rsum_congr fun k hk => ?_
      obtain ⟨k1, k2⟩ := H.tkOrd_mem.1 hk
      by_cases h2 : (gI b k).2.2.2.1 = 2
      · rw [if_pos h2]
        by_cases hc : gI (cntV a b c d e f) k = true
        · have ht : usC a (gI b k).2.2.2.2.1 = true := by
            rcases (H.tk k1 k2).to with h | h | h
            · omega
            · omega
            · exact h.2.2
          rw [rsum_congr (h := fun x => if (gI b k).2.2.2.2.1 = x then gI (worthV a b c d e f).2 k else 0) fun x _ => by
            unfold brings
            by_cases h : (gI b k).2.2.2.2.1 = x
            · rw [if_pos ⟨hc, h2, h⟩, if_pos h]
            · rw [if_neg (fun h' => h h'.2.2), if_neg h]]
          exact rsum_one H.ord_nodup (H.ord_mem.2 ht) _
        · rw [hz k k1 (Bool.eq_false_iff.2 hc)]
          refine rsum_zero fun x _ => ?_
          unfold brings
          rw [if_neg (fun h' => hc h'.1)]
      · rw [if_neg h2]
        refine rsum_zero fun x _ => ?_
        unfold brings
        rw [if_neg (fun h' => h2 h'.2.1)]
  have hC : rsum ((tkOrd a b).map (gI (worthV a b c d e f).2)) = rsum ((tkOrd a b).map fun k => if (gI b k).2.2.2.1 = 2 then gI (worthV a b c d e f).2 k else 0) + rsum ((tkOrd a b).map fun k => if (gI b k).2.2.2.1 = 1 then gI (worthV a b c d e f).2 k else 0) := by
    rw [← rsum_add]
    refine rsum_congr fun k hk => ?_
    obtain ⟨k1, k2⟩ := H.tkOrd_mem.1 hk
    by_cases h2 : (gI b k).2.2.2.1 = 2
    · rw [if_pos h2, if_neg (by omega), Rat.add_zero]
    · rw [if_neg h2, Rat.zero_add]
      by_cases h1 : (gI b k).2.2.2.1 = 1
      · rw [if_pos h1]
      · rw [if_neg h1]
        refine hz k k1 ?_
        rw [H.cnt k1, if_pos k2]
        unfold good
        have e1 : ((gI b k).2.2.2.1 == 1) = false := by simpa using h1
        have e2 : ((gI b k).2.2.2.1 == 2) = false := by simpa using h2
        rw [e1, e2]; simp
  have hD : rsum ((tkOrd a b).map fun k => if (gI b k).2.2.2.1 = 1 then gI (worthV a b c d e f).2 k else 0) = ((gI (amV a b c d e f) 0 : Int) : Rat) := by
    have := hA.symm.trans hB
    rw [hC] at this
    generalize rsum ((tkOrd a b).map fun k => if (gI b k).2.2.2.1 = 2 then gI (worthV a b c d e f).2 k else 0) = u at this
    generalize rsum ((tkOrd a b).map fun k => if (gI b k).2.2.2.1 = 1 then gI (worthV a b c d e f).2 k else 0) = v at this ⊢
    grind
  rw [← hD]
  unfold thW sumOf
  have hE : ∀ i : Int, rsum (((ints b.length).filter (isOf b 2 i)).map (gI (worthV a b c d e f).2)) = rsum ((tkOrd a b).map fun k => if (gI b k).2.2.2.1 = 1 ∧ (gI b k).2.2.2.2.1 = i then gI (worthV a b c d e f).2 k else 0) := fun i => by
    rw [rsum_perm (H.perm_ord.map _)]
    have e1 : (ints b.length).filter (isOf b 2 i) = ((ints b.length).filter fun k => (gI b k).1).filter (fun k => (gI b k).2.2.2.1 == 1 && (gI b k).2.2.2.2.1 == i) := by
      rw [List.filter_filter]
      refine List.filter_congr fun k _ => ?_
      unfold isOf
      cases (gI b k).1 <;> simp
    rw [e1, ← rsum_filter (l := (ints b.length).filter fun k => (gI b k).1) (p := fun k => (gI b k).2.2.2.1 == 1 && (gI b k).2.2.2.2.1 == i) (g := fun k => if (gI b k).2.2.2.1 = 1 ∧ (gI b k).2.2.2.2.1 = i then gI (worthV a b c d e f).2 k else 0) (fun k _ h => by
      rw [if_neg]
      rintro ⟨h1, h2⟩
      rw [h1, h2] at h
      simp at h)]
    refine rsum_congr fun k hk => ?_
    have := (List.mem_filter.1 hk).2
    simp at this
    rw [if_pos this]
  rw [show ((ints c.length).map fun i => rsum (((ints b.length).filter (isOf b 2 i)).map (gI (worthV a b c d e f).2))) = (ints c.length).map fun i => rsum ((tkOrd a b).map fun k => if (gI b k).2.2.2.1 = 1 ∧ (gI b k).2.2.2.2.1 = i then gI (worthV a b c d e f).2 k else 0) from List.map_congr_left fun i _ => hE i, rsum_comm]
  refine rsum_congr fun k hk => ?_
  obtain ⟨k1, k2⟩ := H.tkOrd_mem.1 hk
  by_cases h1 : (gI b k).2.2.2.1 = 1
  · have ht : usT c (gI b k).2.2.2.2.1 = true := by
      rcases (H.tk k1 k2).to with h | h | h
      · omega
      · exact h.2
      · omega
    rw [if_pos h1, rsum_congr (h := fun x => if (gI b k).2.2.2.2.1 = x then gI (worthV a b c d e f).2 k else 0) fun x _ => by
      by_cases h : (gI b k).2.2.2.2.1 = x
      · rw [if_pos ⟨h1, h⟩, if_pos h]
      · rw [if_neg (fun h' => h h'.2), if_neg h]]
    exact rsum_one (nodup_map_nat List.nodup_range) (mem_ints.2 (usT_in ht)) _
  · rw [if_neg h1]
    exact rsum_zero fun x _ => if_neg (fun h => h1 h.1)
end
end Go.Proofs.YtlfdidaeachpoaaGreat

namespace Go.Proofs.YtlfdidaeachpoaaGreat
open Go Go.RowKit
set_option maxRecDepth 100000
noncomputable section
end
end Go.Proofs.YtlfdidaeachpoaaGreat
