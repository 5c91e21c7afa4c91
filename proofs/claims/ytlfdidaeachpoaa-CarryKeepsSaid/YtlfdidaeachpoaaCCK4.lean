/- Part 4 of the walk and of the plain law. -/
import Derived.Test.YtlfdidaeachpoaaCCK3
import Derived.RangeFuncBox
import Derived.RangeFuncLeaves
import Derived.RangeFuncNested
import Derived.Shelf.Abstract
import Derived.WalkKit
import Derived.OwnWalkIn
import Derived.TacticsInMore
import Derived.LoopNIn
import Derived.LoopIn
import Derived.Test.YtlfdidaeachpoaaProg
set_option linter.unusedSimpArgs false
set_option linter.unusedVariables false
namespace Go.Proofs.Ytlfdidaeachpoaa
open Go Go.RowKit
set_option maxRecDepth 100000
noncomputable section
def zM : (Int × Int × Int × Int × Int) → RT Unit Bool
| (t_0, t_1, t_2, t_3, t_4) =>
 .rq 6 (.done (t_0 != 0))
def F_zM (x : Int × Int × Int × Int × Int) : Option Bool := (zM x).run fun _ => none
def io_zM : Io := ⟨n_zM, [tI, tI, tI, tI, tI], [.agg [qm 0, qm 1, qm 2, qm 3, qm 4]], [], [[tI, tI, tI, tI, tI]], [tB], .lf (qm 0), [], [], false⟩
def zM_P : List zaV := []
def zM_T : zbf := tab []
theorem zM_To : zbd pg zM_T := zaX trivial
theorem zM_go : zbt pg (zM_T) io_zM f_zM (zM_P) [] (zM) := ⟨by kernel_rfl, by kernel_rfl, fun x => by kernel_rfl⟩
theorem ok_zM : io_zM.Okay pg (F_zM) := zbl zaZ (zM_To) (zM_go) trivial
def e_zM : zbj := io_zM.sp (fun (a, b, c, d, e) => true) (fun (a, b, c, d, e) => (a != 0))
theorem sp_zM (h : ∀ (a : Int) (b : Int) (c : Int) (d : Int) (e : Int), WfT [tI, tI, tI, tI, tI] (a, b, c, d, e) → (zM (a, b, c, d, e)).run (fun _ => none) = some (a != 0)) : e_zM.ok pg := zbo ok_zM fun (a, b, c, d, e) hw hc => h a b c d e hw
theorem e_zM_ok : e_zM.ok pg := sp_zM fun a b c d e _ => by
 rw [zM]; rfl
def zU : (Bool × Int) → RT Unit Bool
| (l_0, l_1) =>
 .rq 5 (.done l_0)
def F_zU (x : Bool × Int) : Option Bool := (zU x).run fun _ => none
def io_zU : Io := ⟨n_zU, [tB, tI], [.agg [qm 0, qm 1]], [], [[tB, tI]], [tB], .lf (qm 0), [], [], false⟩
def zU_P : List zaV := []
def zU_T : zbf := tab []
theorem zU_To : zbd pg zU_T := zaX trivial
theorem zU_go : zbt pg (zU_T) io_zU f_zU (zU_P) [] (zU) := ⟨by kernel_rfl, by kernel_rfl, fun x => by kernel_rfl⟩
theorem ok_zU : io_zU.Okay pg (F_zU) := zbl zaZ (zU_To) (zU_go) trivial
def e_zU : zbj := io_zU.sp (fun (a, b) => true) (fun (a, b) => a)
theorem sp_zU (h : ∀ (a : Bool) (b : Int), WfT [tB, tI] (a, b) → (zU (a, b)).run (fun _ => none) = some a) : e_zU.ok pg := zbo ok_zU fun (a, b) hw hc => h a b hw
theorem e_zU_ok : e_zU.ok pg := sp_zU fun a b _ => by
 rw [zU]; rfl
def zz : ((List Th) × Int) → RT Unit (Int × Int × Int × Int × Int × Bool)
| (l, i) =>
 .rq 14 (let t0 := (decide (i < 0)) || (decide ((l.length : Int) ≤ i));
 .req ((inB l i) || (!(!t0))) (.rq 4 (.ite (t0 || (!(((gI l i).1 != 0))))
 (.rq 3 (.done (0, 0, 0, 0, 0, false)))
 (.rq 2 (.req (inB l i) (.rq 3 (.done ((gI l i).1, (gI l i).2.1, (gI l i).2.2.1, (gI l i).2.2.2.1, (gI l i).2.2.2.2, true))))))))
def F_zz (x : (List Th) × Int) : Option (Int × Int × Int × Int × Int × Bool) := (zz x).run fun _ => none
def io_zz : Io := ⟨n_zz, [.sl yH, tI], [.lf (qm 0), .lf (qm 1), .lf (.fix (.fn 112 []))], [], [[.sl yH], [tI], []], [tI, tI, tI, tI, tI, tB], .tup [(true, [qm 0, qm 1, qm 2, qm 3, qm 4]), (false, [qm 5])], [], [], false⟩
def zz_P : List zaV := []
def zz_T : zbf := tab [e_zM]
theorem zz_To : zbd pg zz_T := zaX ⟨e_zM_ok, trivial⟩
theorem zz_go : zbt pg (zz_T) io_zz f_zz (zz_P) [] (zz) := ⟨by kernel_rfl, by kernel_rfl, fun x => by kernel_rfl⟩
theorem ok_zz : io_zz.Okay pg (F_zz) := zbl zaZ (zz_To) (zz_go) trivial
def zbz (l : List Th) (i : Int) : Int × Int × Int × Int × Int × Bool := if inB l i && ((gI l i).1 != 0) then ((gI l i).1, (gI l i).2.1, (gI l i).2.2.1, (gI l i).2.2.2.1, (gI l i).2.2.2.2, true) else (0, 0, 0, 0, 0, false)
def e_zz : zbj := io_zz.sp (fun (l, i) => true) (fun (l, i) => (zbz l i))
theorem sp_zz (h : ∀ (l : List Th) (i : Int), WfT [.sl yH, tI] (l, i) → (zz (l, i)).run (fun _ => none) = some (zbz l i)) : e_zz.ok pg := zbo ok_zz fun (l, i) hw hc => h l i hw
theorem e_zz_ok : e_zz.ok pg := sp_zz fun l i _ => by
 rw [zz]
 simp only [RT.run]
 unfold zbz
 cases h : inB l i with
 | true =>
  have hb := zbc.1 h
  have h1 : decide (i < 0) = false := by simp; omega
  have h2 : decide ((l.length : Int) ≤ i) = false := by simp; omega
  rw [h1, h2]
  cases ((gI l i).1 != 0) <;> simp
 | false =>
  have hb : (decide (i < 0) || decide ((l.length : Int) ≤ i)) = true := by
   cases hq : (decide (i < 0) || decide ((l.length : Int) ≤ i)) with
   | true => rfl
   | false =>
    simp only [Bool.or_eq_false_iff, decide_eq_false_iff_not] at hq
    rw [zbc.2 ⟨by omega, by omega⟩] at h
    cases h
  rw [hb]
  simp
def zE : ((List Lk) × Int) → RT Unit (Bool × Int × Bool)
| (l, i) =>
 .rq 14 (let t0 := (decide (i < 0)) || (decide ((l.length : Int) ≤ i));
 .req ((inB l i) || (!(!t0))) (.rq 4 (.ite (t0 || (!(gI l i).1))
 (.rq 3 (.done (false, 0, false)))
 (.rq 2 (.req (inB l i) (.rq 3 (.done ((gI l i).1, (gI l i).2, true))))))))
def F_zE (x : (List Lk) × Int) : Option (Bool × Int × Bool) := (zE x).run fun _ => none
def io_zE : Io := ⟨n_zE, [.sl yL, tI], [.lf (qm 0), .lf (qm 1), .lf (.fix (.fn 129 []))], [], [[.sl yL], [tI], []], [tB, tI, tB], .tup [(true, [qm 0, qm 1]), (false, [qm 2])], [], [], false⟩
def zE_P : List zaV := []
def zE_T : zbf := tab [e_zU]
theorem zE_To : zbd pg zE_T := zaX ⟨e_zU_ok, trivial⟩
theorem zE_go : zbt pg (zE_T) io_zE f_zE (zE_P) [] (zE) := ⟨by kernel_rfl, by kernel_rfl, fun x => by kernel_rfl⟩
theorem ok_zE : io_zE.Okay pg (F_zE) := zbl zaZ (zE_To) (zE_go) trivial
def zdC (l : List Lk) (i : Int) : Bool × Int × Bool := if inB l i && (gI l i).1 then ((gI l i).1, (gI l i).2, true) else (false, 0, false)
def e_zE : zbj := io_zE.sp (fun (l, i) => true) (fun (l, i) => (zdC l i))
theorem sp_zE (h : ∀ (l : List Lk) (i : Int), WfT [.sl yL, tI] (l, i) → (zE (l, i)).run (fun _ => none) = some (zdC l i)) : e_zE.ok pg := zbo ok_zE fun (l, i) hw hc => h l i hw
theorem e_zE_ok : e_zE.ok pg := sp_zE fun l i _ => by
 rw [zE]
 simp only [RT.run]
 unfold zdC
 cases h : inB l i with
 | true =>
  have hb := zbc.1 h
  have h1 : decide (i < 0) = false := by simp; omega
  have h2 : decide ((l.length : Int) ≤ i) = false := by simp; omega
  rw [h1, h2]
  cases (gI l i).1 <;> simp
 | false =>
  have hb : (decide (i < 0) || decide ((l.length : Int) ≤ i)) = true := by
   cases hq : (decide (i < 0) || decide ((l.length : Int) ≤ i)) with
   | true => rfl
   | false =>
    simp only [Bool.or_eq_false_iff, decide_eq_false_iff_not] at hq
    rw [zbc.2 ⟨by omega, by omega⟩] at h
    cases h
  rw [hb]
  simp
def zS : ((List Bool) × (List Tk) × (List Th) × (List Lk) × (List Int) × Int × Int) → RT Unit (Int × Int × Int × Int × Int × Bool)
| (s_0, s_1, s_2, s_3, s_4, s_5, i) =>
 .rq 11 (.done (((zbz s_2 i)).1, ((zbz s_2 i)).2.1, ((zbz s_2 i)).2.2.1, ((zbz s_2 i)).2.2.2.1, ((zbz s_2 i)).2.2.2.2.1, ((zbz s_2 i)).2.2.2.2.2))
def F_zS (x : (List Bool) × (List Tk) × (List Th) × (List Lk) × (List Int) × Int × Int) : Option (Int × Int × Int × Int × Int × Bool) := (zS x).run fun _ => none
def io_zS : Io := ⟨n_zS, [.sl tB, .sl yK, .sl yH, .sl yL, .sl tI, tI, tI], [.agg [qm 0, qm 1, qm 2, qm 3, qm 4, qm 5], .lf (qm 6)], [], [[.sl tB, .sl yK, .sl yH, .sl yL, .sl tI, tI], [tI]], [tI, tI, tI, tI, tI, tB], .tup [(true, [qm 0, qm 1, qm 2, qm 3, qm 4]), (false, [qm 5])], [], [], false⟩
def zS_P : List zaV := []
def zS_T : zbf := tab [e_zz]
theorem zS_To : zbd pg zS_T := zaX ⟨e_zz_ok, trivial⟩
theorem zS_go : zbt pg (zS_T) io_zS f_zS (zS_P) [] (zS) := ⟨by kernel_rfl, by kernel_rfl, fun x => by kernel_rfl⟩
theorem ok_zS : io_zS.Okay pg (F_zS) := zbl zaZ (zS_To) (zS_go) trivial
def e_zS : zbj := io_zS.sp (fun (a, b, c, d, e, f, i) => true) (fun (a, b, c, d, e, f, i) => (zbz c i))
theorem sp_zS (h : ∀ (a : List Bool) (b : List Tk) (c : List Th) (d : List Lk) (e : List Int) (f : Int) (i : Int), WfT [.sl tB, .sl yK, .sl yH, .sl yL, .sl tI, tI, tI] (a, b, c, d, e, f, i) → (zS (a, b, c, d, e, f, i)).run (fun _ => none) = some (zbz c i)) : e_zS.ok pg := zbo ok_zS fun (a, b, c, d, e, f, i) hw hc => h a b c d e f i hw
theorem e_zS_ok : e_zS.ok pg := sp_zS fun a b c d e f i _ => by
 rw [zS]; rfl
def zaA : ((List Bool) × (List Tk) × (List Th) × (List Lk) × (List Int) × Int × Int) → RT Unit (Bool × Int × Bool)
| (s_0, s_1, s_2, s_3, s_4, s_5, i) =>
 .rq 11 (.done (((zdC s_3 i)).1, ((zdC s_3 i)).2.1, ((zdC s_3 i)).2.2))
def F_zaA (x : (List Bool) × (List Tk) × (List Th) × (List Lk) × (List Int) × Int × Int) : Option (Bool × Int × Bool) := (zaA x).run fun _ => none
def io_zaA : Io := ⟨n_zaA, [.sl tB, .sl yK, .sl yH, .sl yL, .sl tI, tI, tI], [.agg [qm 0, qm 1, qm 2, qm 3, qm 4, qm 5], .lf (qm 6)], [], [[.sl tB, .sl yK, .sl yH, .sl yL, .sl tI, tI], [tI]], [tB, tI, tB], .tup [(true, [qm 0, qm 1]), (false, [qm 2])], [], [], false⟩
def zaA_P : List zaV := []
def zaA_T : zbf := tab [e_zE]
theorem zaA_To : zbd pg zaA_T := zaX ⟨e_zE_ok, trivial⟩
theorem zaA_go : zbt pg (zaA_T) io_zaA f_zaA (zaA_P) [] (zaA) := ⟨by kernel_rfl, by kernel_rfl, fun x => by kernel_rfl⟩
theorem ok_zaA : io_zaA.Okay pg (F_zaA) := zbl zaZ (zaA_To) (zaA_go) trivial
def e_zaA : zbj := io_zaA.sp (fun (a, b, c, d, e, f, i) => true) (fun (a, b, c, d, e, f, i) => (zdC d i))
theorem sp_zaA (h : ∀ (a : List Bool) (b : List Tk) (c : List Th) (d : List Lk) (e : List Int) (f : Int) (i : Int), WfT [.sl tB, .sl yK, .sl yH, .sl yL, .sl tI, tI, tI] (a, b, c, d, e, f, i) → (zaA (a, b, c, d, e, f, i)).run (fun _ => none) = some (zdC d i)) : e_zaA.ok pg := zbo ok_zaA fun (a, b, c, d, e, f, i) hw hc => h a b c d e f i hw
theorem e_zaA_ok : e_zaA.ok pg := sp_zaA fun a b c d e f i _ => by
 rw [zaA]; rfl
def zt_b26 : ((List Tk) × Int) → (Int × (List (Int × Int))) → RT (Int × (List (Int × Int))) (List (Int × Int))
| (x6, x7), (x8, r2) =>
 .rq 1 (.ite (decide (x8 < x7))
 (.req (inB x6 x8) (.rq 10 (let t0 := w64 (x8 + 1);
 .ite ((gI x6 x8).1 && ((gI x6 x8).2.2.2.1 == 2))
 (.rq 7 (let t1 := [((gI x6 x8).2.1, (gI x6 x8).2.2.2.2.1)];
 .req (apOK 16 r2 t1) (.rq 3 (.again (t0, r2 ++ t1)))))
 (.rq 2 (.again (t0, r2))))))
 (.done r2))
def zt_p26 : zaV := ⟨26, true, [.sl yK, tI], [tI, .sl (.pair tI tI)], ⟨[.keep [2, 6, 7, 8], .gc, .nilRow 2 800002 184 (.pair tI tI), .ren 2 700002, .ren 2 900002, .gc], [2, 6, 7, 8], [.lf (qr 900002), .lf (qi 0), .lf (qi 1), .lf (qm 0)], [(900002, true, .arr 184 (qm 1))]⟩, [⟨2, ⟨[.keep [2], .gc, .nilRow 2 800002 184 (.pair tI tI), .ren 2 700002, .ren 2 900002, .gc], [2], [.lf (qr 900002)], [(900002, true, .arr 184 (qm 0))]⟩, [.sl (.pair tI tI)]⟩], zt_b26⟩
def zt : ((List Bool) × (List Tk) × (List Th) × (List Lk) × (List Int) × Int) → RT Unit (List (Int × Int))
| (s_0, s_1, s_2, s_3, s_4, s_5) =>
 .rq 6 (.call (lo zt_b26 (s_1, (s_1.length : Int)) (0, [])) default fun v0 =>
 .rq 2 (.done v0))
def F_zt (x : (List Bool) × (List Tk) × (List Th) × (List Lk) × (List Int) × Int) : Option (List (Int × Int)) := (zt x).run fun _ => none
def io_zt : Io := ⟨n_zt, [.sl tB, .sl yK, .sl yH, .sl yL, .sl tI, tI], [.agg [qm 0, qm 1, qm 2, qm 3, qm 4, qm 5]], [], [[.sl tB, .sl yK, .sl yH, .sl yL, .sl tI, tI]], [.sl (.pair tI tI)], .lf (qr 0), [], [(true, .arr 184 (qm 0))], false⟩
def zt_P : List zaV := [zt_p26]
def zt_T : zbf := tab []
theorem zt_To : zbd pg zt_T := zaX trivial
theorem zt_k26 : (zt_p26).OK pg (zt_T) (zbu 29 (zt_P)) (zbh f_zt) 29 := ⟨by kernel_rfl, fun i x => by kernel_rfl⟩
theorem zt_go : zbt pg (zt_T) io_zt f_zt (zt_P) [.nilRow 2 800002 184 (.pair tI tI), .ren 2 700002, .ren 2 900002] (zt) := ⟨by kernel_rfl, by kernel_rfl, fun x => by kernel_rfl⟩
theorem ok_zt : io_zt.Okay pg (F_zt) := zbl zaZ (zt_To) (zt_go) ⟨zt_k26, trivial⟩
def zbM (b : List Tk) : List (Int × Int) := (b.filter fun t => t.1 && t.2.2.2.1 == 2).map fun t => (t.2.1, t.2.2.2.2.1)
theorem coinArr_len (b : List Tk) : (zbM b).length ≤ b.length := by
 rw [zbM, List.length_map]; exact List.length_filter_le ..
theorem zgK (b : List Tk) (hl : b.length ≤ 1000000) : ∀ (d i : Nat) (r : List (Int × Int)), i + d = b.length → r.length ≤ i →
  lo zt_b26 (b, (b.length : Int)) ((i : Int), r) = some (r ++ zbM (b.drop i))
 | 0, i, r, h, _ => by
  rw [zbi, zt_b26]
  simp only [RT.run]
  rw [if_neg (by simp; omega), List.drop_eq_nil_of_le (by omega)]
  simp [zbM]
 | d + 1, i, r, h, hr => by
  have hi : i < b.length := by omega
  have hmax : maxLen = 9223372036854775807 := by decide
  rw [zbi, zt_b26]
  simp only [RT.run]
  rw [if_pos (by simp; omega), if_pos (zbc.2 ⟨by omega, by omega⟩), zbD hi, List.drop_eq_getElem_cons hi, zbg (by omega), show (i : Int) + 1 = ((i + 1 : Nat) : Int) by omega]
  unfold zbM
  rw [List.filter_cons]
  by_cases hv : (b[i].1 && b[i].2.2.2.1 == 2) = true
  ·rw [if_pos hv, if_pos (zds.2 ⟨by simp; omega, by simp; omega⟩), zgK b hl d (i + 1) _ (by omega) (by simp; omega), if_pos hv]
   simp [zbM]
  ·rw [if_neg hv, zgK b hl d (i + 1) _ (by omega) (by omega), if_neg hv]
   rfl
def e_zt : zbj := io_zt.sp (fun (a, b, c, d, e, f) => (decide (b.length ≤ 1000000))) (fun (a, b, c, d, e, f) => (zbM b))
theorem sp_zt (h : ∀ (a : List Bool) (b : List Tk) (c : List Th) (d : List Lk) (e : List Int) (f : Int), WfT [.sl tB, .sl yK, .sl yH, .sl yL, .sl tI, tI] (a, b, c, d, e, f) → ((decide (b.length ≤ 1000000))) = true → (zt (a, b, c, d, e, f)).run (fun _ => none) = some (zbM b)) : e_zt.ok pg := zbo ok_zt fun (a, b, c, d, e, f) hw hc => h a b c d e f hw hc
theorem e_zt_ok : e_zt.ok pg := sp_zt fun a b c d e f _ hc => by
 have hl := of_decide_eq_true hc
 rw [zt]
 simp only [RT.run]
 have := zgK b hl b.length 0 [] (by omega) (by simp)
 rw [show ((0 : Nat) : Int) = 0 from rfl] at this
 rw [this]
 rfl
def zw : ((List Bool) × (List Tk) × (List Th) × (List Lk) × (List Int) × Int) → RT Unit (List Int)
| (s_0, s_1, s_2, s_3, s_4, s_5) =>
 .rq 6 (.req ((decide (s_1.length ≤ 1000000))) (let t0 := (zbM s_1);
 .req ((decide (t0.length ≤ 1000000))) (.rq 7 (.req ((((zcj (dm (s_0.length : Int)) t0)).2.all (inB s_0))) (.rq 1 (.done (((zcj (dm (s_0.length : Int)) t0)).2.filter (gI s_0))))))))
def F_zw (x : (List Bool) × (List Tk) × (List Th) × (List Lk) × (List Int) × Int) : Option (List Int) := (zw x).run fun _ => none
def io_zw : Io := ⟨n_zw, [.sl tB, .sl yK, .sl yH, .sl yL, .sl tI, tI], [.agg [qm 0, qm 1, qm 2, qm 3, qm 4, qm 5]], [], [[.sl tB, .sl yK, .sl yH, .sl yL, .sl tI, tI]], [.sl tI], .lf (qm 0), [], [], true⟩
def zw_P : List zaV := []
def zw_T : zbf := tab [e_zt, e_ze, e_zp]
theorem zw_To : zbd pg zw_T := zaX ⟨e_zt_ok, e_ze_ok, e_zp_ok, trivial⟩
theorem zw_go : zbt pg (zw_T) io_zw f_zw (zw_P) [] (zw) := ⟨by kernel_rfl, by kernel_rfl, fun x => by kernel_rfl⟩
theorem ok_zw : io_zw.Okay pg (F_zw) := zbl zaZ (zw_To) (zw_go) trivial
def zbs (a : List Bool) (b : List Tk) : List Int := (zcj a.length (zbM b)).2.filter (gI a)
def e_zw : zbj := io_zw.sp (fun (a, b, c, d, e, f) => (decide (b.length ≤ 1000000) && decide (a.length ≤ 4096))) (fun (a, b, c, d, e, f) => (zbs a b))
theorem sp_zw (h : ∀ (a : List Bool) (b : List Tk) (c : List Th) (d : List Lk) (e : List Int) (f : Int), WfT [.sl tB, .sl yK, .sl yH, .sl yL, .sl tI, tI] (a, b, c, d, e, f) → ((decide (b.length ≤ 1000000) && decide (a.length ≤ 4096))) = true → (zw (a, b, c, d, e, f)).run (fun _ => none) = some (zbs a b)) : e_zw.ok pg := zbo ok_zw fun (a, b, c, d, e, f) hw hc => h a b c d e f hw hc
theorem e_zw_ok : e_zw.ok pg := sp_zw fun a b c d e f _ hc => by
 rw [Bool.and_eq_true] at hc
 have hl := of_decide_eq_true hc.1
 have hm := of_decide_eq_true hc.2
 have hd : dm (a.length : Int) = a.length := by rw [dm_eq (by omega) (by omega)]; omega
 have hall : (zcj a.length (zbM b)).2.all (inB a) = true := List.all_eq_true.2 fun x hx => zbc.2 ((zfM _ _).inr x hx)
 rw [zw]
 simp only [RT.run, hd]
 rw [if_pos hc.1, if_pos (decide_eq_true (Nat.le_trans (coinArr_len b) hl)), if_pos hall]
 rfl
def zW : (Bool × Int × Int × Int × Int × Bool × Int) → RT Unit (Bool × Int)
| (t_0, t_1, t_2, t_3, t_4, t_5, a1) =>
 .rq 7 (.done (t_1 == a1, a1))
def F_zW (x : Bool × Int × Int × Int × Int × Bool × Int) : Option (Bool × Int) := (zW x).run fun _ => none
def io_zW : Io := ⟨n_zW, [tB, tI, tI, tI, tI, tB, tI], [.agg [qm 0, qm 1, qm 2, qm 3, qm 4, qm 5], .lf (qp 0)], [.cells [qm 6]], [[tB, tI, tI, tI, tI, tB], []], [tB, tI], .lf (qm 0), [(true, .cells [qm 1])], [], false⟩
def zW_P : List zaV := []
def zW_T : zbf := tab []
theorem zW_To : zbd pg zW_T := zaX trivial
theorem zW_go : zbt pg (zW_T) io_zW f_zW (zW_P) [] (zW) := ⟨by kernel_rfl, by kernel_rfl, fun x => by kernel_rfl⟩
theorem ok_zW : io_zW.Okay pg (F_zW) := zbl zaZ (zW_To) (zW_go) trivial
def e_zW : zbj := io_zW.sp (fun (t0, t1, t2, t3, t4, t5, c) => true) (fun (t0, t1, t2, t3, t4, t5, c) => (t1 == c, c))
theorem sp_zW (h : ∀ (t0 : Bool) (t1 : Int) (t2 : Int) (t3 : Int) (t4 : Int) (t5 : Bool) (c : Int), WfT [tB, tI, tI, tI, tI, tB, tI] (t0, t1, t2, t3, t4, t5, c) → (zW (t0, t1, t2, t3, t4, t5, c)).run (fun _ => none) = some (t1 == c, c)) : e_zW.ok pg := zbo ok_zW fun (t0, t1, t2, t3, t4, t5, c) hw hc => h t0 t1 t2 t3 t4 t5 c hw
theorem e_zW_ok : e_zW.ok pg := sp_zW fun t0 t1 t2 t3 t4 t5 c _ => by
 rw [zW]; rfl
def zC_b3378 : (Int × Bool × Int × Int × Int × Int × Bool) → RT Unit Bool
| (p0, t_0, t_1, t_2, t_3, t_4, t_5) =>
 .rq 3 (.ite t_0
 (.rq 4 (.done (t_1 == p0)))
 (.rq 1 (.done false)))
def zC_p3378 : zaV := ⟨3378, false, [tI, .sl yK, tI, tI, tI, .sl tI, tB, tI, tI, tI, tI, tB], [], ⟨[.keep [1, 4, 5, 6, 8, 9, 10], .gc], [1, 4, 5, 6, 8, 9, 10], [.lf (.fix (.fn 136 [1048576])), .lf (qr 900004), .lf (qi 0), .lf (qp 96), .lf (qi 1), .lf (qi 2), .lf (qi 3)], [(1048576, true, .cells [qi 4]), (900004, true, .arr 3 (qi 5)), (96, true, .cells [qi 6, qi 7, qi 8, qi 9, qi 10, qi 11])]⟩, [⟨0, ⟨[.keep [1, 4, 5, 8, 9, 10, 21], .gc, .nilRow 4 800004 3 tI, .ren 4 700004, .ren 4 900004, .gc], [1, 4, 5, 8, 9, 10, 21], [.lf (.fix (.fn 136 [1048576])), .lf (qr 900004), .lf (qi 0), .lf (qi 1), .lf (qi 2), .lf (qi 3), .lf (qm 0)], [(1048576, true, .cells [qi 4]), (900004, true, .arr 3 (qi 5))]⟩, [tB]⟩], (fun i _ => zC_b3378 (i.2.2.2.2.1, i.2.2.2.2.2.2.1, i.2.2.2.2.2.2.2.1, i.2.2.2.2.2.2.2.2.1, i.2.2.2.2.2.2.2.2.2.1, i.2.2.2.2.2.2.2.2.2.2.1, i.2.2.2.2.2.2.2.2.2.2.2))⟩
def zC_b26 : ((List Tk) × Int × Int) → (Int × (List Int)) → RT (Int × (List Int)) (List Int)
| (x8, x9, p0), (x10, r4) =>
 .rq 1 (.ite (decide (x10 < x9))
 (.rq 1 (.req (inB x8 x10) (.rq 4 (.call (on zC_b3378 (p0, (gI x8 x10).1, (gI x8 x10).2.1, (gI x8 x10).2.2.1, (gI x8 x10).2.2.2.1, (gI x8 x10).2.2.2.2.1, (gI x8 x10).2.2.2.2.2)) default fun v1 =>
 let t0 := w64 (x10 + 1);
 .ite v1
 (.rq 3 (.req (apOK 8 r4 [x10]) (.rq 3 (.again (t0, r4 ++ [x10])))))
 (.rq 2 (.again (t0, r4)))))))
 (.done r4))
def zC_p26 : zaV := ⟨26, true, [.sl yK, tI, tI], [tI, .sl tI], ⟨[.keep [1, 4, 8, 9, 10], .gc, .nilRow 4 800004 3 tI, .ren 4 700004, .ren 4 900004, .gc], [1, 4, 8, 9, 10], [.lf (.fix (.fn 136 [1048576])), .lf (qr 900004), .lf (qi 0), .lf (qi 1), .lf (qm 0)], [(1048576, true, .cells [qi 2]), (900004, true, .arr 3 (qm 1))]⟩, [⟨2, ⟨[.keep [4], .gc, .nilRow 4 800004 3 tI, .ren 4 700004, .ren 4 900004, .gc], [4], [.lf (qr 900004)], [(1048576, true, .cells [qi 2]), (900004, true, .arr 3 (qm 0))]⟩, [.sl tI]⟩], zC_b26⟩
def zC : ((List Bool) × (List Tk) × (List Th) × (List Lk) × (List Int) × Int × Int) → RT Unit (Int × (List Int))
| (s_0, s_1, s_2, s_3, s_4, s_5, is_0) =>
 .rq 6 (.call (lo zC_b26 (s_1, (s_1.length : Int), is_0) (0, [])) default fun v2 =>
 .rq 2 (.done (is_0, v2)))
def F_zC (x : (List Bool) × (List Tk) × (List Th) × (List Lk) × (List Int) × Int × Int) : Option (Int × (List Int)) := (zC x).run fun _ => none
def io_zC : Io := ⟨n_zC, [.sl tB, .sl yK, .sl yH, .sl yL, .sl tI, tI, tI], [.agg [qm 0, qm 1, qm 2, qm 3, qm 4, qm 5], .lf (.fix (.fn 136 [0]))], [.cells [qm 6]], [[.sl tB, .sl yK, .sl yH, .sl yL, .sl tI, tI], []], [tI, .sl tI], .lf (qr 1), [(true, .cells [qm 0])], [(true, .arr 3 (qm 1))], false⟩
def zC_P : List zaV := [zC_p3378, zC_p26]
def zC_T : zbf := tab [e_zW]
theorem zC_To : zbd pg zC_T := zaX ⟨e_zW_ok, trivial⟩
theorem zC_k3378 : (zC_p3378).OK pg (zC_T) (zbu 28 (zC_P)) (zbh f_zC) 28 := ⟨by kernel_rfl, fun i x => by kernel_rfl⟩
theorem zC_k26 : (zC_p26).OK pg (zC_T) (zbu 28 (zC_P)) (zbh f_zC) 28 := ⟨by kernel_rfl, fun i x => by kernel_rfl⟩
theorem zC_go : zbt pg (zC_T) io_zC f_zC (zC_P) [.nilRow 4 800004 3 tI, .ren 4 700004, .ren 4 900004] (zC) := ⟨by kernel_rfl, by kernel_rfl, fun x => by kernel_rfl⟩
theorem ok_zC : io_zC.Okay pg (F_zC) := zbl zaZ (zC_To) (zC_go) ⟨zC_k3378, zC_k26, trivial⟩
def isTk (b : List Tk) (c : Int) (k : Nat) : Bool := (b.getD k default).1 && (b.getD k default).2.1 == c
def zbq (b : List Tk) (c : Int) : List Int := ((List.range b.length).filter (isTk b c)).map fun (k : Nat) => (k : Int)
theorem which_loop (b : List Tk) (c : Int) (hl : b.length ≤ 1000000) : ∀ (d i : Nat) (r : List Int), i + d = b.length → r.length ≤ i →
  lo zC_b26 (b, (b.length : Int), c) ((i : Int), r) = some (r ++ ((List.range' i d).filter (isTk b c)).map fun (k : Nat) => (k : Int))
 | 0, i, r, h, _ => by
  rw [zbi, zC_b26]
  simp only [RT.run]
  rw [if_neg (by simp; omega)]
  simp
 | d + 1, i, r, h, hr => by
  have hi : i < b.length := by omega
  have hmax : maxLen = 9223372036854775807 := by decide
  have hon : on zC_b3378 (c, (gI b (i : Int)).1, (gI b (i : Int)).2.1, (gI b (i : Int)).2.2.1, (gI b (i : Int)).2.2.2.1, (gI b (i : Int)).2.2.2.2.1, (gI b (i : Int)).2.2.2.2.2) = some (isTk b c i) := by
   show (zC_b3378 _).run _ = _
   rw [zC_b3378]
   simp only [RT.run]
   rw [zed]
   unfold isTk
   cases (b.getD i default).1 <;> rfl
  rw [zbi, zC_b26]
  simp only [RT.run]
  rw [if_pos (by simp; omega), if_pos (zbc.2 ⟨by omega, by omega⟩), hon, Option.bind_some, zbg (by omega), show (i : Int) + 1 = ((i + 1 : Nat) : Int) by omega, List.range'_succ, List.filter_cons]
  by_cases hv : isTk b c i = true
  ·rw [if_pos hv, if_pos (zds.2 ⟨by simp; omega, by simp; omega⟩), which_loop b c hl d (i + 1) _ (by omega) (by simp; omega), if_pos hv]
   simp
  ·rw [if_neg hv, which_loop b c hl d (i + 1) _ (by omega) (by omega), if_neg hv]
def e_zC : zbj := io_zC.sp (fun (a, b, c, d, e, f, x) => (decide (b.length ≤ 1000000))) (fun (a, b, c, d, e, f, x) => (x, zbq b x))
theorem sp_zC (h : ∀ (a : List Bool) (b : List Tk) (c : List Th) (d : List Lk) (e : List Int) (f : Int) (x : Int), WfT [.sl tB, .sl yK, .sl yH, .sl yL, .sl tI, tI, tI] (a, b, c, d, e, f, x) → ((decide (b.length ≤ 1000000))) = true → (zC (a, b, c, d, e, f, x)).run (fun _ => none) = some (x, zbq b x)) : e_zC.ok pg := zbo ok_zC fun (a, b, c, d, e, f, x) hw hc => h a b c d e f x hw hc
theorem e_zC_ok : e_zC.ok pg := sp_zC fun a b c d e f x _ hc => by
 have hl := of_decide_eq_true hc
 rw [zC]
 simp only [RT.run]
 have := which_loop b x hl b.length 0 [] (by omega) (by simp)
 rw [show ((0 : Nat) : Int) = 0 from rfl] at this
 rw [this, List.nil_append, ← List.range_eq_range']
 rfl
def zr : ((List Bool) × (List Tk) × (List Th) × (List Lk) × (List Int) × Int × Int) → RT Unit (List Int)
| (s_0, s_1, s_2, s_3, s_4, s_5, c) =>
 .rq 5 (.req ((decide (s_1.length ≤ 1000000))) (.rq 1 (.done (zbq s_1 c))))
def F_zr (x : (List Bool) × (List Tk) × (List Th) × (List Lk) × (List Int) × Int × Int) : Option (List Int) := (zr x).run fun _ => none
def io_zr : Io := ⟨n_zr, [.sl tB, .sl yK, .sl yH, .sl yL, .sl tI, tI, tI], [.agg [qm 0, qm 1, qm 2, qm 3, qm 4, qm 5], .lf (qm 6)], [], [[.sl tB, .sl yK, .sl yH, .sl yL, .sl tI, tI], [tI]], [.sl tI], .lf (qr 0), [], [(true, .arr 3 (qm 0))], false⟩
def zr_P : List zaV := []
def zr_T : zbf := tab [e_zC]
theorem zr_To : zbd pg zr_T := zaX ⟨e_zC_ok, trivial⟩
theorem zr_go : zbt pg (zr_T) io_zr f_zr (zr_P) [.nilRow 4 800004 3 tI, .ren 4 700004, .ren 4 900004] (zr) := ⟨by kernel_rfl, by kernel_rfl, fun x => by kernel_rfl⟩
theorem ok_zr : io_zr.Okay pg (F_zr) := zbl zaZ (zr_To) (zr_go) trivial
def e_zr : zbj := io_zr.sp (fun (a, b, c, d, e, f, x) => (decide (b.length ≤ 1000000))) (fun (a, b, c, d, e, f, x) => (zbq b x))
theorem sp_zr (h : ∀ (a : List Bool) (b : List Tk) (c : List Th) (d : List Lk) (e : List Int) (f : Int) (x : Int), WfT [.sl tB, .sl yK, .sl yH, .sl yL, .sl tI, tI, tI] (a, b, c, d, e, f, x) → ((decide (b.length ≤ 1000000))) = true → (zr (a, b, c, d, e, f, x)).run (fun _ => none) = some (zbq b x)) : e_zr.ok pg := zbo ok_zr fun (a, b, c, d, e, f, x) hw hc => h a b c d e f x hw hc
theorem e_zr_ok : e_zr.ok pg := sp_zr fun a b c d e f x _ hc => by
 rw [zr]
 simp only [RT.run]
 rw [if_pos hc]
def zaB : ((List Bool) × (List Tk) × (List Th) × (List Lk) × (List Int) × Int × Int) → RT Unit Int
| (s_0, s_1, s_2, s_3, s_4, s_5, i) =>
 .rq 15 (let t0 := (zbz s_2 i);
 .ite (t0.1 == 4)
 (.rq 3 (.done t0.2.1))
 (.rq 2 (.ite (t0.1 == 6)
 (.rq 13 (.done ((zdC s_3 t0.2.1)).2.1))
 (.rq 1 (.done (-1))))))
def F_zaB (x : (List Bool) × (List Tk) × (List Th) × (List Lk) × (List Int) × Int × Int) : Option Int := (zaB x).run fun _ => none
def io_zaB : Io := ⟨n_zaB, [.sl tB, .sl yK, .sl yH, .sl yL, .sl tI, tI, tI], [.agg [qm 0, qm 1, qm 2, qm 3, qm 4, qm 5], .lf (qm 6)], [], [[.sl tB, .sl yK, .sl yH, .sl yL, .sl tI, tI], [tI]], [tI], .lf (qm 0), [], [], false⟩
def zaB_P : List zaV := []
def zaB_T : zbf := tab [e_zaA, e_zS]
theorem zaB_To : zbd pg zaB_T := zaX ⟨e_zaA_ok, e_zS_ok, trivial⟩
theorem zaB_go : zbt pg (zaB_T) io_zaB f_zaB (zaB_P) [] (zaB) := ⟨by kernel_rfl, by kernel_rfl, fun x => by kernel_rfl⟩
theorem ok_zaB : io_zaB.Okay pg (F_zaB) := zbl zaZ (zaB_To) (zaB_go) trivial
def zdb (c : List Th) (d : List Lk) (i : Int) : Int :=
 if (zbz c i).1 == 4 then (zbz c i).2.1 else if (zbz c i).1 == 6 then (zdC d (zbz c i).2.1).2.1 else -1
def e_zaB : zbj := io_zaB.sp (fun (a, b, c, d, e, f, i) => true) (fun (a, b, c, d, e, f, i) => (zdb c d i))
theorem sp_zaB (h : ∀ (a : List Bool) (b : List Tk) (c : List Th) (d : List Lk) (e : List Int) (f : Int) (i : Int), WfT [.sl tB, .sl yK, .sl yH, .sl yL, .sl tI, tI, tI] (a, b, c, d, e, f, i) → (zaB (a, b, c, d, e, f, i)).run (fun _ => none) = some (zdb c d i)) : e_zaB.ok pg := zbo ok_zaB fun (a, b, c, d, e, f, i) hw hc => h a b c d e f i hw
theorem e_zaB_ok : e_zaB.ok pg := sp_zaB fun a b c d e f i _ => by
 rw [zaB]
 simp only [RT.run]
 unfold zdb
 cases ((zbz c i).1 == 4) <;> cases ((zbz c i).1 == 6) <;> rfl
def zQ_b28 : ((List Bool) × (List Tk) × (List Th) × (List Lk) × (List Int) × Int) → (Int × (List Int)) → RT (Int × (List Int)) (List Int)
| (s_0, s_1, s_2, s_3, s_4, s_5), (i, r4) =>
 .rq 2 (.ite (i != (-1))
 (.rq 3 (.req (apOK 8 r4 [i]) (.rq 5 (.again ((zdb s_2 s_3 i), r4 ++ [i])))))
 (.done r4))
def zQ_p28 : zaV := ⟨28, true, [.sl tB, .sl yK, .sl yH, .sl yL, .sl tI, tI], [tI, .sl tI], ⟨[.keep [1, 2, 4], .gc, .nilRow 4 800004 3 tI, .ren 4 700004, .ren 4 900004, .gc], [1, 2, 4], [.lf (qm 0), .lf (qp 32), .lf (qr 900004)], [(32, true, .cells [qi 0, qi 1, qi 2, qi 3, qi 4, qi 5]), (900004, true, .arr 3 (qm 1))]⟩, [⟨2, ⟨[.keep [4], .gc, .nilRow 4 800004 3 tI, .ren 4 700004, .ren 4 900004, .gc], [4], [.lf (qr 900004)], [(900004, true, .arr 3 (qm 0))]⟩, [.sl tI]⟩], zQ_b28⟩
def zQ : ((List Bool) × (List Tk) × (List Th) × (List Lk) × (List Int) × Int × Int) → RT Unit (List Int)
| (s_0, s_1, s_2, s_3, s_4, s_5, i) =>
 .rq 13 (.ite (!((zbz s_2 i)).2.2.2.2.2)
 (.rq 1 (.done []))
 (.call (lo zQ_b28 (s_0, s_1, s_2, s_3, s_4, s_5) (i, [])) default fun v0 =>
 .rq 2 (.done v0)))
def F_zQ (x : (List Bool) × (List Tk) × (List Th) × (List Lk) × (List Int) × Int × Int) : Option (List Int) := (zQ x).run fun _ => none
def io_zQ : Io := ⟨n_zQ, [.sl tB, .sl yK, .sl yH, .sl yL, .sl tI, tI, tI], [.agg [qm 0, qm 1, qm 2, qm 3, qm 4, qm 5], .lf (qm 6)], [], [[.sl tB, .sl yK, .sl yH, .sl yL, .sl tI, tI], [tI]], [.sl tI], .lf (qr 0), [], [(true, .arr 3 (qm 0))], false⟩
def zQ_P : List zaV := [zQ_p28]
def zQ_T : zbf := tab [e_zaB, e_zS]
theorem zQ_To : zbd pg zQ_T := zaX ⟨e_zaB_ok, e_zS_ok, trivial⟩
theorem zQ_k28 : (zQ_p28).OK pg (zQ_T) (zbu 25 (zQ_P)) (zbh f_zQ) 25 := ⟨by kernel_rfl, fun i x => by kernel_rfl⟩
theorem zQ_go : zbt pg (zQ_T) io_zQ f_zQ (zQ_P) [.nilRow 4 800004 3 tI, .ren 4 700004, .ren 4 900004] (zQ) := ⟨by kernel_rfl, by kernel_rfl, fun x => by kernel_rfl⟩
theorem ok_zQ : io_zQ.Okay pg (F_zQ) := zbl zaZ (zQ_To) (zQ_go) ⟨zQ_k28, trivial⟩
def zcP (c : List Th) (d : List Lk) : Nat → Int → Option (List Int)
 | 0, i => if i = -1 then some [] else none
 | n + 1, i => if i = -1 then some [] else (zcP c d n (zdb c d i)).map (i :: ·)
def tailOK (c : List Th) (d : List Lk) (i : Int) : Bool := !(zbz c i).2.2.2.2.2 || (zcP c d c.length i).isSome
def zch (c : List Th) (d : List Lk) (i : Int) : List Int := if (zbz c i).2.2.2.2.2 then (zcP c d c.length i).getD [] else []
theorem tail_loop (a : List Bool) (b : List Tk) (c : List Th) (d : List Lk) (e : List Int) (f : Int) : ∀ (n : Nat) (i : Int) (r o : List Int), zcP c d n i = some o → r.length + n ≤ 1000000 →
  lo zQ_b28 (a, b, c, d, e, f) (i, r) = some (r ++ o)
 | 0, i, r, o, h, _ => by
  unfold zcP at h
  rw [zbi, zQ_b28]
  simp only [RT.run]
  split at h
  ·rename_i hi
   cases h
   rw [if_neg (by simp [hi])]
   simp
  ·cases h
 | n + 1, i, r, o, h, hr => by
  have hmax : maxLen = 9223372036854775807 := by decide
  unfold zcP at h
  rw [zbi, zQ_b28]
  simp only [RT.run]
  split at h
  ·rename_i hi
   cases h
   rw [if_neg (by simp [hi])]
   simp
  ·rename_i hi
   obtain ⟨o', h1, rfl⟩ := Option.map_eq_some_iff.1 h
   rw [if_pos (by simpa using hi), if_pos (zds.2 ⟨by simp; omega, by simp; omega⟩), tail_loop a b c d e f n _ (r ++ [i]) o' h1 (by simp; omega)]
   simp
def e_zQ : zbj := io_zQ.sp (fun (a, b, c, d, e, f, i) => (decide (c.length ≤ 1000000) && tailOK c d i)) (fun (a, b, c, d, e, f, i) => (zch c d i))
theorem sp_zQ (h : ∀ (a : List Bool) (b : List Tk) (c : List Th) (d : List Lk) (e : List Int) (f : Int) (i : Int), WfT [.sl tB, .sl yK, .sl yH, .sl yL, .sl tI, tI, tI] (a, b, c, d, e, f, i) → ((decide (c.length ≤ 1000000) && tailOK c d i)) = true → (zQ (a, b, c, d, e, f, i)).run (fun _ => none) = some (zch c d i)) : e_zQ.ok pg := zbo ok_zQ fun (a, b, c, d, e, f, i) hw hc => h a b c d e f i hw hc
theorem e_zQ_ok : e_zQ.ok pg := sp_zQ fun a b c d e f i _ hc => by
 rw [Bool.and_eq_true] at hc
 have hl := of_decide_eq_true hc.1
 rw [zQ]
 simp only [RT.run]
 unfold zch
 have h2 := hc.2
 unfold tailOK at h2
 cases hq : (zbz c i).2.2.2.2.2 with
 | false => rfl
 | true =>
  rw [hq] at h2
  obtain ⟨o, ho⟩ := Option.isSome_iff_exists.1 (by simpa using h2)
  rw [if_neg (by simp), tail_loop a b c d e f c.length i [] o ho (by simpa using hl), ho]
  rfl
theorem tailF_len {c : List Th} {d : List Lk} : ∀ {n : Nat} {i : Int} {o : List Int}, zcP c d n i = some o → o.length ≤ n
 | 0, i, o, h => by
  unfold zcP at h
  split at h
  ·cases h; simp
  ·cases h
 | n + 1, i, o, h => by
  unfold zcP at h
  split at h
  ·cases h; simp
  ·obtain ⟨o', h1, rfl⟩ := Option.map_eq_some_iff.1 h
   have := tailF_len h1
   simp; omega
theorem tailV_len (c : List Th) (d : List Lk) (i : Int) : (zch c d i).length ≤ c.length := by
 unfold zch
 split
 ·cases h : zcP c d c.length i with
  | none => simp
  | some o => exact tailF_len h
 ·simp
def zaH : ((List Bool) × (List Tk) × (List Th) × (List Lk) × (List Int) × Int × Int) → RT Unit Int
| (s_0, s_1, s_2, s_3, s_4, s_5, i) =>
 .rq 4 (.req ((decide (s_2.length ≤ 1000000) && tailOK s_2 s_3 i)) (.rq 4 (let t0 := (zch s_2 s_3 i);
 let t1 := (t0.length : Int);
 .ite (t1 == 0)
 (.rq 1 (.done (-1)))
 (.rq 4 (let t2 := w64 (t1 - 1);
 .req (inB t0 t2) (.rq 2 (.done (gI t0 t2))))))))
def F_zaH (x : (List Bool) × (List Tk) × (List Th) × (List Lk) × (List Int) × Int × Int) : Option Int := (zaH x).run fun _ => none
def io_zaH : Io := ⟨n_zaH, [.sl tB, .sl yK, .sl yH, .sl yL, .sl tI, tI, tI], [.agg [qm 0, qm 1, qm 2, qm 3, qm 4, qm 5], .lf (qm 6)], [], [[.sl tB, .sl yK, .sl yH, .sl yL, .sl tI, tI], [tI]], [tI], .lf (qm 0), [], [], false⟩
def zaH_P : List zaV := []
def zaH_T : zbf := tab [e_zQ]
theorem zaH_To : zbd pg zaH_T := zaX ⟨e_zQ_ok, trivial⟩
theorem zaH_go : zbt pg (zaH_T) io_zaH f_zaH (zaH_P) [] (zaH) := ⟨by kernel_rfl, by kernel_rfl, fun x => by kernel_rfl⟩
theorem ok_zaH : io_zaH.Okay pg (F_zaH) := zbl zaZ (zaH_To) (zaH_go) trivial
def endV (c : List Th) (d : List Lk) (i : Int) : Int := (zch c d i).getLastD (-1)
def e_zaH : zbj := io_zaH.sp (fun (a, b, c, d, e, f, i) => (decide (c.length ≤ 1000000) && tailOK c d i)) (fun (a, b, c, d, e, f, i) => (endV c d i))
theorem sp_zaH (h : ∀ (a : List Bool) (b : List Tk) (c : List Th) (d : List Lk) (e : List Int) (f : Int) (i : Int), WfT [.sl tB, .sl yK, .sl yH, .sl yL, .sl tI, tI, tI] (a, b, c, d, e, f, i) → ((decide (c.length ≤ 1000000) && tailOK c d i)) = true → (zaH (a, b, c, d, e, f, i)).run (fun _ => none) = some (endV c d i)) : e_zaH.ok pg := zbo ok_zaH fun (a, b, c, d, e, f, i) hw hc => h a b c d e f i hw hc
theorem e_zaH_ok : e_zaH.ok pg := sp_zaH fun a b c d e f i _ hc => by
 have hl := of_decide_eq_true (Bool.and_eq_true _ _ ▸ hc : _ ∧ _).1
 have hlen := tailV_len c d i
 rw [zaH]
 simp only [RT.run]
 rw [if_pos hc]
 unfold endV
 generalize zch c d i = t at *
 by_cases ht : t = []
 ·subst ht; rfl
 ·have hpos : 0 < t.length := List.length_pos_iff.2 ht
  rw [if_neg (by simp; omega), zbg (by omega), show (t.length : Int) - 1 = ((t.length - 1 : Nat) : Int) by omega, if_pos (zbc.2 ⟨by omega, by omega⟩), zbD (by omega), List.getLastD_eq_getLast?, List.getLast?_eq_getElem?, List.getElem?_eq_getElem (by omega)]
  rfl
def zas : ((List Bool) × (List Tk) × (List Th) × (List Lk) × (List Int) × Int × Int) → RT Unit Bool
| (s_0, s_1, s_2, s_3, s_4, s_5, i) =>
 .rq 5 (.req ((decide (s_2.length ≤ 1000000) && tailOK s_2 s_3 i)) (.rq 16 (.done ((((zbz s_2 ((endV s_2 s_3 i)))).1 == 2) || (((zbz s_2 ((endV s_2 s_3 i)))).1 == 3)))))
def F_zas (x : (List Bool) × (List Tk) × (List Th) × (List Lk) × (List Int) × Int × Int) : Option Bool := (zas x).run fun _ => none
def io_zas : Io := ⟨n_zas, [.sl tB, .sl yK, .sl yH, .sl yL, .sl tI, tI, tI], [.agg [qm 0, qm 1, qm 2, qm 3, qm 4, qm 5], .lf (qm 6)], [], [[.sl tB, .sl yK, .sl yH, .sl yL, .sl tI, tI], [tI]], [tB], .lf (qm 0), [], [], false⟩
def zas_P : List zaV := []
def zas_T : zbf := tab [e_zaH, e_zS]
theorem zas_To : zbd pg zas_T := zaX ⟨e_zaH_ok, e_zS_ok, trivial⟩
theorem zas_go : zbt pg (zas_T) io_zas f_zas (zas_P) [] (zas) := ⟨by kernel_rfl, by kernel_rfl, fun x => by kernel_rfl⟩
theorem ok_zas : io_zas.Okay pg (F_zas) := zbl zaZ (zas_To) (zas_go) trivial
def zeq (c : List Th) (d : List Lk) (i : Int) : Bool := (zbz c (endV c d i)).1 == 2 || (zbz c (endV c d i)).1 == 3
def e_zas : zbj := io_zas.sp (fun (a, b, c, d, e, f, i) => (decide (c.length ≤ 1000000) && tailOK c d i)) (fun (a, b, c, d, e, f, i) => (zeq c d i))
theorem sp_zas (h : ∀ (a : List Bool) (b : List Tk) (c : List Th) (d : List Lk) (e : List Int) (f : Int) (i : Int), WfT [.sl tB, .sl yK, .sl yH, .sl yL, .sl tI, tI, tI] (a, b, c, d, e, f, i) → ((decide (c.length ≤ 1000000) && tailOK c d i)) = true → (zas (a, b, c, d, e, f, i)).run (fun _ => none) = some (zeq c d i)) : e_zas.ok pg := zbo ok_zas fun (a, b, c, d, e, f, i) hw hc => h a b c d e f i hw hc
theorem e_zas_ok : e_zas.ok pg := sp_zas fun a b c d e f i _ hc => by
 rw [zas]
 simp only [RT.run]
 rw [if_pos hc]
 rfl
def zF_b58 : (Int × (List Bool) × (List Tk) × (List Th) × (List Lk) × (List Int) × Int) → (Int × (List Bool)) → RT (Int × (List Bool)) (List Bool)
| (x10, s_0, s_1, s_2, s_3, s_4, s_5), (x11, r3) =>
 .rq 1 (.ite (decide (x11 < x10))
 (.rq 6 (.req ((decide (s_2.length ≤ 1000000) && tailOK s_2 s_3 x11)) (.req (inB r3 x11) (.rq 3 (.again (w64 (x11 + 1), sI r3 x11 ((zeq s_2 s_3 x11))))))))
 (.done r3))
def zF_p58 : zaV := ⟨58, true, [tI, .sl tB, .sl yK, .sl yH, .sl yL, .sl tI, tI], [tI, .sl tB], ⟨[.keep [1, 3, 10, 11], .gc, .nilRow 3 800003 4 tB, .ren 3 700003, .ren 3 900003, .gc], [1, 3, 10, 11], [.lf (qp 16), .lf (qr 900003), .lf (qi 0), .lf (qm 0)], [(16, true, .cells [qi 1, qi 2, qi 3, qi 4, qi 5, qi 6]), (900003, true, .arr 4 (qm 1))]⟩, [⟨2, ⟨[.keep [3], .gc, .nilRow 3 800003 4 tB, .ren 3 700003, .ren 3 900003, .gc], [3], [.lf (qr 900003)], [(900003, true, .arr 4 (qm 0))]⟩, [.sl tB]⟩], zF_b58⟩
def zF : ((List Bool) × (List Tk) × (List Th) × (List Lk) × (List Int) × Int) → RT Unit (List Bool)
| (s_0, s_1, s_2, s_3, s_4, s_5) =>
 .rq 5 (.req (mkOK 1 (s_2.length : Int)) (.rq 4 (let t0 := zbV (s_2.length : Int) false;
 .call (lo zF_b58 ((t0.length : Int), s_0, s_1, s_2, s_3, s_4, s_5) (0, t0)) default fun v0 =>
 .rq 2 (.done v0))))
def F_zF (x : (List Bool) × (List Tk) × (List Th) × (List Lk) × (List Int) × Int) : Option (List Bool) := (zF x).run fun _ => none
def io_zF : Io := ⟨n_zF, [.sl tB, .sl yK, .sl yH, .sl yL, .sl tI, tI], [.agg [qm 0, qm 1, qm 2, qm 3, qm 4, qm 5]], [], [[.sl tB, .sl yK, .sl yH, .sl yL, .sl tI, tI]], [.sl tB], .lf (qr 0), [], [(true, .arr 4 (qm 0))], false⟩
def zF_P : List zaV := [zF_p58]
def zF_T : zbf := tab [e_zas]
theorem zF_To : zbd pg zF_T := zaX ⟨e_zas_ok, trivial⟩
theorem zF_k58 : (zF_p58).OK pg (zF_T) (zbu 22 (zF_P)) (zbh f_zF) 22 := ⟨by kernel_rfl, fun i x => by kernel_rfl⟩
theorem zF_go : zbt pg (zF_T) io_zF f_zF (zF_P) [.nilRow 2 800002 4 tB, .ren 2 700002, .ren 2 900002] (zF) := ⟨by kernel_rfl, by kernel_rfl, fun x => by kernel_rfl⟩
theorem ok_zF : io_zF.Okay pg (F_zF) := zbl zaZ (zF_To) (zF_go) ⟨zF_k58, trivial⟩
def liveV (c : List Th) (d : List Lk) : List Bool := (List.range c.length).map fun (i : Nat) => zeq c d (i : Int)
def liveOK (c : List Th) (d : List Lk) : Bool := (List.range c.length).all fun (i : Nat) => tailOK c d (i : Int)
theorem live_loop (a : List Bool) (b : List Tk) (c : List Th) (d : List Lk) (e : List Int) (f : Int) (hl : c.length ≤ 1000000) (hok : liveOK c d = true) : ∀ (n i : Nat) (r : List Bool), i + n = c.length → r.length = c.length → r.take i = (List.range i).map (fun (k : Nat) => zeq c d (k : Int)) →
  lo zF_b58 ((c.length : Int), a, b, c, d, e, f) ((i : Int), r) = some (liveV c d)
 | 0, i, r, h, hr, ht => by
  rw [zbi, zF_b58]
  simp only [RT.run]
  rw [if_neg (by simp; omega)]
  unfold liveV
  rw [show c.length = i by omega, ← ht, List.take_of_length_le (by omega)]
 | n + 1, i, r, h, hr, ht => by
  have hi : i < c.length := by omega
  have hk : tailOK c d (i : Int) = true := List.all_eq_true.1 hok i (List.mem_range.2 hi)
  rw [zbi, zF_b58]
  simp only [RT.run]
  rw [if_pos (by simp; omega), if_pos (by rw [hk, decide_eq_true hl]; rfl), if_pos (zbc.2 ⟨by omega, by omega⟩), zbg (by omega), show (i : Int) + 1 = ((i + 1 : Nat) : Int) by omega]
  refine live_loop a b c d e f hl hok n (i + 1) _ (by omega) (by simp [sI, hr]) ?_
  rw [sI, Int.toNat_natCast, List.take_add_one, List.getElem?_set_self (by omega), List.take_set_of_le (Nat.le_refl _), ht, List.range_succ, List.map_append]
  rfl
def e_zF : zbj := io_zF.sp (fun (a, b, c, d, e, f) => (decide (c.length ≤ 1000000) && liveOK c d)) (fun (a, b, c, d, e, f) => (liveV c d))
theorem sp_zF (h : ∀ (a : List Bool) (b : List Tk) (c : List Th) (d : List Lk) (e : List Int) (f : Int), WfT [.sl tB, .sl yK, .sl yH, .sl yL, .sl tI, tI] (a, b, c, d, e, f) → ((decide (c.length ≤ 1000000) && liveOK c d)) = true → (zF (a, b, c, d, e, f)).run (fun _ => none) = some (liveV c d)) : e_zF.ok pg := zbo ok_zF fun (a, b, c, d, e, f) hw hc => h a b c d e f hw hc
theorem e_zF_ok : e_zF.ok pg := sp_zF fun a b c d e f _ hc => by
 rw [Bool.and_eq_true] at hc
 have hl := of_decide_eq_true hc.1
 rw [zF]
 simp only [RT.run]
 rw [if_pos (zcK.2 ⟨by omega, by omega, by omega⟩)]
 have hrl : (zbV (c.length : Int) false).length = c.length := by simp [zbV]
 have := live_loop a b c d e f hl hc.2 c.length 0 (zbV (c.length : Int) false) (by omega) hrl (by simp)
 rw [show ((0 : Nat) : Int) = 0 from rfl] at this
 rw [hrl, this]
 rfl
def zk : (List Int) → RT Unit (List Int)
| s =>
 .rq 4 (.done s)
def F_zk (x : (List Int)) : Option (List Int) := (zk x).run fun _ => none
def io_zk : Io := ⟨n_zk, [.sl tI], [.lf (qm 0)], [], [[.sl tI]], [.sl tI], .lf (.fix (.fn 144 [0])), [], [(true, .cells [qm 0])], true⟩
def zk_P : List zaV := []
def zk_T : zbf := tab []
theorem zk_To : zbd pg zk_T := zaX trivial
theorem zk_go : zbt pg (zk_T) io_zk f_zk (zk_P) [] (zk) := ⟨by kernel_rfl, by kernel_rfl, fun x => by kernel_rfl⟩
theorem ok_zk : io_zk.Okay pg (F_zk) := zbl zaZ (zk_To) (zk_go) trivial
def e_zk : zbj := io_zk.sp (fun s => true) (fun s => s)
theorem sp_zk (h : ∀ (s : List Int), WfT [.sl tI] s → (zk s).run (fun _ => none) = some s) : e_zk.ok pg := zbo ok_zk fun s hw hc => h s hw
theorem e_zk_ok : e_zk.ok pg := sp_zk fun s _ => by
 rw [zk]; rfl
def zdl : Code := match zbR 80 (zbh f_zd) 58 with
 | some (.rangeFunc _ _ _ b) => b
 | _ => .skip
def zfc : (Int × (List Bool) × (List Bool) × Int × Bool) → RT Unit (List Bool)
| (t, p240, p337, x11_4, x11_5) =>
 .rq 5 (.ite x11_5
 (.rq 3 (.req (inB p337 x11_4) (.rq 2 (.req (inB p240 t) (.rq 1 (.done (sI p240 t (gI p337 x11_4))))))))
 (.rq 1 (.req (inB p240 t) (.rq 1 (.done (sI p240 t false))))))
def zd_r_p42602 : zaV := ⟨42602, false, [tI, tI, tI, tI, .sl tB, .sl yK, .sl yH, .sl yL, .sl tI, tI, .sl tB, .sl tI, .sl tB, tB, tI, tI, tI, tI, tB, .sl tI], [], ⟨[.keep [1, 4, 5, 6, 8, 10, 11, 29, 30, 31], .gc], [1, 4, 5, 6, 8, 10, 11, 29, 30, 31], [.lf (qp 1048592), .lf (qp 1048640), .lf (qp 1048656), .lf (qp 1048672), .lf (qi 0), .lf (qi 1), .lf (qp 176), .lf (qr 900029), .lf (qi 2), .lf (qi 3)], [(1048592, true, .cells [qi 4, qi 5, qi 6, qi 7, qi 8, qi 9]), (1048816, true, .arr 4 (qi 10)), (1048880, true, .arr 3 (qi 11)), (1048913, true, .arr 4 (qi 12)), (1048640, true, .cells [qr 1048816]), (1048656, true, .cells [qr 1048880]), (1048672, true, .cells [qr 1048913]), (176, true, .cells [qi 13, qi 14, qi 15, qi 16, qi 17, qi 18]), (900029, true, .arr 3 (qi 19))]⟩, [⟨0, ⟨[.keep [1, 4, 5, 6, 8, 10, 11, 29, 30, 31], .gc, .nilRow 29 800029 3 tI, .ren 29 700029, .ren 29 900029, .gc], [1, 4, 5, 6, 8, 10, 11, 29, 30, 31], [.lf (qp 1048592), .lf (qp 1048640), .lf (qp 1048656), .lf (qp 1048672), .lf (qi 0), .lf (qi 1), .lf (qp 176), .lf (qr 900029), .lf (qi 2), .lf (qi 3)], [(1048592, true, .cells [qi 4, qi 5, qi 6, qi 7, qi 8, qi 9]), (1048816, true, .arr 4 (qm 0)), (1048880, true, .arr 3 (qi 11)), (1048913, true, .arr 4 (qi 12)), (1048640, true, .cells [qr 1048816]), (1048656, true, .cells [qr 1048880]), (1048672, true, .cells [qr 1048913]), (176, true, .cells [qi 13, qi 14, qi 15, qi 16, qi 17, qi 18]), (900029, true, .arr 3 (qi 19))]⟩, [.sl tB]⟩], (fun i _ => zfc (i.2.1, i.2.2.2.2.2.2.2.2.2.2.1, i.2.2.2.2.2.2.2.2.2.2.2.2.1, i.2.2.2.2.2.2.2.2.2.2.2.2.2.2.2.2.2.1, i.2.2.2.2.2.2.2.2.2.2.2.2.2.2.2.2.2.2.1))⟩
def zeK : (Int × (List Bool) × (List Int) × Int × Bool) → RT Unit (List Bool)
| (t, p240, p304, x11_4, x11_5) =>
 .rq 5 (.ite x11_5
 (.rq 3 (.req (inB p304 x11_4) (.rq 3 (.req (inB p240 t) (.rq 1 (.done (sI p240 t (decide (0 < (gI p304 x11_4))))))))))
 (.rq 1 (.req (inB p240 t) (.rq 1 (.done (sI p240 t false))))))
def zd_r_p170414 : zaV := ⟨170414, false, [tI, tI, tI, tI, .sl tB, .sl yK, .sl yH, .sl yL, .sl tI, tI, .sl tB, .sl tI, .sl tB, tB, tI, tI, tI, tI, tB, .sl tI], [], ⟨[.keep [1, 4, 5, 6, 8, 10, 11, 29, 30, 31], .gc], [1, 4, 5, 6, 8, 10, 11, 29, 30, 31], [.lf (qp 1048592), .lf (qp 1048640), .lf (qp 1048656), .lf (qp 1048672), .lf (qi 0), .lf (qi 1), .lf (qp 176), .lf (qr 900029), .lf (qi 2), .lf (qi 3)], [(1048592, true, .cells [qi 4, qi 5, qi 6, qi 7, qi 8, qi 9]), (1048816, true, .arr 4 (qi 10)), (1048880, true, .arr 3 (qi 11)), (1048913, true, .arr 4 (qi 12)), (1048640, true, .cells [qr 1048816]), (1048656, true, .cells [qr 1048880]), (1048672, true, .cells [qr 1048913]), (176, true, .cells [qi 13, qi 14, qi 15, qi 16, qi 17, qi 18]), (900029, true, .arr 3 (qi 19))]⟩, [⟨0, ⟨[.keep [1, 4, 5, 6, 8, 10, 11, 29, 30, 31], .gc, .nilRow 29 800029 3 tI, .ren 29 700029, .ren 29 900029, .gc], [1, 4, 5, 6, 8, 10, 11, 29, 30, 31], [.lf (qp 1048592), .lf (qp 1048640), .lf (qp 1048656), .lf (qp 1048672), .lf (qi 0), .lf (qi 1), .lf (qp 176), .lf (qr 900029), .lf (qi 2), .lf (qi 3)], [(1048592, true, .cells [qi 4, qi 5, qi 6, qi 7, qi 8, qi 9]), (1048816, true, .arr 4 (qm 0)), (1048880, true, .arr 3 (qi 11)), (1048913, true, .arr 4 (qi 12)), (1048640, true, .cells [qr 1048816]), (1048656, true, .cells [qr 1048880]), (1048672, true, .cells [qr 1048913]), (176, true, .cells [qi 13, qi 14, qi 15, qi 16, qi 17, qi 18]), (900029, true, .arr 3 (qi 19))]⟩, [.sl tB]⟩], (fun i _ => zeK (i.2.1, i.2.2.2.2.2.2.2.2.2.2.1, i.2.2.2.2.2.2.2.2.2.2.2.1, i.2.2.2.2.2.2.2.2.2.2.2.2.2.2.2.2.2.1, i.2.2.2.2.2.2.2.2.2.2.2.2.2.2.2.2.2.2.1))⟩
def zfH : (Int × (List Bool) × (List Int) × (List Bool) × Int × Int × Bool) → RT Unit (List Bool)
| (t, p240, p304, p337, x11_3, x11_4, x11_5) =>
 .rq 4 (.ite (x11_3 == 1)
 (.call (on zfc (t, p240, p337, x11_4, x11_5)) default fun v2 =>
 .done v2)
 (.rq 2 (.ite (x11_3 == 2)
 (.call (on zeK (t, p240, p304, x11_4, x11_5)) default fun v3 =>
 .done v3)
 (.done p240))))
def zd_r_p2662 : zaV := ⟨2662, false, [tI, tI, tI, tI, .sl tB, .sl yK, .sl yH, .sl yL, .sl tI, tI, .sl tB, .sl tI, .sl tB, tB, tI, tI, tI, tI, tB, .sl tI], [], ⟨[.keep [1, 4, 5, 6, 8, 10, 11, 29, 30, 31], .gc], [1, 4, 5, 6, 8, 10, 11, 29, 30, 31], [.lf (qp 1048592), .lf (qp 1048640), .lf (qp 1048656), .lf (qp 1048672), .lf (qi 0), .lf (qi 1), .lf (qp 176), .lf (qr 900029), .lf (qi 2), .lf (qi 3)], [(1048592, true, .cells [qi 4, qi 5, qi 6, qi 7, qi 8, qi 9]), (1048816, true, .arr 4 (qi 10)), (1048880, true, .arr 3 (qi 11)), (1048913, true, .arr 4 (qi 12)), (1048640, true, .cells [qr 1048816]), (1048656, true, .cells [qr 1048880]), (1048672, true, .cells [qr 1048913]), (176, true, .cells [qi 13, qi 14, qi 15, qi 16, qi 17, qi 18]), (900029, true, .arr 3 (qi 19))]⟩, [⟨0, ⟨[.keep [1, 4, 5, 6, 8, 10, 11, 29, 30, 31], .gc, .nilRow 29 800029 3 tI, .ren 29 700029, .ren 29 900029, .gc], [1, 4, 5, 6, 8, 10, 11, 29, 30, 31], [.lf (qp 1048592), .lf (qp 1048640), .lf (qp 1048656), .lf (qp 1048672), .lf (qi 0), .lf (qi 1), .lf (qp 176), .lf (qr 900029), .lf (qi 2), .lf (qi 3)], [(1048592, true, .cells [qi 4, qi 5, qi 6, qi 7, qi 8, qi 9]), (1048816, true, .arr 4 (qm 0)), (1048880, true, .arr 3 (qi 11)), (1048913, true, .arr 4 (qi 12)), (1048640, true, .cells [qr 1048816]), (1048656, true, .cells [qr 1048880]), (1048672, true, .cells [qr 1048913]), (176, true, .cells [qi 13, qi 14, qi 15, qi 16, qi 17, qi 18]), (900029, true, .arr 3 (qi 19))]⟩, [.sl tB]⟩], (fun i _ => zfH (i.2.1, i.2.2.2.2.2.2.2.2.2.2.1, i.2.2.2.2.2.2.2.2.2.2.2.1, i.2.2.2.2.2.2.2.2.2.2.2.2.1, i.2.2.2.2.2.2.2.2.2.2.2.2.2.2.2.2.1, i.2.2.2.2.2.2.2.2.2.2.2.2.2.2.2.2.2.1, i.2.2.2.2.2.2.2.2.2.2.2.2.2.2.2.2.2.2.1))⟩
def zd_r_b10 : (Int × Int × (List Tk) × (List Bool) × (List Int)) → (Int × (List Bool) × (List Int)) → RT (Int × (List Bool) × (List Int)) ((List Bool) × (List Int))
| (i, f, p16_1, p337, r29), (x31, p240, p304) =>
 .rq 1 (.ite (decide (x31 < f))
 (.req (inB r29 x31) (.rq 5 (.req (inB p16_1 (gI r29 x31)) (.rq 3 (.call (on zfH (gI r29 x31, p240, p304, p337, (gI p16_1 (gI r29 x31)).2.2.2.1, (gI p16_1 (gI r29 x31)).2.2.2.2.1, (gI p16_1 (gI r29 x31)).2.2.2.2.2)) default fun v4 =>
 .rq 2 (.req (inB v4 (gI r29 x31)) (.rq 1 (let t0 := w64 (x31 + 1);
 .ite (gI v4 (gI r29 x31))
 (.rq 2 (.req (inB p304 i) (.rq 4 (.req (inB p304 i) (.rq 3 (.again (t0, v4, sI p304 i (w64 ((gI p304 i) + (gI p16_1 (gI r29 x31)).2.2.1)))))))))
 (.rq 2 (.again (t0, v4, p304)))))))))))
 (.done (p240, p304)))
def zd_r_p10 : zaV := ⟨10, true, [tI, tI, .sl tB, .sl yK, .sl yH, .sl yL, .sl tI, tI, .sl tB, .sl tI], [tI, .sl tB, .sl tI], ⟨[.keep [1, 4, 5, 6, 8, 29, 30, 31], .gc, .nilRow 29 800029 3 tI, .ren 29 700029, .ren 29 900029, .gc], [1, 4, 5, 6, 8, 29, 30, 31], [.lf (qp 1048592), .lf (qp 1048640), .lf (qp 1048656), .lf (qp 1048672), .lf (qi 0), .lf (qr 900029), .lf (qi 1), .lf (qm 0)], [(1048592, true, .cells [qi 2, qi 3, qi 4, qi 5, qi 6, qi 7]), (1048816, true, .arr 4 (qm 1)), (1048880, true, .arr 3 (qm 2)), (1048913, true, .arr 4 (qi 8)), (1048640, true, .cells [qr 1048816]), (1048656, true, .cells [qr 1048880]), (1048672, true, .cells [qr 1048913]), (900029, true, .arr 3 (qi 9))]⟩, [⟨4, ⟨[.keep [], .gc], [], [], [(1048592, true, .cells [qi 2, qi 3, qi 4, qi 5, qi 6, qi 7]), (1048816, true, .arr 4 (qm 0)), (1048880, true, .arr 3 (qm 1)), (1048913, true, .arr 4 (qi 8)), (1048640, true, .cells [qr 1048816]), (1048656, true, .cells [qr 1048880]), (1048672, true, .cells [qr 1048913])]⟩, [.sl tB, .sl tI]⟩], (fun i => zd_r_b10 (i.1, i.2.1, i.2.2.2.1, i.2.2.2.2.2.2.2.2.1, i.2.2.2.2.2.2.2.2.2))⟩
def zd_r : (Int × (List Bool) × (List Tk) × (List Th) × (List Lk) × (List Int) × Int × (List Bool) × (List Int) × (List Bool)) → RT Unit ((List Bool) × (List Int))
| (c, coins, tickets, threads, locks, queue, quantum, counts, amounts, lives) =>
 .rq 2 (.req ((decide (tickets.length ≤ 1000000))) (.rq 2 (let t0 := (zbq tickets c);
 .call (lo zd_r_b10 (c, (t0.length : Int), tickets, lives, t0) (0, counts, amounts)) default fun v5 =>
 .done (v5.1, v5.2))))
def zd_r_P : List zaV := [zd_r_p42602, zd_r_p170414, zd_r_p2662, zd_r_p10]
def zd_r_T : zbf := tab [e_zr]
theorem zd_r_To : zbd pg zd_r_T := zaX ⟨e_zr_ok, trivial⟩
theorem zd_r_k42602 : zd_r_p42602.OK pg zd_r_T (zbu 86 zd_r_P) zdl 86 := ⟨by kernel_rfl, fun i x => by kernel_rfl⟩
theorem zd_r_k170414 : zd_r_p170414.OK pg zd_r_T (zbu 86 zd_r_P) zdl 86 := ⟨by kernel_rfl, fun i x => by kernel_rfl⟩
theorem zd_r_k2662 : zd_r_p2662.OK pg zd_r_T (zbu 86 zd_r_P) zdl 86 := ⟨by kernel_rfl, fun i x => by kernel_rfl⟩
theorem zd_r_k10 : zd_r_p10.OK pg zd_r_T (zbu 86 zd_r_P) zdl 86 := ⟨by kernel_rfl, fun i x => by kernel_rfl⟩
theorem zd_r_ks : PAll (fun (p : zaV) => p.OK pg zd_r_T (zbu 86 zd_r_P) zdl 86) zd_r_P := ⟨zd_r_k42602, zd_r_k170414, zd_r_k2662, zd_r_k10, trivial⟩
abbrev SFx := (List Bool) × (List Tk) × (List Th) × (List Lk) × (List Int) × Int × (List Bool)
def zbY : SFx → (List Bool) × (List Int) → List (Nat × Ent)
 | (coins, tickets, threads, locks, queue, quantum, lives), (counts, amounts) =>
  [(16, ⟨true, .cells [.dat .bool coins, .dat yK tickets, .dat yH threads, .dat yL locks, .dat tI queue, .int .i64 quantum]⟩), (240, ⟨true, .arr 4 .bool counts⟩), (304, ⟨true, .arr 3 tI amounts⟩), (337, ⟨true, .arr 4 .bool lives⟩),
   (64, ⟨true, .cells [.ref 240]⟩), (80, ⟨true, .cells [.ref 304]⟩), (96, ⟨true, .cells [.ref 337]⟩)]
def rkRst (fx : SFx) (c : Int) (x : (List Bool) × (List Int)) : St :=
 spSt 86 [1, 4, 5, 6, 8] [.lf (.ptr (zaW + 16) 0), .lf (.ptr (zaW + 64) 0), .lf (.ptr (zaW + 80) 0), .lf (.ptr (zaW + 96) 0), .lf (.int .i64 c)] (zck (zbY fx x))
def rkSee : Ev → Option PE
 | .norm σ => (zeo [.keep [], .gc] [] 86 σ).map fun z => .norm z.1 z.2
 | _ => none
def rkR : SFx → Int → (List Bool) × (List Int) → RT Unit ((List Bool) × (List Int))
 | (coins, tickets, threads, locks, queue, quantum, lives), c, (counts, amounts) => zd_r (c, coins, tickets, threads, locks, queue, quantum, counts, amounts, lives)
theorem rk_body (fx : SFx) (c : Int) (x : (List Bool) × (List Int)) : (evI pg zd_r_T (zbu 86 zd_r_P) 1 zdl (rkRst fx c x)).pt rkSee =
  (rkR fx c x).pt (fun _ => .norm [] []) (fun x' => .norm [] (zck (zbY fx x'))) := by kernel_rfl
end
end Go.Proofs.Ytlfdidaeachpoaa
namespace Go.Proofs
open Go.RowKit Go.Shelf
attribute [local go_sem] Oper.semAt_some
def Bw.upto {α : Type} (f : Nat → α) (k : Nat) : List α := (List.range k).map f
theorem Bw.upto_succ {α : Type} (f : Nat → α) (k : Nat) : Bw.upto f (k + 1) = Bw.upto f k ++ [f k] := by simp [Bw.upto, List.range_succ]
theorem Bw.upto_length {α : Type} (f : Nat → α) (k : Nat) : (Bw.upto f k).length = k := by simp [Bw.upto]
def Bw.Kp (Z : Nat → Prop) (A B : World) : Prop := ∀ k, Z k → B.heap[k]? = A.heap[k]?
theorem Bw.Kp.cell {Z : Nat → Prop} {A B : World} (h : Bw.Kp Z A B) {p : Addr} (hp : Z p.block) : B.cell? p = A.cell? p := World.cell?_of_block (h _ hp)
set_option maxRecDepth 100000 in
set_option maxHeartbeats 2000000 in
theorem Bw.back_in (F : Fence) (n : Nat) (h8 : F.fn 144) (hro : F.round = none) (hn : 1 ≤ n) (l Bs b off len cap : Nat) (Z : Nat → Prop) (zs : List Int) (hreach : len * 8 ≤ 140737488351232) (hb : Z b) (hBsZ : Z Bs) (p : Nat × Int → Prop) (hp : ∀ j, j < len → p (j, zs[j]?.getD 0)) (J Jx : List (Nat × Int) → World → Prop)
  (hY : ∀ pre x W, p x → J pre W → pre.length < len → YieldAt F (n - 1) Try.prog l #[.int .i64 (x.1 : Int), .int .i64 x.2] W fun e W' =>
   (e = .returned (.bool true) ∧ J (pre ++ [x]) W' ∧ Bw.Kp Z W W') ∨ (e = .returned (.bool false) ∧ Jx (pre ++ [x]) W'))
  (W : World) (hBs : W.cell? ⟨Bs, 0, none⟩ = some (.slice (some ⟨b, off, none⟩) len cap)) (hc : ∀ j, j < len → W.cell? ⟨b, off + j, none⟩ = some (.int .i64 (zs[j]?.getD 0))) (h0 : J [] W) :
  CallsIn F n Try.prog 144 #[.func (.yield l) #[] #[], .pointer (some ⟨Bs, 0, none⟩)] W fun e W' => (∃ v, e = .returned v) ∧
   ((∃ ys, ys = Bw.upto (fun j => (len - 1 - j, zs[len - 1 - j]?.getD 0)) len ∧ J ys W') ∨ (∃ pre, (∃ k, k ≤ len ∧ pre = Bw.upto (fun j => (len - 1 - j, zs[len - 1 - j]?.getD 0)) k) ∧ Jx pre W')) := by
 refine callsIn_of_wp Try.func144 rfl h8 ?_ hro
 simp only [Try.ntmps144, List.size_toArray, List.length_cons, List.length_nil, Nat.reduceAdd, Nat.reduceSub, Array.replicate_succ, Array.replicate_zero, List.push_toArray, List.append_toArray, List.nil_append, List.cons_append]
 gi_wp2
 gi_loopw [3] (fun i wr => ∃ k : Nat, k ≤ len ∧ i = .int .i64 ((len : Int) - 1 - k) ∧ J (Bw.upto (fun j => (len - 1 - j, zs[len - 1 - j]?.getD 0)) k) wr ∧ Bw.Kp Z W wr)
  (fun i _ => (intOf i + 1).toNat)
 case atStart => exact ⟨0, Nat.zero_le _, by simp, h0, fun _ _ => rfl⟩
 case round =>
  obtain ⟨k, hk, rfl, hJs, hnx⟩ := hrel
  have hBs' : wr.cell? ⟨Bs, 0, none⟩ = some (.slice (some ⟨b, off, none⟩) len cap) := (hnx.cell (p := ⟨Bs, 0, none⟩) hBsZ).trans hBs
  have hcx : k < len → wr.cell? ⟨b, off + (len - 1 - k), none⟩ = some (.int .i64 (zs[len - 1 - k]?.getD 0)) := fun h => (hnx.cell (p := ⟨b, off + (len - 1 - k), none⟩) hb).trans (hc (len - 1 - k) (by omega))
  by_cases hlt : k < len
  ·obtain ⟨fn, tmps, assign, body, hy, hR⟩ := hY _ (len - 1 - k, zs[len - 1 - k]?.getD 0) wr (hp _ (by omega)) hJs (by rw [Bw.upto_length]; exact hlt)
   dsimp only at hy
   have hcx' := hcx hlt
   obtain ⟨m, hm⟩ : ∃ m, m = len - 1 - k := ⟨_, rfl⟩
   have hmi : (len : Int) - 1 - k = (m : Int) := by omega
   rw [← hm] at hy hcx'
   rw [hmi]
   have hml : m < len := by omega
   have hm2 : m + k + 1 ≤ len ∧ len ≤ m + k + 1 := by omega
   clear hm hmi
   gi_wp2
   refine hR.mono ?_
   rintro e W3 (⟨rfl, hJ3, hk3⟩ | ⟨rfl, hJx3⟩)
   ·gi_wp2
    go_roundw
    case rel =>
     refine ⟨k + 1, by omega, ?_, by rw [Bw.upto_succ]; exact hJ3, fun q hq => (hk3 q hq).trans (hnx q hq)⟩
     have e1 : (m : Int) - 1 = (len : Int) - 1 - ((k + 1 : Nat) : Int) := by omega
     rw [e1]
    case measure =>
     simp only [intOf]
     omega
   ·gi_wp2
    refine bodyPost_ret (results_none rfl _ _ _) rfl ?_
    exact ⟨⟨_, rfl⟩, .inr ⟨_, ⟨k + 1, by omega, (Bw.upto_succ _ _).symm⟩, hJx3⟩⟩
  ·obtain rfl : k = len := by omega
   have hmi : (k : Int) - 1 - k = -1 := by omega
   rw [hmi]
   gi_wp2
   go_end0
   exact ⟨⟨_, rfl⟩, .inl ⟨_, rfl, hJs⟩⟩
set_option maxRecDepth 100000 in
set_option maxHeartbeats 1000000 in
theorem Bw.back_nil_in (F : Fence) (n : Nat) (h8 : F.fn 144) (hro : F.round = none) (l Bs : Nat) (A : Option Addr) (cap : Nat) (J : List (Nat × Int) → World → Prop) (W : World) (hBs : W.cell? ⟨Bs, 0, none⟩ = some (.slice A 0 cap)) (h0 : J [] W) :
  CallsIn F n Try.prog 144 #[.func (.yield l) #[] #[], .pointer (some ⟨Bs, 0, none⟩)] W fun e W' => (∃ v, e = .returned v) ∧ J [] W' := by
 refine callsIn_of_wp Try.func144 rfl h8 ?_ hro
 simp only [Try.ntmps144, List.size_toArray, List.length_cons, List.length_nil, Nat.reduceAdd, Nat.reduceSub, Array.replicate_succ, Array.replicate_zero, List.push_toArray, List.append_toArray, List.nil_append, List.cons_append]
 gi_wp2
 gi_loopw [3] (fun i wr => i = .int .i64 (-1) ∧ J [] wr) (fun _ _ => 0)
 case atStart => exact ⟨rfl, h0⟩
 case round =>
  obtain ⟨rfl, hJs⟩ := hrel
  gi_wp2
  go_end0
  exact ⟨⟨_, rfl⟩, hJs⟩
def Bw.list (zs : List Int) : List (Nat × Int) := Bw.upto (fun j => (zs.length - 1 - j, zs[zs.length - 1 - j]?.getD 0)) zs.length
theorem Bw.list_snd (zs : List Int) : (Bw.list zs).map (·.2) = zs.reverse := by
 apply List.ext_getElem
 ·simp [Bw.list, Bw.upto]
 ·intro i h1 h2
  have hi : i < zs.length := by simpa using h2
  have hj : zs.length - 1 - i < zs.length := by omega
  simp [Bw.list, Bw.upto, hj]
def Bw.Ints (Z : Nat → Prop) (W : World) (sv : Value) (zs : List Int) : Prop :=
 (∃ A cap, sv = .slice A 0 cap ∧ zs = []) ∨ ∃ b off cap, sv = .slice (some ⟨b, off, none⟩) zs.length cap ∧ Z b ∧ ∀ j, j < zs.length → W.cell? ⟨b, off + j, none⟩ = some (.int .i64 (zs[j]?.getD 0))
def Bw.listP (p : Nat × Int → Prop) (zs : List Int) (hp : ∀ j, j < zs.length → p (j, zs[j]?.getD 0)) : List { x : Nat × Int // p x } :=
 (List.finRange zs.length).map fun (j : Fin zs.length) => ⟨(zs.length - 1 - j.1, zs[zs.length - 1 - j.1]?.getD 0), hp _ (by have := j.2; omega)⟩
theorem Bw.listP_val {p : Nat × Int → Prop} {zs : List Int} {hp : ∀ j, j < zs.length → p (j, zs[j]?.getD 0)} : (Bw.listP p zs hp).map (·.1) = Bw.list zs := by
 apply List.ext_getElem
 ·simp [Bw.listP, Bw.list, Bw.upto]
 ·intro i h1 h2
  simp [Bw.listP, Bw.list, Bw.upto]
theorem Bw.stops (F : Fence) (n : Nat) (h8 : F.fn 144) (hro : F.round = none) (hn : 1 ≤ n) (Bs : Nat) (Z : Nat → Prop) (sv : Value) (zs : List Int) (hreach : zs.length * 8 ≤ 140737488351232) (w : World) (hBsZ : Z Bs) (hZ : ∀ b, Z b → b < w.heap.size)
  (hc : w.cell? ⟨Bs, 0, none⟩ = some sv) (hI : Bw.Ints Z w sv zs) (p : Nat × Int → Prop) (hp : ∀ j, j < zs.length → p (j, zs[j]?.getD 0)) :
  SeqStopsK F n Try.prog 144 #[.pointer (some ⟨Bs, 0, none⟩)] (fun x : { x : Nat × Int // p x } => #[Value.int .i64 (x.1.1 : Int), Value.int .i64 x.1.2]) (Bw.Kp Z) (fun ys => ys = Bw.listP p zs hp) (fun _ => True) zs.length w := fun l J Jx W hW _ _ hY h0 => by
 have hc' := (hW.cell (p := ⟨Bs, 0, none⟩) (hZ _ hBsZ)).trans hc
 have inj : ∀ {l l' : List { x : Nat × Int // p x }}, l.map (·.1) = l'.map (·.1) → l = l' := fun {l l'} h => by
  induction l generalizing l' with
  | nil => cases l' with
   | nil => rfl
   | cons => simp at h
  | cons a l ih => cases l' with
   | nil => simp at h
   | cons b l' =>
    simp only [List.map_cons, List.cons.injEq] at h
    rw [Subtype.ext h.1, ih h.2]
 rcases hI with ⟨A, cap, rfl, rfl⟩ | ⟨b, off, cap, rfl, hb, hcs⟩
 ·exact (Bw.back_nil_in F n h8 hro l Bs A cap (fun _ W => J [] W) W hc' h0).mono fun e W' ⟨he, hj⟩ => ⟨he, .inl ⟨[], rfl, hj⟩⟩
 ·refine (Bw.back_in F n h8 hro hn l Bs b off zs.length cap Z zs hreach hb hBsZ p hp (fun pre W => ∃ q : List { x : Nat × Int // p x }, q.map (·.1) = pre ∧ J q W) (fun pre W => ∃ q : List { x : Nat × Int // p x }, q.map (·.1) = pre ∧ Jx q W) ?_ W hc'
   (fun j hj => (hW.cell (p := ⟨b, off + j, none⟩) (hZ _ hb)).trans (hcs j hj)) ⟨[], rfl, h0⟩).mono ?_
  ·rintro pre x W1 hx ⟨q, rfl, hq⟩ hlen
   obtain ⟨fn, tmps, assign, body, hy, hR⟩ := hY q ⟨x, hx⟩ W1 hq (by simpa using hlen)
   refine ⟨fn, tmps, assign, body, hy, hR.mono ?_⟩
   rintro e W' (⟨rfl, h1, h2⟩ | ⟨rfl, h1⟩)
   ·exact .inl ⟨rfl, ⟨_, by simp, h1⟩, h2⟩
   ·exact .inr ⟨rfl, _, by simp, h1⟩
  ·rintro e W' ⟨he, ⟨ys, rfl, q, hq, hj⟩ | ⟨pre, ⟨k, hk, rfl⟩, q, hq, hj⟩⟩
   ·refine ⟨he, .inl ⟨q, inj ?_, hj⟩⟩
    rw [hq, Bw.listP_val]; rfl
   ·exact ⟨he, .inr ⟨q, trivial, hj⟩⟩
end Go.Proofs
namespace Go.Proofs.Ytlfdidaeachpoaa
open Go Go.RowKit
set_option maxRecDepth 100000
noncomputable section
abbrev SD := (List Bool) × (List Tk) × (List Th) × (List Lk) × (List Int) × Int
abbrev sdLs : SD → List zaY := fun (coins, tickets, threads, locks, queue, quantum) => [.dat .bool coins, .dat yK tickets, .dat yH threads, .dat yL locks, .dat tI queue, .int .i64 quantum]
def zcL : SD → List Bool → SFx := fun (coins, tickets, threads, locks, queue, quantum) lives => (coins, tickets, threads, locks, queue, quantum, lives)
def io_zd : Io := ⟨n_zd, [.sl tB, .sl yK, .sl yH, .sl yL, .sl tI, tI], [.agg [qm 0, qm 1, qm 2, qm 3, qm 4, qm 5]], [], [[.sl tB, .sl yK, .sl yH, .sl yL, .sl tI, tI]], [.sl tB, .sl tI], .tup [(false, [qr 0]), (false, [qr 1])], [], [(true, .arr 4 (qm 0)), (true, .arr 3 (qm 1))], false⟩
def rkT : zbf := tab [e_zF, e_zw, e_zk]
theorem rkTo : zbd pg rkT := zaX ⟨e_zF_ok, e_zw_ok, e_zk_ok, trivial⟩
def rkAt (q : Nat) : Code := (zbR 80 (zbh f_zd) q).getD .skip
def rkSeeT (ts : List Nat) : Ev → Option PE
 | .norm σ => (zeo [.keep ts] ts 86 σ).map fun z => .norm z.1 z.2
 | _ => none
abbrev rkE (q : Nat) (σ : St) : zbA := evI pg rkT (fun _ _ => none) q (rkAt q) σ
theorem rk_r0 (s : SD) : (rkE 2 (zfg (io_zd.as s) (io_zd.es s) 86)).pt (rkSeeT [1]) = .rq 3 (.leaf (.norm [.lf (.ptr 16 0)] [(16, ⟨true, .cells (sdLs s)⟩)])) := by kernel_rfl
def sdLiveOK (s : SD) : Bool := decide (s.2.2.1.length ≤ 1000000) && liveOK s.2.2.1 s.2.2.2.1
def zeB (s : SD) : List Bool := liveV s.2.2.1 s.2.2.2.1
def sdOrdOK (s : SD) : Bool := decide (s.2.1.length ≤ 1000000) && decide (s.1.length ≤ 4096)
def sdOrd (s : SD) : List Int := zbs s.1 s.2.1
abbrev zdK : List (Nat × Nat) := [(1, 16), (4, 64), (5, 80), (6, 96)]
def rkX0 (s : SD) : (List Bool) × (List Int) := (zbV (s.2.1.length : Int) false, zbV (s.1.length : Int) 0)
theorem rk_r1 (s : SD) : (rkE 6 (spSt 86 [1] [.lf (.ptr 16 0)] [(16, ⟨true, .cells (sdLs s)⟩)])).pt (rkSeeT [1, 4, 5, 6]) =
  (RT.rq 3 (.req (mkOK 1 (s.2.1.length : Int)) (.rq 3 (.req (mkOK 8 (s.1.length : Int)) (.rq 1 (.req (sdLiveOK s) (.rq 6 (.done (zeB s)))))))) : RT Unit (List Bool)).pt (fun _ => .norm [] [])
   (fun v => .norm [.lf (.ptr 16 0), .lf (.ptr 64 0), .lf (.ptr 80 0), .lf (.ptr 96 0)] (zbY (zcL s v) (rkX0 s))) := by kernel_rfl
theorem rk_r2 (s : SD) (v : List Bool) : (rkE 28 (zcQ 86 zdK 0 (zbY (zcL s v) (rkX0 s)))).pt (rkSeeT [1, 4, 5, 6, 24]) =
  (RT.rq 1 (.req (sdOrdOK s) (.rq 1 (.done (sdOrd s)))) : RT Unit (List Int)).pt (fun _ => .norm [] [])
   (fun v2 => .norm [.lf (.ptr 16 0), .lf (.ptr 64 0), .lf (.ptr 80 0), .lf (.ptr 96 0), .lf (.fn 144 [385])] (zbY (zcL s v) (rkX0 s) ++ [(385, ⟨true, .cells [.dat tI v2]⟩)])) := by kernel_rfl
def rkSeeR : Ev → Option PE
 | .ret σ => (zeo [.keep [2, 3]] [2, 3] 86 σ).map fun z => .ret z.1 z.2
 | _ => none
theorem rk_t (fx : SFx) (x : (List Bool) × (List Int)) : (rkE 15 (zcQ 86 zdK 0 (zbY fx x))).pt rkSeeR =
  .rq 4 (.leaf (.ret [.lf (.ref 240), .lf (.ref 304)] (zbY fx x))) := by kernel_rfl
theorem rk_o (fx : SFx) (x : (List Bool) × (List Int)) : outEv pg f_zd 0 [] false (.ret (spSt 86 [2, 3] [.lf (.ref 240), .lf (.ref 304)] (zbY fx x))) = some (.out (io_zd.res x)) := by kernel_rfl
def rkAsg : Code := match rkAt 58 with
 | .rangeFunc _ _ x _ => x
 | _ => .skip
theorem rk_code : zbh f_zd = .seq (rkAt 2) (.seq (rkAt 6) (.seq (.seq (rkAt 28) (.block 0 (rkAt 58))) (rkAt 15))) := by kernel_rfl
theorem rk_58 : rkAt 58 = .rangeFunc (.tmp 24) #[25, 26] rkAsg zdl := by kernel_rfl
theorem rk_at2 : zbR 80 (zbh f_zd) 2 = some (rkAt 2) := by kernel_rfl
theorem rk_at6 : zbR 80 (zbh f_zd) 6 = some (rkAt 6) := by kernel_rfl
theorem rk_at28 : zbR 80 (zbh f_zd) 28 = some (rkAt 28) := by kernel_rfl
theorem rk_at15 : zbR 80 (zbh f_zd) 15 = some (rkAt 15) := by kernel_rfl
def rkOp : Oper := match rkAsg with
 | .region _ ops _ => ops.getD 0 default
 | _ => default
def rkId : Nat := match rkAsg with
 | .region i _ _ => i
 | _ => 0
theorem rk_asg : rkAsg = .region rkId #[rkOp] false := by kernel_rfl
theorem rk_op : rkOp.op = .assign (.tmp 26) ∧ rkOp.dst = some 8 ∧ rkOp.guard = none := ⟨by kernel_rfl, by kernel_rfl, by kernel_rfl⟩
section
variable {π : Pin} {w0 : World} {own : Nat → Prop} {w w' : World} {a a' : Act} {σ : St} {β β' : Nat → Option Value} {ok ok' : Nat → Prop}
theorem rk_step {q : Nat} (hq : 0 < q) (hat : zbR 80 (zbh f_zd) q = some (rkAt q)) (S : Sim π w0 own w a σ β ok) {ts : List Nat} {t : PT} (hpt : (rkE q σ).pt (rkSeeT ts) = t) {K : List TV → List (Nat × Ent) → Prop}
  (hs : t.sat fun p => ∃ vs hp, p = .norm vs hp ∧ K vs hp) {Q : Exit → Act → World → Prop} (hQ : ∀ vs hp a' w' β' ok', K vs hp → Sim π w0 own w' a' (spSt 86 ts vs hp) β' ok' → Q .normal a' w') : (rkAt q).wpIn (Fw π.rd) 0 pg Q a w := by
 refine wpIn_mono (zcF (root := zbh f_zd) (L := fun _ _ => none) zaZ rkTo (rkAt q) q 80 _ (fun e => ∃ p, rkSeeT ts e = some p ∧ ∃ vs hp, p = .norm vs hp ∧ K vs hp) a w _ ok hq hat (noCuts _ _) S
  (zbA.sat_pt (fun e p h1 h2 => ⟨p, h1, h2⟩) (hpt ▸ hs))) ?_
 rintro e a' w' ⟨ev, β', ok', ⟨p, hp, vs, hp', rfl, hK⟩, hev⟩
 cases ev with
 | norm σ' =>
  obtain ⟨x, h1, h2⟩ := Option.map_eq_some_iff.1 (show (zeo _ _ _ σ').map _ = _ from hp)
  cases h2
  obtain ⟨rfl, S'⟩ := hev
  obtain ⟨β2, ok2, S2⟩ := zdO h1 _ _ _ _ _ _ _ S'
  exact hQ _ _ _ _ _ _ hK S2
 | ret σ' => cases hp
 | exit i σ' => cases hp
theorem Inv.drop {hp : List (Nat × Ent)} {k : Nat} {e : Ent} (I : Inv w0 own w β ok (zba (hp ++ [(k, e)]))) (hk : zba hp k = none) (hids : ∀ id e', zba hp id = some e' → k ∉ zcZ e'.b) :
  Inv w0 own w (fun j => if j = k then none else β j) ok (zba hp) := by
 have happ : ∀ (hp : List (Nat × Ent)) id, zba (hp ++ [(k, e)]) id = (match zba hp id with | some x => some x | none => if k = id then some e else none) := by
  intro hp
  induction hp with
  | nil => intro id; rfl
  | cons x hp ih =>
   intro id
   show (if x.1 = id then some x.2 else zba (hp ++ [(k, e)]) id) = (match (if x.1 = id then some x.2 else zba hp id) with | some x => some x | none => if k = id then some e else none)
   by_cases h : x.1 = id
   ·rw [if_pos h, if_pos h]
   ·rw [if_neg h, if_neg h]; exact ih id
 have hup : ∀ id e', zba hp id = some e' → zba (hp ++ [(k, e)]) id = some e' := fun id e' h => by rw [happ, h]
 have hne : ∀ id e', zba hp id = some e' → id ≠ k := fun id e' h h2 => by rw [h2, hk] at h; cases h
 have hβ : ∀ id v, (fun j => if j = k then none else β j) id = some v → id ≠ k ∧ β id = some v := fun id v h => by
  by_cases h2 : id = k
  ·simp [h2] at h
  ·simp only [if_neg h2] at h; exact ⟨h2, h⟩
 obtain ⟨f, kl, d, en, dw, wr, ro, sep⟩ := I
 refine ⟨f, kl, fun id v h => ?_, fun id e' h => ?_, fun id e' h hw => dw id e' (hup id e' h) hw, fun id e' v g h hw hv hg => wr id e' v g (hup id e' h) hw (hβ id v hv).2 hg,
  fun id e' v g h hw hl hv hg => ro id e' v g (hup id e' h) hw hl (hβ id v hv).2 hg, fun i e1 v1 j e2 v2 g hij h1 h2 hw hl hv1 hv2 hg1 hg2 => sep i e1 v1 j e2 v2 g hij (hup i e1 h1) (hup j e2 h2) hw hl (hβ i v1 hv1).2 (hβ j v2 hv2).2 hg1 hg2⟩
 ·obtain ⟨h1, h2⟩ := hβ id v h
  obtain ⟨e', he⟩ := d id v h2
  rw [happ] at he
  cases hx : zba hp id with
  | some x => exact ⟨x, rfl⟩
  | none =>
   rw [hx] at he
   have he : (if k = id then some e else none) = some e' := he
   rw [if_neg (fun h => h1 h.symm)] at he
   cases he
 ·refine (en id e' (hup id e' h)).sub (fun j hj u hu => ?_) fun u hu => ?_
  ·have : j ≠ k := fun h2 => hids id e' h (h2 ▸ hj)
   simp only [if_neg this]; exact hu
  ·simp only [if_neg (hne id e' h)]; exact hu
theorem rkHp_ids (fx : SFx) (x : (List Bool) × (List Int)) : ∀ id e, zba (zbY fx x) id = some e → id < 385 ∧ e.live = true ∧ ∀ j ∈ zcZ e.b, j < 385 := by
 intro id e h
 have hm := hget_mem h
 simp only [zbY, List.mem_cons, Prod.mk.injEq, List.not_mem_nil, or_false] at hm
 rcases hm with ⟨rfl, rfl⟩ | ⟨rfl, rfl⟩ | ⟨rfl, rfl⟩ | ⟨rfl, rfl⟩ | ⟨rfl, rfl⟩ | ⟨rfl, rfl⟩ | ⟨rfl, rfl⟩ <;> exact ⟨by decide, rfl, by simp [zcZ, zbL]⟩
def rkP (s : SD) (y : Nat × Int) : Prop := (Lit.int .i64 (y.1 : Int)).wf = true ∧ (Lit.int .i64 y.2).wf = true ∧ 0 ≤ y.2 ∧ y.2 < (s.1.length : Int)
def rkI (s : SD) (x : (List Bool) × (List Int)) : Prop := x.1.length = s.2.1.length ∧ x.2.length = s.1.length
abbrev rkA (s : SD) := { y : Nat × Int // rkP s y }
def rkAct (a : Act) (s : SD) (y : rkA s) : Act := { tmps := ((a.tmps.setIfInBounds 25 (.int .i64 (y.1.1 : Int))).setIfInBounds 26 (.int .i64 y.1.2)).setIfInBounds 8 (.int .i64 y.1.2), defers := [] }
theorem rk_assign (s : SD) (l : Nat) (y : rkA s) (W : World) (K : Act → World → Prop) (h : 86 = a.tmps.size) (hK : K (rkAct a s y) W) :
  rkAsg.wpIn (Fw (some l)) 0 pg (Exit.then K (fun _ _ _ => False)) { tmps := ((#[25, 26] : Array Tmp).zip #[Value.int .i64 (y.1.1 : Int), Value.int .i64 y.1.2]).foldl (fun t (p, v) => t.setIfInBounds p v) a.tmps, defers := [] } W := by
 have htm : ((#[25, 26] : Array Tmp).zip #[Value.int .i64 (y.1.1 : Int), Value.int .i64 y.1.2]).foldl (fun t (p, v) => t.setIfInBounds p v) a.tmps = (a.tmps.setIfInBounds 25 (.int .i64 (y.1.1 : Int))).setIfInBounds 26 (.int .i64 y.1.2) := by
  simp [Array.zip, Array.zipWith, Array.zipWithMAux]
 rw [htm, rk_asg]
 refine wpIn_region ?_
 show wpOpsIn _ _ _ _ _ [0] _ _
 obtain ⟨h1, h2, h3⟩ := rk_op
 simp only [wpOpsIn, List.getElem?_toArray, List.getElem?_cons_zero]
 rw [if_pos (by simp [Region.wanted, h3])]
 refine zbp.wp (R := fun v w' => v = .int .i64 y.1.2 ∧ w' = W) ⟨_, _, .inl ?_, rfl, rfl⟩ ?_ (fun c hc => by rw [h1] at hc; cases hc)
 ·rw [execOp, h1]
  simp [Act.eval, ← h]
 ·rintro _ _ ⟨rfl, rfl⟩
  show K (Act.put _ rkOp.dst _) _
  rw [h2]
  exact hK
theorem rk_getD (s : SD) (y : rkA s) (h : 86 = a.tmps.size) (t : Nat) : (rkAct a s y).tmps.getD t undef = if t = 8 then .int .i64 y.1.2 else if t = 26 then .int .i64 y.1.2 else if t = 25 then .int .i64 (y.1.1 : Int) else a.tmps.getD t undef := by
 simp only [rkAct, Array.getD_eq_getD_getElem?, Array.getElem?_setIfInBounds, Array.size_setIfInBounds]
 by_cases h8 : t = 8
 ·subst h8; simp [← h]
 ·rw [if_neg (fun e => h8 e.symm), if_neg h8]
  by_cases h26 : t = 26
  ·subst h26; simp [← h]
  ·rw [if_neg (fun e => h26 e.symm), if_neg h26]
   by_cases h25 : t = 25
   ·subst h25; simp [← h]
   ·rw [if_neg (fun e => h25 e.symm), if_neg h25]
theorem rkRst_tv (fx : SFx) (c : Int) (x : (List Bool) × (List Int)) (t : Nat) : (rkRst fx c x).tv t = if t = 8 then .lf (.int .i64 c) else (zcQ 86 zdK zaW (zck (zbY fx x))).tv t := by
 have e1 : (rkRst fx c x).tv t = if t < 86 then zcC [1, 4, 5, 6, 8] [.lf (.ptr (zaW + 16) 0), .lf (.ptr (zaW + 64) 0), .lf (.ptr (zaW + 80) 0), .lf (.ptr (zaW + 96) 0), .lf (.int .i64 c)] (0 + t) else .lf .undef := zcV _ _ 86 0 t
 have e2 : (zcQ 86 zdK zaW (zck (zbY fx x))).tv t = if t < 86 then zcC [1, 4, 5, 6] [.lf (.ptr (zaW + 16) 0), .lf (.ptr (zaW + 64) 0), .lf (.ptr (zaW + 80) 0), .lf (.ptr (zaW + 96) 0)] (0 + t) else .lf .undef := zcV _ _ 86 0 t
 rw [e1, e2, Nat.zero_add]
 by_cases h8 : t = 8
 ·subst h8; rfl
 ·rw [if_neg h8]
  split
  ·simp only [zcC]
   split; · rfl
   split; · rfl
   split; · rfl
   split; · rfl
   rw [if_neg (fun e => h8 e.symm)]
  ·rfl
theorem rk_round (s : SD) (lives : List Bool) (f : rkA s → (List Bool) × (List Int) → (List Bool) × (List Int)) (hf : ∀ y x, rkI s x → rkI s (f y x) ∧ (rkR (zcL s lives) y.1.2 x).run (fun _ => none) = some (f y x)) (a : Act) (y : rkA s) (x : (List Bool) × (List Int)) (hx : rkI s x) :
  rkI s (f y x) ∧ ∀ l W okr βr, Sim ⟨βr, okr, some l, []⟩ W (ownOf βr (zba (zck (zbY (zcL s lives) x)))) W (rkAct a s y) (rkRst (zcL s lives) y.1.2 x) βr okr →
   zdl.wpIn (Fw (some l)) 0 pg (zcT ⟨βr, okr, some l, []⟩ W (ownOf βr (zba (zck (zbY (zcL s lives) x)))) (fun ev => ∃ σ, ev = .norm σ ∧ Weak σ (zcQ 86 [] 0 (zck (zbY (zcL s lives) (f y x)))))) (rkAct a s y) W := by
 obtain ⟨h1, h2⟩ := hf y x hx
 refine ⟨h1, fun l W okr βr S => ?_⟩
 have hcuts := cuts_ok zaZ zd_r_To (root := zdl) (len := 86) (ps := zd_r_P) (by kernel_rfl) zd_r_ks (maxQ zd_r_P + 1) 2 (by omega)
 have hsat := RT.sat (r := f y x) (again := fun _ => none) (f := fun _ => PE.norm [] []) (g := fun x' => PE.norm [] (zck (zbY (zcL s lives) x'))) (K := fun p => p = .norm [] (zck (zbY (zcL s lives) (f y x)))) (fun _ h => by cases h) rfl h2
 rw [← rk_body] at hsat
 refine wpIn_mono (zcF (π := ⟨βr, okr, some l, []⟩) (root := zdl) zaZ zd_r_To zdl 1 0 _ (fun e => ∃ p, rkSee e = some p ∧ p = .norm [] (zck (zbY (zcL s lives) (f y x)))) _ W βr okr (by decide) rfl hcuts S
  (zbA.sat_pt (fun e p h1 h2 => ⟨p, h1, h2⟩) hsat)) ?_
 rintro e a' w' ⟨ev, β', ok', ⟨p, hp, rfl⟩, hev⟩
 refine ⟨ev, β', ok', ?_, hev⟩
 cases ev with
 | norm σ' =>
  obtain ⟨⟨z1, z2⟩, h3, h4⟩ := Option.map_eq_some_iff.1 (show (zeo _ _ _ σ').map _ = _ from hp)
  have hw := zdO h3
  cases h4
  exact ⟨σ', rfl, hw⟩
 | ret σ' => cases hp
 | exit i σ' => cases hp
def rkMk (D : Nat) : Deferred := { target := .collected D, args := #[] }
theorem rk_tail (fx : SFx) (x : (List Bool) × (List Int)) {D : Nat} {W : World} (hπ : π.rd = none) (hdf : π.df = []) (hD : w0.heap.size ≤ D) (hdD : W.heap[D]? = some (.deferred (some []))) (S : Sim π w0 own W a (zcQ 86 zdK 0 (zbY fx x)) β ok) (ha : a.defers = []) :
  (rkAt 15).wpIn (Fw none) 0 pg (fun e a w => MarkOK π w0 own (RetOK pg f_zd 0 [] (io_zd.res x)) e a w) { a with defers := rkMk D :: a.defers } W := by
 have S1 := S.rebase none [rkMk D] (a' := { a with defers := rkMk D :: a.defers }) rfl (by show rkMk D :: a.defers = _; rw [ha])
 have hsat : ((rkE 15 (zcQ 86 zdK 0 (zbY fx x))).pt rkSeeR).sat (fun p => p = .ret [.lf (.ref 240), .lf (.ref 304)] (zbY fx x)) := by
  rw [rk_t]; exact PT.rq_sat 4 rfl
 refine wpIn_mono (zcF (π := ⟨β, ok, none, [rkMk D]⟩) (root := zbh f_zd) (L := fun _ _ => none) zaZ rkTo (rkAt 15) 15 80 _ (fun e => ∃ p, rkSeeR e = some p ∧ p = .ret [.lf (.ref 240), .lf (.ref 304)] (zbY fx x)) _ W β ok (by decide) rk_at15 (noCuts _ _) S1
  (zbA.sat_pt (fun e p h1 h2 => ⟨p, h1, h2⟩) hsat)) ?_
 rintro e a' w' ⟨ev, β', ok', ⟨p, hp, rfl⟩, hev⟩
 cases ev with
 | norm σ' => cases hp
 | exit i σ' => cases hp
 | ret σ' =>
  obtain ⟨⟨z1, z2⟩, h3, h4⟩ := Option.map_eq_some_iff.1 (show (zeo _ _ _ σ').map _ = _ from hp)
  have hw := zdO h3
  cases h4
  obtain ⟨rfl, S2⟩ := hev
  obtain ⟨β3, ok3, S3⟩ := hw _ _ _ _ _ _ _ S2
  have S4 : Sim π w0 own w' { a' with defers := [] } (spSt 86 [2, 3] [.lf (.ref 240), .lf (.ref 304)] (zbY fx x)) β3 ok3 := S.back S3 rfl (by rw [hdf])
  have hpl : ∀ t, plainTV ((spSt 86 [2, 3] [.lf (.ref 240), .lf (.ref 304)] (zbY fx x)).tv t) := fun t => by
   have e1 : (spSt 86 [2, 3] [.lf (.ref 240), .lf (.ref 304)] (zbY fx x)).tv t = if t < 86 then zcC [2, 3] [.lf (.ref 240), .lf (.ref 304)] (0 + t) else .lf .undef := zcV _ _ 86 0 t
   rw [e1]
   split
   ·simp only [zcC]
    split; · trivial
    split <;> trivial
   ·trivial
  have S5 := S4.norm hpl
  have hlt : D < W.heap.size := (Array.getElem?_eq_some_iff.1 hdD).1
  have hD' : w'.heap[D]? = some (.deferred (some [])) := by
   rw [S3.inv.fr.block D hlt fun ⟨id, e, v, h5, h6, h7, h8⟩ => ?_]
   ·exact hdD
   ·obtain ⟨o, h9, h10⟩ := (S.inv.ent id e h5).at (rkHp_ids fx x id e h5).2.1 h7 h8
    rw [hdD] at h9; cases h9; cases h10
  obtain ⟨S6, _⟩ := S5.grown (fun b hb => hb.2) (grownBy_putObj' w' D (.deferred none)) (fun r hr => by cases hr; exact ⟨hD, _, hD', rfl⟩)
  refine ⟨rfl, D, _, _, _, ?_, S3.def0, hD', S6⟩
  have ho := rk_o fx x
  obtain ⟨r', h7, h8⟩ := Option.map_eq_some_iff.1 (show ((weaken [] (spSt 86 [2, 3] [.lf (.ref 240), .lf (.ref 304)] (zbY fx x))).bind (outOf pg f_zd 0 false)).map PE.out = _ from ho)
  cases h8
  obtain ⟨σ3, h9, h10⟩ := Option.bind_eq_some_iff.1 h7
  exact ⟨σ3, h9, _, h10, rfl, rfl, rfl⟩
theorem rk_callFunc (args : Array Value) (w : World) : (callFunc 144 args).run pg w = .ok (.enter 144 args) w := by
 have h1 : pg.funcs[144]? = some f_zaU := by kernel_rfl
 have h2 : f_zaU.body.isSome = true := by kernel_rfl
 have h3 : (f_zaU.name == "runtime.NumGoroutine") = false := by kernel_rfl
 have hb2 : f_zaU.body ≠ none := by intro h; rw [h] at h2; cases h2
 have hn2 : f_zaU.name ≠ "runtime.NumGoroutine" := by simpa using h3
 simp [callFunc, h1, hn2, hb2]
theorem rk_call (s : SD) (lives : List Bool) (ord : List Int) (f : rkA s → (List Bool) × (List Int) → (List Bool) × (List Int)) (hlive : sdLiveOK s = true) (hlv : lives = zeB s) (hord : sdOrdOK s = true) (hov : ord = sdOrd s)
  (hm1 : mkOK 1 (s.2.1.length : Int) = true) (hm2 : mkOK 8 (s.1.length : Int) = true) (hlen : ord.length * 8 ≤ 140737488351232) (hP : ∀ j, j < ord.length → rkP s (j, ord[j]?.getD 0)) (hR0 : rkI s (rkX0 s))
  (hf : ∀ y x, rkI s x → rkI s (f y x) ∧ (rkR (zcL s lives) y.1.2 x).run (fun _ => none) = some (f y x)) :
  zdd pg n_zd (io_zd.as s) (io_zd.es s) (io_zd.res ((Bw.listP (rkP s) ord hP).foldl (fun x y => f y x) (rkX0 s))) := by
 have hfn : pg.funcs[n_zd]? = some f_zd := by kernel_rfl
 have hbody : f_zd.body = some (zbh f_zd) := by kernel_rfl
 have hnt : f_zd.ntmps = 86 := by kernel_rfl
 refine fnSoundM hfn hbody [] fun π w0 own a w β ok hrd hdf S => ?_
 rw [hnt] at S
 rw [rk_code]
 refine wpIn_seq (rk_step (by decide) rk_at2 S (rk_r0 s) (K := fun vs hp => vs = [.lf (.ptr 16 0)] ∧ hp = [(16, ⟨true, .cells (sdLs s)⟩)]) (PT.rq_sat 3 ⟨_, _, rfl, rfl, rfl⟩) ?_)
 rintro _ _ a1 w1 β1 ok1 ⟨rfl, rfl⟩ S1
 refine wpIn_seq (rk_step (by decide) rk_at6 S1 (rk_r1 s) (K := fun vs hp => vs = [.lf (.ptr 16 0), .lf (.ptr 64 0), .lf (.ptr 80 0), .lf (.ptr 96 0)] ∧ hp = zbY (zcL s lives) (rkX0 s)) ?_ ?_)
 ·refine RT.sat (r := lives) (again := fun _ => none) (fun _ h => by cases h) ⟨_, _, rfl, rfl, rfl⟩ ?_
  simp only [RT.run, hm1, hm2, hlive, hlv, if_true]
 rintro _ _ a2 w2 β2 ok2 ⟨rfl, rfl⟩ S2
 refine wpIn_seq (wpIn_seq (rk_step (by decide) rk_at28 (S2 : Sim π w0 own w2 a2 (zcQ 86 zdK 0 (zbY (zcL s lives) (rkX0 s))) β2 ok2) (rk_r2 s lives)
  (K := fun vs hp => vs = [.lf (.ptr 16 0), .lf (.ptr 64 0), .lf (.ptr 80 0), .lf (.ptr 96 0), .lf (.fn 144 [385])] ∧ hp = zbY (zcL s lives) (rkX0 s) ++ [(385, ⟨true, .cells [.dat tI ord]⟩)]) ?_ ?_))
 ·refine RT.sat (r := ord) (again := fun _ => none) (fun _ h => by cases h) ⟨_, _, rfl, rfl, rfl⟩ ?_
  simp only [RT.run, hord, hov, if_true]
 rintro _ _ a3 w3 β3 ok3 ⟨rfl, rfl⟩ S3
 have ha3 : a3.defers = [] := S3.def0.trans hdf
 have hsz : 86 = a3.tmps.size := by rw [S3.size]; exact (zbJ ..).symm
 have tv3 : ∀ t, (spSt 86 [1, 4, 5, 6, 24] [.lf (.ptr 16 0), .lf (.ptr 64 0), .lf (.ptr 80 0), .lf (.ptr 96 0), .lf (.fn 144 [385])] (zbY (zcL s lives) (rkX0 s) ++ [(385, ⟨true, .cells [.dat tI ord]⟩)])).tv t =
   if t = 24 then .lf (.fn 144 [385]) else (zcQ 86 zdK 0 (zbY (zcL s lives) (rkX0 s))).tv t := fun t => by
  have e1 : (spSt 86 [1, 4, 5, 6, 24] [.lf (.ptr 16 0), .lf (.ptr 64 0), .lf (.ptr 80 0), .lf (.ptr 96 0), .lf (.fn 144 [385])] (zbY (zcL s lives) (rkX0 s) ++ [(385, ⟨true, .cells [.dat tI ord]⟩)])).tv t =
   if t < 86 then zcC [1, 4, 5, 6, 24] [.lf (.ptr 16 0), .lf (.ptr 64 0), .lf (.ptr 80 0), .lf (.ptr 96 0), .lf (.fn 144 [385])] (0 + t) else .lf .undef := zcV _ _ 86 0 t
  have e2 : (zcQ 86 zdK 0 (zbY (zcL s lives) (rkX0 s))).tv t = if t < 86 then zcC [1, 4, 5, 6] [.lf (.ptr 16 0), .lf (.ptr 64 0), .lf (.ptr 80 0), .lf (.ptr 96 0)] (0 + t) else .lf .undef := zcV _ _ 86 0 t
  rw [e1, e2, Nat.zero_add]
  by_cases h8 : t = 24
  ·subst h8; rfl
  ·rw [if_neg h8]
   split
   ·simp only [zcC]
    split; · rfl
    split; · rfl
    split; · rfl
    split; · rfl
    rw [if_neg (fun e => h8 e.symm)]
   ·rfl
 have hk385 : zba (zbY (zcL s lives) (rkX0 s)) 385 = none := by
  cases h : zba (zbY (zcL s lives) (rkX0 s)) 385 with
  | none => rfl
  | some e => exact absurd (rkHp_ids _ _ _ _ h).1 (by decide)
 have hget385 : zba (zbY (zcL s lives) (rkX0 s) ++ [(385, ⟨true, .cells [.dat tI ord]⟩)]) 385 = some ⟨true, .cells [.dat tI ord]⟩ := rfl
 have t24 := S3.tmps 24
 rw [tv3, if_pos rfl] at t24
 obtain ⟨vs, hv24, hcaps⟩ := t24
 obtain ⟨cv, rfl, g, hβg, hcv⟩ : ∃ cv, vs = [cv] ∧ ∃ b, β3 385 = some (.pointer (some ⟨b, 0, none⟩)) ∧ cv = .pointer (some ⟨b, 0, none⟩) := by
  match vs, hcaps with
  | [cv], ⟨⟨b, h1, h2⟩, _⟩ => exact ⟨cv, rfl, b, h1, h2⟩
  | [], h => exact h.elim
  | _ :: _ :: _, ⟨_, h⟩ => exact h.elim
 subst hcv
 obtain ⟨g', cs, et, h1, h2, h3⟩ := S3.inv.ent 385 _ hget385
 rw [hβg] at h1
 cases h1
 obtain ⟨sv, hcs, hsv⟩ : ∃ sv, cs.toList = [sv] ∧ zbB w3 ok3 (.sl tI) [sv] ord := by
  generalize cs.toList = q at h3
  match q, h3 with
  | [u], ⟨h, _⟩ => exact ⟨u, rfl, h⟩
  | [], h => exact h.elim
  | _ :: _ :: _, ⟨_, h⟩ => exact h.elim
 have hcell : w3.cell? ⟨g, 0, none⟩ = some sv := by
  rw [show (⟨g, 0, none⟩ : Addr) = ⟨g, 0, none⟩ from rfl, cell_of_row w3 g 0 cs et (0, 0) h2]
  have : cs.toList[0]? = some sv := by rw [hcs]; rfl
  simpa using this
 let Z : Nat → Prop := fun k => k = g ∨ (ok3 k ∧ ∃ o n c, sv = .slice (some ⟨k, o, none⟩) n c)
 have hZlt : ∀ b, Z b → b < w3.heap.size := fun b hb => by
  rcases hb with rfl | ⟨hb, _⟩
  ·exact (Array.getElem?_eq_some_iff.1 h2).1
  ·exact S3.inv.okLt b hb
 have hints : Bw.Ints Z w3 sv ord := by
  obtain ⟨A, cap, he, k1, k2, k0, k3⟩ := hsv
  cases he
  by_cases hn : ord = []
  ·exact .inl ⟨A, cap, by rw [hn]; rfl, hn⟩
  ·have hpos : 0 < ord.length := List.length_pos_iff.2 hn
   obtain ⟨b, o, us, hA, hb, _⟩ := k3 0 hpos
   subst hA
   refine .inr ⟨b, o, cap, rfl, .inr ⟨hb, _, _, _, rfl⟩, fun j hj => ?_⟩
   obtain ⟨b', o', us', hA', _, hul, hm, hd⟩ := k3 j hj
   cases hA'
   obtain ⟨hus, _⟩ := hd
   subst hus
   have := hm 0 _ rfl
   rw [List.getElem?_eq_getElem hj]
   rw [show o + j * tI.size + 0 = o + j by show o + j * 1 + 0 = o + j; omega] at this
   simpa using this
 let β0 : Nat → Option Value := fun j => if j = 385 then none else β3 j
 have I0 : Inv w0 own w3 β0 ok3 (zba (zbY (zcL s lives) (rkX0 s))) := S3.inv.drop hk385 fun id e h hc => absurd ((rkHp_ids _ _ _ _ h).2.2 _ hc) (by decide)
 have S0 : Sim π w0 own w3 a3 (zcQ 86 zdK 0 (zbY (zcL s lives) (rkX0 s))) β0 ok3 := by
  refine ⟨I0, fun t => ?_, hsz.symm.trans (zbJ ..).symm, S3.def0, fun id v h4 h5 => ?_, S3.okB⟩
  ·have ht := S3.tmps t
   rw [tv3] at ht
   rcases ptSt_tv (N := 86) (pts := zdK) (up := 0) (hp := zbY (zcL s lives) (rkX0 s)) t with h4 | ⟨p, hp, hpt, h4⟩
   ·rw [h4]; trivial
   ·have hne : t ≠ 24 := by
     simp only [zdK, List.mem_cons, List.not_mem_nil, or_false] at hp
     rcases hp with rfl | rfl | rfl | rfl <;> (subst hpt; decide)
    rw [if_neg hne, h4] at ht
    rw [h4]
    obtain ⟨b, h5, h6⟩ := ht
    refine ⟨b, ?_, h6⟩
    have : 0 + p.2 ≠ 385 := by
     simp only [zdK, List.mem_cons, List.not_mem_nil, or_false] at hp
     rcases hp with rfl | rfl | rfl | rfl <;> decide
    show (if 0 + p.2 = 385 then none else β3 (0 + p.2)) = _
    rw [if_neg this]; exact h5
  ·have h5 : (if id = 385 then none else β3 id) = some v := h5
   split at h5
   ·cases h5
   ·exact S3.pin id v h4 h5
 rw [hrd]
 refine wpIn_block ?_
 rw [rk_58]
 refine wpR_n (n := 2) (range_wp (lb := #[.pointer (some ⟨g, 0, none⟩)]) (L := Bw.listP (rkP s) ord hP) (N := 86) (pts := zdK) (hp := zbY (zcL s lives)) (f := f) (R := rkI s) (Z := Z) (rst := fun y x => rkRst (zcL s lives) y.1.2 x) (a₁ := rkAct a3 s) (n := ord.length)
  (encs := fun x : rkA s => #[Value.int .i64 (x.1.1 : Int), Value.int .i64 x.1.2]) S0 (fun x id e h => ?_) (fun x id e h => (rkHp_ids _ _ _ _ h).2.1) (fun p hp x => ?_) hv24 rk_callFunc (fun b hb => ⟨hZlt b hb, ?_⟩)
  (Bw.stops (Fw none) 1 trivial rfl (by decide) g Z sv ord hlen w3 (.inl rfl) hZlt hcell hints (rkP s) hP) (fun _ => rfl) (fun l y W K hK => rk_assign s l y W K hsz hK) (fun y => ⟨by simp [rkAct, ← hsz], rfl⟩) (fun y x => ⟨zbJ .., rfl⟩) ?_ hR0 (fun y x hx => rk_round s lives f hf a3 y x hx) ?_)
 ·obtain ⟨h4, _, h5⟩ := rkHp_ids _ _ _ _ h
  exact ⟨Nat.lt_trans h4 (by decide), fun j hj => Nat.lt_trans (h5 j hj) (by decide)⟩
 ·simp only [zdK, List.mem_cons, List.not_mem_nil, or_false] at hp
  rcases hp with rfl | rfl | rfl | rfl <;> rfl
 ·-- what is read is not what is written
  rintro ⟨id, e, v, h4, h5, h6, h7⟩
  have h6' : (if id = 385 then none else β3 id) = some v := h6
  split at h6'
  ·cases h6'
  rename_i hne
  rcases hb with rfl | ⟨hb, _⟩
  ·have hup : zba (zbY (zcL s lives) (rkX0 s) ++ [(385, ⟨true, .cells [.dat tI ord]⟩)]) id = some e := by
    have hm := hget_mem h4
    simp only [zbY, zcL, List.mem_cons, Prod.mk.injEq, List.not_mem_nil, or_false] at hm
    rcases hm with ⟨rfl, rfl⟩ | ⟨rfl, rfl⟩ | ⟨rfl, rfl⟩ | ⟨rfl, rfl⟩ | ⟨rfl, rfl⟩ | ⟨rfl, rfl⟩ | ⟨rfl, rfl⟩ <;> rfl
   exact S3.inv.sep id e v 385 _ _ b hne hup hget385 h5 rfl h6' hβg h7 rfl
  ·exact (I0.wr id e v b h4 h5 h6 h7).1 hb
 ·-- the round's frame
  intro y x W β' ok' ht t
  have h0 := ht t
  rw [rkRst_tv, rk_getD s y hsz]
  by_cases h8 : t = 8
  ·subst h8; rw [if_pos rfl, if_pos rfl]; exact ⟨rfl, y.2.2.1⟩
  ·rw [if_neg h8, if_neg h8]
   rcases ptSt_tv (N := 86) (pts := zdK) (up := zaW) (hp := zck (zbY (zcL s lives) x)) t with h4 | ⟨p, hp, hpt, h4⟩
   ·rw [h4]; trivial
   ·have hne : t ≠ 26 ∧ t ≠ 25 := by
     simp only [zdK, List.mem_cons, List.not_mem_nil, or_false] at hp
     rcases hp with rfl | rfl | rfl | rfl <;> (subst hpt; exact ⟨by decide, by decide⟩)
    rw [if_neg hne.1, if_neg hne.2]
    exact h0
 ·-- behind the loop
  intro D W β4 ok4 hD hdD S4 _
  refine wpIn_mono (rk_tail (zcL s lives) _ hrd hdf (Nat.le_trans S3.inv.fr.size hD) hdD S4 ha3) fun e a' w' h => .inr h
end
end
end Go.Proofs.Ytlfdidaeachpoaa
namespace Go.Proofs.Ytlfdidaeachpoaa
open Go Go.RowKit
set_option maxRecDepth 100000
noncomputable section
def rkCnt (b : List Tk) (lives cnt : List Bool) (am : List Int) (k : Int) : List Bool :=
 if (gI b k).2.2.2.1 == 1 then sI cnt k ((gI b k).2.2.2.2.2 && gI lives (gI b k).2.2.2.2.1)
 else if (gI b k).2.2.2.1 == 2 then sI cnt k ((gI b k).2.2.2.2.2 && decide (0 < gI am (gI b k).2.2.2.2.1)) else cnt
def zbN (b : List Tk) (lives : List Bool) (c : Int) (x : (List Bool) × (List Int)) (k : Int) : (List Bool) × (List Int) :=
 (rkCnt b lives x.1 x.2 k, if gI (rkCnt b lives x.1 x.2 k) k then sI x.2 c (w64 (gI x.2 c + (gI b k).2.2.1)) else x.2)
def rkRound (b : List Tk) (lives : List Bool) (c : Int) (x : (List Bool) × (List Int)) : (List Bool) × (List Int) := (zbq b c).foldl (zbN b lives c) x
def tkOK (a b : Nat) (t : Tk) : Bool := !t.1 || ((!(t.2.2.2.1 == 1) || (decide (0 ≤ t.2.2.2.2.1) && decide (t.2.2.2.2.1 < (b : Int)))) && (!(t.2.2.2.1 == 2) || (decide (0 ≤ t.2.2.2.2.1) && decide (t.2.2.2.2.1 < (a : Int)))))
theorem zex (b : List Tk) (lives cnt : List Bool) (am : List Int) (k : Int) : (rkCnt b lives cnt am k).length = cnt.length := by
 unfold rkCnt; split
 ·simp [sI]
 ·split <;> simp [sI]
theorem issued_mem {b : List Tk} {c k : Int} (h : k ∈ zbq b c) : 0 ≤ k ∧ k < (b.length : Int) ∧ (gI b k).1 = true ∧ (gI b k).2.1 = c := by
 obtain ⟨j, hj, rfl⟩ := List.mem_map.1 h
 obtain ⟨h1, h2⟩ := List.mem_filter.1 hj
 rw [List.mem_range] at h1
 unfold isTk at h2
 rw [zed]
 simp only [Bool.and_eq_true, beq_iff_eq] at h2
 exact ⟨by omega, by omega, h2⟩
theorem rk_loop (b : List Tk) (lives : List Bool) (c : Int) {na nb : Nat} (hb : b.length ≤ 1000000) (hok : b.all (tkOK na nb) = true) (hlv : lives.length = nb) (hc : 0 ≤ c ∧ c < (na : Int)) (hl : (zbq b c).length ≤ 1000000) : ∀ (d i : Nat) (x : (List Bool) × (List Int)), i + d = (zbq b c).length → x.1.length = b.length → x.2.length = na →
  lo zd_r_b10 (c, ((zbq b c).length : Int), b, lives, zbq b c) ((i : Int), x.1, x.2) = some (((zbq b c).drop i).foldl (zbN b lives c) x)
 | 0, i, x, h, _, _ => by
  rw [zbi, zd_r_b10]
  simp only [RT.run]
  rw [if_neg (by simp; omega), List.drop_eq_nil_of_le (by omega)]
  rfl
 | d + 1, i, x, h, h1, h2 => by
  have hi : i < (zbq b c).length := by omega
  obtain ⟨k0, k1, k2, k3⟩ := issued_mem (List.getElem_mem hi)
  generalize hk : (zbq b c)[i] = k at *
  have hkb : inB b k = true := zbc.2 ⟨k0, k1⟩
  have hkx : inB x.1 k = true := zbc.2 ⟨k0, by rw [h1]; exact k1⟩
  have hcx : inB x.2 c = true := zbc.2 ⟨hc.1, by rw [h2]; exact hc.2⟩
  have htk : tkOK na nb (gI b k) = true := by
   obtain ⟨j, rfl⟩ := Int.eq_ofNat_of_zero_le k0
   rw [zbD (by omega)]
   exact List.all_eq_true.1 hok _ (List.getElem_mem _)
  unfold tkOK at htk
  rw [k2] at htk
  simp only [Bool.not_true, Bool.false_or, Bool.and_eq_true, Bool.or_eq_true, Bool.not_eq_true', beq_eq_false_iff_ne, decide_eq_true_eq] at htk
  have hcnt : on zfH (k, x.1, x.2, lives, (gI b k).2.2.2.1, (gI b k).2.2.2.2.1, (gI b k).2.2.2.2.2) = some (rkCnt b lives x.1 x.2 k) := by
   show (zfH _).run _ = _
   rw [zfH]
   simp only [RT.run]
   unfold rkCnt
   by_cases q1 : (gI b k).2.2.2.1 = 1
   ·have q1' : ((gI b k).2.2.2.1 == 1) = true := by simpa using q1
    have hin : inB lives (gI b k).2.2.2.2.1 = true := zbc.2 (by
     rcases htk.1 with h | h
     ·exact absurd q1 h
     ·rw [hlv]; exact h)
    rw [if_pos q1', if_pos q1']
    have : on zfc (k, x.1, lives, (gI b k).2.2.2.2.1, (gI b k).2.2.2.2.2) = some (sI x.1 k ((gI b k).2.2.2.2.2 && gI lives (gI b k).2.2.2.2.1)) := by
     show (zfc _).run _ = _
     rw [zfc]
     simp only [RT.run]
     cases (gI b k).2.2.2.2.2 with
     | true => rw [if_pos rfl, if_pos hin, if_pos hkx, Bool.true_and]
     | false => rw [if_neg (by simp), if_pos hkx, Bool.false_and]
    rw [this]; rfl
   ·have q1' : ¬ ((gI b k).2.2.2.1 == 1) = true := by simpa using q1
    rw [if_neg q1', if_neg q1']
    by_cases q2 : (gI b k).2.2.2.1 = 2
    ·have q2' : ((gI b k).2.2.2.1 == 2) = true := by simpa using q2
     have hin : inB x.2 (gI b k).2.2.2.2.1 = true := zbc.2 (by
      rcases htk.2 with h | h
      ·exact absurd q2 h
      ·rw [h2]; exact h)
     rw [if_pos q2', if_pos q2']
     have : on zeK (k, x.1, x.2, (gI b k).2.2.2.2.1, (gI b k).2.2.2.2.2) = some (sI x.1 k ((gI b k).2.2.2.2.2 && decide (0 < gI x.2 (gI b k).2.2.2.2.1))) := by
      show (zeK _).run _ = _
      rw [zeK]
      simp only [RT.run]
      cases (gI b k).2.2.2.2.2 with
      | true => rw [if_pos rfl, if_pos hin, if_pos hkx, Bool.true_and]
      | false => rw [if_neg (by simp), if_pos hkx, Bool.false_and]
     rw [this]; rfl
    ·have q2' : ¬ ((gI b k).2.2.2.1 == 2) = true := by simpa using q2
     rw [if_neg q2', if_neg q2']
  have hgk : gI (zbq b c) (i : Int) = k := by rw [zbD hi, hk]
  have hin4 : inB (rkCnt b lives x.1 x.2 k) k = true := zbc.2 ⟨k0, by rw [zex, h1]; exact k1⟩
  rw [zbi, zd_r_b10]
  simp only [RT.run]
  rw [if_pos (by simp; omega), if_pos (zbc.2 ⟨by omega, by omega⟩), hgk, if_pos hkb, hcnt, Option.bind_some, if_pos hin4, zbg (by omega), show (i : Int) + 1 = ((i + 1 : Nat) : Int) by omega, List.drop_eq_getElem_cons hi, List.foldl_cons, hk]
  by_cases hv : gI (rkCnt b lives x.1 x.2 k) k = true
  ·rw [if_pos hv, if_pos hcx, if_pos hcx]
   have := rk_loop b lives c hb hok hlv hc hl d (i + 1) (zbN b lives c x k) (by omega) (by rw [zbN, zex, h1]) (by simp only [zbN, if_pos hv, sI, List.length_set]; exact h2)
   simp only [zbN, if_pos hv] at this ⊢
   exact this
  ·rw [if_neg hv]
   have := rk_loop b lives c hb hok hlv hc hl d (i + 1) (zbN b lives c x k) (by omega) (by rw [zbN, zex, h1]) (by simp only [zbN, if_neg hv]; exact h2)
   simp only [zbN, if_neg hv] at this ⊢
   exact this
theorem rkFold_len {b : List Tk} {lives : List Bool} {c : Int} : ∀ (l : List Int) (x : (List Bool) × (List Int)), (l.foldl (zbN b lives c) x).1.length = x.1.length ∧ (l.foldl (zbN b lives c) x).2.length = x.2.length
 | [], _ => ⟨rfl, rfl⟩
 | k :: l, x => by
  obtain ⟨h1, h2⟩ := rkFold_len (b := b) (lives := lives) (c := c) l (zbN b lives c x k)
  rw [List.foldl_cons]
  refine ⟨h1.trans (by rw [zbN, zex]), h2.trans ?_⟩
  simp only [zbN]
  split <;> simp [sI]
theorem kahn_len (m : Nat) (l : List (Int × Int)) : (zcj m l).2.length ≤ m := by
 unfold zcj
 cases h : kahn m l m [] with
 | none => simp
 | some o => have := zgb h; simp at this; show o.length ≤ m; omega
def zdu (s : SD) : (List Bool) × (List Int) := (sdOrd s).reverse.foldl (fun x c => rkRound s.2.1 (zeB s) c x) (rkX0 s)
def reckOK (s : SD) : Bool := sdLiveOK s && (sdOrdOK s && s.2.1.all (tkOK s.1.length s.2.2.1.length))
def e_zd : zbj := io_zd.sp reckOK zdu
theorem zgw (b : List Tk) (c : Int) : (zbq b c).length ≤ b.length := by
 unfold zbq
 rw [List.length_map]
 exact Nat.le_trans (List.length_filter_le ..) (by simp)
theorem reck_call (s : SD) (hc : reckOK s = true) : zdd pg n_zd (io_zd.as s) (io_zd.es s) (io_zd.res (zdu s)) := by
 unfold reckOK at hc
 simp only [Bool.and_eq_true] at hc
 obtain ⟨hl, ho, ht⟩ := hc
 have ho' := ho
 have hl' := hl
 simp only [sdOrdOK, sdLiveOK, Bool.and_eq_true, decide_eq_true_eq] at ho' hl'
 have hlv : (zeB s).length = s.2.2.1.length := by simp [zeB, liveV]
 have hord : (sdOrd s).length ≤ s.1.length := by
  unfold sdOrd zbs
  exact Nat.le_trans (List.length_filter_le ..) (kahn_len _ _)
 have hin : inR s.1.length (sdOrd s) := fun k hk => (zfM _ _).inr k (List.mem_filter.1 hk).1
 have hP : ∀ j, j < (sdOrd s).length → rkP s (j, (sdOrd s)[j]?.getD 0) := fun j hj => by
  have hk := hin _ (List.getElem_mem hj)
  rw [List.getElem?_eq_getElem hj]
  have h1 : IntKind.i64.min = -9223372036854775808 := by decide
  have h2 : IntKind.i64.max = 9223372036854775807 := by decide
  refine ⟨wf_iff.2 (by rw [h1, h2]; simp only; omega), wf_iff.2 (by rw [h1, h2]; simp only [Option.getD_some]; omega), hk.1, hk.2⟩
 have := rk_call s (zeB s) (sdOrd s) (fun y x => rkRound s.2.1 (zeB s) y.1.2 x) hl rfl ho rfl (zcK.2 ⟨by omega, by omega, by omega⟩) (zcK.2 ⟨by omega, by omega, by omega⟩) (by omega) hP ⟨by simp [rkX0, zbV], by simp [rkX0, zbV]⟩ (fun y x hx => ?_)
 ·have hfold : (Bw.listP (rkP s) (sdOrd s) hP).foldl (fun x y => rkRound s.2.1 (zeB s) y.1.2 x) (rkX0 s) = zdu s := by
   unfold zdu
   rw [← Bw.list_snd, ← Bw.listP_val (p := rkP s) (hp := hP), List.map_map, List.foldl_map]
   rfl
  exact Eq.mp (congrArg (fun z : (List Bool) × (List Int) => zdd pg n_zd (io_zd.as s) (io_zd.es s) (io_zd.res z)) hfold) this
 ·obtain ⟨h1, h2⟩ := hx
  obtain ⟨h3, h4⟩ := rkFold_len (b := s.2.1) (lives := zeB s) (c := y.1.2) (zbq s.2.1 y.1.2) x
  refine ⟨⟨h3.trans h1, h4.trans h2⟩, ?_⟩
  obtain ⟨a, b, c, d, e, f⟩ := s
  obtain ⟨x1, x2⟩ := x
  show (zd_r (y.1.2, a, b, c, d, e, f, x1, x2, zeB (a, b, c, d, e, f))).run _ = _
  rw [zd_r]
  simp only [RT.run]
  have hil := zgw b y.1.2
  have := rk_loop b (zeB (a, b, c, d, e, f)) y.1.2 (na := a.length) (nb := c.length) ho'.1 ht hlv ⟨y.2.2.2.1, y.2.2.2.2⟩ (Nat.le_trans hil ho'.1) (zbq b y.1.2).length 0 (x1, x2) (by omega) h1 h2
  rw [show ((0 : Nat) : Int) = 0 from rfl] at this
  rw [if_pos (decide_eq_true ho'.1), this]
  rfl
theorem e_zd_ok : e_zd.ok pg := zbj.data_ok fun args es r h hv => by
 unfold Io.spAns at h
 simp only at h
 split at h
 case h_2 => cases h
 rename_i x hx
 cases h
 obtain ⟨h1, h2⟩ := Io.rd_as hx
 rw [← h1, ← h2]
 exact ⟨⟨f_zd, by kernel_rfl, by kernel_rfl, by kernel_rfl⟩, zdd.vc (reck_call x hv)⟩
end
end Go.Proofs.Ytlfdidaeachpoaa
namespace Go.Proofs.Ytlfdidaeachpoaa
open Go Go.RowKit
set_option maxRecDepth 100000
noncomputable section
def zaf : ((List Bool) × (List Tk) × (List Th) × (List Lk) × (List Int) × Int) → RT Unit (List Bool)
| (s_0, s_1, s_2, s_3, s_4, s_5) =>
 .rq 3 (.req ((reckOK (s_0, s_1, s_2, s_3, s_4, s_5))) (.rq 7 (.done ((zdu (s_0, s_1, s_2, s_3, s_4, s_5))).1)))
def F_zaf (x : (List Bool) × (List Tk) × (List Th) × (List Lk) × (List Int) × Int) : Option (List Bool) := (zaf x).run fun _ => none
def io_zaf : Io := ⟨n_zaf, [.sl tB, .sl yK, .sl yH, .sl yL, .sl tI, tI], [.agg [qm 0, qm 1, qm 2, qm 3, qm 4, qm 5]], [], [[.sl tB, .sl yK, .sl yH, .sl yL, .sl tI, tI]], [.sl tB], .lf (qr 0), [], [(true, .arr 4 (qm 0))], false⟩
def zaf_P : List zaV := []
def zaf_T : zbf := tab [e_zd]
theorem zaf_To : zbd pg zaf_T := zaX ⟨e_zd_ok, trivial⟩
theorem zaf_go : zbt pg (zaf_T) io_zaf f_zaf (zaf_P) [.nilRow 2 800002 4 tB, .ren 2 700002, .ren 2 900002] (zaf) := ⟨by kernel_rfl, by kernel_rfl, fun x => by kernel_rfl⟩
theorem ok_zaf : io_zaf.Okay pg (F_zaf) := zbl zaZ (zaf_To) (zaf_go) trivial
def e_zaf : zbj := io_zaf.sp (fun (a, b, c, d, e, f) => (reckOK (a, b, c, d, e, f))) (fun (a, b, c, d, e, f) => ((zdu (a, b, c, d, e, f)).1))
theorem sp_zaf (h : ∀ (a : List Bool) (b : List Tk) (c : List Th) (d : List Lk) (e : List Int) (f : Int), WfT [.sl tB, .sl yK, .sl yH, .sl yL, .sl tI, tI] (a, b, c, d, e, f) → ((reckOK (a, b, c, d, e, f))) = true → (zaf (a, b, c, d, e, f)).run (fun _ => none) = some ((zdu (a, b, c, d, e, f)).1)) : e_zaf.ok pg := zbo ok_zaf fun (a, b, c, d, e, f) hw hc => h a b c d e f hw hc
theorem e_zaf_ok : e_zaf.ok pg := sp_zaf fun a b c d e f _ hc => by
 rw [zaf]
 simp only [RT.run]
 rw [if_pos hc]
def zae : ((List Bool) × (List Tk) × (List Th) × (List Lk) × (List Int) × Int) → RT Unit (List Int)
| (s_0, s_1, s_2, s_3, s_4, s_5) =>
 .rq 3 (.req ((reckOK (s_0, s_1, s_2, s_3, s_4, s_5))) (.rq 7 (.done ((zdu (s_0, s_1, s_2, s_3, s_4, s_5))).2)))
def F_zae (x : (List Bool) × (List Tk) × (List Th) × (List Lk) × (List Int) × Int) : Option (List Int) := (zae x).run fun _ => none
def io_zae : Io := ⟨n_zae, [.sl tB, .sl yK, .sl yH, .sl yL, .sl tI, tI], [.agg [qm 0, qm 1, qm 2, qm 3, qm 4, qm 5]], [], [[.sl tB, .sl yK, .sl yH, .sl yL, .sl tI, tI]], [.sl tI], .lf (qr 0), [], [(true, .arr 3 (qm 0))], false⟩
def zae_P : List zaV := []
def zae_T : zbf := tab [e_zd]
theorem zae_To : zbd pg zae_T := zaX ⟨e_zd_ok, trivial⟩
theorem zae_go : zbt pg (zae_T) io_zae f_zae (zae_P) [.nilRow 2 800002 3 tI, .ren 2 700002, .ren 2 900002] (zae) := ⟨by kernel_rfl, by kernel_rfl, fun x => by kernel_rfl⟩
theorem ok_zae : io_zae.Okay pg (F_zae) := zbl zaZ (zae_To) (zae_go) trivial
def e_zae : zbj := io_zae.sp (fun (a, b, c, d, e, f) => (reckOK (a, b, c, d, e, f))) (fun (a, b, c, d, e, f) => ((zdu (a, b, c, d, e, f)).2))
theorem sp_zae (h : ∀ (a : List Bool) (b : List Tk) (c : List Th) (d : List Lk) (e : List Int) (f : Int), WfT [.sl tB, .sl yK, .sl yH, .sl yL, .sl tI, tI] (a, b, c, d, e, f) → ((reckOK (a, b, c, d, e, f))) = true → (zae (a, b, c, d, e, f)).run (fun _ => none) = some ((zdu (a, b, c, d, e, f)).2)) : e_zae.ok pg := zbo ok_zae fun (a, b, c, d, e, f) hw hc => h a b c d e f hw hc
theorem e_zae_ok : e_zae.ok pg := sp_zae fun a b c d e f _ hc => by
 rw [zae]
 simp only [RT.run]
 rw [if_pos hc]
def zg_b122 : Int → (Int × (List ((List Int) × List Int))) → RT (Int × (List ((List Int) × List Int))) (List ((List Int) × List Int))
| x28, (x29, r2) =>
 .rq 1 (.ite (decide (x29 < x28))
 (.rq 5 (.req (inB r2 x29) (.rq 3 (.again (w64 (x29 + 1), sI r2 x29 ([], zbb B32 1))))))
 (.done r2))
def zg_p122 : zaV := ⟨122, true, [tI, .sl tB, .sl yK, .sl yH, .sl yL, .sl tI, tI, .sl (.pair (.sl tV) (.sl tV)), .sl tB, .sl tI], [tI, .sl (.pair (.sl tV) (.sl tV))], ⟨[.keep [1, 2, 3, 4, 5, 28, 29], .gc, .nilRow 2 800002 43 (.pair (.sl tV) (.sl tV)), .nilRow 3 800003 43 (.pair (.sl tV) (.sl tV)), .nilRow 4 800004 4 tB, .nilRow 5 800005 3 tI, .ren 2 700002, .ren 3 700003, .ren 4 700004, .ren 5 700005, .ren 2 900002, .ren 3 900003, .ren 4 900004, .ren 5 900005, .gc], [1, 2, 3, 4, 5, 28, 29], [.lf (qp 16), .lf (qr 900002), .lf (qr 900003), .lf (qr 900004), .lf (qr 900005), .lf (qi 0), .lf (qm 0)], [(16, true, .cells [qi 1, qi 2, qi 3, qi 4, qi 5, qi 6]), (900002, true, .arr 43 (qm 1)), (900003, true, .arr 43 (qi 7)), (900004, true, .arr 4 (qi 8)), (900005, true, .arr 3 (qi 9))]⟩, [⟨2, ⟨[.keep [1, 2, 3, 4, 5], .gc, .nilRow 2 800002 43 (.pair (.sl tV) (.sl tV)), .nilRow 3 800003 43 (.pair (.sl tV) (.sl tV)), .nilRow 4 800004 4 tB, .nilRow 5 800005 3 tI, .ren 2 700002, .ren 3 700003, .ren 4 700004, .ren 5 700005, .ren 2 900002, .ren 3 900003, .ren 4 900004, .ren 5 900005, .gc], [1, 2, 3, 4, 5], [.lf (qp 16), .lf (qr 900002), .lf (qr 900003), .lf (qr 900004), .lf (qr 900005)], [(16, true, .cells [qi 1, qi 2, qi 3, qi 4, qi 5, qi 6]), (900002, true, .arr 43 (qm 0)), (900003, true, .arr 43 (qi 7)), (900004, true, .arr 4 (qi 8)), (900005, true, .arr 3 (qi 9))]⟩, [.sl (.pair (.sl tV) (.sl tV))]⟩], (fun i => zg_b122 i.1)⟩
def zg_b250 : Int → (Int × (List ((List Int) × List Int))) → RT (Int × (List ((List Int) × List Int))) (List ((List Int) × List Int))
| i, (t, r3) =>
 .rq 1 (.ite (decide (t < i))
 (.rq 5 (.req (inB r3 t) (.rq 3 (.again (w64 (t + 1), sI r3 t ([], zbb B32 1))))))
 (.done r3))
def zg_p250 : zaV := ⟨250, true, [tI, .sl tB, .sl yK, .sl yH, .sl yL, .sl tI, tI, .sl (.pair (.sl tV) (.sl tV)), .sl tB, .sl tI], [tI, .sl (.pair (.sl tV) (.sl tV))], ⟨[.keep [1, 2, 3, 4, 5, 38, 39], .gc, .nilRow 2 800002 43 (.pair (.sl tV) (.sl tV)), .nilRow 3 800003 43 (.pair (.sl tV) (.sl tV)), .nilRow 4 800004 4 tB, .nilRow 5 800005 3 tI, .ren 2 700002, .ren 3 700003, .ren 4 700004, .ren 5 700005, .ren 2 900002, .ren 3 900003, .ren 4 900004, .ren 5 900005, .gc], [1, 2, 3, 4, 5, 38, 39], [.lf (qp 16), .lf (qr 900002), .lf (qr 900003), .lf (qr 900004), .lf (qr 900005), .lf (qi 0), .lf (qm 0)], [(16, true, .cells [qi 1, qi 2, qi 3, qi 4, qi 5, qi 6]), (900002, true, .arr 43 (qi 7)), (900003, true, .arr 43 (qm 1)), (900004, true, .arr 4 (qi 8)), (900005, true, .arr 3 (qi 9))]⟩, [⟨4, ⟨[.keep [1, 2, 3, 4, 5], .gc, .nilRow 2 800002 43 (.pair (.sl tV) (.sl tV)), .nilRow 3 800003 43 (.pair (.sl tV) (.sl tV)), .nilRow 4 800004 4 tB, .nilRow 5 800005 3 tI, .ren 2 700002, .ren 3 700003, .ren 4 700004, .ren 5 700005, .ren 2 900002, .ren 3 900003, .ren 4 900004, .ren 5 900005, .gc], [1, 2, 3, 4, 5], [.lf (qp 16), .lf (qr 900002), .lf (qr 900003), .lf (qr 900004), .lf (qr 900005)], [(16, true, .cells [qi 1, qi 2, qi 3, qi 4, qi 5, qi 6]), (900002, true, .arr 43 (qi 7)), (900003, true, .arr 43 (qm 0)), (900004, true, .arr 4 (qi 8)), (900005, true, .arr 3 (qi 9))]⟩, [.sl (.pair (.sl tV) (.sl tV))]⟩], (fun i => zg_b250 i.1)⟩
def zfE : (Int × Int × (List Tk) × (List Bool) × (List Int) × (List Int)) → (Int × (List ((List Int) × List Int)) × (List ((List Int) × List Int))) → RT (Int × (List ((List Int) × List Int)) × (List ((List Int) × List Int))) ((List ((List Int) × List Int)) × (List ((List Int) × List Int)))
| (s, u, l_1, r4, r5, r66), (n, r2, r3) =>
 .rq 1 (.ite (decide (n < u))
 (.req (inB r66 n) (.rq 4 (.req (inB r4 (gI r66 n)) (.rq 2 (let t0 := w64 (n + 1);
 .ite (!(gI r4 (gI r66 n)))
 (.rq 2 (.again (t0, r2, r3)))
 (.rq 3 (.req (inB l_1 (gI r66 n)) (.rq 8 (.req (inB r5 s) (.rq 14 (.req (inB r2 s) (.rq 2 (let t1 := mkR (zbr (gI l_1 (gI r66 n)).2.2.1).toNat (zbr (gI r5 s)).toNat;
 let t2 := [(t1.2.1, t1.2.2), ((gI r2 s).1, (gI r2 s).2)];
 .req (okS t2) (.req (inB r3 (gI r66 n)) (.rq 4 (let t3 := rq (prodQ t2);
 let t4 := sI r3 (gI r66 n) (t3.1, t3.2);
 .ite ((gI l_1 (gI r66 n)).2.2.2.1 == 2)
 (.rq 6 (let t5 := inB r2 (gI l_1 (gI r66 n)).2.2.2.2.1;
 .req t5 (.rq 3 (.req (inB t4 (gI r66 n)) (.rq 2 (let t6 := gI r2 (gI l_1 (gI r66 n)).2.2.2.2.1;
 let t7 := gI t4 (gI r66 n);
 let t8 := [(t6.1, t6.2), (t7.1, t7.2)];
 .req (okS t8) (.req t5 (.rq 3 (let t9 := rq (sumQ t8);
 .again (t0, sI r2 (gI l_1 (gI r66 n)).2.2.2.2.1 (t9.1, t9.2), t4))))))))))
 (.rq 2 (.again (t0, r2, t4)))))))))))))))))))
 (.done (r2, r3)))
def zg_p260710 : zaV := ⟨260710, true, [tI, .sl tI, tI, tI, tI, .sl tB, .sl yK, .sl yH, .sl yL, .sl tI, tI, .sl tB, .sl tI, .sl tI], [tI, .sl (.pair (.sl tV) (.sl tV)), .sl (.pair (.sl tV) (.sl tV))], ⟨[.keep [1, 2, 3, 4, 5, 9, 58, 59, 60, 66, 67, 68], .gc, .nilRow 2 800002 43 (.pair (.sl tV) (.sl tV)), .nilRow 3 800003 43 (.pair (.sl tV) (.sl tV)), .nilRow 4 800004 4 tB, .nilRow 5 800005 3 tI, .nilRow 66 800066 3 tI, .ren 2 700002, .ren 3 700003, .ren 4 700004, .ren 5 700005, .ren 66 700066, .ren 2 900002, .ren 3 900003, .ren 4 900004, .ren 5 900005, .ren 66 900066, .gc], [1, 2, 3, 4, 5, 9, 58, 59, 60, 66, 67, 68], [.lf (qp 16), .lf (qr 900002), .lf (qr 900003), .lf (qr 900004), .lf (qr 900005), .lf (qi 0), .lf (qi 1), .lf (qi 2), .lf (qi 3), .lf (qr 900066), .lf (qi 4), .lf (qm 0)], [(16, true, .cells [qi 5, qi 6, qi 7, qi 8, qi 9, qi 10]), (900002, true, .arr 43 (qm 1)), (900003, true, .arr 43 (qm 2)), (900004, true, .arr 4 (qi 11)), (900005, true, .arr 3 (qi 12)), (900066, true, .arr 3 (qi 13))]⟩, [⟨8, ⟨[.keep [1, 2, 3, 4, 5, 58, 59, 60], .gc, .nilRow 2 800002 43 (.pair (.sl tV) (.sl tV)), .nilRow 3 800003 43 (.pair (.sl tV) (.sl tV)), .nilRow 4 800004 4 tB, .nilRow 5 800005 3 tI, .ren 2 700002, .ren 3 700003, .ren 4 700004, .ren 5 700005, .ren 2 900002, .ren 3 900003, .ren 4 900004, .ren 5 900005, .gc], [1, 2, 3, 4, 5, 58, 59, 60], [.lf (qp 16), .lf (qr 900002), .lf (qr 900003), .lf (qr 900004), .lf (qr 900005), .lf (qi 1), .lf (qi 2), .lf (qi 3)], [(16, true, .cells [qi 5, qi 6, qi 7, qi 8, qi 9, qi 10]), (900002, true, .arr 43 (qm 0)), (900003, true, .arr 43 (qm 1)), (900004, true, .arr 4 (qi 11)), (900005, true, .arr 3 (qi 12))]⟩, [.sl (.pair (.sl tV) (.sl tV)), .sl (.pair (.sl tV) (.sl tV))]⟩], (fun i => zfE (i.1, i.2.2.2.2.1, i.2.2.2.2.2.2.1, i.2.2.2.2.2.2.2.2.2.2.2.1, i.2.2.2.2.2.2.2.2.2.2.2.2.1, i.2.2.2.2.2.2.2.2.2.2.2.2.2))⟩
def zfS : ((List Int) × Int × (List Bool) × (List Tk) × (List Th) × (List Lk) × (List Int) × Int × (List Bool) × (List Int)) → (Int × (List ((List Int) × List Int)) × (List ((List Int) × List Int))) → RT (Int × (List ((List Int) × List Int)) × (List ((List Int) × List Int))) ((List ((List Int) × List Int)) × (List ((List Int) × List Int)))
| (x58, x59, l_0, l_1, l_2, l_3, l_4, l_5, r4, r5), (x60, r2, r3) =>
 .rq 1 (.ite (decide (x60 < x59))
 (.req (inB x58 x60) (.rq 4 (.req ((decide (l_1.length ≤ 1000000))) (.rq 2 (let t0 := (zbq l_1 (gI x58 x60));
 .call (lo zfE (gI x58 x60, (t0.length : Int), l_1, r4, r5, t0) (0, r2, r3)) default fun v2 =>
 .rq 2 (.again (w64 (x60 + 1), v2.1, v2.2)))))))
 (.done (r2, r3)))
def zg_p1018 : zaV := ⟨1018, true, [.sl tI, tI, .sl tB, .sl yK, .sl yH, .sl yL, .sl tI, tI, .sl tB, .sl tI], [tI, .sl (.pair (.sl tV) (.sl tV)), .sl (.pair (.sl tV) (.sl tV))], ⟨[.keep [1, 2, 3, 4, 5, 58, 59, 60], .gc, .nilRow 2 800002 43 (.pair (.sl tV) (.sl tV)), .nilRow 3 800003 43 (.pair (.sl tV) (.sl tV)), .nilRow 4 800004 4 tB, .nilRow 5 800005 3 tI, .ren 2 700002, .ren 3 700003, .ren 4 700004, .ren 5 700005, .ren 2 900002, .ren 3 900003, .ren 4 900004, .ren 5 900005, .gc], [1, 2, 3, 4, 5, 58, 59, 60], [.lf (qp 16), .lf (qr 900002), .lf (qr 900003), .lf (qr 900004), .lf (qr 900005), .lf (qi 0), .lf (qi 1), .lf (qm 0)], [(16, true, .cells [qi 2, qi 3, qi 4, qi 5, qi 6, qi 7]), (900002, true, .arr 43 (qm 1)), (900003, true, .arr 43 (qm 2)), (900004, true, .arr 4 (qi 8)), (900005, true, .arr 3 (qi 9))]⟩, [⟨6, ⟨[.keep [2, 3], .gc, .nilRow 2 800002 43 (.pair (.sl tV) (.sl tV)), .nilRow 3 800003 43 (.pair (.sl tV) (.sl tV)), .ren 2 700002, .ren 3 700003, .ren 2 900002, .ren 3 900003, .gc], [2, 3], [.lf (qr 900002), .lf (qr 900003)], [(900002, true, .arr 43 (qm 0)), (900003, true, .arr 43 (qm 1))]⟩, [.sl (.pair (.sl tV) (.sl tV)), .sl (.pair (.sl tV) (.sl tV))]⟩], zfS⟩
def zg : ((List Bool) × (List Tk) × (List Th) × (List Lk) × (List Int) × Int) → RT Unit ((List ((List Int) × List Int)) × (List ((List Int) × List Int)))
| (a0_0, a0_1, a0_2, a0_3, a0_4, a0_5) =>
 .rq 4 (let t0 := (reckOK (a0_0, a0_1, a0_2, a0_3, a0_4, a0_5));
 .req t0 (.rq 1 (.req t0 (.rq 5 (.req (mkOK 48 (a0_0.length : Int)) (.rq 3 (.req (mkOK 48 (a0_1.length : Int)) (.rq 5 (let t1 := zbV (a0_0.length : Int) ([], []);
 .call (lo zg_b122 (t1.length : Int) (0, t1)) default fun v0 =>
 .rq 3 (let t2 := zbV (a0_1.length : Int) ([], []);
 .call (lo zg_b250 (t2.length : Int) (0, t2)) default fun v1 =>
 .rq 2 (let t3 := ((zdu (a0_0, a0_1, a0_2, a0_3, a0_4, a0_5)).2);
 .req (inB t3 0) (.rq 6 (.req (inB v0 0) (.rq 2 (.req ((decide (a0_1.length ≤ 1000000) && decide (a0_0.length ≤ 4096))) (.rq 2 (let t4 := (zbs a0_0 a0_1);
 let t5 := mkR (zbr (gI t3 0)).toNat (1 : Int).toNat;
 .call (lo zfS (t4, (t4.length : Int), a0_0, a0_1, a0_2, a0_3, a0_4, a0_5, ((zdu (a0_0, a0_1, a0_2, a0_3, a0_4, a0_5)).1), t3) (0, sI v0 0 (t5.2.1, t5.2.2), v1)) default fun v3 =>
 .rq 4 (.done (v3.1, v3.2)))))))))))))))))))
def F_zg (x : (List Bool) × (List Tk) × (List Th) × (List Lk) × (List Int) × Int) : Option ((List ((List Int) × List Int)) × (List ((List Int) × List Int))) := (zg x).run fun _ => none
def io_zg : Io := ⟨n_zg, [.sl tB, .sl yK, .sl yH, .sl yL, .sl tI, tI], [.agg [qm 0, qm 1, qm 2, qm 3, qm 4, qm 5]], [], [[.sl tB, .sl yK, .sl yH, .sl yL, .sl tI, tI]], [.sl (.pair (.sl tV) (.sl tV)), .sl (.pair (.sl tV) (.sl tV))], .tup [(false, [qr 0]), (false, [qr 1])], [], [(true, .arr 43 (qm 0)), (true, .arr 43 (qm 1))], true⟩
def zg_P : List zaV := [zg_p122, zg_p250, zg_p260710, zg_p1018]
def zg_T : zbf := tab [e_zae, e_zaf, e_zr, e_zw, e_zV, e_zP, e_zaO, e_zY]
theorem zg_To : zbd pg zg_T := zaX ⟨e_zae_ok, e_zaf_ok, e_zr_ok, e_zw_ok, e_zV_ok, e_zP_ok, e_zaO_ok, e_zY_ok, trivial⟩
theorem zg_k122 : (zg_p122).OK pg (zg_T) (zbu 126 (zg_P)) (zbh f_zg) 126 := ⟨by kernel_rfl, fun i x => by kernel_rfl⟩
theorem zg_k250 : (zg_p250).OK pg (zg_T) (zbu 126 (zg_P)) (zbh f_zg) 126 := ⟨by kernel_rfl, fun i x => by kernel_rfl⟩
theorem zg_k260710 : (zg_p260710).OK pg (zg_T) (zbu 126 (zg_P)) (zbh f_zg) 126 := ⟨by kernel_rfl, fun i x => by kernel_rfl⟩
theorem zg_k1018 : (zg_p1018).OK pg (zg_T) (zbu 126 (zg_P)) (zbh f_zg) 126 := ⟨by kernel_rfl, fun i x => by kernel_rfl⟩
theorem zg_go : zbt pg (zg_T) io_zg f_zg (zg_P) [.nilRow 2 800002 43 (.pair (.sl tV) (.sl tV)), .nilRow 3 800003 43 (.pair (.sl tV) (.sl tV)), .ren 2 700002, .ren 3 700003, .ren 2 900002, .ren 3 900003] (zg) := ⟨by kernel_rfl, by kernel_rfl, fun x => by kernel_rfl⟩
theorem ok_zg : io_zg.Okay pg (F_zg) := zbl zaZ (zg_To) (zg_go) ⟨zg_k122, zg_k250, zg_k260710, zg_k1018, trivial⟩
end
end Go.Proofs.Ytlfdidaeachpoaa
namespace Go.Proofs.Ytlfdidaeachpoaa
open Go Go.RowKit
set_option maxRecDepth 100000
noncomputable section
def zaM : ((List Bool) × (List Tk) × (List Th) × (List Lk) × (List Int) × Int × Int) → RT Unit Bool
| (s_0, s_1, s_2, s_3, s_4, s_5, i) =>
 .rq 15 (let t0 := (decide (0 ≤ i)) && (decide (i < (s_0.length : Int)));
 .req ((inB s_0 i) || (!t0)) (.rq 3 (.done (t0 && (gI s_0 i)))))
def F_zaM (x : (List Bool) × (List Tk) × (List Th) × (List Lk) × (List Int) × Int × Int) : Option Bool := (zaM x).run fun _ => none
def io_zaM : Io := ⟨n_zaM, [.sl tB, .sl yK, .sl yH, .sl yL, .sl tI, tI, tI], [.agg [qm 0, qm 1, qm 2, qm 3, qm 4, qm 5], .lf (qm 6)], [], [[.sl tB, .sl yK, .sl yH, .sl yL, .sl tI, tI], [tI]], [tB], .lf (qm 0), [], [], false⟩
def zaM_P : List zaV := []
def zaM_T : zbf := tab []
theorem zaM_To : zbd pg zaM_T := zaX trivial
theorem zaM_go : zbt pg (zaM_T) io_zaM f_zaM (zaM_P) [] (zaM) := ⟨by kernel_rfl, by kernel_rfl, fun x => by kernel_rfl⟩
theorem ok_zaM : io_zaM.Okay pg (F_zaM) := zbl zaZ (zaM_To) (zaM_go) trivial
def e_zaM : zbj := io_zaM.sp (fun (a, b, c, d, e, f, i) => true) (fun (a, b, c, d, e, f, i) => (inB a i && gI a i))
theorem sp_zaM (h : ∀ (a : List Bool) (b : List Tk) (c : List Th) (d : List Lk) (e : List Int) (f : Int) (i : Int), WfT [.sl tB, .sl yK, .sl yH, .sl yL, .sl tI, tI, tI] (a, b, c, d, e, f, i) → (zaM (a, b, c, d, e, f, i)).run (fun _ => none) = some (inB a i && gI a i)) : e_zaM.ok pg := zbo ok_zaM fun (a, b, c, d, e, f, i) hw hc => h a b c d e f i hw
theorem e_zaM_ok : e_zaM.ok pg := sp_zaM fun a b c d e f i _ => by
 rw [zaM]
 simp only [RT.run]
 show (if (inB a i || !(inB a i)) = true then some (inB a i && gI a i) else none) = _
 rw [if_pos (by cases inB a i <;> rfl)]
def zac : ((List Bool) × (List Tk) × (List Th) × (List Lk) × (List Int) × Int × Int) → RT Unit Bool
| (s_0, s_1, s_2, s_3, s_4, s_5, i) =>
 .rq 15 (let t0 := (decide (0 ≤ i)) && (decide (i < (s_2.length : Int)));
 .req ((inB s_2 i) || (!t0)) (.rq 5 (.done (t0 && ((gI s_2 i).1 != 0)))))
def F_zac (x : (List Bool) × (List Tk) × (List Th) × (List Lk) × (List Int) × Int × Int) : Option Bool := (zac x).run fun _ => none
def io_zac : Io := ⟨n_zac, [.sl tB, .sl yK, .sl yH, .sl yL, .sl tI, tI, tI], [.agg [qm 0, qm 1, qm 2, qm 3, qm 4, qm 5], .lf (qm 6)], [], [[.sl tB, .sl yK, .sl yH, .sl yL, .sl tI, tI], [tI]], [tB], .lf (qm 0), [], [], false⟩
def zac_P : List zaV := []
def zac_T : zbf := tab []
theorem zac_To : zbd pg zac_T := zaX trivial
theorem zac_go : zbt pg (zac_T) io_zac f_zac (zac_P) [] (zac) := ⟨by kernel_rfl, by kernel_rfl, fun x => by kernel_rfl⟩
theorem ok_zac : io_zac.Okay pg (F_zac) := zbl zaZ (zac_To) (zac_go) trivial
def e_zac : zbj := io_zac.sp (fun (a, b, c, d, e, f, i) => true) (fun (a, b, c, d, e, f, i) => (inB c i && (gI c i).1 != 0))
theorem sp_zac (h : ∀ (a : List Bool) (b : List Tk) (c : List Th) (d : List Lk) (e : List Int) (f : Int) (i : Int), WfT [.sl tB, .sl yK, .sl yH, .sl yL, .sl tI, tI, tI] (a, b, c, d, e, f, i) → (zac (a, b, c, d, e, f, i)).run (fun _ => none) = some (inB c i && (gI c i).1 != 0)) : e_zac.ok pg := zbo ok_zac fun (a, b, c, d, e, f, i) hw hc => h a b c d e f i hw
theorem e_zac_ok : e_zac.ok pg := sp_zac fun a b c d e f i _ => by
 rw [zac]
 simp only [RT.run]
 show (if (inB c i || !(inB c i)) = true then some (inB c i && (gI c i).1 != 0) else none) = _
 rw [if_pos (by cases inB c i <;> rfl)]
def zA_b58 : (List Tk) → (Int × (List (Int × Int))) → RT (Int × (List (Int × Int))) (List (Int × Int))
| s_1, (i, r3) =>
 .rq 5 (.ite (decide (i < (s_1.length : Int)))
 (.rq 3 (.req (inB s_1 i) (.rq 10 (let t0 := w64 (i + 1);
 .ite ((gI s_1 i).1 && ((gI s_1 i).2.2.2.1 == 2))
 (.rq 7 (let t1 := [((gI s_1 i).2.1, (gI s_1 i).2.2.2.2.1)];
 .req (apOK 16 r3 t1) (.rq 4 (.again (t0, r3 ++ t1)))))
 (.rq 3 (.again (t0, r3)))))))
 (.done r3))
def zA_p58 : zaV := ⟨58, true, [.sl tB, .sl yK, .sl yH, .sl yL, .sl tI, tI], [tI, .sl (.pair tI tI)], ⟨[.keep [1, 3, 4], .gc, .nilRow 3 800003 117 (.pair tI tI), .ren 3 700003, .ren 3 900003, .gc], [1, 3, 4], [.lf (qp 16), .lf (qr 900003), .lf (qm 0)], [(16, true, .cells [qi 0, qi 1, qi 2, qi 3, qi 4, qi 5]), (900003, true, .arr 117 (qm 1))]⟩, [⟨2, ⟨[.keep [3], .gc, .nilRow 3 800003 117 (.pair tI tI), .ren 3 700003, .ren 3 900003, .gc], [3], [.lf (qr 900003)], [(900003, true, .arr 117 (qm 0))]⟩, [.sl (.pair tI tI)]⟩], (fun i => zA_b58 i.2.1)⟩
def zA : ((List Bool) × (List Tk) × (List Th) × (List Lk) × (List Int) × Int) → RT Unit (List (Int × Int))
| (s_0, s_1, s_2, s_3, s_4, s_5) =>
 .rq 4 (.call (lo zA_b58 s_1 (0, [])) default fun v0 =>
 .rq 2 (.done v0))
def F_zA (x : (List Bool) × (List Tk) × (List Th) × (List Lk) × (List Int) × Int) : Option (List (Int × Int)) := (zA x).run fun _ => none
def io_zA : Io := ⟨n_zA, [.sl tB, .sl yK, .sl yH, .sl yL, .sl tI, tI], [.agg [qm 0, qm 1, qm 2, qm 3, qm 4, qm 5]], [], [[.sl tB, .sl yK, .sl yH, .sl yL, .sl tI, tI]], [.sl (.pair tI tI)], .lf (qr 0), [], [(true, .arr 117 (qm 0))], false⟩
def zA_P : List zaV := [zA_p58]
def zA_T : zbf := tab []
theorem zA_To : zbd pg zA_T := zaX trivial
theorem zA_k58 : (zA_p58).OK pg (zA_T) (zbu 34 (zA_P)) (zbh f_zA) 34 := ⟨by kernel_rfl, fun i x => by kernel_rfl⟩
theorem zA_go : zbt pg (zA_T) io_zA f_zA (zA_P) [.nilRow 2 800002 117 (.pair tI tI), .ren 2 700002, .ren 2 900002] (zA) := ⟨by kernel_rfl, by kernel_rfl, fun x => by kernel_rfl⟩
theorem ok_zA : io_zA.Okay pg (F_zA) := zbl zaZ (zA_To) (zA_go) ⟨zA_k58, trivial⟩
theorem zgr (b : List Tk) (hl : b.length ≤ 1000000) : ∀ (d i : Nat) (r : List (Int × Int)), i + d = b.length → r.length ≤ i →
  lo zA_b58 b ((i : Int), r) = some (r ++ zbM (b.drop i))
 | 0, i, r, h, _ => by
  rw [zbi, zA_b58]
  simp only [RT.run]
  rw [if_neg (by simp; omega), List.drop_eq_nil_of_le (by omega)]
  simp [zbM]
 | d + 1, i, r, h, hr => by
  have hi : i < b.length := by omega
  have hmax : maxLen = 9223372036854775807 := by decide
  rw [zbi, zA_b58]
  simp only [RT.run]
  rw [if_pos (by simp; omega), if_pos (zbc.2 ⟨by omega, by omega⟩), zbD hi, List.drop_eq_getElem_cons hi, zbg (by omega), show (i : Int) + 1 = ((i + 1 : Nat) : Int) by omega]
  unfold zbM
  rw [List.filter_cons]
  by_cases hv : (b[i].1 && b[i].2.2.2.1 == 2) = true
  ·rw [if_pos hv, if_pos (zds.2 ⟨by simp; omega, by simp; omega⟩), zgr b hl d (i + 1) _ (by omega) (by simp; omega), if_pos hv]
   simp [zbM]
  ·rw [if_neg hv, zgr b hl d (i + 1) _ (by omega) (by omega), if_neg hv]
   rfl
def e_zA : zbj := io_zA.sp (fun (a, b, c, d, e, f) => (decide (b.length ≤ 1000000))) (fun (a, b, c, d, e, f) => (zbM b))
theorem sp_zA (h : ∀ (a : List Bool) (b : List Tk) (c : List Th) (d : List Lk) (e : List Int) (f : Int), WfT [.sl tB, .sl yK, .sl yH, .sl yL, .sl tI, tI] (a, b, c, d, e, f) → ((decide (b.length ≤ 1000000))) = true → (zA (a, b, c, d, e, f)).run (fun _ => none) = some (zbM b)) : e_zA.ok pg := zbo ok_zA fun (a, b, c, d, e, f) hw hc => h a b c d e f hw hc
theorem e_zA_ok : e_zA.ok pg := sp_zA fun a b c d e f _ hc => by
 have hl := of_decide_eq_true hc
 rw [zA]
 simp only [RT.run]
 have := zgr b hl b.length 0 [] (by omega) (by simp)
 rw [show ((0 : Nat) : Int) = 0 from rfl] at this
 rw [this]
 rfl
def zh_b3730 : (Int × (List (Int × Int)) × Int × Int) → RT Unit (List (Int × Int))
| (i, r3, t_0, t_1) =>
 .rq 3 (.ite (t_0 == 4)
 (.rq 6 (let t0 := [(i, t_1)];
 .req (apOK 16 r3 t0) (.rq 1 (.done (r3 ++ t0)))))
 (.done r3))
def zh_p3730 : zaV := ⟨3730, false, [tI, .sl tB, .sl yK, .sl yH, .sl yL, .sl tI, tI, .sl (.pair tI tI), tI, tI, tI, tI, tI], [], ⟨[.keep [1, 3, 4, 5], .gc], [1, 3, 4, 5], [.lf (qp 16), .lf (qr 900003), .lf (qi 0), .lf (qp 80)], [(16, true, .cells [qi 1, qi 2, qi 3, qi 4, qi 5, qi 6]), (900003, true, .arr 117 (qi 7)), (80, true, .cells [qi 8, qi 9, qi 10, qi 11, qi 12])]⟩, [⟨0, ⟨[.keep [1, 3, 4, 5], .gc, .nilRow 3 800003 117 (.pair tI tI), .ren 3 700003, .ren 3 900003, .gc], [1, 3, 4, 5], [.lf (qp 16), .lf (qr 900003), .lf (qi 0), .lf (qp 80)], [(16, true, .cells [qi 1, qi 2, qi 3, qi 4, qi 5, qi 6]), (900003, true, .arr 117 (qm 0)), (80, true, .cells [qi 8, qi 9, qi 10, qi 11, qi 12])]⟩, [.sl (.pair tI tI)]⟩], (fun i _ => zh_b3730 (i.1, i.2.2.2.2.2.2.2.1, i.2.2.2.2.2.2.2.2.1, i.2.2.2.2.2.2.2.2.2.1))⟩
def zh_b58 : ((List Th) × (List Lk)) → (Int × (List (Int × Int))) → RT (Int × (List (Int × Int))) (List (Int × Int))
| (s_2, s_3), (i, r3) =>
 .rq 5 (.ite (decide (i < (s_2.length : Int)))
 (.rq 3 (.req (inB s_2 i) (.rq 3 (.call (on zh_b3730 (i, r3, (gI s_2 i).1, (gI s_2 i).2.1)) default fun v1 =>
 .rq 3 (let t0 := w64 (i + 1);
 .ite ((gI s_2 i).1 == 6)
 (.rq 6 (.req (inB s_3 (gI s_2 i).2.1) (.rq 4 (let t1 := [(i, (gI s_3 (gI s_2 i).2.1).2)];
 .req (apOK 16 v1 t1) (.rq 4 (.again (t0, v1 ++ t1)))))))
 (.rq 3 (.again (t0, v1))))))))
 (.done r3))
def zh_p58 : zaV := ⟨58, true, [.sl tB, .sl yK, .sl yH, .sl yL, .sl tI, tI], [tI, .sl (.pair tI tI)], ⟨[.keep [1, 3, 4], .gc, .nilRow 3 800003 117 (.pair tI tI), .ren 3 700003, .ren 3 900003, .gc], [1, 3, 4], [.lf (qp 16), .lf (qr 900003), .lf (qm 0)], [(16, true, .cells [qi 0, qi 1, qi 2, qi 3, qi 4, qi 5]), (900003, true, .arr 117 (qm 1))]⟩, [⟨2, ⟨[.keep [3], .gc, .nilRow 3 800003 117 (.pair tI tI), .ren 3 700003, .ren 3 900003, .gc], [3], [.lf (qr 900003)], [(900003, true, .arr 117 (qm 0))]⟩, [.sl (.pair tI tI)]⟩], (fun i => zh_b58 (i.2.2.1, i.2.2.2.1))⟩
def zh : ((List Bool) × (List Tk) × (List Th) × (List Lk) × (List Int) × Int) → RT Unit (List (Int × Int))
| (s_0, s_1, s_2, s_3, s_4, s_5) =>
 .rq 4 (.call (lo zh_b58 (s_2, s_3) (0, [])) default fun v2 =>
 .rq 2 (.done v2))
def F_zh (x : (List Bool) × (List Tk) × (List Th) × (List Lk) × (List Int) × Int) : Option (List (Int × Int)) := (zh x).run fun _ => none
def io_zh : Io := ⟨n_zh, [.sl tB, .sl yK, .sl yH, .sl yL, .sl tI, tI], [.agg [qm 0, qm 1, qm 2, qm 3, qm 4, qm 5]], [], [[.sl tB, .sl yK, .sl yH, .sl yL, .sl tI, tI]], [.sl (.pair tI tI)], .lf (qr 0), [], [(true, .arr 117 (qm 0))], false⟩
def zh_P : List zaV := [zh_p3730, zh_p58]
def zh_T : zbf := tab []
theorem zh_To : zbd pg zh_T := zaX trivial
theorem zh_k3730 : (zh_p3730).OK pg (zh_T) (zbu 44 (zh_P)) (zbh f_zh) 44 := ⟨by kernel_rfl, fun i x => by kernel_rfl⟩
theorem zh_k58 : (zh_p58).OK pg (zh_T) (zbu 44 (zh_P)) (zbh f_zh) 44 := ⟨by kernel_rfl, fun i x => by kernel_rfl⟩
theorem zh_go : zbt pg (zh_T) io_zh f_zh (zh_P) [.nilRow 2 800002 117 (.pair tI tI), .ren 2 700002, .ren 2 900002] (zh) := ⟨by kernel_rfl, by kernel_rfl, fun x => by kernel_rfl⟩
theorem ok_zh : io_zh.Okay pg (F_zh) := zbl zaZ (zh_To) (zh_go) ⟨zh_k3730, zh_k58, trivial⟩
def zdJ (d : List Lk) (i : Int) (t : Th) : List (Int × Int) := (if t.1 == 4 then [(i, t.2.1)] else []) ++ (if t.1 == 6 then [(i, (gI d t.2.1).2)] else [])
def zbI (c : List Th) (d : List Lk) : List (Int × Int) := (List.range c.length).flatMap fun (k : Nat) => zdJ d (k : Int) (c.getD k default)
def thrOK (c : List Th) (d : List Lk) : Bool := c.all fun t => !(t.1 == 6) || inB d t.2.1
theorem thrOne_len (d : List Lk) (i : Int) (t : Th) : (zdJ d i t).length ≤ 2 := by
 unfold zdJ
 split <;> split <;> simp
theorem thr_loop (c : List Th) (d : List Lk) (hl : c.length ≤ 1000000) (hok : thrOK c d = true) : ∀ (n i : Nat) (r : List (Int × Int)), i + n = c.length → r.length ≤ 2 * i →
  lo zh_b58 (c, d) ((i : Int), r) = some (r ++ (List.range' i n).flatMap fun (k : Nat) => zdJ d (k : Int) (c.getD k default))
 | 0, i, r, h, _ => by
  rw [zbi, zh_b58]
  simp only [RT.run]
  rw [if_neg (by simp; omega)]
  simp
 | n + 1, i, r, h, hr => by
  have hi : i < c.length := by omega
  have hmax : maxLen = 9223372036854775807 := by decide
  have hb : on zh_b3730 ((i : Int), r, c[i].1, c[i].2.1) = some (r ++ (if c[i].1 == 4 then [((i : Int), c[i].2.1)] else [])) := by
   show (zh_b3730 _).run _ = _
   rw [zh_b3730]
   simp only [RT.run]
   by_cases h4 : (c[i].1 == 4) = true
   ·rw [if_pos h4, if_pos h4, if_pos (zds.2 ⟨by simp; omega, by simp; omega⟩)]
   ·rw [if_neg h4, if_neg h4, List.append_nil]
  have hlen1 : (r ++ (if c[i].1 == 4 then [((i : Int), c[i].2.1)] else [])).length ≤ 2 * i + 1 := by
   rw [List.length_append]; split <;> simp <;> omega
  have hwt := List.all_eq_true.1 hok _ (List.getElem_mem hi)
  have hone : zdJ d (i : Int) (c.getD i default) = (if c[i].1 == 4 then [((i : Int), c[i].2.1)] else []) ++ (if c[i].1 == 6 then [((i : Int), (gI d c[i].2.1).2)] else []) := by
   rw [List.getD_eq_getElem?_getD, List.getElem?_eq_getElem hi]; rfl
  rw [zbi, zh_b58]
  simp only [RT.run]
  rw [if_pos (by simp; omega), if_pos (zbc.2 ⟨by omega, by omega⟩), zbD hi, hb, Option.bind_some, zbg (by omega), show (i : Int) + 1 = ((i + 1 : Nat) : Int) by omega, List.range'_succ, List.flatMap_cons, hone]
  by_cases h6 : (c[i].1 == 6) = true
  ·rw [if_pos h6, if_pos (by simpa [h6] using hwt), if_pos (zds.2 ⟨by simp only [List.length_singleton]; omega, by simp only [List.length_singleton]; omega⟩), if_pos h6,
    thr_loop c d hl hok n (i + 1) _ (by omega) (by rw [List.length_append, List.length_singleton]; omega)]
   simp
  ·rw [if_neg h6, if_neg h6, thr_loop c d hl hok n (i + 1) _ (by omega) (by omega)]
   simp
def e_zh : zbj := io_zh.sp (fun (a, b, c, d, e, f) => (decide (c.length ≤ 1000000) && thrOK c d)) (fun (a, b, c, d, e, f) => (zbI c d))
theorem sp_zh (h : ∀ (a : List Bool) (b : List Tk) (c : List Th) (d : List Lk) (e : List Int) (f : Int), WfT [.sl tB, .sl yK, .sl yH, .sl yL, .sl tI, tI] (a, b, c, d, e, f) → ((decide (c.length ≤ 1000000) && thrOK c d)) = true → (zh (a, b, c, d, e, f)).run (fun _ => none) = some (zbI c d)) : e_zh.ok pg := zbo ok_zh fun (a, b, c, d, e, f) hw hc => h a b c d e f hw hc
theorem e_zh_ok : e_zh.ok pg := sp_zh fun a b c d e f _ hc => by
 rw [Bool.and_eq_true] at hc
 have hl := of_decide_eq_true hc.1
 rw [zh]
 simp only [RT.run]
 have := thr_loop c d hl hc.2 c.length 0 [] (by omega) (by simp)
 rw [show ((0 : Nat) : Int) = 0 from rfl] at this
 rw [this, List.nil_append, ← List.range_eq_range']
 rfl
def zag_b58 : (Int × (List (Int × Int))) → Int → RT Int (LR Int Unit)
| (i, r5), k =>
 .rq 4 (.ite (decide (k < (r5.length : Int)))
 (.rq 2 (.req (inB r5 k) (.rq 4 (.ite ((gI r5 k).1 == i)
 (.rq 2 (.req (inB r5 k) (.rq 3 (.done (.ex (gI r5 k).2)))))
 (.rq 3 (.again (w64 (k + 1))))))))
 (.done (.rt ())))
def zag_p58 : zaV := ⟨58, true, [tI, .sl (.pair tI tI)], [tI], ⟨[.keep [1, 5, 6], .gc, .nilRow 5 800005 117 (.pair tI tI), .ren 5 700005, .ren 5 900005, .gc], [1, 5, 6], [.lf (qi 0), .lf (qr 900005), .lf (qm 0)], [(900005, true, .arr 117 (qi 1))]⟩, [⟨1, ⟨[.keep [4], .gc], [4], [.lf (qm 0)], []⟩, [tI]⟩, ⟨2, ⟨[.keep [], .gc], [], [], []⟩, []⟩], zag_b58⟩
def zag : ((List Bool) × (List Tk) × (List Th) × (List Lk) × (List Int) × Int × Int) → RT Unit Int
| (s_0, s_1, s_2, s_3, s_4, s_5, i) =>
 .rq 3 (.req ((decide (s_2.length ≤ 1000000) && thrOK s_2 s_3)) (.rq 2 (.call (lo zag_b58 (i, (zbI s_2 s_3)) 0) default fun v0 =>
 .ite v0.isRt
 (.rq 1 (.done (-1)))
 (.done v0.getX))))
def F_zag (x : (List Bool) × (List Tk) × (List Th) × (List Lk) × (List Int) × Int × Int) : Option Int := (zag x).run fun _ => none
def io_zag : Io := ⟨n_zag, [.sl tB, .sl yK, .sl yH, .sl yL, .sl tI, tI, tI], [.agg [qm 0, qm 1, qm 2, qm 3, qm 4, qm 5], .lf (qm 6)], [], [[.sl tB, .sl yK, .sl yH, .sl yL, .sl tI, tI], [tI]], [tI], .lf (qm 0), [], [], false⟩
def zag_P : List zaV := [zag_p58]
def zag_T : zbf := tab [e_zh]
theorem zag_To : zbd pg zag_T := zaX ⟨e_zh_ok, trivial⟩
theorem zag_k58 : (zag_p58).OK pg (zag_T) (zbu 27 (zag_P)) (zbh f_zag) 27 := ⟨by kernel_rfl, fun i x => by kernel_rfl⟩
theorem zag_go : zbt pg (zag_T) io_zag f_zag (zag_P) [] (zag) := ⟨by kernel_rfl, by kernel_rfl, fun x => by kernel_rfl⟩
theorem ok_zag : io_zag.Okay pg (F_zag) := zbl zaZ (zag_To) (zag_go) ⟨zag_k58, trivial⟩
def nextR (l : List (Int × Int)) (i : Int) : Int := match l.find? (fun a => a.1 == i) with
 | some a => a.2
 | none => -1
theorem nextR_loop (l : List (Int × Int)) (v : Int) (hl : l.length ≤ 4000000) : ∀ d i : Nat, i + d = l.length →
  lo zag_b58 (v, l) (i : Int) = some (match (l.drop i).find? (fun a => a.1 == v) with | some a => .ex a.2 | none => .rt ())
 | 0, i, h => by
  rw [zbi, zag_b58]
  simp only [RT.run]
  rw [if_neg (by simp; omega), List.drop_eq_nil_of_le (by omega)]
  rfl
 | d + 1, i, h => by
  have hi : i < l.length := by omega
  have hin : inB l (i : Int) = true := zbc.2 ⟨by omega, by omega⟩
  rw [zbi, zag_b58]
  simp only [RT.run]
  rw [if_pos (by simp; omega), if_pos hin, List.drop_eq_getElem_cons hi, List.find?_cons, zbD hi]
  by_cases hv : (l[i].1 == v) = true
  ·rw [if_pos hv, if_pos hin, hv]
  ·have hv' : (l[i].1 == v) = false := by simpa using hv
   rw [if_neg hv, hv', zbg (by omega), show (i : Int) + 1 = ((i + 1 : Nat) : Int) by omega, nextR_loop l v hl d (i + 1) (by omega)]
theorem thrArr_len (c : List Th) (d : List Lk) : (zbI c d).length ≤ 2 * c.length := by
 unfold zbI
 have : ∀ (l : List Nat), (l.flatMap fun (k : Nat) => zdJ d (k : Int) (c.getD k default)).length ≤ 2 * l.length := by
  intro l
  induction l with
  | nil => simp
  | cons x l ih =>
   have := thrOne_len d (x : Int) (c.getD x default)
   rw [List.flatMap_cons, List.length_append, List.length_cons]
   omega
 have := this (List.range c.length)
 rwa [List.length_range] at this
def e_zag : zbj := io_zag.sp (fun (a, b, c, d, e, f, i) => (decide (c.length ≤ 1000000) && thrOK c d)) (fun (a, b, c, d, e, f, i) => (nextR (zbI c d) i))
theorem sp_zag (h : ∀ (a : List Bool) (b : List Tk) (c : List Th) (d : List Lk) (e : List Int) (f : Int) (i : Int), WfT [.sl tB, .sl yK, .sl yH, .sl yL, .sl tI, tI, tI] (a, b, c, d, e, f, i) → ((decide (c.length ≤ 1000000) && thrOK c d)) = true → (zag (a, b, c, d, e, f, i)).run (fun _ => none) = some (nextR (zbI c d) i)) : e_zag.ok pg := zbo ok_zag fun (a, b, c, d, e, f, i) hw hc => h a b c d e f i hw hc
theorem e_zag_ok : e_zag.ok pg := sp_zag fun a b c d e f i _ hc => by
 have hc' := hc
 rw [Bool.and_eq_true] at hc'
 have hl := of_decide_eq_true hc'.1
 have hlen := thrArr_len c d
 rw [zag]
 simp only [RT.run]
 have := nextR_loop (zbI c d) i (by omega) (zbI c d).length 0 (by omega)
 rw [show ((0 : Nat) : Int) = 0 from rfl, List.drop_zero] at this
 rw [if_pos hc, this]
 unfold nextR
 cases (zbI c d).find? (fun a => a.1 == i) with
 | none => rfl
 | some a => rfl
def io_zaj : Io := ⟨n_zaj, [.sl tB, .sl yK, .sl yH, .sl yL, .sl tI, tI, tI], [.agg [qm 0, qm 1, qm 2, qm 3, qm 4, qm 5], .lf (qm 6)], [], [[.sl tB, .sl yK, .sl yH, .sl yL, .sl tI, tI], [tI]], [.sl tI], .lf (qm 0), [], [], true⟩
def zaj (self : ((List Bool) × (List Tk) × (List Th) × (List Lk) × (List Int) × Int × Int) → Option (List Int)) : ((List Bool) × (List Tk) × (List Th) × (List Lk) × (List Int) × Int × Int) → RT Unit (List Int)
| (s_0, s_1, s_2, s_3, s_4, s_5, i) =>
 .rq 6 (.ite (!((inB s_2 i && (gI s_2 i).1 != 0)))
 (.rq 1 (.done []))
 (.rq 2 (.req ((decide (s_2.length ≤ 1000000) && thrOK s_2 s_3)) (.rq 3 (let t0 := (nextR (zbI s_2 s_3) i);
 .ite (decide (t0 < 0))
 (.rq 3 (.done [i]))
 (.rq 4 (.call (self (s_0, s_1, s_2, s_3, s_4, s_5, t0)) default fun v0 =>
 .req (apOK 8 [i] v0) (.rq 1 (.done ([i] ++ v0))))))))))
def F_zaj (self : ((List Bool) × (List Tk) × (List Th) × (List Lk) × (List Int) × Int × Int) → Option (List Int)) (x : (List Bool) × (List Tk) × (List Th) × (List Lk) × (List Int) × Int × Int) : Option (List Int) := (zaj self x).run fun _ => none
def zaj_P (self : ((List Bool) × (List Tk) × (List Th) × (List Lk) × (List Int) × Int × Int) → Option (List Int)) : List zaV := []
def zaj_T (self : ((List Bool) × (List Tk) × (List Th) × (List Lk) × (List Int) × Int × Int) → Option (List Int)) : zbf := tab [io_zaj.en self, e_zag, e_zac]
theorem zaj_To (self : ((List Bool) × (List Tk) × (List Th) × (List Lk) × (List Int) × Int × Int) → Option (List Int)) (hs : io_zaj.Okay pg self) : zbd pg (zaj_T self) := zaX ⟨en_ok hs, e_zag_ok, e_zac_ok, trivial⟩
theorem zaj_go (self : ((List Bool) × (List Tk) × (List Th) × (List Lk) × (List Int) × Int × Int) → Option (List Int)) : zbt pg (zaj_T self) io_zaj f_zaj (zaj_P self) [.toDat 4, .den 4 [.sl tI]] (zaj self) := ⟨by kernel_rfl, by kernel_rfl, fun x => by kernel_rfl⟩
theorem ok_zaj (self : ((List Bool) × (List Tk) × (List Th) × (List Lk) × (List Int) × Int × Int) → Option (List Int)) (hs : io_zaj.Okay pg self) : io_zaj.Okay pg (F_zaj self) := zbl zaZ (zaj_To self hs) (zaj_go self) trivial
def R_zaj : Nat → ((List Bool) × (List Tk) × (List Th) × (List Lk) × (List Int) × Int × Int) → Option (List Int)
 | 0 => fun _ => none
 | n + 1 => F_zaj (R_zaj n)
theorem okR_zaj : ∀ n, io_zaj.Okay pg (R_zaj n)
 | 0 => ⟨⟨f_zaj, by kernel_rfl, by kernel_rfl, by kernel_rfl⟩, fun _ _ h => by cases h⟩
 | n + 1 => ok_zaj _ (okR_zaj n)
def tailR (c : List Th) (d : List Lk) : Nat → Int → Option (List Int)
 | 0, _ => none
 | n + 1, i => if (!(inB c i && (gI c i).1 != 0)) = true then some [] else if nextR (zbI c d) i < 0 then some [i] else (tailR c d n (nextR (zbI c d) i)).map (i :: ·)
theorem tailR_len {c : List Th} {d : List Lk} : ∀ {n : Nat} {i : Int} {o : List Int}, tailR c d n i = some o → o.length ≤ n
 | 0, i, o, h => by cases h
 | n + 1, i, o, h => by
  unfold tailR at h
  split at h
  ·cases h; simp
  ·split at h
   ·cases h; simp
   ·obtain ⟨o', h1, rfl⟩ := Option.map_eq_some_iff.1 h
    have := tailR_len h1
    simp; omega
theorem tailR_run (a : List Bool) (b : List Tk) (c : List Th) (d : List Lk) (e : List Int) (f : Int) (hc : (decide (c.length ≤ 1000000) && thrOK c d) = true) : ∀ (n : Nat) (i : Int) (o : List Int), n ≤ 1000001 → tailR c d n i = some o → R_zaj n (a, b, c, d, e, f, i) = some o
 | 0, i, o, _, h => by cases h
 | n + 1, i, o, hn, h => by
  have hmax : maxLen = 9223372036854775807 := by decide
  show (zaj (R_zaj n) (a, b, c, d, e, f, i)).run _ = _
  rw [zaj]
  simp only [RT.run]
  unfold tailR at h
  split at h
  ·rename_i h1
   cases h
   rw [if_pos h1]
  ·rename_i h1
   rw [if_neg h1, if_pos hc]
   split at h
   ·rename_i h2
    cases h
    rw [if_pos (decide_eq_true h2)]
   ·rename_i h2
    obtain ⟨o', h3, rfl⟩ := Option.map_eq_some_iff.1 h
    have hlen := tailR_len h3
    rw [if_neg (by simpa using h2), tailR_run a b c d e f hc n _ o' (by omega) h3, Option.bind_some, if_pos (zds.2 ⟨by simp only [List.length_singleton]; omega, by simp only [List.length_singleton]; omega⟩)]
    rfl
def zdY (c : List Th) (d : List Lk) (i : Int) : Bool := (decide (c.length ≤ 1000000) && thrOK c d) && (tailR c d (c.length + 1) i).isSome
def zdm (c : List Th) (d : List Lk) (i : Int) : List Int := (tailR c d (c.length + 1) i).getD []
def e_zaj : zbj := io_zaj.sp (fun (a, b, c, d, e, f, i) => (zdY c d i)) (fun (a, b, c, d, e, f, i) => (zdm c d i))
theorem sp_zaj (h : ∀ (a : List Bool) (b : List Tk) (c : List Th) (d : List Lk) (e : List Int) (f : Int) (i : Int), WfT [.sl tB, .sl yK, .sl yH, .sl yL, .sl tI, tI, tI] (a, b, c, d, e, f, i) → ((zdY c d i)) = true → ∃ n, R_zaj n (a, b, c, d, e, f, i) = some (zdm c d i)) : e_zaj.ok pg := sp_rec okR_zaj fun (a, b, c, d, e, f, i) hw hc => h a b c d e f i hw hc
theorem e_zaj_ok : e_zaj.ok pg := sp_zaj fun a b c d e f i _ hc => by
 unfold zdY at hc
 rw [Bool.and_eq_true] at hc
 obtain ⟨o, ho⟩ := Option.isSome_iff_exists.1 hc.2
 have h1 := hc.1
 rw [Bool.and_eq_true] at h1
 have hl := of_decide_eq_true h1.1
 refine ⟨c.length + 1, ?_⟩
 rw [tailR_run a b c d e f hc.1 _ i o (by omega) ho, zdm, ho]
 rfl
def zaS : ((List Bool) × (List Tk) × (List Th) × (List Lk) × (List Int) × Int × Int) → RT Unit Int
| (s_0, s_1, s_2, s_3, s_4, s_5, i) =>
 .rq 4 (.req ((zdY s_2 s_3 i)) (.rq 4 (let t0 := (zdm s_2 s_3 i);
 let t1 := (t0.length : Int);
 .ite (t1 == 0)
 (.rq 1 (.done (-1)))
 (.rq 4 (let t2 := w64 (t1 - 1);
 .req (inB t0 t2) (.rq 2 (.done (gI t0 t2))))))))
def F_zaS (x : (List Bool) × (List Tk) × (List Th) × (List Lk) × (List Int) × Int × Int) : Option Int := (zaS x).run fun _ => none
def io_zaS : Io := ⟨n_zaS, [.sl tB, .sl yK, .sl yH, .sl yL, .sl tI, tI, tI], [.agg [qm 0, qm 1, qm 2, qm 3, qm 4, qm 5], .lf (qm 6)], [], [[.sl tB, .sl yK, .sl yH, .sl yL, .sl tI, tI], [tI]], [tI], .lf (qm 0), [], [], false⟩
def zaS_P : List zaV := []
def zaS_T : zbf := tab [e_zaj]
theorem zaS_To : zbd pg zaS_T := zaX ⟨e_zaj_ok, trivial⟩
theorem zaS_go : zbt pg (zaS_T) io_zaS f_zaS (zaS_P) [] (zaS) := ⟨by kernel_rfl, by kernel_rfl, fun x => by kernel_rfl⟩
theorem ok_zaS : io_zaS.Okay pg (F_zaS) := zbl zaZ (zaS_To) (zaS_go) trivial
def e_zaS : zbj := io_zaS.sp (fun (a, b, c, d, e, f, i) => (zdY c d i)) (fun (a, b, c, d, e, f, i) => ((zdm c d i).getLastD (-1)))
theorem sp_zaS (h : ∀ (a : List Bool) (b : List Tk) (c : List Th) (d : List Lk) (e : List Int) (f : Int) (i : Int), WfT [.sl tB, .sl yK, .sl yH, .sl yL, .sl tI, tI, tI] (a, b, c, d, e, f, i) → ((zdY c d i)) = true → (zaS (a, b, c, d, e, f, i)).run (fun _ => none) = some ((zdm c d i).getLastD (-1))) : e_zaS.ok pg := zbo ok_zaS fun (a, b, c, d, e, f, i) hw hc => h a b c d e f i hw hc
theorem e_zaS_ok : e_zaS.ok pg := sp_zaS fun a b c d e f i _ hc => by
 have hc' := hc
 unfold zdY at hc'
 simp only [Bool.and_eq_true, decide_eq_true_eq] at hc'
 have hl := hc'.1.1
 have hlen : (zdm c d i).length ≤ c.length + 1 := by
  unfold zdm
  cases h : tailR c d (c.length + 1) i with
  | none => simp
  | some o => exact tailR_len h
 rw [zaS]
 simp only [RT.run]
 rw [if_pos hc]
 generalize zdm c d i = t at *
 by_cases ht : t = []
 ·subst ht; rfl
 ·have hpos : 0 < t.length := List.length_pos_iff.2 ht
  rw [if_neg (by simp; omega), zbg (by omega), show (t.length : Int) - 1 = ((t.length - 1 : Nat) : Int) by omega, if_pos (zbc.2 ⟨by omega, by omega⟩), zbD (by omega), List.getLastD_eq_getLast?, List.getLast?_eq_getElem?, List.getElem?_eq_getElem (by omega)]
  rfl
def zaG : ((List Bool) × (List Tk) × (List Th) × (List Lk) × (List Int) × Int × Int) → RT Unit Bool
| (s_0, s_1, s_2, s_3, s_4, s_5, i) =>
 .rq 4 (.req ((zdY s_2 s_3 i)) (.rq 7 (let t0 := ((zdm s_2 s_3 i).getLastD (-1));
 let t1 := inB s_2 t0;
 let t2 := decide (0 ≤ t0);
 .req (t1 || (!t2)) (.rq 7 (let t3 := (gI s_2 t0).1 == 2;
 .req (t1 || (!((!t3) && t2))) (.rq 6 (.done (t2 && (t3 || ((gI s_2 t0).1 == 3))))))))))
def F_zaG (x : (List Bool) × (List Tk) × (List Th) × (List Lk) × (List Int) × Int × Int) : Option Bool := (zaG x).run fun _ => none
def io_zaG : Io := ⟨n_zaG, [.sl tB, .sl yK, .sl yH, .sl yL, .sl tI, tI, tI], [.agg [qm 0, qm 1, qm 2, qm 3, qm 4, qm 5], .lf (qm 6)], [], [[.sl tB, .sl yK, .sl yH, .sl yL, .sl tI, tI], [tI]], [tB], .lf (qm 0), [], [], false⟩
def zaG_P : List zaV := []
def zaG_T : zbf := tab [e_zaS]
theorem zaG_To : zbd pg zaG_T := zaX ⟨e_zaS_ok, trivial⟩
theorem zaG_go : zbt pg (zaG_T) io_zaG f_zaG (zaG_P) [] (zaG) := ⟨by kernel_rfl, by kernel_rfl, fun x => by kernel_rfl⟩
theorem ok_zaG : io_zaG.Okay pg (F_zaG) := zbl zaZ (zaG_To) (zaG_go) trivial
def endRV (c : List Th) (d : List Lk) (i : Int) : Int := (zdm c d i).getLastD (-1)
def livesR (c : List Th) (d : List Lk) (i : Int) : Bool := decide (0 ≤ endRV c d i) && ((gI c (endRV c d i)).1 == 2 || (gI c (endRV c d i)).1 == 3)
def zfX (c : List Th) (d : List Lk) (i : Int) : Bool := zdY c d i && (inB c (endRV c d i) || !(decide (0 ≤ endRV c d i)))
def e_zaG : zbj := io_zaG.sp (fun (a, b, c, d, e, f, i) => (zfX c d i)) (fun (a, b, c, d, e, f, i) => (livesR c d i))
theorem sp_zaG (h : ∀ (a : List Bool) (b : List Tk) (c : List Th) (d : List Lk) (e : List Int) (f : Int) (i : Int), WfT [.sl tB, .sl yK, .sl yH, .sl yL, .sl tI, tI, tI] (a, b, c, d, e, f, i) → ((zfX c d i)) = true → (zaG (a, b, c, d, e, f, i)).run (fun _ => none) = some (livesR c d i)) : e_zaG.ok pg := zbo ok_zaG fun (a, b, c, d, e, f, i) hw hc => h a b c d e f i hw hc
theorem e_zaG_ok : e_zaG.ok pg := sp_zaG fun a b c d e f i _ hc => by
 unfold zfX at hc
 rw [Bool.and_eq_true] at hc
 rw [zaG]
 simp only [RT.run]
 have h2 : (inB c ((zdm c d i).getLastD (-1)) || !(decide (0 ≤ (zdm c d i).getLastD (-1)))) = true := hc.2
 rw [if_pos hc.1, if_pos h2, if_pos]
 ·rfl
 ·cases hin : inB c ((zdm c d i).getLastD (-1)) with
  | true => simp
  | false =>
   rw [hin] at h2
   have : decide (0 ≤ (zdm c d i).getLastD (-1)) = false := by simpa using h2
   rw [this]; simp
def io_zB : Io := ⟨n_zB, [.sl tB, .sl yK, .sl yH, .sl yL, .sl tI, tI, tI], [.agg [qm 0, qm 1, qm 2, qm 3, qm 4, qm 5], .lf (qm 6)], [], [[.sl tB, .sl yK, .sl yH, .sl yL, .sl tI, tI], [tI]], [tI], .lf (qm 0), [], [], false⟩
def zaE (self : ((List Bool) × (List Tk) × (List Th) × (List Lk) × (List Int) × Int × Int) → Option Int) : ((List Bool) × (List Tk) × (List Th) × (List Lk) × (List Int) × Int × Int) → RT Unit Bool
| (s_0, s_1, s_2, s_3, s_4, s_5, k) =>
 .rq 5 (.req (inB s_1 k) (.rq 11 (.ite ((!(gI s_1 k).1) || (!(gI s_1 k).2.2.2.2.2))
 (.rq 1 (.done false))
 (.rq 3 (.ite ((gI s_1 k).2.2.2.1 == 1)
 (.rq 3 (.req ((zfX s_2 s_3 (gI s_1 k).2.2.2.2.1)) (.rq 1 (.done ((livesR s_2 s_3 (gI s_1 k).2.2.2.2.1))))))
 (.rq 7 (let t0 := (gI s_1 k).2.2.2.1 == 2;
 let t1 := self (s_0, s_1, s_2, s_3, s_4, s_5, (gI s_1 k).2.2.2.2.1);
 .req (t1.isSome || (!t0)) (.rq 3 (.done (t0 && (decide (0 < (Option.getD t1 default)))))))))))))
def F_zaE (self : ((List Bool) × (List Tk) × (List Th) × (List Lk) × (List Int) × Int × Int) → Option Int) (x : (List Bool) × (List Tk) × (List Th) × (List Lk) × (List Int) × Int × Int) : Option Bool := (zaE self x).run fun _ => none
def io_zaE : Io := ⟨n_zaE, [.sl tB, .sl yK, .sl yH, .sl yL, .sl tI, tI, tI], [.agg [qm 0, qm 1, qm 2, qm 3, qm 4, qm 5], .lf (qm 6)], [], [[.sl tB, .sl yK, .sl yH, .sl yL, .sl tI, tI], [tI]], [tB], .lf (qm 0), [], [], false⟩
def zaE_P (self : ((List Bool) × (List Tk) × (List Th) × (List Lk) × (List Int) × Int × Int) → Option Int) : List zaV := []
def zaE_T (self : ((List Bool) × (List Tk) × (List Th) × (List Lk) × (List Int) × Int × Int) → Option Int) : zbf := tab [io_zB.en self, e_zaG]
theorem zaE_To (self : ((List Bool) × (List Tk) × (List Th) × (List Lk) × (List Int) × Int × Int) → Option Int) (hs : io_zB.Okay pg self) : zbd pg (zaE_T self) := zaX ⟨en_ok hs, e_zaG_ok, trivial⟩
theorem zaE_go (self : ((List Bool) × (List Tk) × (List Th) × (List Lk) × (List Int) × Int × Int) → Option Int) : zbt pg (zaE_T self) io_zaE f_zaE (zaE_P self) [] (zaE self) := ⟨by kernel_rfl, by kernel_rfl, fun x => by kernel_rfl⟩
theorem ok_zaE (self : ((List Bool) × (List Tk) × (List Th) × (List Lk) × (List Int) × Int × Int) → Option Int) (hs : io_zB.Okay pg self) : io_zaE.Okay pg (F_zaE self) := zbl zaZ (zaE_To self hs) (zaE_go self) trivial
def zB_b58 (self : ((List Bool) × (List Tk) × (List Th) × (List Lk) × (List Int) × Int × Int) → Option Bool) : (Int × (List Bool) × (List Tk) × (List Th) × (List Lk) × (List Int) × Int) → (Int × Int) → RT (Int × Int) Int
| (c, s_0, s_1, s_2, s_3, s_4, s_5), (n, k) =>
 .rq 5 (.ite (decide (k < (s_1.length : Int)))
 (.rq 3 (.req (inB s_1 k) (.rq 7 (let t0 := (gI s_1 k).2.1 == c;
 let t1 := self (s_0, s_1, s_2, s_3, s_4, s_5, k);
 .req (t1.isSome || (!t0)) (.rq 1 (let t2 := w64 (k + 1);
 .ite (t0 && (Option.getD t1 default))
 (.rq 4 (.req (inB s_1 k) (.rq 7 (.again (w64 (n + (gI s_1 k).2.2.1), t2)))))
 (.rq 3 (.again (n, t2)))))))))
 (.done n))
def zB_p58 (self : ((List Bool) × (List Tk) × (List Th) × (List Lk) × (List Int) × Int × Int) → Option Bool) : zaV := ⟨58, true, [tI, .sl tB, .sl yK, .sl yH, .sl yL, .sl tI, tI], [tI, tI], ⟨[.keep [1, 2, 5, 6], .gc], [1, 2, 5, 6], [.lf (qi 0), .lf (qp 32), .lf (qm 0), .lf (qm 1)], [(32, true, .cells [qi 1, qi 2, qi 3, qi 4, qi 5, qi 6])]⟩, [⟨2, ⟨[.keep [5], .gc], [5], [.lf (qm 0)], []⟩, [tI]⟩], (zB_b58 self)⟩
def zB (self : ((List Bool) × (List Tk) × (List Th) × (List Lk) × (List Int) × Int × Int) → Option Bool) : ((List Bool) × (List Tk) × (List Th) × (List Lk) × (List Int) × Int × Int) → RT Unit Int
| (s_0, s_1, s_2, s_3, s_4, s_5, c) =>
 .rq 4 (.call (lo (zB_b58 self) (c, s_0, s_1, s_2, s_3, s_4, s_5) (0, 0)) default fun v0 =>
 .rq 2 (.done v0))
def F_zB (self : ((List Bool) × (List Tk) × (List Th) × (List Lk) × (List Int) × Int × Int) → Option Bool) (x : (List Bool) × (List Tk) × (List Th) × (List Lk) × (List Int) × Int × Int) : Option Int := (zB self x).run fun _ => none
def zB_P (self : ((List Bool) × (List Tk) × (List Th) × (List Lk) × (List Int) × Int × Int) → Option Bool) : List zaV := [zB_p58 self]
def zB_T (self : ((List Bool) × (List Tk) × (List Th) × (List Lk) × (List Int) × Int × Int) → Option Bool) : zbf := tab [io_zaE.en self]
theorem zB_To (self : ((List Bool) × (List Tk) × (List Th) × (List Lk) × (List Int) × Int × Int) → Option Bool) (hs : io_zaE.Okay pg self) : zbd pg (zB_T self) := zaX ⟨en_ok hs, trivial⟩
theorem zB_k58 (self : ((List Bool) × (List Tk) × (List Th) × (List Lk) × (List Int) × Int × Int) → Option Bool) : (zB_p58 self).OK pg (zB_T self) (zbu 36 (zB_P self)) (zbh f_zB) 36 := ⟨by kernel_rfl, fun i x => by kernel_rfl⟩
theorem zB_go (self : ((List Bool) × (List Tk) × (List Th) × (List Lk) × (List Int) × Int × Int) → Option Bool) : zbt pg (zB_T self) io_zB f_zB (zB_P self) [] (zB self) := ⟨by kernel_rfl, by kernel_rfl, fun x => by kernel_rfl⟩
theorem ok_zB (self : ((List Bool) × (List Tk) × (List Th) × (List Lk) × (List Int) × Int × Int) → Option Bool) (hs : io_zaE.Okay pg self) : io_zB.Okay pg (F_zB self) := zbl zaZ (zB_To self hs) (zB_go self) ⟨zB_k58 self, trivial⟩
def R_zB : Nat → ((List Bool) × (List Tk) × (List Th) × (List Lk) × (List Int) × Int × Int) → Option Int
 | 0 => fun _ => none
 | n + 1 => F_zB (F_zaE (R_zB n))
theorem okR_zB : ∀ n, io_zB.Okay pg (R_zB n)
 | 0 => ⟨⟨f_zB, by kernel_rfl, by kernel_rfl, by kernel_rfl⟩, fun _ _ h => by cases h⟩
 | n + 1 => ok_zB _ (ok_zaE _ (okR_zB n))
end
end Go.Proofs.Ytlfdidaeachpoaa
namespace Go.Proofs.Ytlfdidaeachpoaa
theorem nodup_lt : ∀ (m : Nat) (l : List Nat), l.Nodup → (∀ x ∈ l, x < m) → l.length ≤ m
 | 0, l, _, h => by
  cases l with
  | nil => simp
  | cons x l => exact absurd (h x (List.mem_cons_self ..)) (Nat.not_lt_zero x)
 | m + 1, l, hn, h => by
  have h1 := nodup_lt m (l.erase m) (hn.erase m) fun x hx => by
   have := hn.mem_erase_iff.1 hx
   have := h x this.2
   omega
  rw [List.length_erase] at h1
  split at h1 <;> omega
def Arr (m : Nat) (l : List (Int × Int)) (i j : Nat) : Prop := ∃ a ∈ l, zbK m a = true ∧ a.1 = (i : Int) ∧ a.2 = (j : Int)
inductive Way (m : Nat) (l : List (Int × Int)) : Nat → Nat → Prop
 | one {i j : Nat} (h : Arr m l i j) : Way m l i j
 | more {i j k : Nat} (h : Arr m l i j) (h' : Way m l j k) : Way m l i k
theorem Way.trans {m : Nat} {l : List (Int × Int)} {i j k : Nat} (h : Way m l i j) (h' : Way m l j k) : Way m l i k := by
 induction h with
 | one h => exact .more h h'
 | more h _ ih => exact .more h (ih h')
theorem nxt_none {m : Nat} {l : List (Int × Int)} {out : List Int} (h : nxt m l out = none) {k : Nat} (hk : k < m) (ho : (k : Int) ∉ out) : ∃ j, j < m ∧ (j : Int) ∉ out ∧ Arr m l j k := by
 have h1 := List.findIdx?_eq_none_iff.1 h k (List.mem_range.2 hk)
 have hc : out.contains (k : Int) = false := by
  cases hc : out.contains (k : Int) with
  | false => rfl
  | true => exact absurd (List.contains_iff_mem.1 hc) ho
 rw [hc] at h1
 have h2 : zdW m l out (k : Int) ≠ 0 := by simpa using h1
 have h3 : 0 < (l.filter fun a => zbK m a && a.2 == (k : Int) && !(out.contains a.1)).length := Nat.pos_of_ne_zero h2
 obtain ⟨a, ha⟩ := List.exists_mem_of_length_pos h3
 obtain ⟨h4, h5⟩ := List.mem_filter.1 ha
 simp only [Bool.and_eq_true, beq_iff_eq, Bool.not_eq_true'] at h5
 obtain ⟨⟨hok, h6⟩, h7⟩ := h5
 have hv := hok
 simp only [zbK, Bool.and_eq_true, decide_eq_true_eq] at hv
 refine ⟨a.1.toNat, by omega, ?_, a, h4, hok, by omega, h6⟩
 rw [show ((a.1.toNat : Nat) : Int) = a.1 by omega]
 intro hm
 rw [List.contains_iff_mem.2 hm] at h7
 cases h7
theorem walk_back {m : Nat} {l : List (Int × Int)} {out : List Int} (h : nxt m l out = none) (hr : ∀ i, ¬ Way m l i i) {k : Nat} (hk : k < m) (ho : (k : Int) ∉ out) : ∀ n, ∃ (j : Nat) (p : List Nat), p.length = n ∧ (j :: p).Nodup ∧ (∀ x ∈ j :: p, x < m) ∧ (j : Int) ∉ out ∧ ∀ x ∈ p, Way m l j x
 | 0 => ⟨k, [], rfl, by simp, by simpa using hk, ho, by simp⟩
 | n + 1 => by
  obtain ⟨j, p, h1, h2, h3, h4, h5⟩ := walk_back h hr hk ho n
  obtain ⟨i, h6, h7, h8⟩ := nxt_none h (h3 j (List.mem_cons_self ..)) h4
  have hway : ∀ x ∈ j :: p, Way m l i x := fun x hx => by
   rcases List.mem_cons.1 hx with rfl | hx
   ·exact .one h8
   ·exact .more h8 (h5 x hx)
  refine ⟨i, j :: p, by simp [h1], ?_, ?_, h7, hway⟩
  ·rw [List.nodup_cons]
   exact ⟨fun hm => hr i (hway i hm), h2⟩
  ·intro x hx
   rcases List.mem_cons.1 hx with rfl | hx
   ·exact h6
   ·exact h3 x hx
theorem not_out {m : Nat} {l : List (Int × Int)} {out : List Int} (H : zej m l out) (h : out.length < m) : ∃ k : Nat, k < m ∧ (k : Int) ∉ out := by
 refine Classical.byContradiction fun hno => ?_
 have hall : ∀ k : Nat, k < m → (k : Int) ∈ out := fun k hk => Classical.byContradiction fun hn => hno ⟨k, hk, hn⟩
 have : ∀ (n : Nat) (o : List Int), (∀ k : Nat, k < n → (k : Int) ∈ o) → n ≤ o.length := by
  intro n
  induction n with
  | zero => intro o _; omega
  | succ n ih =>
   intro o ho
   have h1 := ho n (by omega)
   have h2 := ih (o.erase (n : Int)) fun k hk => (List.mem_erase_of_ne (by omega)).2 (ho k (by omega))
   rw [List.length_erase_of_mem h1] at h2
   have := List.length_pos_of_mem h1
   omega
 have := this m out hall
 omega
theorem kahn_some {m : Nat} {l : List (Int × Int)} (hr : ∀ i, ¬ Way m l i i) : ∀ (n : Nat) (out : List Int), zej m l out → out.length + n = m → ∃ o, kahn m l n out = some o
 | 0, out, _, _ => ⟨out, rfl⟩
 | n + 1, out, H, h => by
  unfold kahn
  cases hn : nxt m l out with
  | some k => exact kahn_some hr n _ (H.step hn) (by simp; omega)
  | none =>
   exfalso
   obtain ⟨k, hk, ho⟩ := not_out H (by omega)
   obtain ⟨j, p, h1, h2, h3, _⟩ := walk_back hn hr hk ho m
   have := nodup_lt m (j :: p) h2 h3
   rw [List.length_cons] at this
   omega
theorem ordV_ok {m : Nat} {l : List (Int × Int)} (hr : ∀ i, ¬ Way m l i i) : (zcj m l).1 = true ∧ (zcj m l).2.length = m := by
 obtain ⟨o, ho⟩ := kahn_some hr m [] (zej.nil m l) (by simp)
 unfold zcj
 rw [ho]
 refine ⟨rfl, ?_⟩
 have := zgb ho
 simpa using this
theorem kahn_prefix {m : Nat} {l : List (Int × Int)} : ∀ {n : Nat} {out o : List Int}, kahn m l n out = some o → ∃ r, o = out ++ r
 | 0, out, o, h => by cases h; exact ⟨[], by simp⟩
 | n + 1, out, o, h => by
  unfold kahn at h
  split at h
  ·cases h
  ·obtain ⟨r, hr⟩ := kahn_prefix h
   exact ⟨_, by rw [hr, List.append_assoc]⟩
theorem nxt_from {m : Nat} {l : List (Int × Int)} {out : List Int} {k : Nat} (h : nxt m l out = some k) {a : Int × Int} (ha : a ∈ l) (hok : zbK m a = true) (h2 : a.2 = (k : Int)) : a.1 ∈ out := by
 obtain ⟨_, _, h3⟩ := nxt_spec h
 refine Classical.byContradiction fun hn => ?_
 have hc : out.contains a.1 = false := by
  cases hc : out.contains a.1 with
  | false => rfl
  | true => exact absurd (List.contains_iff_mem.1 hc) hn
 have : a ∈ l.filter fun a => zbK m a && a.2 == (k : Int) && !(out.contains a.1) := by
  rw [List.mem_filter]
  refine ⟨ha, ?_⟩
  rw [hok, h2, hc]
  simp
 have hpos := List.length_pos_of_mem this
 unfold zdW at h3
 omega
theorem kahn_split {m : Nat} {l : List (Int × Int)} : ∀ {n : Nat} {out o : List Int}, kahn m l n out = some o → ∀ p k q, o = p ++ k :: q → out.length ≤ p.length → ∀ a ∈ l, zbK m a = true → a.2 = k → a.1 ∈ p
 | 0, out, o, h, p, k, q, ho, hl, a, ha, hok, h2 => by
  cases h
  have := congrArg List.length ho
  simp at this
  omega
 | n + 1, out, o, h, p, k, q, ho, hl, a, ha, hok, h2 => by
  unfold kahn at h
  split at h
  ·cases h
  ·rename_i k0 hk0
   by_cases hp : p.length = out.length
   ·obtain ⟨r, hr⟩ := kahn_prefix h
    have he : p ++ k :: q = out ++ ((k0 : Int) :: r) := by rw [← ho, hr, List.append_assoc]; rfl
    obtain ⟨h3, h4⟩ := List.append_inj he hp
    cases h4
    rw [h3]
    exact nxt_from hk0 ha hok h2
   ·exact kahn_split h p k q ho (by simp; omega) a ha hok h2
theorem ordV_split {m : Nat} {l : List (Int × Int)} {p q : List Int} {k : Int} (ho : (zcj m l).2 = p ++ k :: q) {a : Int × Int} (ha : a ∈ l) (hok : zbK m a = true) (h2 : a.2 = k) : a.1 ∈ p := by
 unfold zcj at ho
 cases h : kahn m l m [] with
 | none => rw [h] at ho; simp at ho
 | some o => rw [h] at ho; exact kahn_split h p k q ho (by simp) a ha hok h2
theorem ordV_all {m : Nat} {l : List (Int × Int)} (h : (zcj m l).2.length = m) {k : Nat} (hk : k < m) : (k : Int) ∈ (zcj m l).2 := by
 refine Classical.byContradiction fun hn => ?_
 have H := zfM m l
 have h1 : ((k : Int) :: (zcj m l).2).Nodup := List.nodup_cons.2 ⟨hn, H.nodup⟩
 have h2 := nodup_lt m (((k : Int) :: (zcj m l).2).map Int.toNat) ?_ ?_
 ·rw [List.length_map, List.length_cons] at h2; omega
 ·rw [List.nodup_iff_pairwise_ne, List.pairwise_map]
  have h3 := List.nodup_iff_pairwise_ne.1 h1
  refine List.Pairwise.imp_of_mem ?_ h3
  intro x y hx hy hxy
  have hb : ∀ z ∈ (k : Int) :: (zcj m l).2, 0 ≤ z := fun z hz => by
   rcases List.mem_cons.1 hz with rfl | hz
   ·omega
   ·exact (H.inr z hz).1
  have := hb x hx
  have := hb y hy
  omega
 ·intro x hx
  obtain ⟨z, hz, rfl⟩ := List.mem_map.1 hx
  rcases List.mem_cons.1 hz with rfl | hz
  ·omega
  ·have := H.inr z hz; omega
def zcG (m : Nat) (i : Int) (x : Bool × List Bool) (a : Int × Int) : Bool × List Bool :=
 if (!(zbK m a) || gI x.2 a.2) = true then x else if (a.1 == i || gI x.2 a.1) = true then (true, sI x.2 a.2 true) else x
theorem gI_sI {r : List Bool} {k j : Int} (hk : 0 ≤ k ∧ k < (r.length : Int)) (hj : 0 ≤ j) : gI (sI r k true) j = if k = j then true else gI r j := by
 obtain ⟨k, rfl⟩ := Int.eq_ofNat_of_zero_le hk.1
 obtain ⟨j, rfl⟩ := Int.eq_ofNat_of_zero_le hj
 simp only [gI, sI, Int.toNat_natCast, List.getD_eq_getElem?_getD]
 by_cases h : k = j
 ·subst h
  rw [List.getElem?_set_self (by omega), if_pos rfl]; rfl
 ·rw [List.getElem?_set_ne h, if_neg (by omega)]
structure Pass (m : Nat) (l : List (Int × Int)) (i : Nat) (r r' : List Bool) (ch : Bool) : Prop where
 len : r'.length = r.length
 mono : ∀ j : Int, 0 ≤ j → gI r j = true → gI r' j = true
 sound : (∀ j : Nat, j < m → gI r (j : Int) = true → Way m l i j) → ∀ j : Nat, j < m → gI r' (j : Int) = true → Way m l i j
 more : ch = true → r.count true < r'.count true
 le : r.count true ≤ r'.count true
 same : ch = false → r' = r
theorem count_set {r : List Bool} : ∀ {k : Nat}, k < r.length → r.getD k default = false → (r.set k true).count true = r.count true + 1 := by
 induction r with
 | nil => intro k h; exact absurd h (Nat.not_lt_zero k)
 | cons x r ih =>
  intro k h hf
  cases k with
  | zero =>
   have hx : x = false := by simpa using hf
   subst hx
   simp
  | succ k =>
   have := ih (k := k) (by simpa using h) (by simpa using hf)
   simp only [List.set_cons_succ, List.count_cons, this]
   omega
theorem pass_fold {m : Nat} {l0 : List (Int × Int)} {i : Nat} (hi : i < m) : ∀ (l : List (Int × Int)) (ch : Bool) (r r0 : List Bool), (∀ a ∈ l, a ∈ l0) → r.length = m → Pass m l0 i r0 r ch → Pass m l0 i r0 (l.foldl (zcG m (i : Int)) (ch, r)).2 (l.foldl (zcG m (i : Int)) (ch, r)).1
 | [], _, _, _, _, _, H => H
 | a :: l, ch, r, r0, hsub, hr, H => by
  have hsub' : ∀ x ∈ l, x ∈ l0 := fun x hx => hsub x (List.mem_cons_of_mem _ hx)
  rw [List.foldl_cons]
  unfold zcG
  by_cases h1 : (!(zbK m a) || gI r a.2) = true
  ·simp only [if_pos h1]; exact pass_fold hi l ch r r0 hsub' hr H
  ·simp only [if_neg h1]
   by_cases h2 : (a.1 == (i : Int) || gI r a.1) = true
   ·simp only [if_pos h2]
    have h1' : zbK m a = true ∧ gI r a.2 = false := by
     cases h : zbK m a <;> cases h' : gI r a.2 <;> simp_all
    obtain ⟨hok, hf⟩ := h1'
    have hv := hok
    simp only [zbK, Bool.and_eq_true, decide_eq_true_eq] at hv
    have hk : 0 ≤ a.2 ∧ a.2 < (r.length : Int) := by rw [hr]; omega
    have hcount : (sI r a.2 true).count true = r.count true + 1 := count_set (by omega) hf
    refine pass_fold hi l true _ r0 hsub' (by simp [sI, hr]) ⟨by simp [sI, H.len], fun j hj h => ?_, fun hs j hj h => ?_, fun _ => ?_, ?_, fun h => by cases h⟩
    ·rw [gI_sI hk hj]
     split
     ·rfl
     ·exact H.mono j hj h
    ·rw [gI_sI hk (by omega)] at h
     split at h
     ·rename_i he
      have ha := hsub a (List.mem_cons_self ..)
      rw [Bool.or_eq_true] at h2
      rcases h2 with h3 | h3
      ·exact .one ⟨a, ha, hok, by simpa using h3, he⟩
      ·have hw := H.sound hs a.1.toNat (by omega) (by rw [show ((a.1.toNat : Nat) : Int) = a.1 by omega]; exact h3)
       exact hw.trans (.one ⟨a, ha, hok, by omega, he⟩)
     ·exact H.sound hs j hj h
    ·rw [hcount]; have := H.le; omega
    ·rw [hcount]; have := H.le; omega
   ·simp only [if_neg h2]; exact pass_fold hi l ch r r0 hsub' hr H
theorem rch_true {m : Nat} {i : Int} : ∀ (l : List (Int × Int)) (r : List Bool), (l.foldl (zcG m i) (true, r)).1 = true
 | [], _ => rfl
 | a :: l, r => by
  rw [List.foldl_cons]
  unfold zcG
  split
  ·exact rch_true l r
  ·split
   ·exact rch_true l _
   ·exact rch_true l r
theorem rch_closed {m : Nat} {i : Int} : ∀ (l : List (Int × Int)) (r : List Bool), (l.foldl (zcG m i) (false, r)).1 = false → (l.foldl (zcG m i) (false, r)).2 = r ∧ ∀ a ∈ l, zbK m a = true → (a.1 = i ∨ gI r a.1 = true) → gI r a.2 = true
 | [], _, _ => ⟨rfl, fun a h => by cases h⟩
 | a :: l, r, h => by
  rw [List.foldl_cons] at h ⊢
  have hst : zcG m i (false, r) a = (false, r) ∧ (zbK m a = true → (a.1 = i ∨ gI r a.1 = true) → gI r a.2 = true) := by
   by_cases h1 : (!(zbK m a) || gI r a.2) = true
   ·refine ⟨by unfold zcG; rw [if_pos h1], fun hok _ => ?_⟩
    rw [hok] at h1
    simpa using h1
   ·by_cases h2 : (a.1 == i || gI r a.1) = true
    ·have he : zcG m i (false, r) a = (true, sI r a.2 true) := by unfold zcG; rw [if_neg h1, if_pos h2]
     rw [he, rch_true] at h
     cases h
    ·refine ⟨by unfold zcG; rw [if_neg h1, if_neg h2], fun _ hh => absurd ?_ h2⟩
     rcases hh with hh | hh
     ·simp [hh]
     ·simp [hh]
  rw [hst.1] at h ⊢
  obtain ⟨h1, h2⟩ := rch_closed l r h
  refine ⟨h1, fun x hx => ?_⟩
  rcases List.mem_cons.1 hx with rfl | hx
  ·exact hst.2
  ·exact h2 x hx
open Classical in
noncomputable def zeL (m : Nat) (l : List (Int × Int)) (i : Nat) : List Bool := (List.range m).map fun (j : Nat) => decide (Way m l i j)
open Classical in
theorem reach_eq {m : Nat} {l : List (Int × Int)} {i : Nat} {r : List Bool} (hr : r.length = m) (hs : ∀ j : Nat, j < m → gI r (j : Int) = true → Way m l i j) (hc : ∀ a ∈ l, zbK m a = true → (a.1 = (i : Int) ∨ gI r a.1 = true) → gI r a.2 = true) : r = zeL m l i := by
 have hall : ∀ {k j : Nat}, Way m l k j → (k = i ∨ gI r (k : Int) = true) → gI r (j : Int) = true := by
  intro k j hw
  induction hw with
  | one h =>
   intro hk
   obtain ⟨a, ha, hok, e1, e2⟩ := h
   rw [← e2]
   refine hc a ha hok ?_
   rcases hk with rfl | hk
   ·exact .inl e1
   ·exact .inr (by rw [e1]; exact hk)
  | more h _ ih =>
   intro hk
   obtain ⟨a, ha, hok, e1, e2⟩ := h
   refine ih (.inr ?_)
   rw [← e2]
   refine hc a ha hok ?_
   rcases hk with rfl | hk
   ·exact .inl e1
   ·exact .inr (by rw [e1]; exact hk)
 apply List.ext_getElem
 ·simp [zeL, hr]
 ·intro j h1 h2
  have hj : j < m := by rw [← hr]; exact h1
  have hg : gI r (j : Int) = r[j] := zbD h1
  simp only [zeL, List.getElem_map, List.getElem_range]
  cases h : r[j] with
  | true => rw [h] at hg; exact (decide_eq_true (hs j hj hg)).symm
  | false =>
   rw [h] at hg
   symm
   refine decide_eq_false fun hw => ?_
   rw [hall hw (.inl rfl)] at hg
   cases hg
theorem ord_lt {m : Nat} {l : List (Int × Int)} (h : (zcj m l).2.length = m) {i j : Nat} (ha : Arr m l i j) : (zcj m l).2.idxOf (i : Int) < (zcj m l).2.idxOf (j : Int) := by
 obtain ⟨x, hx, hok, e1, e2⟩ := ha
 have hj : j < m := by
  simp only [zbK, Bool.and_eq_true, decide_eq_true_eq] at hok
  omega
 have hm := ordV_all h hj
 have hn := (zfM m l).nodup
 obtain ⟨p, q, ho⟩ := List.append_of_mem hm
 have hp := ordV_split ho hx hok e2
 rw [ho] at hn ⊢
 rw [e1] at hp
 have hjp : (j : Int) ∉ p := fun h => (List.nodup_append.1 hn).2.2 _ h _ (List.mem_cons_self ..) rfl
 rw [List.idxOf_append, if_pos hp, List.idxOf_append, if_neg hjp]
 have := List.idxOf_lt_length_of_mem hp
 omega
theorem way_lt {m : Nat} {l : List (Int × Int)} (h : (zcj m l).2.length = m) {i j : Nat} (hw : Way m l i j) : (zcj m l).2.idxOf (i : Int) < (zcj m l).2.idxOf (j : Int) := by
 induction hw with
 | one h1 => exact ord_lt h h1
 | more h1 _ ih => exact Nat.lt_trans (ord_lt h h1) ih
def zdo (m : Nat) (l : List (Int × Int)) : Bool := !(zcj m l).1
theorem ordV_len {m : Nat} {l : List (Int × Int)} (h : (zcj m l).1 = true) : (zcj m l).2.length = m := by
 unfold zcj at h ⊢
 cases hk : kahn m l m [] with
 | none => rw [hk] at h; cases h
 | some o => have := zgb hk; simp at this; exact this
theorem ringV_iff {m : Nat} {l : List (Int × Int)} : zdo m l = true ↔ ∃ i : Nat, i < m ∧ Way m l i i := by
 unfold zdo
 constructor
 ·intro h
  refine Classical.byContradiction fun hn => ?_
  have := (ordV_ok (m := m) (l := l) fun i hw => hn ⟨i, ?_, hw⟩).1
  ·rw [this] at h; cases h
  ·cases hw with
   | one h =>
    obtain ⟨x, _, hok, e1, _⟩ := h
    simp only [zbK, Bool.and_eq_true, decide_eq_true_eq] at hok
    omega
   | more h _ =>
    obtain ⟨x, _, hok, e1, _⟩ := h
    simp only [zbK, Bool.and_eq_true, decide_eq_true_eq] at hok
    omega
 ·rintro ⟨i, _, hw⟩
  cases ho : (zcj m l).1 with
  | false => rfl
  | true => exact absurd (way_lt (ordV_len ho) hw) (Nat.lt_irrefl _)
end Go.Proofs.Ytlfdidaeachpoaa
namespace Go.Proofs.Ytlfdidaeachpoaa
open Go Go.RowKit
set_option maxRecDepth 100000
noncomputable section
def zH_b3862 : (Int × (List (Int × Int)) × Int) → (Bool × Int × (List Bool)) → RT (Bool × Int × (List Bool)) (Bool × (List Bool))
| (x0, l, i), (i_2, s, r7) =>
 .rq 4 (.ite (decide (s < (l.length : Int)))
 (.rq 2 (.req (inB l s) (.rq 27 (let t0 := inB r7 (gI l s).2;
 let t1 := (((decide ((gI l s).1 < 0)) || (decide (x0 ≤ (gI l s).1))) || (decide ((gI l s).2 < 0))) || (decide (x0 ≤ (gI l s).2));
 .req (t0 || (!(!t1))) (.rq 2 (let t2 := w64 (s + 1);
 let t3 := (i_2, t2, r7);
 .ite (t1 || (gI r7 (gI l s).2))
 (.rq 3 (.again t3))
 (.rq 8 (let t4 := (gI l s).1 == i;
 .req ((inB r7 (gI l s).1) || (!(!t4))) (.rq 2 (.ite (t4 || (gI r7 (gI l s).1))
 (.rq 3 (.req t0 (.rq 5 (.again (true, t2, sI r7 (gI l s).2 true)))))
 (.rq 3 (.again t3))))))))))))
 (.done (i_2, r7)))
def zH_p3862 : zaV := ⟨3862, true, [tI, .sl (.pair tI tI), tI], [tB, tI, .sl tB], ⟨[.keep [0, 1, 2, 7, 8, 9], .gc, .nilRow 7 800007 4 tB, .ren 7 700007, .ren 7 900007, .gc], [0, 1, 2, 7, 8, 9], [.lf (qi 0), .lf (qi 1), .lf (qi 2), .lf (qr 900007), .lf (qm 0), .lf (qm 1)], [(900007, true, .arr 4 (qm 2))]⟩, [⟨4, ⟨[.keep [0, 1, 2, 7, 8], .gc, .nilRow 7 800007 4 tB, .ren 7 700007, .ren 7 900007, .gc], [0, 1, 2, 7, 8], [.lf (qi 0), .lf (qi 1), .lf (qi 2), .lf (qr 900007), .lf (qm 0)], [(900007, true, .arr 4 (qm 1))]⟩, [tB, .sl tB]⟩], zH_b3862⟩
def zH_b60 : (Int × (List (Int × Int)) × Int) → (Bool × (List Bool)) → RT (Bool × (List Bool)) (List Bool)
| (x0, l, i), (i_2, r7) =>
 .rq 1 (.ite i_2
 (.rq 2 (.call (lo zH_b3862 (x0, l, i) (false, 0, r7)) default fun v0 =>
 .again (v0.1, v0.2)))
 (.done r7))
def zH_p60 : zaV := ⟨60, true, [tI, .sl (.pair tI tI), tI], [tB, .sl tB], ⟨[.keep [0, 1, 2, 7, 8], .gc, .nilRow 7 800007 4 tB, .ren 7 700007, .ren 7 900007, .gc], [0, 1, 2, 7, 8], [.lf (qi 0), .lf (qi 1), .lf (qi 2), .lf (qr 900007), .lf (qm 0)], [(900007, true, .arr 4 (qm 1))]⟩, [⟨2, ⟨[.keep [7], .gc, .nilRow 7 800007 4 tB, .ren 7 700007, .ren 7 900007, .gc], [7], [.lf (qr 900007)], [(900007, true, .arr 4 (qm 0))]⟩, [.sl tB]⟩], zH_b60⟩
def zH : (Int × (List (Int × Int)) × Int) → RT Unit (List Bool)
| (a0, l, i) =>
 .rq 2 (.req (mkOK 1 a0) (.rq 2 (.call (lo zH_b60 (a0, l, i) (true, zbV a0 false)) default fun v1 =>
 .rq 2 (.done v1))))
def F_zH (x : Int × (List (Int × Int)) × Int) : Option (List Bool) := (zH x).run fun _ => none
def io_zH : Io := ⟨n_zH, [tI, .sl (.pair tI tI), tI], [.lf (qm 0), .lf (qm 1), .lf (qm 2)], [], [[tI], [.sl (.pair tI tI)], [tI]], [.sl tB], .lf (qr 0), [], [(true, .arr 4 (qm 0))], false⟩
def zH_P : List zaV := [zH_p3862, zH_p60]
def zH_T : zbf := tab []
theorem zH_To : zbd pg zH_T := zaX trivial
theorem zH_k3862 : (zH_p3862).OK pg (zH_T) (zbu 67 (zH_P)) (zbh f_zH) 67 := ⟨by kernel_rfl, fun i x => by kernel_rfl⟩
theorem zH_k60 : (zH_p60).OK pg (zH_T) (zbu 67 (zH_P)) (zbh f_zH) 67 := ⟨by kernel_rfl, fun i x => by kernel_rfl⟩
theorem zH_go : zbt pg (zH_T) io_zH f_zH (zH_P) [.nilRow 6 800006 4 tB, .ren 6 700006, .ren 6 900006] (zH) := ⟨by kernel_rfl, by kernel_rfl, fun x => by kernel_rfl⟩
theorem ok_zH : io_zH.Okay pg (F_zH) := zbl zaZ (zH_To) (zH_go) ⟨zH_k3862, zH_k60, trivial⟩
theorem hsOk_not (m : Nat) (a : Int × Int) : (((decide (a.1 < 0) || decide ((m : Int) ≤ a.1)) || decide (a.2 < 0)) || decide ((m : Int) ≤ a.2)) = !(zbK m a) := by
 unfold zbK
 by_cases h1 : a.1 < 0 <;> by_cases h2 : (m : Int) ≤ a.1 <;> by_cases h3 : a.2 < 0 <;> by_cases h4 : (m : Int) ≤ a.2 <;> simp [h1, h2, h3, h4] <;> omega
theorem rch_loop (m : Nat) (l : List (Int × Int)) (i : Int) (hl : l.length ≤ 4000000) (hi : 0 ≤ i ∧ i < (m : Int)) : ∀ (d s : Nat) (ch : Bool) (r : List Bool), s + d = l.length → r.length = m →
  lo zH_b3862 ((m : Int), l, i) (ch, (s : Int), r) = some ((l.drop s).foldl (zcG m i) (ch, r))
 | 0, s, ch, r, h, _ => by
  rw [zbi, zH_b3862]
  simp only [RT.run]
  rw [if_neg (by simp; omega), List.drop_eq_nil_of_le (by omega)]
  rfl
 | d + 1, s, ch, r, h, hr => by
  have hs : s < l.length := by omega
  have hv : zbK m l[s] = true → (inB r l[s].1 = true ∧ inB r l[s].2 = true) := fun hok => by
   simp only [zbK, Bool.and_eq_true, decide_eq_true_eq] at hok
   exact ⟨zbc.2 (by rw [hr]; omega), zbc.2 (by rw [hr]; omega)⟩
  rw [zbi, zH_b3862]
  simp only [RT.run]
  rw [if_pos (by simp; omega), if_pos (zbc.2 ⟨by omega, by omega⟩), zbD hs, hsOk_not, zbg (by omega), show (s : Int) + 1 = ((s + 1 : Nat) : Int) by omega, List.drop_eq_getElem_cons hs, List.foldl_cons]
  cases hok : zbK m l[s] with
  | false =>
   rw [if_pos (by simp), if_pos (by simp), rch_loop m l i hl hi d (s + 1) ch r (by omega) hr]
   simp [zcG, hok]
  | true =>
   obtain ⟨h1, h2⟩ := hv hok
   rw [if_pos (by rw [h2]; rfl)]
   by_cases hg : gI r l[s].2 = true
   ·rw [if_pos (by rw [hg]; rfl), rch_loop m l i hl hi d (s + 1) ch r (by omega) hr]
    simp [zcG, hg]
   ·have hg' : gI r l[s].2 = false := by simpa using hg
    rw [if_neg (by rw [hg']; simp), if_pos (by rw [h1]; rfl)]
    by_cases ha : (l[s].1 == i || gI r l[s].1) = true
    ·rw [if_pos ha, if_pos h2, rch_loop m l i hl hi d (s + 1) true _ (by omega) (by simp [sI, hr])]
     simp only [zcG, hok, hg', Bool.not_true, Bool.or_self, Bool.false_eq_true, if_false, ha, if_true]
    ·rw [if_neg ha, rch_loop m l i hl hi d (s + 1) ch r (by omega) hr]
     simp only [zcG, hok, hg', Bool.not_true, Bool.or_self, Bool.false_eq_true, if_false, ha]
theorem rch_outer (m : Nat) (l : List (Int × Int)) (i : Nat) (hl : l.length ≤ 4000000) (hi : i < m) : ∀ (n : Nat) (r : List Bool), r.length = m → m - r.count true ≤ n → (∀ j : Nat, j < m → gI r (j : Int) = true → Way m l i j) →
  lo zH_b60 ((m : Int), l, (i : Int)) (true, r) = some (zeL m l i)
 | n, r, hr, hn, hs => by
  have h1 := rch_loop m l (i : Int) hl (by omega) l.length 0 false r (by omega) hr
  rw [show ((0 : Nat) : Int) = 0 from rfl, List.drop_zero] at h1
  have hp := pass_fold (l0 := l) hi l false r r (fun _ h => h) hr ⟨rfl, fun _ _ h => h, fun h => h, (fun h => by cases h), Nat.le_refl _, fun _ => rfl⟩
  have hcl := rch_closed (m := m) (i := (i : Int)) l r
  rw [zbi, zH_b60]
  simp only [RT.run]
  rw [if_pos trivial, h1, Option.bind_some]
  generalize hx : l.foldl (zcG m (i : Int)) (false, r) = x at *
  obtain ⟨ch, r'⟩ := x
  cases ch with
  | false =>
   obtain ⟨h2, h3⟩ := hcl rfl
   have h2 : r' = r := h2
   subst h2
   show lo zH_b60 _ (false, r') = _
   rw [zbi, zH_b60]
   simp only [RT.run]
   rw [if_neg (by simp), reach_eq hr hs h3]
  | true =>
   have hm := hp.more rfl
   have hlt : r'.count true ≤ r'.length := List.count_le_length
   have hlen : r'.length = m := hp.len.trans hr
   match n, hn with
   | 0, hn => exfalso; have hm : r.count true < r'.count true := hm; omega
   | n + 1, hn => exact rch_outer m l i hl hi n r' hlen (by have hm : r.count true < r'.count true := hm; omega) (hp.sound hs)
def e_zH : zbj := io_zH.sp (fun (n, l, i) => (decide (l.length ≤ 4000000) && (decide (0 ≤ n) && decide (n ≤ 1000000)) && (decide (0 ≤ i) && decide (i < n)))) (fun (n, l, i) => (zeL n.toNat l i.toNat))
theorem sp_zH (h : ∀ (n : Int) (l : List (Int × Int)) (i : Int), WfT [tI, .sl (.pair tI tI), tI] (n, l, i) → ((decide (l.length ≤ 4000000) && (decide (0 ≤ n) && decide (n ≤ 1000000)) && (decide (0 ≤ i) && decide (i < n)))) = true → (zH (n, l, i)).run (fun _ => none) = some (zeL n.toNat l i.toNat)) : e_zH.ok pg := zbo ok_zH fun (n, l, i) hw hc => h n l i hw hc
theorem e_zH_ok : e_zH.ok pg := sp_zH fun n l i _ hc => by
 simp only [Bool.and_eq_true, decide_eq_true_eq] at hc
 obtain ⟨⟨hl, h0, hn⟩, hi0, hi⟩ := hc
 obtain ⟨m, rfl⟩ := Int.eq_ofNat_of_zero_le h0
 obtain ⟨j, rfl⟩ := Int.eq_ofNat_of_zero_le hi0
 rw [zH]
 simp only [RT.run, Int.toNat_natCast]
 rw [if_pos (zcK.2 ⟨by omega, by omega, by omega⟩), zbV, Int.toNat_natCast, rch_outer m l j hl (by omega) m (List.replicate m false) (by simp) (by omega) fun k hk h => ?_]
 ·rfl
 ·rw [zbD (by simpa using hk)] at h; simp at h
def zak_b26 : (Int × (List (Int × Int))) → Int → RT Int (LR Unit Unit)
| (n, l), i =>
 .rq 3 (.ite (decide (i < n))
 (.rq 3 (.req ((decide (l.length ≤ 4000000) && (decide (0 ≤ n) && decide (n ≤ 1000000)) && (decide (0 ≤ i) && decide (i < n)))) (.rq 1 (let t0 := (zeL n.toNat l i.toNat);
 .req (inB t0 i) (.rq 1 (.ite (gI t0 i)
 (.rq 1 (.done (.ex ())))
 (.rq 3 (.again (w64 (i + 1))))))))))
 (.done (.rt ())))
def zak_p26 : zaV := ⟨26, true, [tI, .sl (.pair tI tI)], [tI], ⟨[.keep [0, 1, 5], .gc], [0, 1, 5], [.lf (qi 0), .lf (qi 1), .lf (qm 0)], []⟩, [⟨1, ⟨[.keep [4], .gc], [4], [.lf (.fix (.bool true))], []⟩, []⟩, ⟨2, ⟨[.keep [], .gc], [], [], []⟩, []⟩], zak_b26⟩
def zak : (Int × (List (Int × Int))) → RT Unit Bool
| (n, l) =>
 .rq 2 (.call (lo zak_b26 (n, l) 0) default fun v0 =>
 .ite v0.isRt
 (.rq 1 (.done false))
 (.done true))
def F_zak (x : Int × (List (Int × Int))) : Option Bool := (zak x).run fun _ => none
def io_zak : Io := ⟨n_zak, [tI, .sl (.pair tI tI)], [.lf (qm 0), .lf (qm 1)], [], [[tI], [.sl (.pair tI tI)]], [tB], .lf (qm 0), [], [], false⟩
def zak_P : List zaV := [zak_p26]
def zak_T : zbf := tab [e_zH]
theorem zak_To : zbd pg zak_T := zaX ⟨e_zH_ok, trivial⟩
theorem zak_k26 : (zak_p26).OK pg (zak_T) (zbu 18 (zak_P)) (zbh f_zak) 18 := ⟨by kernel_rfl, fun i x => by kernel_rfl⟩
theorem zak_go : zbt pg (zak_T) io_zak f_zak (zak_P) [] (zak) := ⟨by kernel_rfl, by kernel_rfl, fun x => by kernel_rfl⟩
theorem ok_zak : io_zak.Okay pg (F_zak) := zbl zaZ (zak_To) (zak_go) ⟨zak_k26, trivial⟩
open Classical in
theorem ring_loop (m : Nat) (l : List (Int × Int)) (hl : l.length ≤ 4000000) (hm : m ≤ 1000000) : ∀ (d i : Nat), i + d = m → (∀ k : Nat, k < i → ¬ Way m l k k) →
  lo zak_b26 ((m : Int), l) (i : Int) = some (if zdo m l = true then .ex () else .rt ())
 | 0, i, h, hno => by
  rw [zbi, zak_b26]
  simp only [RT.run]
  have hr : zdo m l = false := Bool.eq_false_iff.2 fun h => by
   obtain ⟨k, hk, hw⟩ := ringV_iff.1 h
   exact hno k (by omega) hw
  rw [if_neg (by simp; omega), hr, if_neg (by decide)]
 | d + 1, i, h, hno => by
  have hi : i < m := by omega
  have hlen : (zeL m l i).length = m := by simp [zeL]
  have zba : gI (zeL m l i) (i : Int) = decide (Way m l i i) := by
   rw [zbD (by rw [hlen]; exact hi)]
   simp [zeL]
  rw [zbi, zak_b26]
  simp only [RT.run, Int.toNat_natCast]
  rw [if_pos (by simp; omega), if_pos (by simp only [Bool.and_eq_true, decide_eq_true_eq]; omega), if_pos (zbc.2 ⟨by omega, by rw [hlen]; omega⟩)]
  by_cases hw : Way m l i i
  ·have hr : zdo m l = true := ringV_iff.2 ⟨i, hi, hw⟩
   rw [if_pos (zba.trans (decide_eq_true hw)), hr, if_pos rfl]
  ·rw [if_neg (by rw [zba]; simpa using hw), zbg (by omega), show (i : Int) + 1 = ((i + 1 : Nat) : Int) by omega]
   refine ring_loop m l hl hm d (i + 1) (by omega) fun k hk => ?_
   by_cases hki : k = i
   ·subst hki; exact hw
   ·exact hno k (by omega)
def e_zak : zbj := io_zak.sp (fun (n, l) => (decide (l.length ≤ 4000000) && (decide (0 ≤ n) && decide (n ≤ 1000000)))) (fun (n, l) => (zdo n.toNat l))
theorem sp_zak (h : ∀ (n : Int) (l : List (Int × Int)), WfT [tI, .sl (.pair tI tI)] (n, l) → ((decide (l.length ≤ 4000000) && (decide (0 ≤ n) && decide (n ≤ 1000000)))) = true → (zak (n, l)).run (fun _ => none) = some (zdo n.toNat l)) : e_zak.ok pg := zbo ok_zak fun (n, l) hw hc => h n l hw hc
theorem e_zak_ok : e_zak.ok pg := sp_zak fun n l _ hc => by
 simp only [Bool.and_eq_true, decide_eq_true_eq] at hc
 obtain ⟨hl, h0, hn⟩ := hc
 obtain ⟨m, rfl⟩ := Int.eq_ofNat_of_zero_le h0
 rw [zak]
 simp only [RT.run, Int.toNat_natCast]
 have := ring_loop m l hl (by omega) m 0 (by omega) fun k hk => absurd hk (Nat.not_lt_zero k)
 rw [show ((0 : Nat) : Int) = 0 from rfl] at this
 rw [this]
 cases zdo m l <;> rfl
theorem ring_order {m : Nat} {l : List (Int × Int)} (h : zdo m l = false) : (zcj m l).1 = true ∧ (zcj m l).2.length = m := by
 have h1 : (zcj m l).1 = true := by unfold zdo at h; simpa using h
 exact ⟨h1, ordV_len h1⟩
end
end Go.Proofs.Ytlfdidaeachpoaa
namespace Go.Proofs.Ytlfdidaeachpoaa
open Go Go.RowKit
set_option maxRecDepth 100000
noncomputable section
def zaN : ((List Bool) × (List Tk) × (List Th) × (List Lk) × (List Int) × Int × Int) → RT Unit Bool
| (s_0, s_1, s_2, s_3, s_4, s_5, i) =>
 .rq 15 (let t0 := (decide (0 ≤ i)) && (decide (i < (s_3.length : Int)));
 .req ((inB s_3 i) || (!t0)) (.rq 4 (.done (t0 && (gI s_3 i).1))))
def F_zaN (x : (List Bool) × (List Tk) × (List Th) × (List Lk) × (List Int) × Int × Int) : Option Bool := (zaN x).run fun _ => none
def io_zaN : Io := ⟨n_zaN, [.sl tB, .sl yK, .sl yH, .sl yL, .sl tI, tI, tI], [.agg [qm 0, qm 1, qm 2, qm 3, qm 4, qm 5], .lf (qm 6)], [], [[.sl tB, .sl yK, .sl yH, .sl yL, .sl tI, tI], [tI]], [tB], .lf (qm 0), [], [], false⟩
def zaN_P : List zaV := []
def zaN_T : zbf := tab []
theorem zaN_To : zbd pg zaN_T := zaX trivial
theorem zaN_go : zbt pg (zaN_T) io_zaN f_zaN (zaN_P) [] (zaN) := ⟨by kernel_rfl, by kernel_rfl, fun x => by kernel_rfl⟩
theorem ok_zaN : io_zaN.Okay pg (F_zaN) := zbl zaZ (zaN_To) (zaN_go) trivial
def e_zaN : zbj := io_zaN.sp (fun (a, b, c, d, e, f, i) => true) (fun (a, b, c, d, e, f, i) => (inB d i && (gI d i).1))
theorem sp_zaN (h : ∀ (a : List Bool) (b : List Tk) (c : List Th) (d : List Lk) (e : List Int) (f : Int) (i : Int), WfT [.sl tB, .sl yK, .sl yH, .sl yL, .sl tI, tI, tI] (a, b, c, d, e, f, i) → (zaN (a, b, c, d, e, f, i)).run (fun _ => none) = some (inB d i && (gI d i).1)) : e_zaN.ok pg := zbo ok_zaN fun (a, b, c, d, e, f, i) hw hc => h a b c d e f i hw
theorem e_zaN_ok : e_zaN.ok pg := sp_zaN fun a b c d e f i _ => by
 rw [zaN]
 simp only [RT.run]
 show (if (inB d i || !(inB d i)) = true then some (inB d i && (gI d i).1) else none) = _
 rw [if_pos (by cases inB d i <;> rfl)]
def zaT : ((List Bool) × (List Tk) × (List Th) × (List Lk) × (List Int) × Int × Int × Int × Int) → RT Unit Bool
| (s_0, s_1, s_2, s_3, s_4, s_5, i, state, what) =>
 .rq 9 (let t0 := (inB s_2 i && (gI s_2 i).1 != 0);
 .req ((inB s_2 i) || (!t0)) (.rq 9 (let t1 := t0 && ((gI s_2 i).1 == state);
 .req ((inB s_2 i) || (!t1)) (.rq 6 (.done (t1 && ((gI s_2 i).2.1 == what)))))))
def F_zaT (x : (List Bool) × (List Tk) × (List Th) × (List Lk) × (List Int) × Int × Int × Int × Int) : Option Bool := (zaT x).run fun _ => none
def io_zaT : Io := ⟨n_zaT, [.sl tB, .sl yK, .sl yH, .sl yL, .sl tI, tI, tI, tI, tI], [.agg [qm 0, qm 1, qm 2, qm 3, qm 4, qm 5], .lf (qm 6), .lf (qm 7), .lf (qm 8)], [], [[.sl tB, .sl yK, .sl yH, .sl yL, .sl tI, tI], [tI], [tI], [tI]], [tB], .lf (qm 0), [], [], false⟩
def zaT_P : List zaV := []
def zaT_T : zbf := tab [e_zac]
theorem zaT_To : zbd pg zaT_T := zaX ⟨e_zac_ok, trivial⟩
theorem zaT_go : zbt pg (zaT_T) io_zaT f_zaT (zaT_P) [] (zaT) := ⟨by kernel_rfl, by kernel_rfl, fun x => by kernel_rfl⟩
theorem ok_zaT : io_zaT.Okay pg (F_zaT) := zbl zaZ (zaT_To) (zaT_go) trivial
def isV (c : List Th) (i st what : Int) : Bool := ((inB c i && (gI c i).1 != 0) && ((gI c i).1 == st)) && ((gI c i).2.1 == what)
def e_zaT : zbj := io_zaT.sp (fun (a, b, c, d, e, f, i, state, what) => true) (fun (a, b, c, d, e, f, i, state, what) => (isV c i state what))
theorem sp_zaT (h : ∀ (a : List Bool) (b : List Tk) (c : List Th) (d : List Lk) (e : List Int) (f : Int) (i : Int) (state : Int) (what : Int), WfT [.sl tB, .sl yK, .sl yH, .sl yL, .sl tI, tI, tI, tI, tI] (a, b, c, d, e, f, i, state, what) → (zaT (a, b, c, d, e, f, i, state, what)).run (fun _ => none) = some (isV c i state what)) : e_zaT.ok pg := zbo ok_zaT fun (a, b, c, d, e, f, i, state, what) hw hc => h a b c d e f i state what hw
theorem e_zaT_ok : e_zaT.ok pg := sp_zaT fun a b c d e f i st what _ => by
 rw [zaT]
 simp only [RT.run]
 unfold isV
 cases h : inB c i with
 | false => simp
 | true => simp
def zay : ((List Bool) × (List Tk) × (List Th) × (List Lk) × (List Int) × Int × Int) → RT Unit Bool
| (s_0, s_1, s_2, s_3, s_4, s_5, i) =>
 .rq 5 (.req (inB s_2 i) (.rq 6 (.ite ((gI s_2 i).1 == 4)
 (.rq 4 (.req (inB s_2 (gI s_2 i).2.1) (.rq 5 (.done ((gI s_2 (gI s_2 i).2.1).2.2.1 != i)))))
 (.rq 4 (.done ((gI s_2 i).1 == 6))))))
def F_zay (x : (List Bool) × (List Tk) × (List Th) × (List Lk) × (List Int) × Int × Int) : Option Bool := (zay x).run fun _ => none
def io_zay : Io := ⟨n_zay, [.sl tB, .sl yK, .sl yH, .sl yL, .sl tI, tI, tI], [.agg [qm 0, qm 1, qm 2, qm 3, qm 4, qm 5], .lf (qm 6)], [], [[.sl tB, .sl yK, .sl yH, .sl yL, .sl tI, tI], [tI]], [tB], .lf (qm 0), [], [], false⟩
def zay_P : List zaV := []
def zay_T : zbf := tab []
theorem zay_To : zbd pg zay_T := zaX trivial
theorem zay_go : zbt pg (zay_T) io_zay f_zay (zay_P) [] (zay) := ⟨by kernel_rfl, by kernel_rfl, fun x => by kernel_rfl⟩
theorem ok_zay : io_zay.Okay pg (F_zay) := zbl zaZ (zay_To) (zay_go) trivial
def e_zay : zbj := io_zay.en F_zay
theorem e_zay_ok : e_zay.ok pg := en_ok ok_zay
def zO_b26 : ((List Bool) × (List Tk) × (List Th) × (List Lk) × (List Int) × Int) → Int → RT Int (LR Unit Unit)
| (l_0, l_1, l_2, l_3, l_4, l_5), s =>
 .rq 5 (.ite (decide (s < (l_1.length : Int)))
 (.rq 3 (.req (inB l_1 s) (.rq 6 (let t0 := w64 (s + 1);
 let t1 := (gI l_1 s).2.2.2.1 == 0;
 let t2 := (gI l_1 s).2.2.2.2.1 == 0;
 .ite (!(gI l_1 s).1)
 (.rq 3 (.ite ((((gI l_1 s).1 == false) && (((gI l_1 s).2.1 == 0) && (((gI l_1 s).2.2.1 == 0) && (t1 && (t2 && (((gI l_1 s).2.2.2.2.2 == false) && true)))))) != true)
 (.rq 1 (.done (.ex ())))
 (.rq 3 (.again t0))))
 (.rq 55 (.ite ((((!((inB l_0 (gI l_1 s).2.1 && gI l_0 (gI l_1 s).2.1))) || (decide ((gI l_1 s).2.2.1 < 1))) || (decide (1048576 < (gI l_1 s).2.2.1))) || (!(((t1 && t2) || (((gI l_1 s).2.2.2.1 == 1) && ((inB l_2 (gI l_1 s).2.2.2.2.1 && (gI l_2 (gI l_1 s).2.2.2.2.1).1 != 0)))) || ((((gI l_1 s).2.2.2.1 == 2) && ((gI l_1 s).2.2.2.2.1 != 0)) && ((inB l_0 (gI l_1 s).2.2.2.2.1 && gI l_0 (gI l_1 s).2.2.2.2.1))))))
 (.rq 1 (.done (.ex ())))
 (.rq 3 (.again t0))))))))
 (.done (.rt ())))
def zO_p26 : zaV := ⟨26, true, [.sl tB, .sl yK, .sl yH, .sl yL, .sl tI, tI], [tI], ⟨[.keep [1, 3], .gc], [1, 3], [.lf (qp 16), .lf (qm 0)], [(16, true, .cells [qi 0, qi 1, qi 2, qi 3, qi 4, qi 5])]⟩, [⟨1, ⟨[.keep [2], .gc], [2], [.lf (.fix (.bool false))], []⟩, []⟩, ⟨2, ⟨[.keep [1], .gc], [1], [.lf (qp 16)], [(16, true, .cells [qi 0, qi 1, qi 2, qi 3, qi 4, qi 5])]⟩, []⟩], zO_b26⟩
def zO : ((List Bool) × (List Tk) × (List Th) × (List Lk) × (List Int) × Int) → RT Unit Bool
| (a0_0, a0_1, a0_2, a0_3, a0_4, a0_5) =>
 .rq 3 (.call (lo zO_b26 (a0_0, a0_1, a0_2, a0_3, a0_4, a0_5) 0) default fun v0 =>
 .ite v0.isRt
 (.rq 14 (let t0 := (a0_1.length : Int) == 0;
 let t1 := decide ((a0_1.length : Int) ≤ 96);
 let t2 := w64 ((a0_1.length : Int) - 1);
 .req ((inB a0_1 t2) || (!((!t0) && t1))) (.rq 5 (.done (t1 && (t0 || (gI a0_1 t2).1))))))
 (.done false))
def F_zO (x : (List Bool) × (List Tk) × (List Th) × (List Lk) × (List Int) × Int) : Option Bool := (zO x).run fun _ => none
def io_zO : Io := ⟨n_zO, [.sl tB, .sl yK, .sl yH, .sl yL, .sl tI, tI], [.agg [qm 0, qm 1, qm 2, qm 3, qm 4, qm 5]], [], [[.sl tB, .sl yK, .sl yH, .sl yL, .sl tI, tI]], [tB], .lf (qm 0), [], [], false⟩
def zO_P : List zaV := [zO_p26]
def zO_T : zbf := tab [e_zac, e_zaM]
theorem zO_To : zbd pg zO_T := zaX ⟨e_zac_ok, e_zaM_ok, trivial⟩
theorem zO_k26 : (zO_p26).OK pg (zO_T) (zbu 97 (zO_P)) (zbh f_zO) 97 := ⟨by kernel_rfl, fun i x => by kernel_rfl⟩
theorem zO_go : zbt pg (zO_T) io_zO f_zO (zO_P) [] (zO) := ⟨by kernel_rfl, by kernel_rfl, fun x => by kernel_rfl⟩
theorem ok_zO : io_zO.Okay pg (F_zO) := zbl zaZ (zO_To) (zO_go) ⟨zO_k26, trivial⟩
def tkFine (a : List Bool) (c : List Th) (t : Tk) : Bool :=
 if (!t.1) = true then !((((t.1 == false) && ((t.2.1 == 0) && ((t.2.2.1 == 0) && ((t.2.2.2.1 == 0) && ((t.2.2.2.2.1 == 0) && ((t.2.2.2.2.2 == false) && true)))))) != true))
 else !((((!((inB a t.2.1 && gI a t.2.1))) || (decide (t.2.2.1 < 1))) || (decide (1048576 < t.2.2.1))) || (!(((t.2.2.2.1 == 0 && t.2.2.2.2.1 == 0) || ((t.2.2.2.1 == 1) && ((inB c t.2.2.2.2.1 && (gI c t.2.2.2.2.1).1 != 0)))) || (((t.2.2.2.1 == 2) && (t.2.2.2.2.1 != 0)) && ((inB a t.2.2.2.2.1 && gI a t.2.2.2.2.1))))))
theorem tickets_loop (a : List Bool) (b : List Tk) (c : List Th) (d : List Lk) (e : List Int) (f : Int) (hl : b.length ≤ 1000000) : ∀ (n i : Nat), i + n = b.length →
  lo zO_b26 (a, b, c, d, e, f) (i : Int) = some (if (b.drop i).all (tkFine a c) = true then .rt () else .ex ())
 | 0, i, h => by
  rw [zbi, zO_b26]
  simp only [RT.run]
  rw [if_neg (by simp; omega), List.drop_eq_nil_of_le (by omega)]
  rfl
 | n + 1, i, h => by
  have hi : i < b.length := by omega
  have ih := tickets_loop a b c d e f hl n (i + 1) (by omega)
  rw [zbi, zO_b26]
  simp only [RT.run]
  rw [if_pos (by simp; omega), if_pos (zbc.2 ⟨by omega, by omega⟩), zbD hi, List.drop_eq_getElem_cons hi, List.all_cons, zbg (by omega), show (i : Int) + 1 = ((i + 1 : Nat) : Int) by omega, ih]
  generalize (b.drop (i + 1)).all (tkFine a c) = q
  unfold tkFine
  generalize b[i] = t
  by_cases h1 : (!t.1) = true
  ·rw [if_pos h1, if_pos h1]
   split
   ·rename_i h2
    rw [h2]; simp
   ·rename_i h2
    rw [Bool.eq_false_iff.2 h2]; simp
  ·rw [if_neg h1, if_neg h1]
   split
   ·rename_i h2
    rw [h2]; simp
   ·rename_i h2
    rw [Bool.eq_false_iff.2 h2]; simp
def zdT (a : List Bool) (b : List Tk) (c : List Th) : Bool := b.all (tkFine a c) && (decide ((b.length : Int) ≤ 96) && (((b.length : Int) == 0) || (gI b ((b.length : Int) - 1)).1))
def e_zO : zbj := io_zO.sp (fun (a, b, c, d, e, f) => (decide (b.length ≤ 1000000))) (fun (a, b, c, d, e, f) => (zdT a b c))
theorem sp_zO (h : ∀ (a : List Bool) (b : List Tk) (c : List Th) (d : List Lk) (e : List Int) (f : Int), WfT [.sl tB, .sl yK, .sl yH, .sl yL, .sl tI, tI] (a, b, c, d, e, f) → ((decide (b.length ≤ 1000000))) = true → (zO (a, b, c, d, e, f)).run (fun _ => none) = some (zdT a b c)) : e_zO.ok pg := zbo ok_zO fun (a, b, c, d, e, f) hw hc => h a b c d e f hw hc
theorem e_zO_ok : e_zO.ok pg := sp_zO fun a b c d e f _ hc => by
 have hl := of_decide_eq_true hc
 rw [zO]
 simp only [RT.run]
 have := tickets_loop a b c d e f hl b.length 0 (by omega)
 rw [show ((0 : Nat) : Int) = 0 from rfl, List.drop_zero] at this
 rw [this, Option.bind_some, zbg (by omega)]
 unfold zdT
 cases b.all (tkFine a c) with
 | false => rfl
 | true =>
  rw [if_pos (by rfl), if_pos]
  ·rw [Bool.true_and]
  ·by_cases h0 : b.length = 0
   ·simp [h0]
   ·rw [zbc.2 ⟨by omega, by omega⟩]; rfl
def zx_b7462 : (Int × Int) → RT Unit Int
| (s, x5_0) =>
 .rq 3 (.ite (x5_0 == 3)
 (.rq 3 (.done (w64 (s + 1))))
 (.done s))
def zx_p7462 : zaV := ⟨7462, false, [tI, tI, .sl tB, .sl yK, .sl yH, .sl yL, .sl tI, tI, tI, tI, tI, tI, tI], [], ⟨[.keep [1, 3, 4, 5], .gc], [1, 3, 4, 5], [.lf (qp 16), .lf (qi 0), .lf (qi 1), .lf (qp 80)], [(16, true, .cells [qi 2, qi 3, qi 4, qi 5, qi 6, qi 7]), (80, true, .cells [qi 8, qi 9, qi 10, qi 11, qi 12])]⟩, [⟨0, ⟨[.keep [1, 3, 4, 5], .gc], [1, 3, 4, 5], [.lf (qp 16), .lf (qm 0), .lf (qi 1), .lf (qp 80)], [(16, true, .cells [qi 2, qi 3, qi 4, qi 5, qi 6, qi 7]), (80, true, .cells [qi 8, qi 9, qi 10, qi 11, qi 12])]⟩, [tI]⟩], (fun i _ => zx_b7462 (i.1, i.2.2.2.2.2.2.2.2.1))⟩
def zx_b58 : ((List Bool) × (List Tk) × (List Th) × (List Lk) × (List Int) × Int) → (Int × Int) → RT (Int × Int) (LR Unit Int)
| (l_0, l_1, l_2, l_3, l_4, l_5), (s, t) =>
 .rq 5 (.ite (decide (t < (l_2.length : Int)))
 (.rq 3 (.req (inB l_2 t) (.rq 6 (let t0 := w64 (t + 1);
 let t1 := (gI l_2 t).1 == 0;
 .ite t1
 (.rq 3 (.ite ((t1 && (((gI l_2 t).2.1 == 0) && (((gI l_2 t).2.2.1 == 0) && (((gI l_2 t).2.2.2.1 == 0) && (((gI l_2 t).2.2.2.2 == 0) && true))))) != true)
 (.rq 1 (.done (.ex ())))
 (.rq 3 (.again (s, t0)))))
 (.call (on zx_b7462 (s, (gI l_2 t).1)) default fun v0 =>
 .rq 101 (.ite (((!((((((decide (0 < (gI l_2 t).1)) && (decide ((gI l_2 t).1 < 6))) && ((gI l_2 t).1 != 4)) && ((gI l_2 t).2.1 == (-1))) || ((((gI l_2 t).1 == 4) && ((gI l_2 t).2.1 != t)) && ((inB l_2 (gI l_2 t).2.1 && (gI l_2 (gI l_2 t).2.1).1 != 0)))) || (((gI l_2 t).1 == 6) && ((inB l_3 (gI l_2 t).2.1 && (gI l_3 (gI l_2 t).2.1).1))))) || (!(((gI l_2 t).2.2.1 == (-1)) || (((gI l_2 t).1 != 5) && ((isV l_2 (gI l_2 t).2.2.1 (4 : Int) t)))))) || ((!(((gI l_2 t).2.2.2.1 == 1) && ((gI l_2 t).2.2.2.2 == 1))) && (((decide ((gI l_2 t).2.2.2.2 < 1)) || (decide ((gI l_2 t).2.2.2.1 ≤ (gI l_2 t).2.2.2.2))) || (decide (l_5 < (gI l_2 t).2.2.2.1)))))
 (.rq 1 (.done (.ex ())))
 (.rq 3 (.again (v0, t0)))))))))
 (.done (.rt s)))
def zx_p58 : zaV := ⟨58, true, [.sl tB, .sl yK, .sl yH, .sl yL, .sl tI, tI], [tI, tI], ⟨[.keep [1, 3, 4], .gc], [1, 3, 4], [.lf (qp 16), .lf (qm 0), .lf (qm 1)], [(16, true, .cells [qi 0, qi 1, qi 2, qi 3, qi 4, qi 5])]⟩, [⟨1, ⟨[.keep [2], .gc], [2], [.lf (.fix (.bool false))], []⟩, []⟩, ⟨2, ⟨[.keep [1, 3], .gc], [1, 3], [.lf (qp 16), .lf (qm 0)], [(16, true, .cells [qi 0, qi 1, qi 2, qi 3, qi 4, qi 5])]⟩, [tI]⟩], zx_b58⟩
def zx : ((List Bool) × (List Tk) × (List Th) × (List Lk) × (List Int) × Int) → RT Unit Bool
| (a0_0, a0_1, a0_2, a0_3, a0_4, a0_5) =>
 .rq 4 (.call (lo zx_b58 (a0_0, a0_1, a0_2, a0_3, a0_4, a0_5) (0, 0)) default fun v1 =>
 .ite v1.isRt
 (.rq 18 (let t0 := (a0_2.length : Int) == 0;
 let t1 := w64 ((a0_2.length : Int) - 1);
 let t2 := (decide (v1.getR < 2)) && (decide ((a0_2.length : Int) ≤ 32));
 .req ((inB a0_2 t1) || (!((!t0) && t2))) (.rq 6 (.done (t2 && (t0 || ((gI a0_2 t1).1 != 0)))))))
 (.done false))
def F_zx (x : (List Bool) × (List Tk) × (List Th) × (List Lk) × (List Int) × Int) : Option Bool := (zx x).run fun _ => none
def io_zx : Io := ⟨n_zx, [.sl tB, .sl yK, .sl yH, .sl yL, .sl tI, tI], [.agg [qm 0, qm 1, qm 2, qm 3, qm 4, qm 5]], [], [[.sl tB, .sl yK, .sl yH, .sl yL, .sl tI, tI]], [tB], .lf (qm 0), [], [], false⟩
def zx_P : List zaV := [zx_p7462, zx_p58]
def zx_T : zbf := tab [e_zaT, e_zaN, e_zac]
theorem zx_To : zbd pg zx_T := zaX ⟨e_zaT_ok, e_zaN_ok, e_zac_ok, trivial⟩
theorem zx_k7462 : (zx_p7462).OK pg (zx_T) (zbu 154 (zx_P)) (zbh f_zx) 154 := ⟨by kernel_rfl, fun i x => by kernel_rfl⟩
theorem zx_k58 : (zx_p58).OK pg (zx_T) (zbu 154 (zx_P)) (zbh f_zx) 154 := ⟨by kernel_rfl, fun i x => by kernel_rfl⟩
theorem zx_go : zbt pg (zx_T) io_zx f_zx (zx_P) [] (zx) := ⟨by kernel_rfl, by kernel_rfl, fun x => by kernel_rfl⟩
theorem ok_zx : io_zx.Okay pg (F_zx) := zbl zaZ (zx_To) (zx_go) ⟨zx_k7462, zx_k58, trivial⟩
def zfd (c : List Th) (d : List Lk) (f : Int) (i : Int) : Bool :=
 if ((gI c i).1 == 0) = true then !(((gI c i).1 == 0 && (((gI c i).2.1 == 0) && (((gI c i).2.2.1 == 0) && (((gI c i).2.2.2.1 == 0) && (((gI c i).2.2.2.2 == 0) && true))))) != true)
 else !(((!((((((decide (0 < (gI c i).1)) && (decide ((gI c i).1 < 6))) && ((gI c i).1 != 4)) && ((gI c i).2.1 == (-1))) || ((((gI c i).1 == 4) && ((gI c i).2.1 != i)) && ((inB c (gI c i).2.1 && (gI c (gI c i).2.1).1 != 0)))) || (((gI c i).1 == 6) && ((inB d (gI c i).2.1 && (gI d (gI c i).2.1).1))))) || (!(((gI c i).2.2.1 == (-1)) || (((gI c i).1 != 5) && ((isV c (gI c i).2.2.1 (4 : Int) i)))))) || ((!(((gI c i).2.2.2.1 == 1) && ((gI c i).2.2.2.2 == 1))) && (((decide ((gI c i).2.2.2.2 < 1)) || (decide ((gI c i).2.2.2.1 ≤ (gI c i).2.2.2.2))) || (decide (f < (gI c i).2.2.2.1)))))
def runs (c : List Th) (i n : Nat) : Nat := ((List.range' i n).filter fun (k : Nat) => (gI c (k : Int)).1 == 3).length
theorem zgB (a : List Bool) (b : List Tk) (c : List Th) (d : List Lk) (e : List Int) (f : Int) (hl : c.length ≤ 1000000) : ∀ (n i s : Nat), i + n = c.length → s ≤ i →
  ∃ v : Int, 0 ≤ v ∧ v ≤ c.length ∧ v = s + (runs c i n : Int) ∧ lo zx_b58 (a, b, c, d, e, f) ((s : Int), (i : Int)) = some (if (List.range' i n).all (fun (k : Nat) => zfd c d f (k : Int)) = true then .rt v else .ex ())
 | 0, i, s, h, hs => by
  refine ⟨(s : Int), by omega, by omega, by simp [runs], ?_⟩
  rw [zbi, zx_b58]
  simp only [RT.run]
  rw [if_neg (by simp; omega)]
  rfl
 | n + 1, i, s, h, hs => by
  have hi : i < c.length := by omega
  have hin : inB c (i : Int) = true := zbc.2 ⟨by omega, by omega⟩
  by_cases h0 : ((gI c (i : Int)).1 == 0) = true
  ·obtain ⟨v, h1, h2, hv, ih⟩ := zgB a b c d e f hl n (i + 1) s (by omega) (by omega)
   have hne : ((gI c (i : Int)).1 == 3) = false := by rw [beq_iff_eq] at h0; rw [h0]; rfl
   refine ⟨v, h1, h2, by rw [hv, runs, runs, List.range'_succ, List.filter_cons, hne]; rfl, ?_⟩
   rw [zbi, zx_b58]
   simp only [RT.run]
   rw [if_pos (by simp; omega), if_pos hin, if_pos h0, zbg (by omega), show (i : Int) + 1 = ((i + 1 : Nat) : Int) by omega, ih, List.range'_succ, List.all_cons]
   generalize (List.range' (i + 1) n).all (fun (k : Nat) => zfd c d f (k : Int)) = q
   unfold zfd
   rw [if_pos h0]
   split
   ·rename_i h3; rw [h3]; simp
   ·rename_i h3; rw [Bool.eq_false_iff.2 h3]; simp
  ·have hb : ∃ s' : Nat, s' ≤ i + 1 ∧ s' = s + (if ((gI c (i : Int)).1 == 3) = true then 1 else 0) ∧ on zx_b7462 ((s : Int), (gI c (i : Int)).1) = some (s' : Int) := by
    show ∃ s' : Nat, s' ≤ i + 1 ∧ s' = s + (if ((gI c (i : Int)).1 == 3) = true then 1 else 0) ∧ (zx_b7462 _).run _ = _
    rw [zx_b7462]
    simp only [RT.run]
    split
    ·rename_i h3; exact ⟨s + 1, by omega, rfl, by rw [zbg (by omega)]; rfl⟩
    ·rename_i h3; exact ⟨s, by omega, rfl, rfl⟩
   obtain ⟨s', hs', hse, hb⟩ := hb
   obtain ⟨v, h1, h2, hv, ih⟩ := zgB a b c d e f hl n (i + 1) s' (by omega) hs'
   refine ⟨v, h1, h2, by rw [hv, hse, runs, runs, List.range'_succ, List.filter_cons]; split <;> simp <;> omega, ?_⟩
   rw [zbi, zx_b58]
   simp only [RT.run]
   rw [if_pos (by simp; omega), if_pos hin, if_neg h0, hb, Option.bind_some, zbg (by omega), show (i : Int) + 1 = ((i + 1 : Nat) : Int) by omega, ih, List.range'_succ, List.all_cons]
   generalize (List.range' (i + 1) n).all (fun (k : Nat) => zfd c d f (k : Int)) = q
   unfold zfd
   rw [if_neg h0]
   split
   ·rename_i h3; rw [h3]; simp
   ·rename_i h3; rw [Bool.eq_false_iff.2 h3]; simp
def zdg (c : List Th) (d : List Lk) (f : Int) : Bool := (List.range c.length).all (fun (k : Nat) => zfd c d f (k : Int)) &&
 ((decide ((runs c 0 c.length : Int) < 2) && decide ((c.length : Int) ≤ 32)) && (((c.length : Int) == 0) || ((gI c ((c.length : Int) - 1)).1 != 0)))
def e_zx : zbj := io_zx.sp (fun (a, b, c, d, e, f) => (decide (c.length ≤ 1000000))) (fun (a, b, c, d, e, f) => (zdg c d f))
theorem sp_zx (h : ∀ (a : List Bool) (b : List Tk) (c : List Th) (d : List Lk) (e : List Int) (f : Int), WfT [.sl tB, .sl yK, .sl yH, .sl yL, .sl tI, tI] (a, b, c, d, e, f) → ((decide (c.length ≤ 1000000))) = true → (zx (a, b, c, d, e, f)).run (fun _ => none) = some (zdg c d f)) : e_zx.ok pg := zbo ok_zx fun (a, b, c, d, e, f) hw hc => h a b c d e f hw hc
theorem e_zx_ok : e_zx.ok pg := sp_zx fun a b c d e f _ hc => by
 have hl := of_decide_eq_true hc
 rw [zx]
 simp only [RT.run]
 obtain ⟨v, h1, h2, hv, this⟩ := zgB a b c d e f hl c.length 0 0 (by omega) (by omega)
 rw [show ((0 : Nat) : Int) = 0 from rfl, ← List.range_eq_range'] at this
 rw [this, Option.bind_some, zbg (by omega)]
 unfold zdg
 cases (List.range c.length).all (fun (k : Nat) => zfd c d f (k : Int)) with
 | false => rfl
 | true =>
  have hv' : v = (runs c 0 c.length : Int) := by rw [hv]; simp
  subst hv'
  rw [if_pos (by rfl), if_pos]
  ·rw [Bool.true_and]; rfl
  ·by_cases h0 : c.length = 0
   ·simp [h0]
   ·rw [zbc.2 ⟨by omega, by omega⟩]; rfl
def zgm : (Int × (List Bool) × (List Tk) × (List Th) × (List Lk) × (List Int) × Int × Int) → Int → RT Int (LR Unit Unit)
| (s, l_0, l_1, l_2, l_3, l_4, l_5, t_1), x5 =>
 .rq 5 (.ite (decide (x5 < (l_2.length : Int)))
 (.rq 15 (.ite (((isV l_2 x5 (6 : Int) s)) && ((t_1 == (-1)) || (t_1 == x5)))
 (.rq 1 (.done (.ex ())))
 (.rq 3 (.again (w64 (x5 + 1))))))
 (.done (.rt ())))
def zJ_p13470 : zaV := ⟨13470, true, [tI, .sl tB, .sl yK, .sl yH, .sl yL, .sl tI, tI, tB, tI], [tI], ⟨[.keep [1, 3, 4, 5], .gc], [1, 3, 4, 5], [.lf (qp 16), .lf (qi 0), .lf (qp 64), .lf (qm 0)], [(16, true, .cells [qi 1, qi 2, qi 3, qi 4, qi 5, qi 6]), (64, true, .cells [qi 7, qi 8])]⟩, [⟨1, ⟨[.keep [2], .gc], [2], [.lf (.fix (.bool false))], []⟩, []⟩, ⟨4, ⟨[.keep [1, 3], .gc], [1, 3], [.lf (qp 16), .lf (qi 0)], [(16, true, .cells [qi 1, qi 2, qi 3, qi 4, qi 5, qi 6])]⟩, []⟩], (fun i => zgm (i.1, i.2.1, i.2.2.1, i.2.2.2.1, i.2.2.2.2.1, i.2.2.2.2.2.1, i.2.2.2.2.2.2.1, i.2.2.2.2.2.2.2.2))⟩
def zJ_b26 : ((List Bool) × (List Tk) × (List Th) × (List Lk) × (List Int) × Int) → Int → RT Int (LR Unit Unit)
| (l_0, l_1, l_2, l_3, l_4, l_5), s =>
 .rq 5 (.ite (decide (s < (l_3.length : Int)))
 (.rq 3 (.req (inB l_3 s) (.rq 6 (let t0 := w64 (s + 1);
 .ite (!(gI l_3 s).1)
 (.rq 3 (.ite ((gI l_3 s).2 != 0)
 (.rq 1 (.done (.ex ())))
 (.rq 3 (.again t0))))
 (.rq 10 (.ite (((gI l_3 s).2 != (-1)) && (!((inB l_2 (gI l_3 s).2 && (gI l_2 (gI l_3 s).2).1 != 0))))
 (.rq 1 (.done (.ex ())))
 (.rq 1 (.call (lo zgm (s, l_0, l_1, l_2, l_3, l_4, l_5, (gI l_3 s).2) 0) default fun v0 =>
 .ite v0.isRt
 (.rq 3 (.again t0))
 (.done (.ex ()))))))))))
 (.done (.rt ())))
def zJ_p26 : zaV := ⟨26, true, [.sl tB, .sl yK, .sl yH, .sl yL, .sl tI, tI], [tI], ⟨[.keep [1, 3], .gc], [1, 3], [.lf (qp 16), .lf (qm 0)], [(16, true, .cells [qi 0, qi 1, qi 2, qi 3, qi 4, qi 5])]⟩, [⟨1, ⟨[.keep [2], .gc], [2], [.lf (.fix (.bool false))], []⟩, []⟩, ⟨2, ⟨[.keep [1], .gc], [1], [.lf (qp 16)], [(16, true, .cells [qi 0, qi 1, qi 2, qi 3, qi 4, qi 5])]⟩, []⟩], zJ_b26⟩
def zJ : ((List Bool) × (List Tk) × (List Th) × (List Lk) × (List Int) × Int) → RT Unit Bool
| (a0_0, a0_1, a0_2, a0_3, a0_4, a0_5) =>
 .rq 3 (.call (lo zJ_b26 (a0_0, a0_1, a0_2, a0_3, a0_4, a0_5) 0) default fun v1 =>
 .ite v1.isRt
 (.rq 14 (let t0 := (a0_3.length : Int) == 0;
 let t1 := decide ((a0_3.length : Int) ≤ 8);
 let t2 := w64 ((a0_3.length : Int) - 1);
 .req ((inB a0_3 t2) || (!((!t0) && t1))) (.rq 5 (.done (t1 && (t0 || (gI a0_3 t2).1))))))
 (.done false))
def F_zJ (x : (List Bool) × (List Tk) × (List Th) × (List Lk) × (List Int) × Int) : Option Bool := (zJ x).run fun _ => none
def io_zJ : Io := ⟨n_zJ, [.sl tB, .sl yK, .sl yH, .sl yL, .sl tI, tI], [.agg [qm 0, qm 1, qm 2, qm 3, qm 4, qm 5]], [], [[.sl tB, .sl yK, .sl yH, .sl yL, .sl tI, tI]], [tB], .lf (qm 0), [], [], false⟩
def zJ_P : List zaV := [zJ_p13470, zJ_p26]
def zJ_T : zbf := tab [e_zaT, e_zac]
theorem zJ_To : zbd pg zJ_T := zaX ⟨e_zaT_ok, e_zac_ok, trivial⟩
theorem zJ_k13470 : (zJ_p13470).OK pg (zJ_T) (zbu 75 (zJ_P)) (zbh f_zJ) 75 := ⟨by kernel_rfl, fun i x => by kernel_rfl⟩
theorem zJ_k26 : (zJ_p26).OK pg (zJ_T) (zbu 75 (zJ_P)) (zbh f_zJ) 75 := ⟨by kernel_rfl, fun i x => by kernel_rfl⟩
theorem zJ_go : zbt pg (zJ_T) io_zJ f_zJ (zJ_P) [] (zJ) := ⟨by kernel_rfl, by kernel_rfl, fun x => by kernel_rfl⟩
theorem ok_zJ : io_zJ.Okay pg (F_zJ) := zbl zaZ (zJ_To) (zJ_go) ⟨zJ_k13470, zJ_k26, trivial⟩
def lkFine (c : List Th) (i : Int) (l : Lk) : Bool :=
 if (!l.1) = true then !(l.2 != 0) else !((l.2 != (-1)) && (!((inB c l.2 && (gI c l.2).1 != 0)))) && (List.range c.length).all fun (k : Nat) => !((isV c (k : Int) 6 i) && ((l.2 == (-1)) || (l.2 == (k : Int))))
theorem locks_inner (a : List Bool) (b : List Tk) (c : List Th) (d : List Lk) (e : List Int) (f : Int) (i h : Int) (hl : c.length ≤ 1000000) : ∀ (n k : Nat), k + n = c.length →
  lo zgm (i, a, b, c, d, e, f, h) (k : Int) = some (if (List.range' k n).all (fun (k : Nat) => !((isV c (k : Int) 6 i) && ((h == (-1)) || (h == (k : Int))))) = true then .rt () else .ex ())
 | 0, k, hk => by
  rw [zbi, zgm]
  simp only [RT.run]
  rw [if_neg (by simp; omega)]
  rfl
 | n + 1, k, hk => by
  rw [zbi, zgm]
  simp only [RT.run]
  rw [if_pos (by simp; omega), zbg (by omega), show (k : Int) + 1 = ((k + 1 : Nat) : Int) by omega, locks_inner a b c d e f i h hl n (k + 1) (by omega), List.range'_succ, List.all_cons]
  generalize (List.range' (k + 1) n).all (fun (k : Nat) => !((isV c (k : Int) 6 i) && ((h == (-1)) || (h == (k : Int))))) = q
  split
  ·rename_i h3; rw [h3]; simp
  ·rename_i h3; rw [Bool.eq_false_iff.2 h3]; simp
theorem locks_loop (a : List Bool) (b : List Tk) (c : List Th) (d : List Lk) (e : List Int) (f : Int) (hl : c.length ≤ 1000000) (hd : d.length ≤ 1000000) : ∀ (n i : Nat), i + n = d.length →
  lo zJ_b26 (a, b, c, d, e, f) (i : Int) = some (if (List.range' i n).all (fun (k : Nat) => lkFine c (k : Int) (gI d (k : Int))) = true then .rt () else .ex ())
 | 0, i, h => by
  rw [zbi, zJ_b26]
  simp only [RT.run]
  rw [if_neg (by simp; omega)]
  rfl
 | n + 1, i, h => by
  have hi : i < d.length := by omega
  have hin := locks_inner a b c d e f (i : Int) (gI d (i : Int)).2 hl c.length 0 (by omega)
  rw [show ((0 : Nat) : Int) = 0 from rfl, ← List.range_eq_range'] at hin
  rw [zbi, zJ_b26]
  simp only [RT.run]
  rw [if_pos (by simp; omega), if_pos (zbc.2 ⟨by omega, by omega⟩), zbg (by omega), show (i : Int) + 1 = ((i + 1 : Nat) : Int) by omega, locks_loop a b c d e f hl hd n (i + 1) (by omega), List.range'_succ, List.all_cons, hin, Option.bind_some]
  generalize (List.range' (i + 1) n).all (fun (k : Nat) => lkFine c (k : Int) (gI d (k : Int))) = q
  unfold lkFine
  generalize (List.range c.length).all (fun (k : Nat) => !((isV c (k : Int) 6 (i : Int)) && (((gI d (i : Int)).2 == (-1)) || ((gI d (i : Int)).2 == (k : Int))))) = q2
  by_cases h1 : (!(gI d (i : Int)).1) = true
  ·rw [if_pos h1, if_pos h1]
   cases ((gI d (i : Int)).2 != 0) <;> simp
  ·rw [if_neg h1, if_neg h1]
   split
   ·rename_i h2; rw [h2]; simp
   ·rename_i h2
    rw [Bool.eq_false_iff.2 h2]
    cases q2 <;> simp [LR.isRt]
def locksV (c : List Th) (d : List Lk) : Bool := (List.range d.length).all (fun (k : Nat) => lkFine c (k : Int) (gI d (k : Int))) &&
 (decide ((d.length : Int) ≤ 8) && (((d.length : Int) == 0) || (gI d ((d.length : Int) - 1)).1))
def e_zJ : zbj := io_zJ.sp (fun (a, b, c, d, e, f) => (decide (c.length ≤ 1000000) && decide (d.length ≤ 1000000))) (fun (a, b, c, d, e, f) => (locksV c d))
theorem sp_zJ (h : ∀ (a : List Bool) (b : List Tk) (c : List Th) (d : List Lk) (e : List Int) (f : Int), WfT [.sl tB, .sl yK, .sl yH, .sl yL, .sl tI, tI] (a, b, c, d, e, f) → ((decide (c.length ≤ 1000000) && decide (d.length ≤ 1000000))) = true → (zJ (a, b, c, d, e, f)).run (fun _ => none) = some (locksV c d)) : e_zJ.ok pg := zbo ok_zJ fun (a, b, c, d, e, f) hw hc => h a b c d e f hw hc
theorem e_zJ_ok : e_zJ.ok pg := sp_zJ fun a b c d e f _ hc => by
 rw [Bool.and_eq_true] at hc
 have hl := of_decide_eq_true hc.1
 have hd := of_decide_eq_true hc.2
 rw [zJ]
 simp only [RT.run]
 have := locks_loop a b c d e f hl hd d.length 0 (by omega)
 rw [show ((0 : Nat) : Int) = 0 from rfl, ← List.range_eq_range'] at this
 rw [this, Option.bind_some, zbg (by omega)]
 unfold locksV
 cases (List.range d.length).all (fun (k : Nat) => lkFine c (k : Int) (gI d (k : Int))) with
 | false => rfl
 | true =>
  rw [if_pos (by rfl), if_pos]
  ·rw [Bool.true_and]
  ·by_cases h0 : d.length = 0
   ·simp [h0]
   ·rw [zbc.2 ⟨by omega, by omega⟩]; rfl
def zj_b6730 : (Int × (List Int)) → (Int × Int) → RT (Int × Int) Int
| (s, l_4), (t, x5) =>
 .rq 5 (.ite (decide (x5 < (l_4.length : Int)))
 (.rq 3 (.req (inB l_4 x5) (.rq 3 (let t0 := w64 (x5 + 1);
 .ite ((gI l_4 x5) == s)
 (.rq 6 (.again (w64 (t + 1), t0)))
 (.rq 3 (.again (t, t0)))))))
 (.done t))
def zj_p6730 : zaV := ⟨6730, true, [tI, .sl tB, .sl yK, .sl yH, .sl yL, .sl tI, tI], [tI, tI], ⟨[.keep [1, 3, 4, 5], .gc], [1, 3, 4, 5], [.lf (qp 16), .lf (qi 0), .lf (qm 0), .lf (qm 1)], [(16, true, .cells [qi 1, qi 2, qi 3, qi 4, qi 5, qi 6])]⟩, [⟨4, ⟨[.keep [1, 3, 4], .gc], [1, 3, 4], [.lf (qp 16), .lf (qi 0), .lf (qm 0)], [(16, true, .cells [qi 1, qi 2, qi 3, qi 4, qi 5, qi 6])]⟩, [tI]⟩], (fun i => zj_b6730 (i.1, i.2.2.2.2.2.1))⟩
def zj_b6734 : (Int × Int × (List Th)) → RT Unit Bool
| (s, t, l_2) =>
 .rq 3 (let t0 := inB l_2 (gI l_2 s).2.1;
 let t1 := (gI l_2 (gI l_2 s).2.1).1 == 5;
 .ite (t == 1)
 (.rq 3 (.req (inB l_2 s) (.rq 5 (.ite ((gI l_2 s).1 == 4)
 (.rq 5 (.req (inB l_2 s) (.rq 2 (.req t0 (.rq 4 (.done t1))))))
 (.rq 1 (.done false))))))
 (.rq 2 (.ite false
 (.rq 5 (.req (inB l_2 s) (.rq 2 (.req t0 (.rq 4 (.done t1))))))
 (.rq 1 (.done false)))))
def zj_p6734 : zaV := ⟨6734, false, [tI, tI, .sl tB, .sl yK, .sl yH, .sl yL, .sl tI, tI], [], ⟨[.keep [1, 3, 4], .gc], [1, 3, 4], [.lf (qp 16), .lf (qi 0), .lf (qi 1)], [(16, true, .cells [qi 2, qi 3, qi 4, qi 5, qi 6, qi 7])]⟩, [⟨0, ⟨[.keep [1, 3, 64], .gc], [1, 3, 64], [.lf (qp 16), .lf (qi 0), .lf (qm 0)], [(16, true, .cells [qi 2, qi 3, qi 4, qi 5, qi 6, qi 7])]⟩, [tB]⟩], (fun i _ => zj_b6734 (i.1, i.2.1, i.2.2.2.2.1))⟩
def zj_b26 : ((List Bool) × (List Tk) × (List Th) × (List Lk) × (List Int) × Int) → Int → RT Int (LR Unit Unit)
| (l_0, l_1, l_2, l_3, l_4, l_5), s =>
 .rq 5 (.ite (decide (s < (l_2.length : Int)))
 (.rq 2 (.call (lo zj_b6730 (s, l_4) (0, 0)) default fun v0 =>
 .rq 2 (.call (F_zay (l_0, l_1, l_2, l_3, l_4, l_5, s)) default fun v1 =>
 .rq 7 (.ite (((v1 == (v0 == 1)) != true) || (decide (1 < v0)))
 (.rq 1 (.done (.ex ())))
 (.call (on zj_b6734 (s, v0, l_2)) default fun v2 =>
 .ite v2
 (.rq 1 (.done (.ex ())))
 (.rq 3 (.again (w64 (s + 1)))))))))
 (.done (.rt ())))
def zj_p26 : zaV := ⟨26, true, [.sl tB, .sl yK, .sl yH, .sl yL, .sl tI, tI], [tI], ⟨[.keep [1, 3], .gc], [1, 3], [.lf (qp 16), .lf (qm 0)], [(16, true, .cells [qi 0, qi 1, qi 2, qi 3, qi 4, qi 5])]⟩, [⟨1, ⟨[.keep [2], .gc], [2], [.lf (.fix (.bool false))], []⟩, []⟩, ⟨2, ⟨[.keep [1], .gc], [1], [.lf (qp 16)], [(16, true, .cells [qi 0, qi 1, qi 2, qi 3, qi 4, qi 5])]⟩, []⟩], zj_b26⟩
def zj_b1864 : (Int × (List Th) × (List Int)) → RT Unit Bool
| (x6, l_2, l_4) =>
 .rq 3 (.req (inB l_4 x6) (.rq 3 (.ite (decide ((gI l_4 x6) < 0))
 (.rq 1 (.done true))
 (.rq 3 (.req (inB l_4 x6) (.rq 6 (.done (decide ((l_2.length : Int) ≤ (gI l_4 x6))))))))))
def zj_p1864 : zaV := ⟨1864, false, [tI, .sl tB, .sl yK, .sl yH, .sl yL, .sl tI, tI], [], ⟨[.keep [1, 6], .gc], [1, 6], [.lf (qp 16), .lf (qi 0)], [(16, true, .cells [qi 1, qi 2, qi 3, qi 4, qi 5, qi 6])]⟩, [⟨0, ⟨[.keep [1, 6, 88], .gc], [1, 6, 88], [.lf (qp 16), .lf (qi 0), .lf (qm 0)], [(16, true, .cells [qi 1, qi 2, qi 3, qi 4, qi 5, qi 6])]⟩, [tB]⟩], (fun i _ => zj_b1864 (i.1, i.2.2.2.1, i.2.2.2.2.2.1))⟩
def zj_b58 : ((List Th) × (List Int)) → Int → RT Int (LR Unit Unit)
| (l_2, l_4), x6 =>
 .rq 5 (.ite (decide (x6 < (l_4.length : Int)))
 (.call (on zj_b1864 (x6, l_2, l_4)) default fun v4 =>
 .ite v4
 (.rq 1 (.done (.ex ())))
 (.rq 3 (.again (w64 (x6 + 1)))))
 (.done (.rt ())))
def zj_p58 : zaV := ⟨58, true, [.sl tB, .sl yK, .sl yH, .sl yL, .sl tI, tI], [tI], ⟨[.keep [1, 6], .gc], [1, 6], [.lf (qp 16), .lf (qm 0)], [(16, true, .cells [qi 0, qi 1, qi 2, qi 3, qi 4, qi 5])]⟩, [⟨1, ⟨[.keep [2], .gc], [2], [.lf (.fix (.bool false))], []⟩, []⟩, ⟨6, ⟨[.keep [], .gc], [], [], []⟩, []⟩], (fun i => zj_b58 (i.2.2.1, i.2.2.2.2.1))⟩
def zj : ((List Bool) × (List Tk) × (List Th) × (List Lk) × (List Int) × Int) → RT Unit Bool
| (a0_0, a0_1, a0_2, a0_3, a0_4, a0_5) =>
 .rq 3 (.call (lo zj_b26 (a0_0, a0_1, a0_2, a0_3, a0_4, a0_5) 0) default fun v3 =>
 .ite v3.isRt
 (.rq 1 (.call (lo zj_b58 (a0_2, a0_4) 0) default fun v5 =>
 .ite v5.isRt
 (.rq 1 (.done true))
 (.done false)))
 (.done false))
def F_zj (x : (List Bool) × (List Tk) × (List Th) × (List Lk) × (List Int) × Int) : Option Bool := (zj x).run fun _ => none
def io_zj : Io := ⟨n_zj, [.sl tB, .sl yK, .sl yH, .sl yL, .sl tI, tI], [.agg [qm 0, qm 1, qm 2, qm 3, qm 4, qm 5]], [], [[.sl tB, .sl yK, .sl yH, .sl yL, .sl tI, tI]], [tB], .lf (qm 0), [], [], false⟩
def zj_P : List zaV := [zj_p6730, zj_p6734, zj_p26, zj_p1864, zj_p58]
def zj_T : zbf := tab [e_zay]
theorem zj_To : zbd pg zj_T := zaX ⟨e_zay_ok, trivial⟩
theorem zj_k6730 : (zj_p6730).OK pg (zj_T) (zbu 89 (zj_P)) (zbh f_zj) 89 := ⟨by kernel_rfl, fun i x => by kernel_rfl⟩
theorem zj_k6734 : (zj_p6734).OK pg (zj_T) (zbu 89 (zj_P)) (zbh f_zj) 89 := ⟨by kernel_rfl, fun i x => by kernel_rfl⟩
theorem zj_k26 : (zj_p26).OK pg (zj_T) (zbu 89 (zj_P)) (zbh f_zj) 89 := ⟨by kernel_rfl, fun i x => by kernel_rfl⟩
theorem zj_k1864 : (zj_p1864).OK pg (zj_T) (zbu 89 (zj_P)) (zbh f_zj) 89 := ⟨by kernel_rfl, fun i x => by kernel_rfl⟩
theorem zj_k58 : (zj_p58).OK pg (zj_T) (zbu 89 (zj_P)) (zbh f_zj) 89 := ⟨by kernel_rfl, fun i x => by kernel_rfl⟩
theorem zj_go : zbt pg (zj_T) io_zj f_zj (zj_P) [] (zj) := ⟨by kernel_rfl, by kernel_rfl, fun x => by kernel_rfl⟩
theorem ok_zj : io_zj.Okay pg (F_zj) := zbl zaZ (zj_To) (zj_go) ⟨zj_k6730, zj_k6734, zj_k26, zj_k1864, zj_k58, trivial⟩
def queuesV (c : List Th) (i : Int) : Bool := if ((gI c i).1 == 4) = true then (gI c (gI c i).2.1).2.2.1 != i else (gI c i).1 == 6
def qOne (c : List Th) (e : List Int) (i : Int) : Bool :=
 !(((queuesV c i == ((e.count i : Int) == 1)) != true) || (decide (1 < (e.count i : Int)))) && !(((e.count i : Int) == 1) && ((gI c i).1 == 4 && (gI c (gI c i).2.1).1 == 5))
def waitOK (c : List Th) : Bool := (List.range c.length).all fun (k : Nat) => !((gI c (k : Int)).1 == 4) || inB c (gI c (k : Int)).2.1
theorem zgT (e : List Int) (s : Int) (he : e.length ≤ 1000000) : ∀ (n k t : Nat), k + n = e.length → t ≤ k → lo zj_b6730 (s, e) ((t : Int), (k : Int)) = some ((t + (e.drop k).count s : Nat) : Int)
 | 0, k, t, h, _ => by
  rw [zbi, zj_b6730]
  simp only [RT.run]
  rw [if_neg (by simp; omega), List.drop_eq_nil_of_le (by omega)]
  simp
 | n + 1, k, t, h, ht => by
  have hk : k < e.length := by omega
  rw [zbi, zj_b6730]
  simp only [RT.run]
  rw [if_pos (by simp; omega), if_pos (zbc.2 ⟨by omega, by omega⟩), zbg (by omega), zbg (by omega), show (k : Int) + 1 = ((k + 1 : Nat) : Int) by omega, show (t : Int) + 1 = ((t + 1 : Nat) : Int) by omega,
   zgT e s he n (k + 1) (t + 1) (by omega) (by omega), zgT e s he n (k + 1) t (by omega) (by omega), zbD hk, List.drop_eq_getElem_cons hk, List.count_cons]
  split <;> congr 2 <;> omega
theorem queue_b58 (c : List Th) (e : List Int) (he : e.length ≤ 1000000) : ∀ (n k : Nat), k + n = e.length → lo zj_b58 (c, e) (k : Int) = some (if (e.drop k).all (inB c) = true then .rt () else .ex ())
 | 0, k, h => by
  rw [zbi, zj_b58]
  simp only [RT.run]
  rw [if_neg (by simp; omega), List.drop_eq_nil_of_le (by omega)]
  rfl
 | n + 1, k, h => by
  have hk : k < e.length := by omega
  have hin : inB e (k : Int) = true := zbc.2 ⟨by omega, by omega⟩
  have hb : on zj_b1864 ((k : Int), c, e) = some (!(inB c e[k])) := by
   show (zj_b1864 _).run _ = _
   rw [zj_b1864]
   simp only [RT.run]
   rw [if_pos hin, if_pos hin, zbD hk]
   unfold inB
   by_cases h0 : e[k] < 0
   ·rw [if_pos (by simpa using h0), decide_eq_false (show ¬ 0 ≤ e[k] by omega)]; rfl
   ·rw [if_neg (by simpa using h0)]
    by_cases h1 : (c.length : Int) ≤ e[k]
    ·rw [decide_eq_true h1, decide_eq_false (show ¬ e[k] < (c.length : Int) by omega), Bool.and_false]; rfl
    ·rw [decide_eq_false h1, decide_eq_true (show 0 ≤ e[k] by omega), decide_eq_true (show e[k] < (c.length : Int) by omega)]; rfl
  rw [zbi, zj_b58]
  simp only [RT.run]
  rw [if_pos (by simp; omega), hb, Option.bind_some, zbg (by omega), show (k : Int) + 1 = ((k + 1 : Nat) : Int) by omega, queue_b58 c e he n (k + 1) (by omega), List.drop_eq_getElem_cons hk, List.all_cons]
  cases inB c e[k] <;> simp
theorem queue_loop (a : List Bool) (b : List Tk) (c : List Th) (d : List Lk) (e : List Int) (f : Int) (hl : c.length ≤ 1000000) (he : e.length ≤ 1000000) (hw : waitOK c = true) : ∀ (n i : Nat), i + n = c.length →
  lo zj_b26 (a, b, c, d, e, f) (i : Int) = some (if (List.range' i n).all (fun (k : Nat) => qOne c e (k : Int)) = true then .rt () else .ex ())
 | 0, i, h => by
  rw [zbi, zj_b26]
  simp only [RT.run]
  rw [if_neg (by simp; omega)]
  rfl
 | n + 1, i, h => by
  have hi : i < c.length := by omega
  have hin : inB c (i : Int) = true := zbc.2 ⟨by omega, by omega⟩
  have hwi := List.all_eq_true.1 hw i (List.mem_range.2 hi)
  have hcnt := zgT e (i : Int) he e.length 0 0 (by omega) (by omega)
  rw [show ((0 : Nat) : Int) = 0 from rfl, List.drop_zero, Nat.zero_add] at hcnt
  have hq : F_zay (a, b, c, d, e, f, (i : Int)) = some (queuesV c (i : Int)) := by
   show (zay _).run _ = _
   rw [zay]
   simp only [RT.run]
   unfold queuesV
   rw [if_pos hin]
   by_cases h4 : ((gI c (i : Int)).1 == 4) = true
   ·rw [h4] at hwi
    rw [if_pos h4, if_pos (by simpa using hwi), if_pos h4]
   ·rw [if_neg h4, if_neg h4]
  have hb : on zj_b6734 ((i : Int), (e.count (i : Int) : Int), c) = some (((e.count (i : Int) : Int) == 1) && ((gI c (i : Int)).1 == 4 && (gI c (gI c (i : Int)).2.1).1 == 5)) := by
   show (zj_b6734 _).run _ = _
   rw [zj_b6734]
   simp only [RT.run]
   rw [if_pos hin]
   by_cases h1 : ((e.count (i : Int) : Int) == 1) = true
   ·rw [if_pos h1, h1]
    by_cases h4 : ((gI c (i : Int)).1 == 4) = true
    ·rw [h4] at hwi
     rw [if_pos h4, if_pos hin, if_pos (by simpa using hwi), h4]; rfl
    ·rw [if_neg h4, Bool.eq_false_iff.2 h4]; rfl
   ·rw [if_neg h1, Bool.eq_false_iff.2 h1]; rfl
  rw [zbi, zj_b26]
  simp only [RT.run]
  rw [if_pos (by simp; omega), hcnt, Option.bind_some, hq, Option.bind_some, hb, Option.bind_some, zbg (by omega), show (i : Int) + 1 = ((i + 1 : Nat) : Int) by omega, queue_loop a b c d e f hl he hw n (i + 1) (by omega), List.range'_succ, List.all_cons]
  generalize (List.range' (i + 1) n).all (fun (k : Nat) => qOne c e (k : Int)) = q
  unfold qOne
  split
  ·rename_i h2; rw [h2]; simp
  ·rename_i h2
   rw [Bool.eq_false_iff.2 h2]
   cases (((e.count (i : Int) : Int) == 1) && ((gI c (i : Int)).1 == 4 && (gI c (gI c (i : Int)).2.1).1 == 5)) <;> simp
def queueV (c : List Th) (e : List Int) : Bool := (List.range c.length).all (fun (k : Nat) => qOne c e (k : Int)) && e.all (inB c)
def e_zj : zbj := io_zj.sp (fun (a, b, c, d, e, f) => ((decide (c.length ≤ 1000000) && decide (e.length ≤ 1000000)) && waitOK c)) (fun (a, b, c, d, e, f) => (queueV c e))
theorem sp_zj (h : ∀ (a : List Bool) (b : List Tk) (c : List Th) (d : List Lk) (e : List Int) (f : Int), WfT [.sl tB, .sl yK, .sl yH, .sl yL, .sl tI, tI] (a, b, c, d, e, f) → (((decide (c.length ≤ 1000000) && decide (e.length ≤ 1000000)) && waitOK c)) = true → (zj (a, b, c, d, e, f)).run (fun _ => none) = some (queueV c e)) : e_zj.ok pg := zbo ok_zj fun (a, b, c, d, e, f) hw hc => h a b c d e f hw hc
theorem e_zj_ok : e_zj.ok pg := sp_zj fun a b c d e f _ hc => by
 simp only [Bool.and_eq_true, decide_eq_true_eq] at hc
 obtain ⟨⟨hl, he⟩, hw⟩ := hc
 rw [zj]
 simp only [RT.run]
 have h1 := queue_loop a b c d e f hl he hw c.length 0 (by omega)
 have h2 := queue_b58 c e he e.length 0 (by omega)
 rw [show ((0 : Nat) : Int) = 0 from rfl, ← List.range_eq_range'] at h1
 rw [show ((0 : Nat) : Int) = 0 from rfl, List.drop_zero] at h2
 rw [h1, Option.bind_some, h2, Option.bind_some]
 unfold queueV
 cases (List.range c.length).all (fun (k : Nat) => qOne c e (k : Int)) with
 | false => rfl
 | true => cases e.all (inB c) <;> rfl
theorem wait_of_threads {c : List Th} {d : List Lk} {f : Int} (h : zdg c d f = true) : waitOK c = true := by
 refine List.all_eq_true.2 fun k hk => ?_
 unfold zdg at h
 simp only [Bool.and_eq_true] at h
 have h1 := List.all_eq_true.1 h.1 k hk
 unfold zfd at h1
 by_cases h4 : (gI c (k : Int)).1 = 4
 ·rw [if_neg (by rw [h4]; decide)] at h1
  rw [h4] at h1
  have : inB c (gI c (k : Int)).2.1 = true := by
   cases hin : inB c (gI c (k : Int)).2.1 with
   | true => rfl
   | false => rw [hin] at h1; simp at h1
  rw [this]; simp
 ·have : ((gI c (k : Int)).1 == 4) = false := by simpa using h4
  rw [this]; rfl
theorem zfN {c : List Th} {d : List Lk} {f : Int} (h : zdg c d f = true) : thrOK c d = true := by
 refine List.all_eq_true.2 fun t ht => ?_
 obtain ⟨k, hk, rfl⟩ := List.mem_iff_getElem.1 ht
 unfold zdg at h
 simp only [Bool.and_eq_true] at h
 have h1 := List.all_eq_true.1 h.1 k (List.mem_range.2 hk)
 unfold zfd at h1
 rw [zbD hk] at h1
 by_cases h6 : c[k].1 = 6
 ·rw [if_neg (by rw [h6]; decide)] at h1
  rw [h6] at h1
  have : inB d c[k].2.1 = true := by
   cases hin : inB d c[k].2.1 with
   | true => rfl
   | false => rw [hin] at h1; simp at h1
  rw [this]; simp
 ·have : (c[k].1 == 6) = false := by simpa using h6
  rw [this]; rfl
def zaJ : ((List Bool) × (List Tk) × (List Th) × (List Lk) × (List Int) × Int) → RT Unit Bool
| (s_0, s_1, s_2, s_3, s_4, s_5) =>
 .rq 31 (.done (((((decide ((s_0.length : Int) ≤ 40)) && (decide ((s_1.length : Int) ≤ 200))) && (decide ((s_2.length : Int) ≤ 80))) && (decide ((s_3.length : Int) ≤ 40))) && (decide ((s_4.length : Int) ≤ 100))))
def F_zaJ (x : (List Bool) × (List Tk) × (List Th) × (List Lk) × (List Int) × Int) : Option Bool := (zaJ x).run fun _ => none
def io_zaJ : Io := ⟨n_zaJ, [.sl tB, .sl yK, .sl yH, .sl yL, .sl tI, tI], [.agg [qm 0, qm 1, qm 2, qm 3, qm 4, qm 5]], [], [[.sl tB, .sl yK, .sl yH, .sl yL, .sl tI, tI]], [tB], .lf (qm 0), [], [], false⟩
def zaJ_P : List zaV := []
def zaJ_T : zbf := tab []
theorem zaJ_To : zbd pg zaJ_T := zaX trivial
theorem zaJ_go : zbt pg (zaJ_T) io_zaJ f_zaJ (zaJ_P) [] (zaJ) := ⟨by kernel_rfl, by kernel_rfl, fun x => by kernel_rfl⟩
theorem ok_zaJ : io_zaJ.Okay pg (F_zaJ) := zbl zaZ (zaJ_To) (zaJ_go) trivial
def smallV (a : List Bool) (b : List Tk) (c : List Th) (d : List Lk) (e : List Int) : Bool :=
 ((((decide ((a.length : Int) ≤ 40)) && (decide ((b.length : Int) ≤ 200))) && (decide ((c.length : Int) ≤ 80))) && (decide ((d.length : Int) ≤ 40))) && (decide ((e.length : Int) ≤ 100))
def e_zaJ : zbj := io_zaJ.sp (fun (a, b, c, d, e, f) => true) (fun (a, b, c, d, e, f) => (smallV a b c d e))
theorem sp_zaJ (h : ∀ (a : List Bool) (b : List Tk) (c : List Th) (d : List Lk) (e : List Int) (f : Int), WfT [.sl tB, .sl yK, .sl yH, .sl yL, .sl tI, tI] (a, b, c, d, e, f) → (zaJ (a, b, c, d, e, f)).run (fun _ => none) = some (smallV a b c d e)) : e_zaJ.ok pg := zbo ok_zaJ fun (a, b, c, d, e, f) hw hc => h a b c d e f hw
theorem e_zaJ_ok : e_zaJ.ok pg := sp_zaJ fun a b c d e f _ => by
 rw [zaJ]; rfl
def zan_b62 : (Int × (List Bool) × (List Tk) × (List Th) × (List Lk) × (List Int) × Int) → RT Unit Bool
| (s, l_0, l_1, l_2, l_3, l_4, l_5) =>
 .rq 2 (.req ((decide (l_1.length ≤ 1000000))) (let t0 := (zbM l_1);
 .req ((decide (t0.length ≤ 4000000) && (decide (0 ≤ s) && decide (s ≤ 1000000)))) (.rq 2 (.ite (!((zdo s.toNat t0)))
 (.rq 4 (.req ((decide (l_2.length ≤ 1000000) && thrOK l_2 l_3)) (let t1 := (zbI l_2 l_3);
 .req ((decide (t1.length ≤ 4000000) && (decide (0 ≤ (l_2.length : Int)) && decide ((l_2.length : Int) ≤ 1000000)))) (.rq 3 (.done (!((zdo (l_2.length : Int).toNat t1))))))))
 (.rq 2 (.done false))))))
def zan_p62 : zaV := ⟨62, false, [tI, .sl tB, .sl yK, .sl yH, .sl yL, .sl tI, tI], [], ⟨[.keep [1, 3], .gc], [1, 3], [.lf (qp 16), .lf (qi 0)], [(16, true, .cells [qi 1, qi 2, qi 3, qi 4, qi 5, qi 6])]⟩, [⟨0, ⟨[.keep [2], .gc], [2], [.lf (qm 0)], []⟩, [tB]⟩], (fun i _ => zan_b62 i)⟩
def zan : ((List Bool) × (List Tk) × (List Th) × (List Lk) × (List Int) × Int) → RT Unit Bool
| (a0_0, a0_1, a0_2, a0_3, a0_4, a0_5) =>
 .rq 25 (let t0 := (((decide (a0_5 < 1)) || (decide (1000 < a0_5))) || (decide ((a0_0.length : Int) < 1))) || (decide (16 < (a0_0.length : Int)));
 .req ((inB a0_0 0) || (!(!t0))) (.rq 8 (let t1 := w64 ((a0_0.length : Int) - 1);
 let t2 := t0 || (!(gI a0_0 0));
 .req ((inB a0_0 t1) || (!(!t2))) (.rq 3 (.ite (t2 || (!(gI a0_0 t1)))
 (.rq 1 (.done false))
 (.rq 1 (.req ((decide (a0_1.length ≤ 1000000))) (.rq 3 (let t3 := !((zdT a0_0 a0_1 a0_2));
 .req (((decide (a0_2.length ≤ 1000000))) || (!(!t3))) (.rq 4 (let t4 := t3 || (!((zdg a0_2 a0_3 a0_5)));
 .req (((decide (a0_2.length ≤ 1000000) && decide (a0_3.length ≤ 1000000))) || (!(!t4))) (.rq 4 (let t5 := t4 || (!((locksV a0_2 a0_3)));
 .req ((((decide (a0_2.length ≤ 1000000) && decide (a0_4.length ≤ 1000000)) && waitOK a0_2)) || (!(!t5))) (.rq 2 (.ite (t5 || (!((queueV a0_2 a0_4))))
 (.rq 1 (.done false))
 (.call (on zan_b62 ((a0_0.length : Int), a0_0, a0_1, a0_2, a0_3, a0_4, a0_5)) default fun v0 =>
 .done v0))))))))))))))))
def F_zan (x : (List Bool) × (List Tk) × (List Th) × (List Lk) × (List Int) × Int) : Option Bool := (zan x).run fun _ => none
def io_zan : Io := ⟨n_zan, [.sl tB, .sl yK, .sl yH, .sl yL, .sl tI, tI], [.agg [qm 0, qm 1, qm 2, qm 3, qm 4, qm 5]], [], [[.sl tB, .sl yK, .sl yH, .sl yL, .sl tI, tI]], [tB], .lf (qm 0), [], [], false⟩
def zan_P : List zaV := [zan_p62]
def zan_T : zbf := tab [e_zj, e_zJ, e_zx, e_zO, e_zak, e_zh, e_zA]
theorem zan_To : zbd pg zan_T := zaX ⟨e_zj_ok, e_zJ_ok, e_zx_ok, e_zO_ok, e_zak_ok, e_zh_ok, e_zA_ok, trivial⟩
theorem zan_k62 : (zan_p62).OK pg (zan_T) (zbu 71 (zan_P)) (zbh f_zan) 71 := ⟨by kernel_rfl, fun i x => by kernel_rfl⟩
theorem zan_go : zbt pg (zan_T) io_zan f_zan (zan_P) [] (zan) := ⟨by kernel_rfl, by kernel_rfl, fun x => by kernel_rfl⟩
theorem ok_zan : io_zan.Okay pg (F_zan) := zbl zaZ (zan_To) (zan_go) ⟨zan_k62, trivial⟩
def fineV (a : List Bool) (b : List Tk) (c : List Th) (d : List Lk) (e : List Int) (f : Int) : Bool :=
 (!(((((((decide (f < 1)) || (decide (1000 < f))) || (decide ((a.length : Int) < 1))) || (decide (16 < (a.length : Int)))) || (!(gI a 0))) || (!(gI a ((a.length : Int) - 1))))) &&
 (zdT a b c && (zdg c d f && (locksV c d && queueV c e)))) && (!zdo a.length (zbM b) && !zdo c.length (zbI c d))
def e_zan : zbj := io_zan.sp (fun (a, b, c, d, e, f) => (smallV a b c d e)) (fun (a, b, c, d, e, f) => (fineV a b c d e f))
theorem sp_zan (h : ∀ (a : List Bool) (b : List Tk) (c : List Th) (d : List Lk) (e : List Int) (f : Int), WfT [.sl tB, .sl yK, .sl yH, .sl yL, .sl tI, tI] (a, b, c, d, e, f) → ((smallV a b c d e)) = true → (zan (a, b, c, d, e, f)).run (fun _ => none) = some (fineV a b c d e f)) : e_zan.ok pg := zbo ok_zan fun (a, b, c, d, e, f) hw hc => h a b c d e f hw hc
theorem e_zan_ok : e_zan.ok pg := sp_zan fun a b c d e f _ hc => by
 unfold smallV at hc
 simp only [Bool.and_eq_true, decide_eq_true_eq] at hc
 obtain ⟨⟨⟨⟨ha, hb⟩, hcl⟩, hd⟩, he⟩ := hc
 have la := coinArr_len b
 have lt := thrArr_len c d
 rw [zan]
 simp only [RT.run]
 rw [zbg (by omega)]
 unfold fineV
 generalize hX : ((((decide (f < 1)) || (decide (1000 < f))) || (decide ((a.length : Int) < 1))) || (decide (16 < (a.length : Int)))) = X
 have hin : X = false → inB a 0 = true ∧ inB a ((a.length : Int) - 1) = true := fun h => by
  subst h
  simp only [Bool.or_eq_false_iff, decide_eq_false_iff_not] at hX
  exact ⟨zbc.2 (by omega), zbc.2 (by omega)⟩
 rw [if_pos (by cases X with | true => simp | false => rw [(hin rfl).1]; rfl), if_pos (by cases X with | true => simp | false => rw [(hin rfl).2]; rfl)]
 cases hY : ((X || !(gI a 0)) || !(gI a ((a.length : Int) - 1))) with
 | true => rw [if_pos rfl]; rfl
 | false =>
  rw [if_neg (by simp), if_pos (by simp; omega), if_pos (by simp; omega), if_pos (by simp; omega)]
  cases hT : zdT a b c with
  | false => simp
  | true =>
   cases hH : zdg c d f with
   | false => simp
   | true =>
    cases hL : locksV c d with
    | false => simp
    | true =>
     have hw := wait_of_threads hH
     have ht := zfN hH
     rw [if_pos (by rw [hw]; simp; omega)]
     cases hQ : queueV c e with
     | false => simp
     | true =>
      have : on zan_b62 ((a.length : Int), a, b, c, d, e, f) = some (!zdo a.length (zbM b) && !zdo c.length (zbI c d)) := by
       show (zan_b62 _).run _ = _
       rw [zan_b62]
       simp only [RT.run, Int.toNat_natCast]
       rw [if_pos (by simp; omega), if_pos (by simp; omega)]
       by_cases hr : zdo a.length (zbM b) = true
       ·rw [if_neg (by rw [hr]; decide), hr]; rfl
       ·have hr' := Bool.eq_false_iff.2 hr
        rw [if_pos (by rw [hr']; decide), if_pos (by rw [ht]; simp; omega), if_pos (by simp; omega), hr']; rfl
      rw [this]
      simp
def zab_b58 : (List Tk) → (Int × Int) → RT (Int × Int) Int
| s_1, (n, k) =>
 .rq 5 (.ite (decide (k < (s_1.length : Int)))
 (.rq 3 (.req (inB s_1 k) (.rq 3 (let t0 := w64 (k + 1);
 .ite ((gI s_1 k).2.2.2.1 == 2)
 (.rq 6 (.again (w64 (n + 1), t0)))
 (.rq 3 (.again (n, t0)))))))
 (.done n))
def zab_p58 : zaV := ⟨58, true, [.sl tB, .sl yK, .sl yH, .sl yL, .sl tI, tI], [tI, tI], ⟨[.keep [1, 3, 4], .gc], [1, 3, 4], [.lf (qp 16), .lf (qm 0), .lf (qm 1)], [(16, true, .cells [qi 0, qi 1, qi 2, qi 3, qi 4, qi 5])]⟩, [⟨2, ⟨[.keep [1, 3], .gc], [1, 3], [.lf (qp 16), .lf (qm 0)], [(16, true, .cells [qi 0, qi 1, qi 2, qi 3, qi 4, qi 5])]⟩, [tI]⟩], (fun i => zab_b58 i.2.1)⟩
def zab : ((List Bool) × (List Tk) × (List Th) × (List Lk) × (List Int) × Int) → RT Unit Bool
| (s_0, s_1, s_2, s_3, s_4, s_5) =>
 .rq 4 (.call (lo zab_b58 s_1 (0, 0)) default fun v0 =>
 .rq 9 (.done ((decide ((s_1.length : Int) ≤ 30)) && (decide (v0 ≤ 8)))))
def F_zab (x : (List Bool) × (List Tk) × (List Th) × (List Lk) × (List Int) × Int) : Option Bool := (zab x).run fun _ => none
def io_zab : Io := ⟨n_zab, [.sl tB, .sl yK, .sl yH, .sl yL, .sl tI, tI], [.agg [qm 0, qm 1, qm 2, qm 3, qm 4, qm 5]], [], [[.sl tB, .sl yK, .sl yH, .sl yL, .sl tI, tI]], [tB], .lf (qm 0), [], [], false⟩
def zab_P : List zaV := [zab_p58]
def zab_T : zbf := tab []
theorem zab_To : zbd pg zab_T := zaX trivial
theorem zab_k58 : (zab_p58).OK pg (zab_T) (zbu 29 (zab_P)) (zbh f_zab) 29 := ⟨by kernel_rfl, fun i x => by kernel_rfl⟩
theorem zab_go : zbt pg (zab_T) io_zab f_zab (zab_P) [] (zab) := ⟨by kernel_rfl, by kernel_rfl, fun x => by kernel_rfl⟩
theorem ok_zab : io_zab.Okay pg (F_zab) := zbl zaZ (zab_To) (zab_go) ⟨zab_k58, trivial⟩
def cnt2 (b : List Tk) : Nat := (b.filter fun t => t.2.2.2.1 == 2).length
theorem light_loop (b : List Tk) (hl : b.length ≤ 1000000) : ∀ (d i n : Nat), i + d = b.length → n ≤ i → lo zab_b58 b ((n : Int), (i : Int)) = some ((n + cnt2 (b.drop i) : Nat) : Int)
 | 0, i, n, h, _ => by
  rw [zbi, zab_b58]
  simp only [RT.run]
  rw [if_neg (by simp; omega), List.drop_eq_nil_of_le (by omega)]
  simp [cnt2]
 | d + 1, i, n, h, hn => by
  have hi : i < b.length := by omega
  rw [zbi, zab_b58]
  simp only [RT.run]
  rw [if_pos (by simp; omega), if_pos (zbc.2 ⟨by omega, by omega⟩), zbD hi, List.drop_eq_getElem_cons hi, zbg (by omega), show (i : Int) + 1 = ((i + 1 : Nat) : Int) by omega]
  unfold cnt2
  rw [List.filter_cons]
  by_cases hv : (b[i].2.2.2.1 == 2) = true
  ·rw [if_pos hv, zbg (by omega), show (n : Int) + 1 = ((n + 1 : Nat) : Int) by omega, light_loop b hl d (i + 1) (n + 1) (by omega) (by omega), if_pos hv]
   simp only [cnt2, List.length_cons]
   congr 2; omega
  ·rw [if_neg hv, zbg (by omega), light_loop b hl d (i + 1) n (by omega) (by omega), if_neg hv]
   rfl
def e_zab : zbj := io_zab.sp (fun (a, b, c, d, e, f) => (decide (b.length ≤ 1000000))) (fun (a, b, c, d, e, f) => (decide (b.length ≤ 30) && decide (cnt2 b ≤ 8)))
theorem sp_zab (h : ∀ (a : List Bool) (b : List Tk) (c : List Th) (d : List Lk) (e : List Int) (f : Int), WfT [.sl tB, .sl yK, .sl yH, .sl yL, .sl tI, tI] (a, b, c, d, e, f) → ((decide (b.length ≤ 1000000))) = true → (zab (a, b, c, d, e, f)).run (fun _ => none) = some (decide (b.length ≤ 30) && decide (cnt2 b ≤ 8))) : e_zab.ok pg := zbo ok_zab fun (a, b, c, d, e, f) hw hc => h a b c d e f hw hc
theorem e_zab_ok : e_zab.ok pg := sp_zab fun a b c d e f _ hc => by
 have hl := of_decide_eq_true hc
 rw [zab]
 simp only [RT.run]
 have := light_loop b hl b.length 0 0 (by omega) (by omega)
 rw [show ((0 : Nat) : Int) = 0 from rfl, List.drop_zero, Nat.zero_add] at this
 rw [this, Option.bind_some]
 congr 2
 ·by_cases h : b.length ≤ 30
  ·rw [decide_eq_true h, decide_eq_true (by omega)]
  ·rw [decide_eq_false h, decide_eq_false (by omega)]
 ·by_cases h : cnt2 b ≤ 8
  ·rw [decide_eq_true h, decide_eq_true (by omega)]
  ·rw [decide_eq_false h, decide_eq_false (by omega)]
end
end Go.Proofs.Ytlfdidaeachpoaa
namespace Go.Proofs.Ytlfdidaeachpoaa
open Go Go.RowKit
set_option maxRecDepth 100000
theorem gI_set {α : Type} [Inhabited α] {xs : List α} {i j : Int} {y : α} (hi : 0 ≤ i ∧ i < (xs.length : Int)) (hj : 0 ≤ j) : gI (sI xs i y) j = if i = j then y else gI xs j := by
 obtain ⟨i, rfl⟩ := Int.eq_ofNat_of_zero_le hi.1
 obtain ⟨j, rfl⟩ := Int.eq_ofNat_of_zero_le hj
 have hi' : i < xs.length := by omega
 simp only [zed, sI, Int.toNat_natCast, List.getD_eq_getElem?_getD, List.getElem?_set]
 by_cases h : i = j
 ·subst h; simp [hi']
 ·rw [if_neg h, if_neg (by omega)]
theorem sI_len {α : Type} {xs : List α} {i : Int} {y : α} : (sI xs i y).length = xs.length := by simp [sI]
structure zbe (a : List Bool) (b : List Tk) (c : List Th) (d : List Lk) (e : List Int) (f : Int) : Prop where
 coins : 1 ≤ a.length ∧ a.length ≤ 16 ∧ gI a 0 = true
 tks : zdT a b c = true
 ths : zdg c d f = true
 lks : locksV c d = true
 que : queueV c e = true
 noC : zdo a.length (zbM b) = false
 noT : zdo c.length (zbI c d) = false
 qua : 1 ≤ f ∧ f ≤ 1000
theorem fine0 {a : List Bool} {b : List Tk} {c : List Th} {d : List Lk} {e : List Int} {f : Int} (h : fineV a b c d e f = true) : zbe a b c d e f := by
 unfold fineV at h
 simp only [Bool.and_eq_true, Bool.not_eq_true', Bool.or_eq_false_iff, decide_eq_false_iff_not, Bool.not_eq_false'] at h
 obtain ⟨⟨⟨⟨⟨⟨⟨h1, h2⟩, h3⟩, h4⟩, h5⟩, h6⟩, h7, h8, h9, h10⟩, h11, h12⟩ := h
 exact ⟨⟨by omega, by omega, h5⟩, h7, h8, h9, h10, h11, h12, by omega⟩
def usT (c : List Th) (i : Int) : Bool := inB c i && (gI c i).1 != 0
def usC (a : List Bool) (i : Int) : Bool := inB a i && gI a i
section facts
variable {a : List Bool} {b : List Tk} {c : List Th} {d : List Lk} {e : List Int} {f : Int}
theorem zbe.lenB (H : zbe a b c d e f) : b.length ≤ 96 := by
 have h := H.tks
 unfold zdT at h
 simp only [Bool.and_eq_true, decide_eq_true_eq] at h
 omega
theorem zbe.lenC (H : zbe a b c d e f) : c.length ≤ 32 := by
 have h := H.ths
 unfold zdg at h
 simp only [Bool.and_eq_true, decide_eq_true_eq] at h
 omega
structure TkF (a : List Bool) (c : List Th) (t : Tk) : Prop where
 coin : usC a t.2.1 = true
 amt : 1 ≤ t.2.2.1 ∧ t.2.2.1 ≤ 1048576
 to : (t.2.2.2.1 = 0 ∧ t.2.2.2.2.1 = 0) ∨ (t.2.2.2.1 = 1 ∧ usT c t.2.2.2.2.1 = true) ∨ (t.2.2.2.1 = 2 ∧ t.2.2.2.2.1 ≠ 0 ∧ usC a t.2.2.2.2.1 = true)
theorem gI_mem {α : Type} [Inhabited α] {xs : List α} {k : Int} (hk : 0 ≤ k ∧ k < (xs.length : Int)) : gI xs k ∈ xs := by
 obtain ⟨k, rfl⟩ := Int.eq_ofNat_of_zero_le hk.1
 rw [zbD (by omega)]
 exact List.getElem_mem _
theorem zbe.tk (H : zbe a b c d e f) {k : Int} (hk : 0 ≤ k ∧ k < (b.length : Int)) (hu : (gI b k).1 = true) : TkF a c (gI b k) := by
 have h := H.tks
 unfold zdT at h
 rw [Bool.and_eq_true] at h
 have h1 := List.all_eq_true.1 h.1 _ (gI_mem hk)
 unfold tkFine at h1
 rw [hu] at h1
 simp only [Bool.not_true, Bool.false_eq_true, if_false, Bool.not_eq_true', Bool.or_eq_false_iff, decide_eq_false_iff_not, Bool.not_eq_false', Bool.or_eq_true, Bool.and_eq_true, beq_iff_eq, bne_iff_ne, ne_eq] at h1
 obtain ⟨⟨⟨h2, h3⟩, h4⟩, h5⟩ := h1
 refine ⟨by unfold usC; simp [h2], by omega, ?_⟩
 rcases h5 with (h5 | h5) | h5
 ·exact .inl h5
 ·exact .inr (.inl ⟨h5.1, by unfold usT; simp [h5.2]⟩)
 ·exact .inr (.inr ⟨h5.1.1, h5.1.2, by unfold usC; simp [h5.2]⟩)
theorem zbe.tk0 (H : zbe a b c d e f) {k : Int} (hk : 0 ≤ k ∧ k < (b.length : Int)) (hu : (gI b k).1 = false) : gI b k = (false, 0, 0, 0, 0, false) := by
 have h := H.tks
 unfold zdT at h
 rw [Bool.and_eq_true] at h
 have h1 := List.all_eq_true.1 h.1 _ (gI_mem hk)
 unfold tkFine at h1
 rw [if_pos (by rw [hu]; rfl)] at h1
 simp only [Bool.not_eq_true', bne_eq_false_iff_eq, Bool.and_eq_true, beq_iff_eq] at h1
 obtain ⟨h2, h3, h4, h5, h6, h7, _⟩ := h1
 generalize gI b k = t at *
 obtain ⟨t1, t2, t3, t4, t5, t6⟩ := t
 simp only at h2 h3 h4 h5 h6 h7
 subst h2 h3 h4 h5 h6 h7
 rfl
theorem zbe.th (H : zbe a b c d e f) {i : Int} (hu : usT c i = true) : ((gI c i).1 = 4 → (gI c i).2.1 ≠ i ∧ usT c (gI c i).2.1 = true) ∧ ((gI c i).1 = 6 → inB d (gI c i).2.1 = true ∧ (gI d (gI c i).2.1).1 = true) := by
 have h := H.ths
 unfold usT at hu
 rw [Bool.and_eq_true] at hu
 obtain ⟨hin, hne⟩ := hu
 have hin := zbc.1 hin
 unfold zdg at h
 rw [Bool.and_eq_true] at h
 obtain ⟨k, rfl⟩ := Int.eq_ofNat_of_zero_le hin.1
 have h1 := List.all_eq_true.1 h.1 k (List.mem_range.2 (by omega))
 simp only [bne_iff_ne, ne_eq] at hne
 unfold zfd at h1
 rw [if_neg (by simpa using hne)] at h1
 simp only [Bool.not_eq_true', Bool.or_eq_false_iff] at h1
 have h2 := h1.1.1
 simp only [Bool.not_eq_false'] at h2
 constructor
 ·intro h4
  rw [h4] at h2
  unfold usT
  simp at h2
  exact ⟨h2.1, by simpa using h2.2⟩
 ·intro h6
  rw [h6] at h2
  simp at h2
  exact h2
theorem zbe.lk (H : zbe a b c d e f) {i : Int} (hu : usT c i = true) (h6 : (gI c i).1 = 6) : usT c (gI d (gI c i).2.1).2 = true := by
 obtain ⟨h1, h2⟩ := (H.th hu).2 h6
 have h := H.lks
 unfold usT at hu
 rw [Bool.and_eq_true] at hu
 have hin := zbc.1 hu.1
 have hj := zbc.1 h1
 unfold locksV at h
 rw [Bool.and_eq_true] at h
 obtain ⟨k, rfl⟩ := Int.eq_ofNat_of_zero_le hin.1
 generalize hj' : (gI c (k : Int)).2.1 = j at *
 obtain ⟨j, rfl⟩ := Int.eq_ofNat_of_zero_le hj.1
 have h3 := List.all_eq_true.1 h.1 j (List.mem_range.2 (by omega))
 unfold lkFine at h3
 rw [h2] at h3
 simp only [Bool.not_true, Bool.false_eq_true, if_false, Bool.and_eq_true, Bool.not_eq_true'] at h3
 have h4 := List.all_eq_true.1 h3.2 k (List.mem_range.2 (by omega))
 have h5 : isV c (k : Int) 6 (j : Int) = true := by
  unfold isV
  rw [hu.1, hu.2, h6, hj']
  simp
 rw [h5] at h4
 simp only [Bool.true_and, Bool.not_eq_true', Bool.or_eq_false_iff, beq_eq_false_iff_ne, ne_eq] at h4
 have h7 := h3.1
 cases hq : usT c (gI d (j : Int)).2 with
 | true => rfl
 | false =>
  unfold usT at hq
  rw [hq] at h7
  simp at h7
  exact absurd h7 h4.1
theorem findSome_one {α : Type} (f : Nat → Option α) (i : Nat) (h : ∀ k, k ≠ i → f k = none) : ∀ n, (List.range n).findSome? f = if i < n then f i else none
 | 0 => by simp
 | n + 1 => by
  rw [List.range_succ, List.findSome?_append, findSome_one f i h n]
  by_cases h1 : i < n
  ·rw [if_pos h1, if_pos (by omega)]
   simp only [List.findSome?_cons, List.findSome?_nil]
   rw [h n (by omega)]
   simp
  ·rw [if_neg h1]
   by_cases h2 : i = n
   ·subst h2
    rw [if_pos (by omega)]
    simp only [List.findSome?_cons, List.findSome?_nil, Option.none_or]
    cases f i <;> rfl
   ·rw [if_neg (by omega)]
    simp only [List.findSome?_cons, List.findSome?_nil, Option.none_or]
    rw [h n (by omega)]
theorem nextR_at {i : Nat} (hi : i < c.length) : nextR (zbI c d) (i : Int) = if (gI c (i : Int)).1 == 4 then (gI c (i : Int)).2.1 else if (gI c (i : Int)).1 == 6 then (gI d (gI c (i : Int)).2.1).2 else -1 := by
 have h : (zbI c d).find? (fun x => x.1 == (i : Int)) = (zdJ d (i : Int) (gI c (i : Int))).head? := by
  unfold zbI
  rw [List.find?_flatMap, findSome_one _ i (fun k hk => ?_) c.length, if_pos hi, zed]
  ·unfold zdJ
   cases ((c.getD i default).1 == 4) <;> cases ((c.getD i default).1 == 6) <;> simp
  ·have hne : ((k : Int) == (i : Int)) = false := by simp; omega
   unfold zdJ
   cases ((c.getD k default).1 == 4) <;> cases ((c.getD k default).1 == 6) <;> simp [List.find?_cons, hne]
 unfold nextR
 rw [h]
 unfold zdJ
 by_cases h4 : ((gI c (i : Int)).1 == 4) = true
 ·simp [h4]
 ·rw [if_neg h4, if_neg h4]
  by_cases h6 : ((gI c (i : Int)).1 == 6) = true
  ·simp [h6]
  ·rw [if_neg h6, if_neg h6]; rfl
theorem zcg {i : Int} (h : usT c i = true) : 0 ≤ i ∧ i < (c.length : Int) := by
 unfold usT at h
 rw [Bool.and_eq_true] at h
 exact zbc.1 h.1
theorem zcN {i : Int} (h : usC a i = true) : 0 ≤ i ∧ i < (a.length : Int) := by
 unfold usC at h
 rw [Bool.and_eq_true] at h
 exact zbc.1 h.1
theorem zdn {i : Int} (h : usT c i = true) : zbz c i = ((gI c i).1, (gI c i).2.1, (gI c i).2.2.1, (gI c i).2.2.2.1, (gI c i).2.2.2.2, true) := by
 unfold zbz
 unfold usT at h
 rw [if_pos h]
theorem zgH {i : Int} (h : usT c i = false) : zbz c i = (0, 0, 0, 0, 0, false) := by
 unfold zbz
 rw [if_neg (by unfold usT at h; rw [h]; decide)]
theorem thrArr_mem {i j : Nat} (hi : i < c.length) (hj : j < c.length) (h : ((i : Int), (j : Int)) ∈ zdJ d (i : Int) (gI c (i : Int))) : Arr c.length (zbI c d) i j := by
 refine ⟨((i : Int), (j : Int)), ?_, ?_, rfl, rfl⟩
 ·unfold zbI
  refine List.mem_flatMap.2 ⟨i, List.mem_range.2 hi, ?_⟩
  rwa [zed] at h
 ·simp only [zbK, Bool.and_eq_true, decide_eq_true_eq]
  omega
theorem zbe.next (H : zbe a b c d e f) {i : Int} (hu : usT c i = true) : nextR (zbI c d) i = zdb c d i ∧ (zdb c d i = -1 ∨ (usT c (zdb c d i) = true ∧ Arr c.length (zbI c d) i.toNat (zdb c d i).toNat)) := by
 obtain ⟨h4, h6⟩ := H.th hu
 have hin := zcg hu
 have hlk := H.lk hu
 have hg := zdn hu
 obtain ⟨k, rfl⟩ := Int.eq_ofNat_of_zero_le hin.1
 have hk : k < c.length := by omega
 rw [nextR_at hk]
 unfold zdb
 rw [hg]
 simp only
 by_cases q4 : (gI c (k : Int)).1 = 4
 ·obtain ⟨h1, h2⟩ := h4 q4
  have hj := zcg h2
  have e4 : ((gI c (k : Int)).1 == 4) = true := by simpa using q4
  rw [if_pos e4, if_pos e4]
  refine ⟨rfl, .inr ⟨h2, thrArr_mem (by simpa using hk) (by omega) ?_⟩⟩
  unfold zdJ
  rw [Int.toNat_natCast, if_pos e4, Int.toNat_of_nonneg hj.1]
  simp
 ·have e4 : ¬((gI c (k : Int)).1 == 4) = true := by simpa using q4
  rw [if_neg e4, if_neg e4]
  by_cases q6 : (gI c (k : Int)).1 = 6
  ·obtain ⟨h1, h2⟩ := h6 q6
   have h3 := hlk q6
   have hj := zcg h3
   have e6 : ((gI c (k : Int)).1 == 6) = true := by simpa using q6
   have hgl : zdC d (gI c (k : Int)).2.1 = ((gI d (gI c (k : Int)).2.1).1, (gI d (gI c (k : Int)).2.1).2, true) := by
    unfold zdC
    rw [if_pos (by rw [h1, h2]; rfl)]
   rw [if_pos e6, if_pos e6, hgl]
   refine ⟨rfl, .inr ⟨h3, thrArr_mem (by simpa using hk) (by simp only; omega) ?_⟩⟩
   unfold zdJ
   rw [Int.toNat_natCast, if_neg e4, if_pos e6]
   simp only
   rw [Int.toNat_of_nonneg hj.1]
   simp
  ·have e6 : ¬((gI c (k : Int)).1 == 6) = true := by simpa using q6
   rw [if_neg e6, if_neg e6]
   exact ⟨rfl, .inl rfl⟩
open Classical in
theorem no_way {m : Nat} {l : List (Int × Int)} (h : zdo m l = false) (i : Nat) : ¬ Way m l i i := fun hw => by
 have hno : ¬ ∃ i : Nat, i < m ∧ Way m l i i := fun hx => by rw [ringV_iff.2 hx] at h; cases h
 have hi : i < m := by
  cases hw with
  | one h =>
   obtain ⟨x, _, hok, e1, _⟩ := h
   simp only [zbK, Bool.and_eq_true, decide_eq_true_eq] at hok
   omega
  | more h _ =>
   obtain ⟨x, _, hok, e1, _⟩ := h
   simp only [zbK, Bool.and_eq_true, decide_eq_true_eq] at hok
   omega
 exact hno ⟨i, hi, hw⟩
theorem Way.snoc {m : Nat} {l : List (Int × Int)} {i j k : Nat} (h : Way m l i j) (h' : Arr m l j k) : Way m l i k := h.trans (.one h')
theorem zbe.tail (H : zbe a b c d e f) : ∀ (n : Nat) (p : List Nat) (i : Int), usT c i = true → p.Nodup → (∀ x ∈ p, x < c.length) → (∀ x ∈ p, Way c.length (zbI c d) x i.toNat) → c.length ≤ p.length + n →
  ∃ o, zcP c d n i = some o ∧ tailR c d (n + 1) i = some o ∧ o ≠ [] ∧ ∀ x ∈ o, usT c x = true := by
 intro n
 induction n with
 | zero =>
  intro p i hu hn hl hw hlen
  exfalso
  have hin := zcg hu
  have hi : i.toNat ∉ p := fun h => no_way H.noT _ (hw _ h)
  have := nodup_lt c.length (i.toNat :: p) (List.nodup_cons.2 ⟨hi, hn⟩) (fun x hx => by
   rcases List.mem_cons.1 hx with rfl | hx
   ·omega
   ·exact hl x hx)
  simp at this
  omega
 | succ n ih =>
  intro p i hu hn hl hw hlen
  have hin := zcg hu
  have hi : i.toNat ∉ p := fun h => no_way H.noT _ (hw _ h)
  obtain ⟨hR, hN⟩ := H.next hu
  have hi1 : i ≠ -1 := by omega
  unfold zcP tailR
  rw [if_neg hi1, if_neg (by unfold usT at hu; rw [hu]; decide), hR]
  rcases hN with hN | ⟨hN1, hN2⟩
  ·rw [hN, if_pos (by decide)]
   have : zcP c d n (-1) = some [] := by cases n <;> rfl
   rw [this]
   exact ⟨[i], rfl, rfl, by simp, fun x hx => by rw [List.mem_singleton.1 hx]; exact hu⟩
  ·have hj := zcg hN1
   obtain ⟨o, h1, h2, h3, h4⟩ := ih (i.toNat :: p) (zdb c d i) hN1 (List.nodup_cons.2 ⟨hi, hn⟩) (fun x hx => by
     rcases List.mem_cons.1 hx with rfl | hx
     ·omega
     ·exact hl x hx) (fun x hx => by
     rcases List.mem_cons.1 hx with rfl | hx
     ·exact .one hN2
     ·exact (hw x hx).snoc hN2) (by simp; omega)
   rw [if_neg (by omega), h1, h2]
   exact ⟨i :: o, rfl, rfl, by simp, fun x hx => by
    rcases List.mem_cons.1 hx with rfl | hx
    ·exact hu
    ·exact h4 x hx⟩
theorem zbe.tail0 (H : zbe a b c d e f) {i : Int} (hu : usT c i = true) : ∃ o, zcP c d c.length i = some o ∧ tailR c d (c.length + 1) i = some o ∧ o ≠ [] ∧ ∀ x ∈ o, usT c x = true :=
 H.tail c.length [] i hu List.nodup_nil (fun x hx => by cases hx) (fun x hx => by cases hx) (by simp)
theorem zbe.tailOK (H : zbe a b c d e f) (i : Int) : tailOK c d i = true := by
 unfold Go.Proofs.Ytlfdidaeachpoaa.tailOK
 cases hu : usT c i with
 | false => rw [zgH hu]; rfl
 | true =>
  obtain ⟨o, h1, _⟩ := H.tail0 hu
  rw [h1]; simp
theorem zbe.liveOK (H : zbe a b c d e f) : liveOK c d = true := List.all_eq_true.2 fun i _ => H.tailOK _
theorem zbe.tails (H : zbe a b c d e f) {i : Int} (hu : usT c i = true) : ∃ o, zch c d i = o ∧ zdm c d i = o ∧ zdY c d i = true ∧ o ≠ [] ∧ ∀ x ∈ o, usT c x = true := by
 obtain ⟨o, h1, h2, h3, h4⟩ := H.tail0 hu
 have hl := H.lenC
 refine ⟨o, ?_, ?_, ?_, h3, h4⟩
 ·unfold zch
  rw [zdn hu, h1]; rfl
 ·unfold zdm
  rw [h2]; rfl
 ·unfold zdY
  rw [h2, zfN H.ths, decide_eq_true (by omega)]; rfl
theorem zbe.lives (H : zbe a b c d e f) {i : Int} (hu : usT c i = true) : zfX c d i = true ∧ livesR c d i = zeq c d i := by
 obtain ⟨o, h1, h2, h3, h4, h5⟩ := H.tails hu
 have he : endV c d i = o.getLastD (-1) := by unfold endV; rw [h1]
 have heR : endRV c d i = o.getLastD (-1) := by unfold endRV; rw [h2]
 have hue : usT c (o.getLastD (-1)) = true := by
  apply h5
  rw [List.getLastD_eq_getLast?, List.getLast?_eq_some_getLast h4]
  exact List.getLast_mem h4
 have hin := zcg hue
 constructor
 ·unfold zfX
  rw [h3, heR, zbc.2 hin]; rfl
 ·unfold livesR zeq
  rw [he, heR, zdn hue, decide_eq_true hin.1, Bool.true_and]
theorem zbQ {c' k : Int} : k ∈ zbq b c' ↔ (0 ≤ k ∧ k < (b.length : Int)) ∧ (gI b k).1 = true ∧ (gI b k).2.1 = c' := by
 constructor
 ·intro h
  obtain ⟨h1, h2, h3⟩ := issued_mem h
  exact ⟨⟨h1, h2⟩, h3⟩
 ·rintro ⟨⟨h1, h2⟩, h3, h4⟩
  obtain ⟨j, rfl⟩ := Int.eq_ofNat_of_zero_le h1
  unfold zbq
  refine List.mem_map.2 ⟨j, List.mem_filter.2 ⟨List.mem_range.2 (by omega), ?_⟩, rfl⟩
  unfold isTk
  rw [zed] at h3 h4
  rw [h3, h4]; simp
theorem zdA {l : List Nat} (h : l.Nodup) : (l.map fun (k : Nat) => (k : Int)).Nodup := by
 rw [List.nodup_iff_pairwise_ne, List.pairwise_map]
 exact List.Pairwise.imp (fun h => by omega) (List.nodup_iff_pairwise_ne.1 h)
theorem issued_nodup {c' : Int} : (zbq b c').Nodup := zdA (List.Nodup.sublist List.filter_sublist List.nodup_range)
theorem zbe.arr (H : zbe a b c d e f) {k : Int} (hk : 0 ≤ k ∧ k < (b.length : Int)) (hu : (gI b k).1 = true) (h2 : (gI b k).2.2.2.1 = 2) : ((gI b k).2.1, (gI b k).2.2.2.2.1) ∈ zbM b ∧ zbK a.length ((gI b k).2.1, (gI b k).2.2.2.2.1) = true := by
 have ht := H.tk hk hu
 have h3 := zcN ht.coin
 have h4 : usC a (gI b k).2.2.2.2.1 = true := by
  rcases ht.to with h | h | h
  ·omega
  ·omega
  ·exact h.2.2
 have h5 := zcN h4
 refine ⟨?_, ?_⟩
 ·unfold zbM
  exact List.mem_map.2 ⟨gI b k, List.mem_filter.2 ⟨gI_mem hk, by rw [hu, h2]; rfl⟩, rfl⟩
 ·simp only [zbK, Bool.and_eq_true, decide_eq_true_eq]
  omega
theorem zbe.ord_nodup (_ : zbe a b c d e f) : (zbs a b).Nodup := (zfM a.length (zbM b)).nodup.sublist List.filter_sublist
theorem zbe.ord_mem (H : zbe a b c d e f) {k : Int} : k ∈ zbs a b ↔ usC a k = true := by
 obtain ⟨h1, h2⟩ := ring_order H.noC
 unfold zbs usC
 rw [List.mem_filter, Bool.and_eq_true, zbc]
 constructor
 ·rintro ⟨h3, h4⟩
  exact ⟨(zfM _ _).inr _ h3, h4⟩
 ·rintro ⟨h3, h4⟩
  obtain ⟨j, rfl⟩ := Int.eq_ofNat_of_zero_le h3.1
  exact ⟨ordV_all h2 (by omega), h4⟩
theorem zbe.ord_split (H : zbe a b c d e f) {p q : List Int} {x : Int} (ho : zbs a b = p ++ x :: q) {k : Int} (hk : 0 ≤ k ∧ k < (b.length : Int)) (hu : (gI b k).1 = true) (h2 : (gI b k).2.2.2.1 = 2) (hto : (gI b k).2.2.2.2.1 = x) : (gI b k).2.1 ∈ p := by
 obtain ⟨h3, h4⟩ := H.arr hk hu h2
 have hc := (H.tk hk hu).coin
 unfold usC at hc
 rw [Bool.and_eq_true] at hc
 unfold zbs at ho
 obtain ⟨P, R, e1, e2, e3⟩ := List.filter_eq_append_iff.1 ho
 obtain ⟨S, Q, e4, e5, e6, e7⟩ := List.filter_eq_cons_iff.1 e3
 have := ordV_split (p := P ++ S) (q := Q) (k := x) (by rw [e1, e4, List.append_assoc]) h3 h4 hto
 rw [← e2]
 rcases List.mem_append.1 this with h | h
 ·exact List.mem_filter.2 ⟨h, hc.2⟩
 ·exact absurd hc.2 (e5 _ h)
theorem zbe.ord_to (H : zbe a b c d e f) {p q : List Int} {x : Int} (ho : zbs a b = p ++ x :: q) {k : Int} (hk : 0 ≤ k ∧ k < (b.length : Int)) (hu : (gI b k).1 = true) (h2 : (gI b k).2.2.2.1 = 2) (hc : (gI b k).2.1 ∈ x :: q) : (gI b k).2.2.2.2.1 ∈ q ∧ (gI b k).2.2.2.2.1 ≠ x := by
 have hn := H.ord_nodup
 have h4 : usC a (gI b k).2.2.2.2.1 = true := by
  rcases (H.tk hk hu).to with h | h | h
  ·omega
  ·omega
  ·exact h.2.2
 have hm := H.ord_mem.2 h4
 have hnp : ∀ (p' q' : List Int) (y : Int), zbs a b = p' ++ y :: q' → y = (gI b k).2.2.2.2.1 → (gI b k).2.1 ∈ p' := fun p' q' y ho' hy => H.ord_split ho' hk hu h2 hy.symm
 have hno : ∀ y ∈ p, y ∉ x :: q := by
  rw [ho] at hn
  intro y hy hy'
  exact (List.nodup_append.1 hn).2.2 y hy y hy' rfl
 have hne : (gI b k).2.2.2.2.1 ≠ x := fun h => hno _ (hnp p q x ho h.symm) hc
 refine ⟨?_, hne⟩
 rw [ho] at hm
 rcases List.mem_append.1 hm with h | h
 ·exfalso
  obtain ⟨s, t, rfl⟩ := List.append_of_mem h
  have := hnp s (t ++ x :: q) _ (by rw [ho]; simp) rfl
  exact hno _ (List.mem_append_left _ this) hc
 ·rcases List.mem_cons.1 h with h | h
  ·exact absurd h hne
  ·exact h
end facts
def good (b : List Tk) (lives : List Bool) (am : List Int) (k : Int) : Bool :=
 (gI b k).2.2.2.2.2 && (((gI b k).2.2.2.1 == 1 && gI lives (gI b k).2.2.2.2.1) || ((gI b k).2.2.2.1 == 2 && decide (0 < gI am (gI b k).2.2.2.2.1)))
def zcE (b : List Tk) (q : Bool) (k : Int) : Int := if q = true then (gI b k).2.2.1 else 0
theorem rkCnt_get {b : List Tk} {lives cnt : List Bool} {am : List Int} {k j : Int} (hk : 0 ≤ k ∧ k < (cnt.length : Int)) (hj : 0 ≤ j) (h0 : gI cnt k = false) :
  gI (rkCnt b lives cnt am k) j = if k = j then good b lives am k else gI cnt j := by
 unfold rkCnt good
 by_cases h1 : ((gI b k).2.2.2.1 == 1) = true
 ·have h2 : ((gI b k).2.2.2.1 == 2) = false := by
   rw [beq_iff_eq] at h1; rw [h1]; rfl
  rw [if_pos h1, gI_set hk hj, h1, h2, Bool.true_and, Bool.false_and, Bool.or_false]
 ·rw [if_neg h1]
  by_cases h2 : ((gI b k).2.2.2.1 == 2) = true
  ·rw [if_pos h2, gI_set hk hj, h2, Bool.eq_false_iff.2 h1, Bool.true_and, Bool.false_and, Bool.false_or]
  ·rw [if_neg h2, Bool.eq_false_iff.2 h1, Bool.eq_false_iff.2 h2, Bool.false_and, Bool.false_and, Bool.false_or, Bool.and_false]
   split
   ·rename_i h; rw [← h]; exact h0
   ·rfl
theorem good_same {b : List Tk} {lives : List Bool} {am am' : List Int} {k : Int} (h : (gI b k).2.2.2.1 = 2 → gI am' (gI b k).2.2.2.2.1 = gI am (gI b k).2.2.2.2.1) : good b lives am' k = good b lives am k := by
 unfold good
 by_cases h2 : (gI b k).2.2.2.1 = 2
 ·rw [h h2]
 ·have : ((gI b k).2.2.2.1 == 2) = false := by simpa using h2
  rw [this, Bool.false_and, Bool.false_and]
theorem rk_inner {b : List Tk} {lives : List Bool} {c : Int} : ∀ (l : List Int) (x : List Bool × List Int), l.Nodup → (0 ≤ c ∧ c < (x.2.length : Int)) →
  (∀ k ∈ l, (0 ≤ k ∧ k < (x.1.length : Int)) ∧ gI x.1 k = false ∧ 0 ≤ (gI b k).2.2.1 ∧ (gI b k).2.2.1 ≤ 1048576 ∧ ((gI b k).2.2.2.1 = 2 → 0 ≤ (gI b k).2.2.2.2.1 ∧ (gI b k).2.2.2.2.1 ≠ c)) →
  0 ≤ gI x.2 c → gI x.2 c + 1048576 * (l.length : Int) ≤ 1000000000000 →
  (∀ j : Int, 0 ≤ j → gI (l.foldl (zbN b lives c) x).1 j = if j ∈ l then good b lives x.2 j else gI x.1 j) ∧
  (∀ j : Int, 0 ≤ j → j ≠ c → gI (l.foldl (zbN b lives c) x).2 j = gI x.2 j) ∧
  gI (l.foldl (zbN b lives c) x).2 c = gI x.2 c + (l.map fun k => zcE b (good b lives x.2 k) k).sum
 | [], x, _, _, _, _, _ => ⟨fun j _ => by simp, fun j _ _ => rfl, by simp⟩
 | k :: l, x, hn, hc, hl, h0, hm => by
  obtain ⟨hk1, hk2, hk3, hk4, hk5⟩ := hl k (List.mem_cons_self ..)
  obtain ⟨hkn, hn'⟩ := List.nodup_cons.1 hn
  simp only [List.length_cons, Int.natCast_add, Int.natCast_one] at hm
  have e1 : ∀ j : Int, 0 ≤ j → gI (zbN b lives c x k).1 j = if k = j then good b lives x.2 k else gI x.1 j := fun j hj => rkCnt_get hk1 hj hk2
  have e2 : ∀ j : Int, 0 ≤ j → gI (zbN b lives c x k).2 j = if c = j then gI x.2 c + zcE b (good b lives x.2 k) k else gI x.2 j := fun j hj => by
   have e0 := e1 k hk1.1
   rw [if_pos rfl] at e0
   show gI (if gI (zbN b lives c x k).1 k = true then sI x.2 c (w64 (gI x.2 c + (gI b k).2.2.1)) else x.2) j = _
   rw [e0]
   unfold zcE
   by_cases hg : good b lives x.2 k = true
   ·rw [if_pos hg, if_pos hg, gI_set hc hj, zbg (by omega)]
   ·rw [if_neg hg, if_neg hg, Int.add_zero]
    split
    ·rename_i h; rw [h]
    ·rfl
  have ha : 0 ≤ zcE b (good b lives x.2 k) k ∧ zcE b (good b lives x.2 k) k ≤ 1048576 := by
   unfold zcE; split <;> omega
  have hlen1 : (zbN b lives c x k).1.length = x.1.length := by rw [zbN, zex]
  have hlen2 : (zbN b lives c x k).2.length = x.2.length := by simp only [zbN]; split <;> simp [sI]
  have hgood : ∀ j ∈ l, good b lives (zbN b lives c x k).2 j = good b lives x.2 j := fun j hj => good_same fun h2 => by
   obtain ⟨_, _, _, _, h5⟩ := hl j (List.mem_cons_of_mem _ hj)
   rw [e2 _ (h5 h2).1, if_neg (fun h => (h5 h2).2 h.symm)]
  have hself : good b lives (zbN b lives c x k).2 k = good b lives x.2 k := good_same fun h2 => by
   rw [e2 _ (hk5 h2).1, if_neg (fun h => (hk5 h2).2 h.symm)]
  have ec : gI (zbN b lives c x k).2 c = gI x.2 c + zcE b (good b lives x.2 k) k := by rw [e2 c hc.1, if_pos rfl]
  obtain ⟨i1, i2, i3⟩ := rk_inner l (zbN b lives c x k) hn' (by rw [hlen2]; exact hc) (fun j hj => by
   obtain ⟨h1, h2, h3⟩ := hl j (List.mem_cons_of_mem _ hj)
   refine ⟨by rw [hlen1]; exact h1, ?_, h3⟩
   rw [e1 j h1.1, if_neg (show ¬ k = j from fun h => hkn (by rw [h]; exact hj))]
   exact h2) (by omega) (by omega)
  rw [List.foldl_cons]
  refine ⟨fun j hj => ?_, fun j hj hjc => ?_, ?_⟩
  ·rw [i1 j hj]
   by_cases hjl : j ∈ l
   ·rw [if_pos hjl, if_pos (List.mem_cons_of_mem _ hjl), hgood j hjl]
   ·rw [if_neg hjl, e1 j hj]
    by_cases hjk : k = j
    ·subst hjk
     rw [if_pos rfl, if_pos (List.mem_cons_self ..)]
    ·rw [if_neg hjk, if_neg (fun h => by
      rcases List.mem_cons.1 h with h | h
      ·exact hjk h.symm
      ·exact hjl h)]
  ·rw [i2 j hj hjc, e2 j hj, if_neg (fun h => hjc h.symm)]
  ·rw [i3, ec, List.map_cons, List.sum_cons]
   have : (l.map fun k_1 => zcE b (good b lives (zbN b lives c x k).2 k_1) k_1) = l.map fun k_1 => zcE b (good b lives x.2 k_1) k_1 := List.map_congr_left fun j hj => by rw [hgood j hj]
   rw [this]; omega
structure RkInv (a : List Bool) (b : List Tk) (lives : List Bool) (q : List Int) (x : List Bool × List Int) : Prop where
 len1 : x.1.length = b.length
 len2 : x.2.length = a.length
 cnt : ∀ k : Int, 0 ≤ k ∧ k < (b.length : Int) → gI x.1 k = if (gI b k).1 = true ∧ (gI b k).2.1 ∈ q then good b lives x.2 k else false
 amt : ∀ c ∈ q, gI x.2 c = ((zbq b c).map fun k => zcE b (gI x.1 k) k).sum
 non : ∀ c : Int, 0 ≤ c ∧ c < (a.length : Int) → c ∉ q → gI x.2 c = 0
theorem gI_rep {α : Type} [Inhabited α] {n : Nat} {z : α} {k : Int} (hk : 0 ≤ k ∧ k < (n : Int)) : gI (zbV (n : Int) z) k = z := by
 obtain ⟨j, rfl⟩ := Int.eq_ofNat_of_zero_le hk.1
 have hj : j < n := by omega
 rw [zed]
 simp [zbV, List.getD_eq_getElem?_getD, List.getElem?_replicate, hj]
theorem sum_le {l : List Int} {f : Int → Int} {m : Int} (h : ∀ k ∈ l, 0 ≤ f k ∧ f k ≤ m) : 0 ≤ (l.map f).sum ∧ (l.map f).sum ≤ m * l.length := by
 induction l with
 | nil => simp
 | cons x l ih =>
  have h1 := h x (List.mem_cons_self ..)
  have h2 := ih fun k hk => h k (List.mem_cons_of_mem _ hk)
  rw [List.map_cons, List.sum_cons, List.length_cons, Int.natCast_add, Int.natCast_one, Int.mul_add, Int.mul_one]
  omega
theorem rk_inv {a : List Bool} {b : List Tk} {c : List Th} {d : List Lk} {e : List Int} {f : Int} (H : zbe a b c d e f) (lives : List Bool) : ∀ (q p : List Int), zbs a b = p ++ q →
  RkInv a b lives q (q.foldr (fun c x => rkRound b lives c x) (zbV (b.length : Int) false, zbV (a.length : Int) 0))
 | [], p, _ => by
  refine ⟨by simp [zbV], by simp [zbV], fun k hk => ?_, fun c hc => (by cases hc), fun c hc _ => gI_rep hc⟩
  rw [if_neg (by simp)]
  exact gI_rep hk
 | x :: q, p, ho => by
  have I := rk_inv H lives q (p ++ [x]) (by rw [ho]; simp)
  have hn := H.ord_nodup
  rw [ho] at hn
  have hxq : x ∉ q := (List.nodup_cons.1 (List.nodup_append.1 hn).2.1).1
  have hx := zcN (H.ord_mem.1 (by rw [ho]; simp : x ∈ zbs a b))
  rw [List.foldr_cons]
  generalize q.foldr (fun c x => rkRound b lives c x) (zbV (b.length : Int) false, zbV (a.length : Int) 0) = y at *
  have hlb := H.lenB
  have hil := zgw b x
  obtain ⟨h1, h2, h3⟩ := rk_inner (b := b) (lives := lives) (c := x) (zbq b x) y issued_nodup (by rw [I.len2]; exact hx) (fun k hk => by
   obtain ⟨k1, k2, k3⟩ := zbQ.1 hk
   have ht := H.tk k1 k2
   refine ⟨by rw [I.len1]; exact k1, ?_, by have := ht.amt; omega, ht.amt.2, fun hq => ?_⟩
   ·rw [I.cnt k k1, if_neg]
    rintro ⟨_, hm⟩
    rw [k3] at hm
    exact hxq hm
   ·obtain ⟨_, h5⟩ := H.ord_to ho k1 k2 hq (by rw [k3]; exact List.mem_cons_self ..)
    refine ⟨?_, h5⟩
    rcases ht.to with h | h | h
    ·omega
    ·omega
    ·exact (zcN h.2.2).1) (by rw [I.non x hx hxq]; decide) (by rw [I.non x hx hxq]; omega)
  obtain ⟨l1, l2⟩ := rkFold_len (b := b) (lives := lives) (c := x) (zbq b x) y
  have hgood : ∀ k : Int, 0 ≤ k ∧ k < (b.length : Int) → (gI b k).1 = true → (gI b k).2.1 ∈ x :: q → good b lives ((zbq b x).foldl (zbN b lives x) y).2 k = good b lives y.2 k := fun k hk hu hc => good_same fun hq => by
   obtain ⟨h4, h5⟩ := H.ord_to ho hk hu hq hc
   have h6 := zcN (H.ord_mem.1 (by rw [ho]; simp [h4] : (gI b k).2.2.2.2.1 ∈ zbs a b))
   exact h2 _ h6.1 h5
  show RkInv a b lives (x :: q) ((zbq b x).foldl (zbN b lives x) y)
  have hcnt : ∀ k : Int, 0 ≤ k ∧ k < (b.length : Int) → gI ((zbq b x).foldl (zbN b lives x) y).1 k = if (gI b k).1 = true ∧ (gI b k).2.1 ∈ x :: q then good b lives ((zbq b x).foldl (zbN b lives x) y).2 k else false := fun k hk => by
   rw [h1 k hk.1]
   by_cases hki : k ∈ zbq b x
   ·obtain ⟨_, k2, k3⟩ := zbQ.1 hki
    rw [if_pos hki, if_pos ⟨k2, by rw [k3]; exact List.mem_cons_self ..⟩, hgood k hk k2 (by rw [k3]; exact List.mem_cons_self ..)]
   ·rw [if_neg hki, I.cnt k hk]
    by_cases hq : (gI b k).1 = true ∧ (gI b k).2.1 ∈ q
    ·rw [if_pos hq, if_pos ⟨hq.1, List.mem_cons_of_mem _ hq.2⟩, hgood k hk hq.1 (List.mem_cons_of_mem _ hq.2)]
    ·rw [if_neg hq, if_neg]
     rintro ⟨k2, k3⟩
     rcases List.mem_cons.1 k3 with k3 | k3
     ·exact hki (zbQ.2 ⟨hk, k2, k3⟩)
     ·exact hq ⟨k2, k3⟩
  refine ⟨l1.trans I.len1, l2.trans I.len2, hcnt, fun c' hc' => ?_, fun c' hc' hno => ?_⟩
  ·rcases List.mem_cons.1 hc' with rfl | hc'
   ·rw [h3, I.non c' hx hxq, Int.zero_add]
    congr 1
    refine List.map_congr_left fun k hk => ?_
    rw [h1 k (zbQ.1 hk).1.1, if_pos hk]
   ·have hne : c' ≠ x := fun h => hxq (h ▸ hc')
    have hin := zcN (H.ord_mem.1 (by rw [ho]; simp [hc'] : c' ∈ zbs a b))
    rw [h2 c' hin.1 hne, I.amt c' hc']
    congr 1
    refine List.map_congr_left fun k hk => ?_
    obtain ⟨k1, k2, k3⟩ := zbQ.1 hk
    rw [h1 k k1.1, if_neg (fun h => by
     have := (zbQ.1 h).2.2
     exact hne (k3.symm.trans this))]
  ·have hno' : c' ≠ x ∧ c' ∉ q := by simpa using hno
   rw [h2 c' hc'.1 hno'.1, I.non c' hc' hno'.2]
section
variable {a : List Bool} {b : List Tk} {c : List Th} {d : List Lk} {e : List Int} {f : Int}
theorem zbe.reck (H : zbe a b c d e f) : RkInv a b (liveV c d) (zbs a b) (zdu (a, b, c, d, e, f)) := by
 have := rk_inv H (liveV c d) (zbs a b) [] rfl
 unfold zdu
 rw [List.foldl_reverse]
 exact this
theorem zbe.tkOK (H : zbe a b c d e f) : b.all (tkOK a.length c.length) = true := List.all_eq_true.2 fun t ht => by
 obtain ⟨k, hk, rfl⟩ := List.mem_iff_getElem.1 ht
 have hg := zbD hk
 unfold Go.Proofs.Ytlfdidaeachpoaa.tkOK
 rw [← hg]
 cases hu : (gI b (k : Int)).1 with
 | false => rfl
 | true =>
  have h := H.tk (k := (k : Int)) ⟨by omega, by omega⟩ hu
  rcases h.to with h | h | h
  ·rw [h.1]; rfl
  ·have := zcg h.2
   rw [h.1]; simp; omega
  ·have := zcN h.2.2
   rw [h.1]; simp; omega
theorem zbe.reckOK (H : zbe a b c d e f) : reckOK (a, b, c, d, e, f) = true := by
 have h1 := H.lenB
 have h2 := H.lenC
 have h3 := H.coins
 unfold Go.Proofs.Ytlfdidaeachpoaa.reckOK sdLiveOK sdOrdOK
 simp only
 rw [H.liveOK, H.tkOK, decide_eq_true (by omega), decide_eq_true (by omega), decide_eq_true (by omega)]
 rfl
end
end Go.Proofs.Ytlfdidaeachpoaa
namespace Go.Proofs.Ytlfdidaeachpoaa
open Go Go.RowKit
set_option maxRecDepth 100000
noncomputable section
def zbP (a : List Bool) (b : List Tk) (c : List Th) (d : List Lk) (e : List Int) (f : Int) : List Bool := (zdu (a, b, c, d, e, f)).1
def amV (a : List Bool) (b : List Tk) (c : List Th) (d : List Lk) (e : List Int) (f : Int) : List Int := (zdu (a, b, c, d, e, f)).2
section
variable {a : List Bool} {b : List Tk} {c : List Th} {d : List Lk} {e : List Int} {f : Int}
theorem zbe.cnt (H : zbe a b c d e f) {k : Int} (hk : 0 ≤ k ∧ k < (b.length : Int)) : gI (zbP a b c d e f) k = if (gI b k).1 = true then good b (liveV c d) (amV a b c d e f) k else false := by
 have := H.reck.cnt k hk
 unfold zbP amV
 rw [this]
 by_cases hu : (gI b k).1 = true
 ·rw [if_pos hu, if_pos ⟨hu, H.ord_mem.2 (H.tk hk hu).coin⟩]
 ·rw [if_neg hu, if_neg (fun h => hu h.1)]
theorem zbe.amt (H : zbe a b c d e f) {x : Int} (hx : 0 ≤ x ∧ x < (a.length : Int)) : gI (amV a b c d e f) x = ((zbq b x).map fun k => zcE b (gI (zbP a b c d e f) k) k).sum := by
 by_cases h : x ∈ zbs a b
 ·exact H.reck.amt x h
 ·have h0 : gI (amV a b c d e f) x = 0 := H.reck.non x hx h
  rw [h0]
  have : zbq b x = [] := by
   apply List.eq_nil_iff_forall_not_mem.2
   intro k hk
   obtain ⟨k1, k2, k3⟩ := zbQ.1 hk
   exact h (H.ord_mem.2 (k3 ▸ (H.tk k1 k2).coin))
  rw [this]; rfl
theorem zbe.len (H : zbe a b c d e f) : (zbP a b c d e f).length = b.length ∧ (amV a b c d e f).length = a.length := ⟨H.reck.len1, H.reck.len2⟩
theorem zbe.cnt_used (H : zbe a b c d e f) {k : Int} (hk : 0 ≤ k ∧ k < (b.length : Int)) (h : gI (zbP a b c d e f) k = true) : (gI b k).1 = true := by
 rw [H.cnt hk] at h
 split at h
 ·assumption
 ·cases h
theorem zbe.am_bound (H : zbe a b c d e f) {x : Int} (hx : 0 ≤ x ∧ x < (a.length : Int)) : 0 ≤ gI (amV a b c d e f) x ∧ gI (amV a b c d e f) x ≤ 1048576 * 96 := by
 have hb := H.lenB
 have hl := zgw b x
 have := sum_le (l := zbq b x) (f := fun k => zcE b (gI (zbP a b c d e f) k) k) (m := 1048576) fun k hk => by
  obtain ⟨k1, k2, _⟩ := zbQ.1 hk
  have := (H.tk k1 k2).amt
  unfold zcE
  split <;> omega
 rw [H.amt hx]
 omega
theorem sum_mem_le {l : List Int} {g : Int → Int} (h : ∀ k ∈ l, 0 ≤ g k) {x : Int} (hx : x ∈ l) : g x ≤ (l.map g).sum := by
 induction l with
 | nil => cases hx
 | cons y l ih =>
  rw [List.map_cons, List.sum_cons]
  have hy := h y (List.mem_cons_self ..)
  have hs := (show 0 ≤ (l.map g).sum from by
   clear ih hx
   induction l with
   | nil => simp
   | cons z l ih2 =>
    rw [List.map_cons, List.sum_cons]
    have h1 := h z (by simp)
    have h2 := ih2 fun k hk => h k (by
     rcases List.mem_cons.1 hk with rfl | hk
     ·simp
     ·simp [hk])
    omega)
  rcases List.mem_cons.1 hx with rfl | hx
  ·omega
  ·have := ih (fun k hk => h k (List.mem_cons_of_mem _ hk)) hx
   omega
theorem zbe.awake (H : zbe a b c d e f) {k : Int} (hk : 0 ≤ k ∧ k < (b.length : Int)) (h : gI (zbP a b c d e f) k = true) : 0 < gI (amV a b c d e f) (gI b k).2.1 := by
 have hu := H.cnt_used hk h
 have ht := H.tk hk hu
 rw [H.amt (zcN ht.coin)]
 have := sum_mem_le (l := zbq b (gI b k).2.1) (g := fun k => zcE b (gI (zbP a b c d e f) k) k) (fun k hk => by
  obtain ⟨k1, k2, _⟩ := zbQ.1 hk
  have := (H.tk k1 k2).amt
  unfold zcE
  split <;> omega) (zbQ.2 ⟨hk, hu, rfl⟩)
 have e1 : zcE b (gI (zbP a b c d e f) k) k = (gI b k).2.2.1 := by unfold zcE; rw [if_pos h]
 have this' : zcE b (gI (zbP a b c d e f) k) k ≤ ((zbq b (gI b k).2.1).map fun k => zcE b (gI (zbP a b c d e f) k) k).sum := this
 have := ht.amt
 omega
theorem live_get {i : Int} (hi : 0 ≤ i ∧ i < (c.length : Int)) : gI (liveV c d) i = zeq c d i := by
 obtain ⟨j, rfl⟩ := Int.eq_ofNat_of_zero_le hi.1
 have hj : j < c.length := by omega
 rw [zbD (by simpa [liveV] using hj)]
 simp [liveV]
theorem counts_eq (H : zbe a b c d e f) (self : SD × Int → Option Int) (self' : ((List Bool) × (List Tk) × (List Th) × (List Lk) × (List Int) × Int × Int) → Option Int) {k : Int} (hk : 0 ≤ k ∧ k < (b.length : Int))
  (hs : (gI b k).1 = true → (gI b k).2.2.2.1 = 2 → self' (a, b, c, d, e, f, (gI b k).2.2.2.2.1) = some (gI (amV a b c d e f) (gI b k).2.2.2.2.1)) :
  F_zaE self' (a, b, c, d, e, f, k) = some (gI (zbP a b c d e f) k) := by
 show (zaE self' _).run _ = _
 rw [zaE]
 simp only [RT.run]
 rw [if_pos (zbc.2 hk), H.cnt hk]
 cases hu : (gI b k).1 with
 | false => rfl
 | true =>
  unfold good
  cases ho : (gI b k).2.2.2.2.2 with
  | false => rfl
  | true =>
   rw [if_neg (by decide), if_pos rfl, Bool.true_and]
   have ht := H.tk hk hu
   by_cases h1 : (gI b k).2.2.2.1 = 1
   ·have hut : usT c (gI b k).2.2.2.2.1 = true := by
     rcases ht.to with h | h | h
     ·omega
     ·exact h.2
     ·omega
    obtain ⟨h3, h4⟩ := H.lives hut
    rw [if_pos (by simpa using h1), if_pos h3, h4, h1, live_get (zcg hut)]
    simp
   ·rw [if_neg (by simpa using h1)]
    have e1 : ((gI b k).2.2.2.1 == 1) = false := by simpa using h1
    rw [e1, Bool.false_and, Bool.false_or]
    by_cases h2 : (gI b k).2.2.2.1 = 2
    ·rw [hs hu h2, if_pos (by simp)]
     rfl
    ·have e2 : ((gI b k).2.2.2.1 == 2) = false := by simpa using h2
     rw [e2, if_pos (by simp)]
     rfl
theorem zgd (H : zbe a b c d e f) (self : ((List Bool) × (List Tk) × (List Th) × (List Lk) × (List Int) × Int × Int) → Option Bool) (x : Int)
  (hs : ∀ k : Int, 0 ≤ k ∧ k < (b.length : Int) → (gI b k).2.1 = x → self (a, b, c, d, e, f, k) = some (gI (zbP a b c d e f) k)) : ∀ (n i : Nat) (r : Int), i + n = b.length → 0 ≤ r ∧ r ≤ 1048576 * (i : Int) →
  lo (zB_b58 self) (x, a, b, c, d, e, f) (r, (i : Int)) = some (r + ((((List.range' i n).filter (isTk b x)).map fun (k : Nat) => (k : Int)).map fun k => zcE b (gI (zbP a b c d e f) k) k).sum)
 | 0, i, r, h, _ => by
  rw [zbi, zB_b58]
  simp only [RT.run]
  rw [if_neg (by simp; omega)]
  simp
 | n + 1, i, r, h, hr => by
  have hlb := H.lenB
  have hi : 0 ≤ (i : Int) ∧ (i : Int) < (b.length : Int) := by omega
  have hin : inB b (i : Int) = true := zbc.2 hi
  have tk : isTk b x i = ((gI b (i : Int)).1 && (gI b (i : Int)).2.1 == x) := by unfold isTk; rw [zed]
  rw [zbi, zB_b58]
  simp only [RT.run]
  rw [if_pos (by simp; omega), if_pos hin, zbg (show -9223372036854775808 ≤ (i : Int) + 1 ∧ (i : Int) + 1 ≤ 9223372036854775807 by omega), show (i : Int) + 1 = ((i + 1 : Nat) : Int) by omega, List.range'_succ, List.filter_cons, tk]
  by_cases hx : (gI b (i : Int)).2.1 = x
  ·have ex : ((gI b (i : Int)).2.1 == x) = true := by simpa using hx
   rw [hs _ hi hx, if_pos (by simp), ex, Bool.true_and, Bool.and_true]
   simp only [Option.getD_some]
   cases hq : gI (zbP a b c d e f) (i : Int) with
   | true =>
    have hu := H.cnt_used hi hq
    have ha := (H.tk hi hu).amt
    rw [if_pos rfl, if_pos hin, hu, if_pos rfl, zbg (by omega), zgd H self x hs n (i + 1) _ (by omega) (by omega), List.map_cons, List.map_cons, List.sum_cons]
    simp only [zcE, hq, if_true]
    congr 1; omega
   | false =>
    rw [if_neg (by decide), zgd H self x hs n (i + 1) r (by omega) (by omega)]
    cases hu : (gI b (i : Int)).1 with
    | false => simp
    | true =>
     rw [if_pos rfl, List.map_cons, List.map_cons, List.sum_cons]
     simp only [zcE, hq, Bool.false_eq_true, if_false, Int.zero_add]
  ·have ex : ((gI b (i : Int)).2.1 == x) = false := by simpa using hx
   rw [ex, if_pos (by simp), Bool.false_and, if_neg (by decide), Bool.and_false, if_neg (by decide), zgd H self x hs n (i + 1) r (by omega) (by omega)]
theorem amount_of (H : zbe a b c d e f) (self : ((List Bool) × (List Tk) × (List Th) × (List Lk) × (List Int) × Int × Int) → Option Bool) {x : Int} (hx : 0 ≤ x ∧ x < (a.length : Int))
  (hs : ∀ k : Int, 0 ≤ k ∧ k < (b.length : Int) → (gI b k).2.1 = x → self (a, b, c, d, e, f, k) = some (gI (zbP a b c d e f) k)) : F_zB self (a, b, c, d, e, f, x) = some (gI (amV a b c d e f) x) := by
 show (zB self _).run _ = _
 rw [zB]
 simp only [RT.run]
 have := zgd H self x hs b.length 0 0 (by omega) (by omega)
 rw [show ((0 : Nat) : Int) = 0 from rfl, ← List.range_eq_range', Int.zero_add] at this
 rw [this, H.amt hx]
 rfl
theorem amount_rec (H : zbe a b c d e f) : ∀ (q p : List Int), zbs a b = p ++ q → ∀ n, q.length ≤ n → ∀ x ∈ q, R_zB n (a, b, c, d, e, f, x) = some (gI (amV a b c d e f) x)
 | [], _, _, _, _, x, hx => by cases hx
 | y :: q, p, ho, 0, hn, x, hx => by simp at hn
 | y :: q, p, ho, n + 1, hn, x, hx => by
  have ih := amount_rec H q (p ++ [y]) (by rw [ho]; simp)
  rcases List.mem_cons.1 hx with rfl | hxq
  ·have hin := zcN (H.ord_mem.1 (by rw [ho]; simp : x ∈ zbs a b))
   refine amount_of H (F_zaE (R_zB n)) hin fun k hk hc => counts_eq H (fun _ => none) (R_zB n) hk fun hu h2 => ?_
   obtain ⟨h3, h4⟩ := H.ord_to ho hk hu h2 (by rw [hc]; exact List.mem_cons_self ..)
   exact ih n (by simpa using hn) _ h3
  ·exact ih (n + 1) (by simp at hn; omega) x hxq
theorem amount_all (H : zbe a b c d e f) {x : Int} (hx : 0 ≤ x ∧ x < (a.length : Int)) : R_zB ((zbs a b).length + 1) (a, b, c, d, e, f, x) = some (gI (amV a b c d e f) x) := by
 by_cases h : x ∈ zbs a b
 ·exact amount_rec H (zbs a b) [] rfl _ (by omega) x h
 ·refine amount_of H _ hx fun k hk hc => ?_
  exfalso
  cases hu : (gI b k).1 with
  | true => exact h (H.ord_mem.2 (hc ▸ (H.tk hk hu).coin))
  | false =>
   have h0 := H.tk0 hk hu
   rw [h0] at hc
   refine h (H.ord_mem.2 ?_)
   rw [← hc]
   unfold usC
   rw [H.coins.2.2, zbc.2 (by have := H.coins; simp only; omega)]; rfl
end
def e_zB : zbj := io_zB.sp (fun (a, b, c, d, e, f, x) => (fineV a b c d e f && inB a x)) (fun (a, b, c, d, e, f, x) => (gI (α := Int) (amV a b c d e f) x))
theorem sp_zB (h : ∀ (a : List Bool) (b : List Tk) (c : List Th) (d : List Lk) (e : List Int) (f : Int) (x : Int), WfT [.sl tB, .sl yK, .sl yH, .sl yL, .sl tI, tI, tI] (a, b, c, d, e, f, x) → ((fineV a b c d e f && inB a x)) = true → ∃ n, R_zB n (a, b, c, d, e, f, x) = some (gI (α := Int) (amV a b c d e f) x)) : e_zB.ok pg := sp_rec okR_zB fun (a, b, c, d, e, f, x) hw hc => h a b c d e f x hw hc
theorem e_zB_ok : e_zB.ok pg := sp_zB fun a b c d e f x _ hc => by
 rw [Bool.and_eq_true] at hc
 exact ⟨_, amount_all (fine0 hc.1) (zbc.1 hc.2)⟩
def isOf (b : List Tk) (w i k : Int) : Bool := (gI b k).1 && ((((w == 0) && ((gI b k).2.1 == i)) || (((w == 1) && ((gI b k).2.2.2.1 == 2)) && ((gI b k).2.2.2.2.1 == i))) || (((w == 2) && ((gI b k).2.2.2.1 == 1)) && ((gI b k).2.2.2.2.1 == i)))
def tksOf (b : List Tk) (w i : Int) : List Int := ((List.range b.length).map fun (k : Nat) => (k : Int)).filter (isOf b w i)
end
end Go.Proofs.Ytlfdidaeachpoaa
