/- Part 6 of the walk and of the plain law. -/
import Derived.Test.YtlfdidaeachpoaaGreatCSO5
import Derived.Test.YtlfdidaeachpoaaGreatCSO2
import Derived.Below
import Derived.ChangeArms
import Derived.DataReads
set_option linter.unusedSimpArgs false
set_option linter.unusedVariables false
namespace Go.Proofs.YtlfdidaeachpoaaGreat
open Go Go.RowKit
set_option maxRecDepth 100000
noncomputable section
theorem wg_hyp {a : List Bool} {b : List Tk} {c : List Th} {d : List Lk} {e : List Int} {f : Int} (H : zbT a b c d e f) : (∀ q ∈ wgV a b c d e f, 0 ≤ q ∧ sm 5000 q) ∧ (wgV a b c d e f).length ≤ 100 := by
 have hlc := H.lenC
 exact ⟨fun q hq => ⟨(H.wg_mem q hq).1, zex (by decide) (H.wg_mem q hq).2⟩, by rw [zhy]; omega⟩
def zbq : ((List Bool) × (List Tk) × (List Th) × (List Lk) × (List Int) × Int) → RT Unit (Int × Int × Int × (List Int))
| (s_0, s_1, s_2, s_3, s_4, s_5) =>
 .rq 4 (.req ((wOK s_0 s_1 s_2 s_3 s_4 s_5)) (.call (F_zH (((wgV s_0 s_1 s_2 s_3 s_4 s_5).map rq))) default fun v0 =>
 .rq 4 (.done (v0.1, v0.2.1, v0.2.2.1, v0.2.2.2))))
def F_zbq (x : (List Bool) × (List Tk) × (List Th) × (List Lk) × (List Int) × Int) : Option (Int × Int × Int × (List Int)) := (zbq x).run fun _ => none
def io_zbq : Io := ⟨n_zbq, [.sl tB, .sl yK, .sl yH, .sl yL, .sl tI, tI], [.agg [qm 0, qm 1, qm 2, qm 3, qm 4, qm 5]], [], [[.sl tB, .sl yK, .sl yH, .sl yL, .sl tI, tI]], [tU, tU, tI, .sl tU], .tup [(true, [qm 0, qm 1, qr 0]), (false, [qm 2])], [], [(true, .arr 48 (qm 3))], false⟩
def zbq_P : List zbG := []
def zbq_T : zbN := tab [e_zH, e_zz]
theorem zbq_To : zbK pg zbq_T := zbH ⟨e_zH_ok, e_zz_ok, trivial⟩
theorem zbq_go : zbX pg (zbq_T) io_zbq f_zbq (zbq_P) [.cellRow 32 2 600034 48 tU, .cellRen 32 2 600034] (zbq) := ⟨by kernel_rfl, by kernel_rfl, fun x => by kernel_rfl⟩
theorem ok_zbq : io_zbq.Okay pg (F_zbq) := zbU zbI (zbq_To) (zbq_go) trivial
def e_zbq : zbS := io_zbq.sp (fun (a, b, c, d, e, f) => (wOK a b c d e f)) (fun (a, b, c, d, e, f) => (brV (wgV a b c d e f)))
theorem sp_zbq (h : ∀ (a : List Bool) (b : List Tk) (c : List Th) (d : List Lk) (e : List Int) (f : Int), WfT [.sl tB, .sl yK, .sl yH, .sl yL, .sl tI, tI] (a, b, c, d, e, f) → ((wOK a b c d e f)) = true → (zbq (a, b, c, d, e, f)).run (fun _ => none) = some (brV (wgV a b c d e f))) : e_zbq.ok pg := zbV ok_zbq fun (a, b, c, d, e, f) hw hc => h a b c d e f hw hc
theorem e_zbq_ok : e_zbq.ok pg := sp_zbq fun a b c d e f _ hc => by
 obtain ⟨H, h8⟩ := zdl hc
 rw [zbq]
 simp only [RT.run]
 rw [if_pos hc, bring_F (wg_hyp H).1 (wg_hyp H).2]
 rfl
def xK : Nat := 5000
def zbw : ((List Int) × (List Int)) → RT Unit (List Int)
| (a_0, b_0) =>
 .rq 13 (.ite (((a_0.length : Int) == 0) || ((b_0.length : Int) == 0))
 (.rq 2 (.done []))
 (.rq 2 (.req (okM 38 a_0 && okM 38 b_0) (.rq 2 (.req (isM 37 a_0 && isM 37 b_0) (.req (okM 37 (zbF B16 (val B16 a_0 * val B16 b_0)) && (okM 37 (zbF B16 (Nat.gcd (val B16 a_0) (val B16 b_0))) && decide (0 < val B16 (zbF B16 (Nat.gcd (val B16 a_0) (val B16 b_0)))))) (.rq 9 (.done (zbF B16 (val B16 (zbF B16 (val B16 a_0 * val B16 b_0)) / val B16 (zbF B16 (Nat.gcd (val B16 a_0) (val B16 b_0)))))))))))))
def F_zbw (x : (List Int) × (List Int)) : Option (List Int) := (zbw x).run fun _ => none
def io_zbw : Io := ⟨n_zbw, [.sl tI, .sl tI], [.agg [qm 0], .agg [qm 1]], [], [[.sl tI], [.sl tI]], [.sl tI], .agg [qr 0], [], [(true, .arr 3 (qm 0))], false⟩
def zbw_P : List zbG := []
def zbw_T : zbN := tab [e_zaP, e_zad, e_zT]
theorem zbw_To : zbK pg zbw_T := zbH ⟨e_zaP_ok, e_zad_ok, e_zT_ok, trivial⟩
theorem zbw_go : zbX pg (zbw_T) io_zbw f_zbw (zbw_P) [.cellRow 64 0 600064 3 tI, .cellRen 64 0 600064] (zbw) := ⟨by kernel_rfl, by kernel_rfl, fun x => by kernel_rfl⟩
theorem ok_zbw : io_zbw.Okay pg (F_zbw) := zbU zbI (zbw_To) (zbw_go) trivial
theorem den_lt {n k : Nat} {q : Rat} (h : sm n q) (hk : n ≤ k) : q.den < 2 ^ k := lt_pow hk h.2
theorem digs16_ne {m : Nat} (h : 0 < m) : ((zbF B16 m).length : Int) ≠ 0 := by
 rw [zfS (by decide) h]
 simp only [List.length_cons]
 omega
theorem lcmR_F {m d k : Nat} (hm : 0 < m) (hd : 0 < d) (h1 : m < 2 ^ k) (h2 : d < 2 ^ k) (hk : k ≤ 1000000) : F_zbw (zbF B16 m, zbF B16 d) = some (zbF B16 (Nat.lcm m d)) := by
 have l1 := (zef h1).2
 have l2 := (zef h2).2
 have hg : 0 < Nat.gcd m d := Nat.gcd_pos_of_pos_left _ hm
 have hgk : Nat.gcd m d < 2 ^ k := Nat.lt_of_le_of_lt (Nat.gcd_le_left _ hm) h1
 have l3 := (zef hgk).2
 have hmd : m * d < 2 ^ (k + k) := by rw [Nat.pow_add]; exact Nat.mul_lt_mul'' h1 h2
 have l4 := (zef hmd).2
 have w : ∀ v, wfd B16 (zbF B16 v) = true := fun v => zcH (by decide) v
 have iM : ∀ v n, (zbF B16 v).length ≤ 2 ^ n → isM n (zbF B16 v) = true := fun v n h => zhs h
 show (zbw _).run _ = _
 rw [zbw]
 simp only [RT.run, zca (show 2 ≤ B16 by decide)]
 rw [if_neg (by simp only [Bool.or_eq_true, beq_iff_eq]; rintro (h | h); exact digs16_ne hm h; exact digs16_ne hd h), if_pos (by rw [Bool.and_eq_true, zcI, zcI]; exact ⟨⟨by omega, w _⟩, by omega, w _⟩),
  if_pos (by rw [iM _ _ (by omega), iM _ _ (by omega)]; rfl), if_pos (by rw [Bool.and_eq_true, Bool.and_eq_true, zcI, zcI, decide_eq_true_eq]; exact ⟨⟨by omega, w _⟩, ⟨by omega, w _⟩, hg⟩)]
 rfl
def e_zbw : zbS := io_zbw.en F_zbw
theorem e_zbw_ok : e_zbw.ok pg := zel ok_zbw
def zaO_b58 : (List ((List Int) × List Int)) → (Int × (List Int)) → RT (Int × (List Int)) (List Int)
| l, (i, r48) =>
 .rq 4 (.ite (decide (i < (l.length : Int)))
 (.rq 3 (.req (inB l i) (.rq 2 (.call (F_zbw (r48, (gI l i).2)) default fun v0 =>
 .rq 4 (.again (w64 (i + 1), v0))))))
 (.done r48))
def zaO_p58 : zbG := ⟨58, true, [.sl (.pair (.sl tI) (.sl tI))], [tI, .sl tI], ⟨[.keep [0, 2, 3, 4], .gc, .cellRow 48 0 600048 3 tI, .cellRen 48 0 600048, .gc], [0, 2, 3, 4], [.lf (qi 0), .lf (qp 32), .lf (qp 48), .lf (qm 0)], [(32, true, .cells [.fix (.nil)]), (48, true, .cells [qr 600048]), (600048, true, .arr 3 (qm 1))]⟩, [⟨2, ⟨[.keep [2, 3], .gc, .cellRow 48 0 600048 3 tI, .cellRen 48 0 600048, .gc], [2, 3], [.lf (qp 32), .lf (qp 48)], [(32, true, .cells [.fix (.nil)]), (48, true, .cells [qr 600048]), (600048, true, .arr 3 (qm 0))]⟩, [.sl tI]⟩], zaO_b58⟩
def zaO : (List ((List Int) × List Int)) → RT Unit (List Int)
| l =>
 .rq 5 (.call (lo zaO_b58 l (0, zbF B16 (1 : Int).toNat)) default fun v1 =>
 .rq 2 (.done v1))
def F_zaO (x : (List ((List Int) × List Int))) : Option (List Int) := (zaO x).run fun _ => none
def io_zaO : Io := ⟨n_zaO, [.sl (.pair (.sl tI) (.sl tI))], [.lf (qm 0)], [], [[.sl (.pair (.sl tI) (.sl tI))]], [.sl tI], .agg [qr 0], [], [(true, .arr 3 (qm 0))], false⟩
def zaO_P : List zbG := [zaO_p58]
def zaO_T : zbN := tab [e_zbw, e_zbb]
theorem zaO_To : zbK pg zaO_T := zbH ⟨e_zbw_ok, e_zbb_ok, trivial⟩
theorem zaO_k58 : (zaO_p58).OK pg (zaO_T) (zcc 20 (zaO_P)) (zbR f_zaO) 20 := ⟨by kernel_rfl, fun i x => by kernel_rfl⟩
theorem zaO_go : zbX pg (zaO_T) io_zaO f_zaO (zaO_P) [.cellRow 32 0 600032 3 tI, .cellRen 32 0 600032] (zaO) := ⟨by kernel_rfl, by kernel_rfl, fun x => by kernel_rfl⟩
theorem ok_zaO : io_zaO.Okay pg (F_zaO) := zbU zbI (zaO_To) (zaO_go) ⟨zaO_k58, trivial⟩
section
variable {L : List Rat} (hL : ∀ q ∈ L, 0 ≤ q ∧ sm 5000 q) (hl : L.length ≤ 100)
include hL hl
theorem lcR_loop : ∀ (n i m k : Nat), i + n = L.length → 0 < m → m < 2 ^ k → 5000 ≤ k → k + 5000 * n ≤ 1000000 →
  lo zaO_b58 (L.map rQ) ((i : Int), zbF B16 m) = some (zbF B16 ((L.drop i).foldl (fun m q => Nat.lcm m q.den) m))
 | 0, i, m, k, h, _, _, _, _ => by
  rw [zbP, zaO_b58]
  simp only [RT.run, List.length_map]
  rw [if_neg (by simp; omega), List.drop_eq_nil_of_le (by omega)]
  rfl
 | n + 1, i, m, k, h, h0, hm, hk5, hk => by
  have hi : i < L.length := by omega
  have hg : gI (L.map rQ) (i : Int) = rQ L[i] := by rw [zdX rQ (by omega), zcj hi]
  obtain ⟨s1, s2⟩ := hL _ (List.getElem_mem hi)
  have ih := lcR_loop n (i + 1) (Nat.lcm m L[i].den) (k + 5000) (by omega) (Nat.lcm_pos h0 L[i].den_pos) (by
   exact lcm_sm hm s2) (by omega) (by omega)
  rw [zbP, zaO_b58]
  simp only [RT.run, List.length_map]
  rw [if_pos (by simp; omega), if_pos (zbO.2 (by rw [List.length_map]; omega)), hg]
  show (F_zbw (zbF B16 m, zbF B16 L[i].den)).bind _ = _
  rw [lcmR_F h0 L[i].den_pos hm (den_lt s2 hk5) (by omega), Option.bind_some, zbL (by omega), show (i : Int) + 1 = ((i + 1 : Nat) : Int) by omega, ih, List.drop_eq_getElem_cons hi, List.foldl_cons]
theorem lcmL_F : F_zaO (L.map rQ) = some (zbF B16 (zcX L)) := by
 show (zaO _).run _ = _
 rw [zaO]
 simp only [RT.run]
 have h1 := lcR_loop hL hl L.length 0 1 xK (by omega) (by decide) (lt_pow (m := 1) (by decide) (by decide)) (by decide) (by unfold xK; omega)
 rw [List.drop_zero, show ((0 : Nat) : Int) = 0 from rfl] at h1
 show (lo zaO_b58 _ (0, zbF B16 1)).bind _ = _
 rw [h1]
 rfl
end
def e_zaO : zbS := io_zaO.en F_zaO
theorem e_zaO_ok : e_zaO.ok pg := zel ok_zaO
def zbD : ((List Int) × (List Int) × (List Int)) → RT Unit (List Int)
| (q_0, q_1, m_0) =>
 .rq 6 (.req (okM 38 q_0 && okM 38 m_0) (.rq 2 (.req (okM 37 (zbF B16 (val B16 q_0 * val B16 m_0)) && (okM 37 q_1 && decide (0 < val B16 q_1))) (.rq 9 (.done (zbF B16 (val B16 (zbF B16 (val B16 q_0 * val B16 m_0)) / val B16 q_1)))))))
def F_zbD (x : (List Int) × (List Int) × (List Int)) : Option (List Int) := (zbD x).run fun _ => none
def io_zbD : Io := ⟨n_zbD, [.sl tI, .sl tI, .sl tI], [.agg [qm 0, qm 1], .agg [qm 2]], [], [[.sl tI, .sl tI], [.sl tI]], [.sl tI], .agg [qr 0], [], [(true, .arr 3 (qm 0))], false⟩
def zbD_P : List zbG := []
def zbD_T : zbN := tab [e_zad, e_zT]
theorem zbD_To : zbK pg zbD_T := zbH ⟨e_zad_ok, e_zT_ok, trivial⟩
theorem zbD_go : zbX pg (zbD_T) io_zbD f_zbD (zbD_P) [.cellRow 64 0 600064 3 tI, .cellRen 64 0 600064] (zbD) := ⟨by kernel_rfl, by kernel_rfl, fun x => by kernel_rfl⟩
theorem ok_zbD : io_zbD.Okay pg (F_zbD) := zbU zbI (zbD_To) (zbD_go) trivial
theorem up_F {q : Rat} {m k n : Nat} (hq : 0 ≤ q ∧ sm n q) (hn : n ≤ 100000) (hm : m < 2 ^ k) (hk : k ≤ 1000000) (hd : q.den ∣ m) : F_zbD ((rQ q).1, (rQ q).2, zbF B16 m) = some (zbF B16 (upV m q)) := by
 obtain ⟨s1, s2⟩ := hq.2
 have l1 := (zef s1).2
 have l2 := (zef s2).2
 have l3 := (zef hm).2
 have hp : q.num.toNat * m < 2 ^ (n + k) := by rw [Nat.pow_add]; exact Nat.mul_lt_mul'' s1 hm
 have l4 := (zef hp).2
 have w : ∀ v, wfd B16 (zbF B16 v) = true := fun v => zcH (by decide) v
 show (zbD (zbF B16 q.num.toNat, zbF B16 q.den, zbF B16 m)).run _ = _
 rw [zbD]
 simp only [RT.run, zca (show 2 ≤ B16 by decide)]
 rw [if_pos (by rw [Bool.and_eq_true, zcI, zcI]; exact ⟨⟨by omega, w _⟩, by omega, w _⟩), if_pos (by rw [Bool.and_eq_true, Bool.and_eq_true, zcI, zcI, decide_eq_true_eq]; exact ⟨⟨by omega, w _⟩, ⟨by omega, w _⟩, q.den_pos⟩)]
 unfold upV
 rw [Nat.mul_comm (m / q.den), Nat.mul_div_assoc _ hd]
def e_zbD : zbS := io_zbD.en F_zbD
theorem e_zbD_ok : e_zbD.ok pg := zel ok_zbD
def zgy : ((List ((List Int) × List Int)) × (List Int)) → (Int × (List Int) × (List Int)) → RT (Int × (List Int) × (List Int)) ((List Int) × (List Int))
| (l, r64), (i, r8, r112) =>
 .rq 4 (.ite (decide (i < (l.length : Int)))
 (.rq 2 (.req (inB l i) (.rq 2 (.call (F_zbD ((gI l i).1, (gI l i).2, r64)) default fun v2 =>
 .rq 4 (.req (okM 39 r112 && okM 39 v2) (.rq 2 (.req (wfd B16 v2) (.rq 8 (.req (zdo 8 r8 [if v2.length ≤ 4 then ((val B16 v2 : Nat) : Int) else 0]) (.rq 4 (.again (w64 (i + 1), r8 ++ [if v2.length ≤ 4 then ((val B16 v2 : Nat) : Int) else 0], zbF B16 (val B16 r112 + val B16 v2)))))))))))))
 (.done (r8, r112)))
def zah_p506 : zbG := ⟨506, true, [.sl (.pair (.sl tI) (.sl tI)), tU, tB, tU, tU, .sl tI], [tI, .sl tU, .sl tI], ⟨[.keep [0, 2, 4, 5, 6, 7, 8, 9], .gc, .nilRow 8 800008 48 tU, .ren 8 700008, .ren 8 900008, .cellRow 64 0 600064 3 tI, .cellRow 112 0 600112 3 tI, .cellRen 64 0 600064, .cellRen 112 0 600112, .gc], [0, 2, 4, 5, 6, 7, 8, 9], [.lf (qi 0), .lf (qp 32), .lf (qp 64), .lf (qi 1), .lf (qi 2), .lf (qp 112), .lf (qr 900008), .lf (qm 0)], [(32, true, .cells [qi 3, qi 4, .fix (.nil)]), (64, true, .cells [qr 600064]), (112, true, .cells [qr 600112]), (900008, true, .arr 48 (qm 1)), (600064, true, .arr 3 (qi 5)), (600112, true, .arr 3 (qm 2))]⟩, [⟨2, ⟨[.keep [2, 5, 6, 7, 8], .gc, .nilRow 8 800008 48 tU, .ren 8 700008, .ren 8 900008, .cellRow 112 0 600112 3 tI, .cellRen 112 0 600112, .gc], [2, 5, 6, 7, 8], [.lf (qp 32), .lf (qi 1), .lf (qi 2), .lf (qp 112), .lf (qr 900008)], [(32, true, .cells [qi 3, qi 4, .fix (.nil)]), (112, true, .cells [qr 600112]), (900008, true, .arr 48 (qm 0)), (600112, true, .arr 3 (qm 1))]⟩, [.sl tU, .sl tI]⟩], (fun i => zgy (i.1, i.2.2.2.2.2))⟩
def zah : (List ((List Int) × List Int)) → RT Unit (Int × Int × Int × (List Int))
| l =>
 .rq 3 (.call (F_zaO l) default fun v0 =>
 .rq 3 (.req (wfd B16 v0) (.rq 10 (.call (lo zgy (l, v0) (0, [], [])) default fun v3 =>
 .rq 1 (.req (wfd B16 v3.2) (.rq 11 (.ite ((!(decide (v0.length ≤ 4))) || (!(decide (v3.2.length ≤ 4))))
 (.rq 3 (.done (0, 0, 10, [])))
 (.rq 6 (.done (if v0.length ≤ 4 then ((val B16 v0 : Nat) : Int) else 0, if v3.2.length ≤ 4 then ((val B16 v3.2 : Nat) : Int) else 0, 0, v3.1))))))))))
def F_zah (x : (List ((List Int) × List Int))) : Option (Int × Int × Int × (List Int)) := (zah x).run fun _ => none
def io_zah : Io := ⟨n_zah, [.sl (.pair (.sl tI) (.sl tI))], [.lf (qm 0)], [], [[.sl (.pair (.sl tI) (.sl tI))]], [tU, tU, tI, .sl tU], .tup [(true, [qm 0, qm 1, qr 0]), (false, [qm 2])], [], [(true, .arr 48 (qm 3))], false⟩
def zah_P : List zbG := [zah_p506]
def zah_T : zbN := tab [e_zbD, e_zaO, e_zaJ, e_zax]
theorem zah_To : zbK pg zah_T := zbH ⟨e_zbD_ok, e_zaO_ok, e_zaJ_ok, e_zax_ok, trivial⟩
theorem zah_k506 : (zah_p506).OK pg (zah_T) (zcc 63 (zah_P)) (zbR f_zah) 63 := ⟨by kernel_rfl, fun i x => by kernel_rfl⟩
theorem zah_go : zbX pg (zah_T) io_zah f_zah (zah_P) [.cellRow 32 2 600034 48 tU, .cellRen 32 2 600034] (zah) := ⟨by kernel_rfl, by kernel_rfl, fun x => by kernel_rfl⟩
theorem ok_zah : io_zah.Okay pg (F_zah) := zbU zbI (zah_To) (zah_go) ⟨zah_k506, trivial⟩
section
variable {L : List Rat} (hL : ∀ q ∈ L, 0 ≤ q ∧ sm 5000 q) (hl : L.length ≤ 100)
include hL hl
theorem brR_loop {m k : Nat} (hm : m < 2 ^ k) (hk : k ≤ 600000) (hd : ∀ q ∈ L, q.den ∣ m) : ∀ (n i s u : Nat) (r : List Int), i + n = L.length → s < 2 ^ u → u + 606000 * n ≤ 100000000 → r.length ≤ i →
  lo zgy (L.map rQ, zbF B16 m) ((i : Int), r, zbF B16 s) = some (r ++ (L.drop i).map (fun q => if (zbF B16 (upV m q)).length ≤ 4 then toI (upV m q) else 0), zbF B16 (s + ((L.drop i).map (upV m)).sum))
 | 0, i, s, u, r, h, _, _, _ => by
  rw [zbP, zgy]
  simp only [RT.run, List.length_map]
  rw [if_neg (by simp; omega), List.drop_eq_nil_of_le (by omega)]
  simp
 | n + 1, i, s, u, r, h, hs, hu, hr => by
  have hi : i < L.length := by omega
  have hg : gI (L.map rQ) (i : Int) = rQ L[i] := by rw [zdX rQ (by omega), zcj hi]
  have hub := up_bound hL hm (List.getElem_mem hi)
  have l1 := (zef hub).2
  have l2 := (zef hs).2
  have w : ∀ v, wfd B16 (zbF B16 v) = true := fun v => zcH (by decide) v
  have hs' : s + upV m L[i] < 2 ^ (u + 606000) := by
   have h1 : 2 ^ u ≤ 2 ^ (u + 605999) := Nat.pow_le_pow_right (by decide) (by omega)
   have h2 : 2 ^ (k + 5000) ≤ 2 ^ (u + 605999) := Nat.pow_le_pow_right (by decide) (by omega)
   have h3 : 2 ^ (u + 606000) = 2 ^ (u + 605999) * 2 := Nat.pow_succ ..
   omega
  have ih := brR_loop hm hk hd n (i + 1) (s + upV m L[i]) (u + 606000) (r ++ [if (zbF B16 (upV m L[i])).length ≤ 4 then toI (upV m L[i]) else 0]) (by omega) hs' (by omega) (by simp; omega)
  rw [zbP, zgy]
  simp only [RT.run, List.length_map]
  rw [if_pos (by simp; omega), if_pos (zbO.2 (by rw [List.length_map]; omega)), hg, up_F (hL _ (List.getElem_mem hi)) (by decide) hm (by omega) (hd _ (List.getElem_mem hi)), Option.bind_some,
   if_pos (by rw [Bool.and_eq_true, zcI, zcI]; exact ⟨⟨by omega, w _⟩, by omega, w _⟩), w, if_pos rfl, if_pos (zgB (by decide) (by simp; omega)), zca (by decide), zca (by decide), zbL (by omega), show (i : Int) + 1 = ((i + 1 : Nat) : Int) by omega]
  show lo zgy _ (_, r ++ [if (zbF B16 (upV m L[i])).length ≤ 4 then toI (upV m L[i]) else 0], _) = _
  rw [ih, List.drop_eq_getElem_cons hi, List.map_cons, List.map_cons, List.sum_cons, List.append_assoc, Nat.add_assoc]
  rfl
theorem bringR_F : F_zah (L.map rQ) = some (brV L) := by
 have hlt := lcm_lt hL
 have hdv : ∀ q ∈ L, q.den ∣ zcX L := (lcm_dvd L 1).2
 have w : ∀ v, wfd B16 (zbF B16 v) = true := fun v => zcH (by decide) v
 have h1 := brR_loop hL hl hlt (by omega) hdv L.length 0 0 1 [] (by omega) (by decide) (by omega) (by simp)
 rw [List.drop_zero, List.nil_append, Nat.zero_add, show ((0 : Nat) : Int) = 0 from rfl] at h1
 show (zah _).run _ = _
 rw [zah]
 simp only [RT.run]
 rw [lcmL_F hL hl, Option.bind_some, w, if_pos rfl]
 show (lo zgy (_, _) (0, [], zbF B16 0)).bind _ = _
 rw [h1, Option.bind_some]
 simp only [w, if_true, zca (show 2 ≤ B16 by decide)]
 unfold brV
 have e1 : (L.map (upV (zcX L))).sum = (zdf L).sum := rfl
 rw [e1]
 by_cases c1 : zcX L < 18446744073709551616
 ·by_cases c2 : (zdf L).sum < 18446744073709551616
  ·rw [if_neg (by rw [decide_eq_true ((fits16 _).2 c1), decide_eq_true ((fits16 _).2 c2)]; decide), if_pos ((fits16 _).2 c1), if_pos ((fits16 _).2 c2), if_pos (show zcX L < 18446744073709551616 ∧ (zdf L).sum < 18446744073709551616 from ⟨c1, c2⟩)]
   congr 4
   unfold i64s zdf
   rw [List.map_map]
   refine List.map_congr_left fun q hq => ?_
   rw [if_pos ((fits16 _).2 (Nat.lt_of_le_of_lt (sum_ge (List.mem_map_of_mem hq)) c2))]
   rfl
  ·rw [if_pos (by rw [decide_eq_false (fun h => c2 ((fits16 _).1 h))]; simp), if_neg (fun h => c2 h.2)]
 ·rw [if_pos (by rw [decide_eq_false (fun h => c1 ((fits16 _).1 h))]; simp), if_neg (fun h => c1 h.1)]
end
def e_zah : zbS := io_zah.en F_zah
theorem e_zah_ok : e_zah.ok pg := zel ok_zah
def zbj_b58 : ((List Bool) × (List Tk) × (List Th) × (List Lk) × (List Int) × Int) → (Int × (List ((List Int) × List Int))) → RT (Int × (List ((List Int) × List Int))) (List ((List Int) × List Int))
| (s_0, s_1, s_2, s_3, s_4, s_5), (i, r4) =>
 .rq 5 (.ite (decide (i < (s_2.length : Int)))
 (.rq 3 (.req ((wOK s_0 s_1 s_2 s_3 s_4 s_5 && inB s_2 i)) (.rq 1 (let t0 := (rQ (gI (wgV s_0 s_1 s_2 s_3 s_4 s_5) i));
 let t1 := [(t0.1, t0.2)];
 .req (zdo 48 r4 t1) (.rq 4 (.again (w64 (i + 1), r4 ++ t1)))))))
 (.done r4))
def zbj_p58 : zbG := ⟨58, true, [.sl tB, .sl yK, .sl yH, .sl yL, .sl tI, tI, tU, tU], [tI, .sl (.pair (.sl tI) (.sl tI))], ⟨[.keep [1, 2, 4, 5], .gc, .nilRow 4 800004 35 (.pair (.sl tI) (.sl tI)), .ren 4 700004, .ren 4 900004, .gc], [1, 2, 4, 5], [.lf (qp 16), .lf (qp 32), .lf (qr 900004), .lf (qm 0)], [(16, true, .cells [qi 0, qi 1, qi 2, qi 3, qi 4, qi 5]), (32, true, .cells [qi 6, qi 7, .fix (.nil)]), (900004, true, .arr 35 (qm 1))]⟩, [⟨2, ⟨[.keep [2, 4], .gc, .nilRow 4 800004 35 (.pair (.sl tI) (.sl tI)), .ren 4 700004, .ren 4 900004, .gc], [2, 4], [.lf (qp 32), .lf (qr 900004)], [(32, true, .cells [qi 6, qi 7, .fix (.nil)]), (900004, true, .arr 35 (qm 0))]⟩, [.sl (.pair (.sl tI) (.sl tI))]⟩], (fun i => zbj_b58 (i.1, i.2.1, i.2.2.1, i.2.2.2.1, i.2.2.2.2.1, i.2.2.2.2.2.1))⟩
def zbj : ((List Bool) × (List Tk) × (List Th) × (List Lk) × (List Int) × Int) → RT Unit (Int × Int × Int × (List Int))
| (s_0, s_1, s_2, s_3, s_4, s_5) =>
 .rq 5 (.call (lo zbj_b58 (s_0, s_1, s_2, s_3, s_4, s_5) (0, [])) default fun v0 =>
 .rq 1 (.call (F_zah v0) default fun v1 =>
 .rq 4 (.done (v1.1, v1.2.1, v1.2.2.1, v1.2.2.2))))
def F_zbj (x : (List Bool) × (List Tk) × (List Th) × (List Lk) × (List Int) × Int) : Option (Int × Int × Int × (List Int)) := (zbj x).run fun _ => none
def io_zbj : Io := ⟨n_zbj, [.sl tB, .sl yK, .sl yH, .sl yL, .sl tI, tI], [.agg [qm 0, qm 1, qm 2, qm 3, qm 4, qm 5]], [], [[.sl tB, .sl yK, .sl yH, .sl yL, .sl tI, tI]], [tU, tU, tI, .sl tU], .tup [(true, [qm 0, qm 1, qr 0]), (false, [qm 2])], [], [(true, .arr 48 (qm 3))], false⟩
def zbj_P : List zbG := [zbj_p58]
def zbj_T : zbN := tab [e_zah, e_zaK]
theorem zbj_To : zbK pg zbj_T := zbH ⟨e_zah_ok, e_zaK_ok, trivial⟩
theorem zbj_k58 : (zbj_p58).OK pg (zbj_T) (zcc 23 (zbj_P)) (zbR f_zbj) 23 := ⟨by kernel_rfl, fun i x => by kernel_rfl⟩
theorem zbj_go : zbX pg (zbj_T) io_zbj f_zbj (zbj_P) [.cellRow 32 2 600034 48 tU, .cellRen 32 2 600034] (zbj) := ⟨by kernel_rfl, by kernel_rfl, fun x => by kernel_rfl⟩
theorem ok_zbj : io_zbj.Okay pg (F_zbj) := zbU zbI (zbj_To) (zbj_go) ⟨zbj_k58, trivial⟩
theorem of_loop {a : List Bool} {b : List Tk} {c : List Th} {d : List Lk} {e : List Int} {f : Int} (hw : wOK a b c d e f = true) : ∀ (n i : Nat), i + n = c.length → lo zbj_b58 (a, b, c, d, e, f) ((i : Int), ((wgV a b c d e f).take i).map rQ) = some ((wgV a b c d e f).map rQ)
 | 0, i, h => by
  rw [zbP, zbj_b58]
  simp only [RT.run]
  rw [if_neg (by simp; omega), List.take_of_length_le (by rw [zhy]; omega)]
 | n + 1, i, h => by
  obtain ⟨H, h8⟩ := zdl hw
  have hlc := H.lenC
  rw [zbP, zbj_b58]
  simp only [RT.run, pe]
  rw [if_pos (by simp; omega), hw, zbO.2 (show 0 ≤ (i : Int) ∧ (i : Int) < (c.length : Int) by omega), if_pos (by decide), if_pos (zgB (by decide) (by simp; omega)), take_rQ _ (by rw [zhy]; omega), zbL (by omega), show (i : Int) + 1 = ((i + 1 : Nat) : Int) by omega, of_loop hw n (i + 1) (by omega)]
def e_zbj : zbS := io_zbj.sp (fun (a, b, c, d, e, f) => (wOK a b c d e f)) (fun (a, b, c, d, e, f) => (brV (wgV a b c d e f)))
theorem sp_zbj (h : ∀ (a : List Bool) (b : List Tk) (c : List Th) (d : List Lk) (e : List Int) (f : Int), WfT [.sl tB, .sl yK, .sl yH, .sl yL, .sl tI, tI] (a, b, c, d, e, f) → ((wOK a b c d e f)) = true → (zbj (a, b, c, d, e, f)).run (fun _ => none) = some (brV (wgV a b c d e f))) : e_zbj.ok pg := zbV ok_zbj fun (a, b, c, d, e, f) hw hc => h a b c d e f hw hc
theorem e_zbj_ok : e_zbj.ok pg := sp_zbj fun a b c d e f _ hc => by
 obtain ⟨H, h8⟩ := zdl hc
 have l1 := of_loop hc c.length 0 (by omega)
 rw [List.take_zero, List.map_nil, show ((0 : Nat) : Int) = 0 from rfl] at l1
 rw [zbj]
 simp only [RT.run]
 rw [l1, Option.bind_some, bringR_F (wg_hyp H).1 (wg_hyp H).2]
 rfl
def zai_b58 : ((List Int) × (List Int)) → Int → RT Int (LR Unit Unit)
| (a, b), i =>
 .rq 4 (.ite (decide (i < (a.length : Int)))
 (.rq 2 (.req (inB a i) (.rq 3 (.req (inB b i) (.rq 2 (.ite ((gI a i) != (gI b i))
 (.rq 1 (.done (.ex ())))
 (.rq 3 (.again (w64 (i + 1))))))))))
 (.done (.rt ())))
def zai_p58 : zbG := ⟨58, true, [.sl tU, .sl tU], [tI], ⟨[.keep [0, 1, 5], .gc], [0, 1, 5], [.lf (qi 0), .lf (qi 1), .lf (qm 0)], []⟩, [⟨1, ⟨[.keep [4], .gc], [4], [.lf (.fix (.bool false))], []⟩, []⟩, ⟨2, ⟨[.keep [], .gc], [], [], []⟩, []⟩], zai_b58⟩
def zai : ((List Int) × (List Int)) → RT Unit Bool
| (a, b) =>
 .rq 6 (.ite ((a.length : Int) != (b.length : Int))
 (.rq 1 (.done false))
 (.rq 1 (.call (lo zai_b58 (a, b) 0) default fun v0 =>
 .ite v0.isRt
 (.rq 1 (.done true))
 (.done false))))
def F_zai (x : (List Int) × (List Int)) : Option Bool := (zai x).run fun _ => none
def io_zai : Io := ⟨n_zai, [.sl tU, .sl tU], [.lf (qm 0), .lf (qm 1)], [], [[.sl tU], [.sl tU]], [tB], .lf (qm 0), [], [], false⟩
def zai_P : List zbG := [zai_p58]
def zai_T : zbN := tab []
theorem zai_To : zbK pg zai_T := zbH trivial
theorem zai_k58 : (zai_p58).OK pg (zai_T) (zcc 26 (zai_P)) (zbR f_zai) 26 := ⟨by kernel_rfl, fun i x => by kernel_rfl⟩
theorem zai_go : zbX pg (zai_T) io_zai f_zai (zai_P) [] (zai) := ⟨by kernel_rfl, by kernel_rfl, fun x => by kernel_rfl⟩
theorem ok_zai : io_zai.Okay pg (F_zai) := zbU zbI (zai_To) (zai_go) ⟨zai_k58, trivial⟩
theorem words_loop (a b : List Int) (hl : a.length = b.length) (ha : a.length ≤ 9223372036854775807) : ∀ (n i : Nat), i + n = a.length →
  lo zai_b58 (a, b) (i : Int) = some (if a.drop i = b.drop i then .rt () else .ex ())
 | 0, i, h => by
  rw [zbP, zai_b58]
  simp only [RT.run]
  rw [if_neg (by simp; omega), List.drop_eq_nil_of_le (by omega), List.drop_eq_nil_of_le (by omega), if_pos rfl]
 | n + 1, i, h => by
  have hi : i < a.length := by omega
  have hi' : i < b.length := by omega
  have ih := words_loop a b hl ha n (i + 1) (by omega)
  rw [zbP, zai_b58]
  simp only [RT.run]
  rw [if_pos (by simp; omega), if_pos (zbO.2 ⟨by omega, by omega⟩), if_pos (zbO.2 ⟨by omega, by omega⟩), zcj hi, zcj hi', zbL (by omega), show (i : Int) + 1 = ((i + 1 : Nat) : Int) by omega, ih, List.drop_eq_getElem_cons hi, List.drop_eq_getElem_cons hi']
  by_cases he : a[i] = b[i]
  ·rw [he, if_neg (by simp)]
   simp only [List.cons.injEq, true_and]
  ·rw [if_pos (by simpa using he), if_neg (fun h => he (List.cons.inj h).1)]
def e_zai : zbS := io_zai.sp (fun (a, b) => true) (fun (a, b) => (decide (a = b)))
theorem sp_zai (h : ∀ (a : List Int) (b : List Int), WfT [.sl tU, .sl tU] (a, b) → (zai (a, b)).run (fun _ => none) = some (decide (a = b))) : e_zai.ok pg := zbV ok_zai fun (a, b) hw hc => h a b hw
theorem e_zai_ok : e_zai.ok pg := sp_zai fun a b hw => by
 rw [zai]
 simp only [RT.run]
 by_cases hl : a.length = b.length
 ·have hla : a.length ≤ 9223372036854775807 := hw.1.1
  rw [if_neg (by simp; omega)]
  have := words_loop a b hl hla a.length 0 (by omega)
  rw [show ((0 : Nat) : Int) = 0 from rfl, List.drop_zero, List.drop_zero] at this
  rw [this, Option.bind_some]
  by_cases he : a = b
  ·rw [if_pos he, decide_eq_true he]; rfl
  ·rw [if_neg he, decide_eq_false he]; rfl
 ·rw [if_pos (by simp; omega), decide_eq_false (fun h => hl (by rw [h]))]
def zba_b12 : Unit → (Int × Int) → RT (Int × Int) Int
| _, (a, b) =>
 .rq 2 (.ite (decide (0 < b))
 (.rq 2 (.req (b != 0) (.rq 5 (.again (b, Int.tmod a b)))))
 (.done a))
def zba_p12 : zbG := ⟨12, true, [], [tU, tU], ⟨[.keep [0, 1], .gc], [0, 1], [.lf (qm 0), .lf (qm 1)], []⟩, [⟨2, ⟨[.keep [0], .gc], [0], [.lf (qm 0)], []⟩, [tU]⟩], zba_b12⟩
def zba : (Int × Int) → RT Unit Int
| (a, b) =>
 .rq 1 (.call (lo zba_b12 () (a, b)) default fun v0 =>
 .rq 2 (.done v0))
def F_zba (x : Int × Int) : Option Int := (zba x).run fun _ => none
def io_zba : Io := ⟨n_zba, [tU, tU], [.lf (qm 0), .lf (qm 1)], [], [[tU], [tU]], [tU], .lf (qm 0), [], [], false⟩
def zba_P : List zbG := [zba_p12]
def zba_T : zbN := tab []
theorem zba_To : zbK pg zba_T := zbH trivial
theorem zba_k12 : (zba_p12).OK pg (zba_T) (zcc 14 (zba_P)) (zbR f_zba) 14 := ⟨by kernel_rfl, fun i x => by kernel_rfl⟩
theorem zba_go : zbX pg (zba_T) io_zba f_zba (zba_P) [] (zba) := ⟨by kernel_rfl, by kernel_rfl, fun x => by kernel_rfl⟩
theorem ok_zba : io_zba.Okay pg (F_zba) := zbU zbI (zba_To) (zba_go) ⟨zba_k12, trivial⟩
theorem gcd_loop : ∀ (v a : Nat), lo zba_b12 () ((a : Int), (v : Int)) = some ((Nat.gcd a v : Nat) : Int) := by
 intro v
 induction v using Nat.strongRecOn with
 | ind v ih =>
  intro a
  rw [zbP, zba_b12]
  simp only [RT.run]
  by_cases h : v = 0
  ·subst h
   rw [if_neg (by simp), Nat.gcd_zero_right]
  ·have hlt := Nat.mod_lt a (Nat.pos_of_ne_zero h)
   have e1 : Int.tmod (a : Int) (v : Int) = ((a % v : Nat) : Int) := by rw [Int.ofNat_tmod]
   rw [if_pos (by simp; omega), if_pos (by simp; omega), e1, ih _ hlt v, Nat.gcd_comm a v, Nat.gcd_rec v a, Nat.gcd_comm]
def e_zba : zbS := io_zba.sp (fun (a, b) => true) (fun (a, b) => (((Nat.gcd a.toNat b.toNat : Nat) : Int)))
theorem sp_zba (h : ∀ (a : Int) (b : Int), WfT [tU, tU] (a, b) → (zba (a, b)).run (fun _ => none) = some (((Nat.gcd a.toNat b.toNat : Nat) : Int))) : e_zba.ok pg := zbV ok_zba fun (a, b) hw hc => h a b hw
theorem e_zba_ok : e_zba.ok pg := sp_zba fun a b hw => by
 have h1 : 0 ≤ a ∧ a < 18446744073709551616 := hw.1
 have h2 : 0 ≤ b ∧ b < 18446744073709551616 := hw.2
 obtain ⟨x, rfl⟩ := Int.eq_ofNat_of_zero_le h1.1
 obtain ⟨y, rfl⟩ := Int.eq_ofNat_of_zero_le h2.1
 rw [zba]
 simp only [RT.run]
 rw [gcd_loop y x]
 rfl
def zbB : ((List Int) × (List Int) × (List Int) × (List Int)) → RT Unit Int
| (a_0, a_1, b_0, b_1) =>
 .rq 7 (.req (okM 38 a_0 && okM 38 b_1) (.rq 4 (.req (okM 38 b_0 && okM 38 a_1) (.req (wfd B16 (zbF B16 (val B16 a_0 * val B16 b_1)) && wfd B16 (zbF B16 (val B16 b_0 * val B16 a_1))) (.rq 1 (.done (zcK ((val B16 (zbF B16 (val B16 a_0 * val B16 b_1)) : Nat) : Int) ((val B16 (zbF B16 (val B16 b_0 * val B16 a_1)) : Nat) : Int))))))))
def F_zbB (x : (List Int) × (List Int) × (List Int) × (List Int)) : Option Int := (zbB x).run fun _ => none
def io_zbB : Io := ⟨n_zbB, [.sl tI, .sl tI, .sl tI, .sl tI], [.agg [qm 0, qm 1], .agg [qm 2, qm 3]], [], [[.sl tI, .sl tI], [.sl tI, .sl tI]], [tI], .lf (qm 0), [], [], false⟩
def zbB_P : List zbG := []
def zbB_T : zbN := tab [e_zT, e_zal]
theorem zbB_To : zbK pg zbB_T := zbH ⟨e_zT_ok, e_zal_ok, trivial⟩
theorem zbB_go : zbX pg (zbB_T) io_zbB f_zbB (zbB_P) [] (zbB) := ⟨by kernel_rfl, by kernel_rfl, fun x => by kernel_rfl⟩
theorem ok_zbB : io_zbB.Okay pg (F_zbB) := zbU zbI (zbB_To) (zbB_go) trivial
def e_zbB : zbS := io_zbB.sp (fun (a0, a1, b0, b1) => (okq a0 a1 && okq b0 b1)) (fun (a0, a1, b0, b1) => (zcK ((val B16 a0 * val B16 b1 : Nat) : Int) ((val B16 b0 * val B16 a1 : Nat) : Int)))
theorem sp_zbB (h : ∀ (a0 : List Int) (a1 : List Int) (b0 : List Int) (b1 : List Int), WfT [.sl tI, .sl tI, .sl tI, .sl tI] (a0, a1, b0, b1) → ((okq a0 a1 && okq b0 b1)) = true → (zbB (a0, a1, b0, b1)).run (fun _ => none) = some (zcK ((val B16 a0 * val B16 b1 : Nat) : Int) ((val B16 b0 * val B16 a1 : Nat) : Int))) : e_zbB.ok pg := zbV ok_zbB fun (a0, a1, b0, b1) hw hc => h a0 a1 b0 b1 hw hc
theorem e_zbB_ok : e_zbB.ok pg := sp_zbB fun a0 a1 b0 b1 _ h => by
 simp only [Bool.and_eq_true, okq_iff] at h
 obtain ⟨⟨p1, p2, p3⟩, q1, q2, q3⟩ := h
 have w : ∀ v, wfd B16 (zbF B16 v) = true := fun v => zcH (by decide) v
 rw [zbB]
 simp only [RT.run, zca (show 2 ≤ B16 by decide), w]
 rw [if_pos (by rw [zdA (by decide) p1, zdA (by decide) q2]; rfl), if_pos (by rw [zdA (by decide) q1, zdA (by decide) p2]; rfl), if_pos (by decide)]
def zaX : (Int × Int × (List Int) × Int × Int × Int × (List Int) × Int) → RT Unit Bool
| (x_0, x_1, x_2, e, w_0, w_1, w_2, f) =>
 .rq 28 (.done ((((e == f) && (x_0 == w_0)) && (x_1 == w_1)) && ((decide (x_2 = w_2)))))
def F_zaX (x : Int × Int × (List Int) × Int × Int × Int × (List Int) × Int) : Option Bool := (zaX x).run fun _ => none
def io_zaX : Io := ⟨n_zaX, [tU, tU, .sl tU, tI, tU, tU, .sl tU, tI], [.agg [qm 0, qm 1, qm 2], .lf (qm 3), .agg [qm 4, qm 5, qm 6], .lf (qm 7)], [], [[tU, tU, .sl tU], [tI], [tU, tU, .sl tU], [tI]], [tB], .lf (qm 0), [], [], false⟩
def zaX_P : List zbG := []
def zaX_T : zbN := tab [e_zai]
theorem zaX_To : zbK pg zaX_T := zbH ⟨e_zai_ok, trivial⟩
theorem zaX_go : zbX pg (zaX_T) io_zaX f_zaX (zaX_P) [] (zaX) := ⟨by kernel_rfl, by kernel_rfl, fun x => by kernel_rfl⟩
theorem ok_zaX : io_zaX.Okay pg (F_zaX) := zbU zbI (zaX_To) (zaX_go) trivial
def e_zaX : zbS := io_zaX.en F_zaX
theorem e_zaX_ok : e_zaX.ok pg := zel ok_zaX
def zby : ((List Int) × (List Int)) → RT Unit ((List Int) × (List Int))
| (q_0, q_1) =>
 .rq 4 (.req (isM 38 q_0) (.rq 2 (.req (isM 38 q_1) (.rq 2 (.done (zbF B32 (val B16 q_0), zbF B32 (val B16 q_1)))))))
def F_zby (x : (List Int) × (List Int)) : Option ((List Int) × (List Int)) := (zby x).run fun _ => none
def io_zby : Io := ⟨n_zby, [.sl tI, .sl tI], [.agg [qm 0, qm 1]], [], [[.sl tI, .sl tI]], [.sl tV, .sl tV], .agg [qr 0, qr 1], [], [(true, .arr 122 (qm 0)), (true, .arr 122 (qm 1))], false⟩
def zby_P : List zbG := []
def zby_T : zbN := tab [e_zaM]
theorem zby_To : zbK pg zby_T := zbH ⟨e_zaM_ok, trivial⟩
theorem zby_go : zbX pg (zby_T) io_zby f_zby (zby_P) [.cellRow 32 0 600032 122 tV, .cellRow 32 1 600033 122 tV, .cellRen 32 0 600032, .cellRen 32 1 600033] (zby) := ⟨by kernel_rfl, by kernel_rfl, fun x => by kernel_rfl⟩
theorem ok_zby : io_zby.Okay pg (F_zby) := zbU zbI (zby_To) (zby_go) trivial
def e_zby : zbS := io_zby.sp (fun (a, b) => (isM 38 a && isM 38 b)) (fun (a, b) => (toB (a, b)))
theorem sp_zby (h : ∀ (a : List Int) (b : List Int), WfT [.sl tI, .sl tI] (a, b) → ((isM 38 a && isM 38 b)) = true → (zby (a, b)).run (fun _ => none) = some (toB (a, b))) : e_zby.ok pg := zbV ok_zby fun (a, b) hw hc => h a b hw hc
theorem e_zby_ok : e_zby.ok pg := sp_zby fun a b _ hc => by
 rw [Bool.and_eq_true] at hc
 rw [zby]
 simp only [RT.run]
 rw [if_pos hc.1, if_pos hc.2]
 rfl
def zaR : (List ((List Int) × List Int)) → RT Unit Bool
| l =>
 .rq 2 (.call (F_zH l) default fun v0 =>
 .rq 9 (.done (v0.2.2.1 == 0)))
def F_zaR (x : (List ((List Int) × List Int))) : Option Bool := (zaR x).run fun _ => none
def io_zaR : Io := ⟨n_zaR, [.sl (.pair (.sl tV) (.sl tV))], [.lf (qm 0)], [], [[.sl (.pair (.sl tV) (.sl tV))]], [tB], .lf (qm 0), [], [], false⟩
def zaR_P : List zbG := []
def zaR_T : zbN := tab [e_zH]
theorem zaR_To : zbK pg zaR_T := zbH ⟨e_zH_ok, trivial⟩
theorem zaR_go : zbX pg (zaR_T) io_zaR f_zaR (zaR_P) [] (zaR) := ⟨by kernel_rfl, by kernel_rfl, fun x => by kernel_rfl⟩
theorem ok_zaR : io_zaR.Okay pg (F_zaR) := zbU zbI (zaR_To) (zaR_go) trivial
def e_zaR : zbS := io_zaR.en F_zaR
theorem e_zaR_ok : e_zaR.ok pg := zel ok_zaR
def zS_b14 : (Int × Int × Int × (List Int)) → RT Unit Bool
| (e, x_0, x_1, x9) =>
 .rq 3 (let t0 := (decide (x9 = [10, 20]));
 let t1 := F_zaR [([0, 0, 1], [1])];
 .ite (e == 0)
 (.rq 5 (.ite (x_0 == 3)
 (.rq 5 (.ite (x_1 == 30)
 (.rq 6 (.ite t0
 (.rq 4 (.call t1 default fun v9 =>
 .rq 3 (.done (!v9))))
 (.rq 2 (.done false))))
 (.rq 2 (.ite false
 (.rq 4 (.call t1 default fun v10 =>
 .rq 3 (.done (!v10))))
 (.rq 2 (.done false))))))
 (.rq 2 (.ite false
 (.rq 6 (.ite t0
 (.rq 4 (.call t1 default fun v11 =>
 .rq 3 (.done (!v11))))
 (.rq 2 (.done false))))
 (.rq 2 (.ite false
 (.rq 4 (.call t1 default fun v12 =>
 .rq 3 (.done (!v12))))
 (.rq 2 (.done false))))))))
 (.rq 2 (.ite false
 (.rq 5 (.ite (x_1 == 30)
 (.rq 6 (.ite t0
 (.rq 4 (.call t1 default fun v13 =>
 .rq 3 (.done (!v13))))
 (.rq 2 (.done false))))
 (.rq 2 (.ite false
 (.rq 4 (.call t1 default fun v14 =>
 .rq 3 (.done (!v14))))
 (.rq 2 (.done false))))))
 (.rq 2 (.ite false
 (.rq 6 (.ite t0
 (.rq 4 (.call t1 default fun v15 =>
 .rq 3 (.done (!v15))))
 (.rq 2 (.done false))))
 (.rq 2 (.ite false
 (.rq 4 (.call t1 default fun v16 =>
 .rq 3 (.done (!v16))))
 (.rq 2 (.done false)))))))))
def zS_p14 : zbG := ⟨14, false, [tI, tU, tU, .sl tU], [], ⟨[.keep [1, 2], .gc], [1, 2], [.lf (qp 16), .lf (qi 0)], [(16, true, .cells [qi 1, qi 2, qr 145]), (145, true, .arr 48 (qi 3))]⟩, [⟨0, ⟨[.keep [0], .gc], [0], [.lf (qm 0)], []⟩, [tB]⟩], (fun i _ => zS_b14 i)⟩
def zS : Unit → RT Unit Bool
| _ =>
 .rq 1 (.req (decide ((3 : Int) ≠ 0)) (.req ((isM 38 (rQ (mkRat (((10 : Int).toNat : Nat) : Int) (3 : Int).toNat)).1 && isM 38 (rQ (mkRat (((10 : Int).toNat : Nat) : Int) (3 : Int).toNat)).2)) (.req (decide ((3 : Int) ≠ 0)) (.req ((isM 38 (rQ (mkRat (((20 : Int).toNat : Nat) : Int) (3 : Int).toNat)).1 && isM 38 (rQ (mkRat (((20 : Int).toNat : Nat) : Int) (3 : Int).toNat)).2)) (.rq 1 (let t0 := (toB ((rQ (mkRat (((10 : Int).toNat : Nat) : Int) (3 : Int).toNat)).1, (rQ (mkRat (((10 : Int).toNat : Nat) : Int) (3 : Int).toNat)).2));
 let t1 := (toB ((rQ (mkRat (((20 : Int).toNat : Nat) : Int) (3 : Int).toNat)).1, (rQ (mkRat (((20 : Int).toNat : Nat) : Int) (3 : Int).toNat)).2));
 .call (F_zH [(t0.1, t0.2), (t1.1, t1.2)]) default fun v0 =>
 .rq 6 (.call (on zS_b14 (v0.2.2.1, v0.1, v0.2.1, v0.2.2.2)) default fun v17 =>
 .done v17)))))))
def F_zS (x : Unit) : Option Bool := (zS x).run fun _ => none
def io_zS : Io := ⟨n_zS, [], [], [], [], [tB], .lf (qm 0), [], [], false⟩
def zS_P : List zbG := [zS_p14]
def zS_T : zbN := tab [e_zaR, e_zby, e_zai, e_zH, e_zbx]
theorem zS_To : zbK pg zS_T := zbH ⟨e_zaR_ok, e_zby_ok, e_zai_ok, e_zH_ok, e_zbx_ok, trivial⟩
theorem zS_k14 : (zS_p14).OK pg (zS_T) (zcc 38 (zS_P)) (zbR f_zS) 38 := ⟨by kernel_rfl, fun i x => by kernel_rfl⟩
theorem zS_go : zbX pg (zS_T) io_zS f_zS (zS_P) [] (zS) := ⟨by kernel_rfl, by kernel_rfl, fun x => by kernel_rfl⟩
theorem ok_zS : io_zS.Okay pg (F_zS) := zbU zbI (zS_To) (zS_go) ⟨zS_k14, trivial⟩
def e_zS : zbS := io_zS.sp (fun _ => true) (fun _ => true)
theorem sp_zS (h : (zS ()).run (fun _ => none) = some true) : e_zS.ok pg := zbV ok_zS fun _ _ hc => h
def exL : List Rat := [mkRat 10 3, mkRat 20 3]
def exM : List Rat := [18446744073709551616]
theorem ex_sm {q : Rat} (h : 0 ≤ q ∧ q.num.toNat < 2 ^ 70 ∧ q.den < 2 ^ 70) : 0 ≤ q ∧ sm 5000 q := ⟨h.1, zex (n := 70) (by decide) h.2⟩
theorem e_zS_ok : e_zS.ok pg := sp_zS (by
 have h1 := bring_F (L := exL) (fun q hq => by
  have : q = mkRat 10 3 ∨ q = mkRat 20 3 := by simpa [exL] using hq
  rcases this with rfl | rfl
  ·exact ex_sm (by decide +kernel)
  ·exact ex_sm (by decide +kernel)) (by decide)
 have h2 := bring_F (L := exM) (fun q hq => by
  have : q = 18446744073709551616 := by simpa [exM] using hq
  subst this
  exact ex_sm (by decide +kernel)) (by decide)
 have e1 : exL.map rq = [toB (rQ (mkRat (((10 : Int).toNat : Nat) : Int) (3 : Int).toNat)), toB (rQ (mkRat (((20 : Int).toNat : Nat) : Int) (3 : Int).toNat))] := by kernel_rfl
 have e2 : exM.map rq = [([0, 0, 1], [1])] := by kernel_rfl
 have b1 : brV exL = (3, 30, 0, [10, 20]) := by kernel_rfl
 have b2 : brV exM = (0, 0, 10, []) := by kernel_rfl
 rw [e1, b1] at h1
 rw [e2, b2] at h2
 have f2 : F_zaR [([0, 0, 1], [1])] = some false := by
  show (zaR _).run _ = _
  rw [zaR]
  simp only [RT.run]
  rw [h2]
  rfl
 rw [zS]
 simp only [RT.run, pe]
 have i1 : (isM 38 (rQ (mkRat (((10 : Int).toNat : Nat) : Int) (3 : Int).toNat)).1 && isM 38 (rQ (mkRat (((10 : Int).toNat : Nat) : Int) (3 : Int).toNat)).2) = true := by kernel_rfl
 have i2 : (isM 38 (rQ (mkRat (((20 : Int).toNat : Nat) : Int) (3 : Int).toNat)).1 && isM 38 (rQ (mkRat (((20 : Int).toNat : Nat) : Int) (3 : Int).toNat)).2) = true := by kernel_rfl
 rw [if_pos (by decide), i1, if_pos rfl, if_pos (by decide), i2, if_pos rfl, h1, Option.bind_some]
 have : on zS_b14 (0, 3, 30, [10, 20]) = some true := by
  show (zS_b14 _).run _ = _
  rw [zS_b14]
  simp only [RT.run]
  rw [f2]
  rfl
 rw [this]
 rfl)
def zU_b2042 : ((List Bool) × (List Tk) × (List Th) × (List Lk) × (List Int) × Int × Int × (List Int)) → (Int × Int) → RT (Int × Int) (LR Unit Int)
| (l_0, l_1, l_2, l_3, l_4, l_5, s_0, r50), (L, i) =>
 .rq 5 (.ite (decide (i < (r50.length : Int)))
 (.rq 4 (.req (inB r50 i) (.rq 6 (.req (inB r50 i) (.rq 3 (.req (decide (s_0 ≠ 0)) (.rq 2 (.req ((wOK l_0 l_1 l_2 l_3 l_4 l_5 && inB l_2 i)) (let t0 := rQ (mkRat (((gI r50 i).toNat : Nat) : Int) s_0.toNat);
 let t1 := (rQ (gI (wgV l_0 l_1 l_2 l_3 l_4 l_5) i));
 .req ((okq t0.1 t0.2 && okq t1.1 t1.2)) (.rq 1 (.ite (((zcK ((val B16 t0.1 * val B16 t1.2 : Nat) : Int) ((val B16 t1.1 * val B16 t0.2 : Nat) : Int))) != 0)
 (.rq 1 (.done (.ex ())))
 (.rq 3 (.again ((((Nat.gcd L.toNat (gI r50 i).toNat : Nat) : Int)), w64 (i + 1)))))))))))))))
 (.done (.rt L)))
def zU_p2042 : zbG := ⟨2042, true, [.sl tB, .sl yK, .sl yH, .sl yL, .sl tI, tI, tU, tU, .sl tU], [tU, tI], ⟨[.keep [1, 3, 7, 8], .gc, .cellRow 48 2 600050 48 tU, .cellRen 48 2 600050, .gc], [1, 3, 7, 8], [.lf (qp 16), .lf (qp 48), .lf (qm 0), .lf (qm 1)], [(16, true, .cells [qi 0, qi 1, qi 2, qi 3, qi 4, qi 5]), (48, true, .cells [qi 6, qi 7, qr 600050]), (600050, true, .arr 48 (qi 8))]⟩, [⟨1, ⟨[.keep [2], .gc], [2], [.lf (.fix (.bool false))], []⟩, []⟩, ⟨2, ⟨[.keep [7], .gc], [7], [.lf (qm 0)], []⟩, [tU]⟩], (fun i => zU_b2042 (i.1, i.2.1, i.2.2.1, i.2.2.2.1, i.2.2.2.2.1, i.2.2.2.2.2.1, i.2.2.2.2.2.2.1, i.2.2.2.2.2.2.2.2))⟩
def zU : ((List Bool) × (List Tk) × (List Th) × (List Lk) × (List Int) × Int) → RT Unit Bool
| (a0_0, a0_1, a0_2, a0_3, a0_4, a0_5) =>
 .rq 7 (let t0 := (smallV a0_0 a0_1 a0_2 a0_3 a0_4);
 let t1 := !t0;
 .req (((decide (a0_1.length ≤ 1000000))) || (!(!t1))) (.rq 4 (let t2 := t1 || (!((decide (a0_1.length ≤ 30) && decide (cnt2 a0_1 ≤ 8))));
 .req (t0 || (!(!t2))) (.rq 2 (.ite (t2 || (!((zeJ a0_0 a0_1 a0_2 a0_3 a0_4 a0_5))))
 (.rq 2 (.done (true)))
 (.rq 1 (let t3 := (wOK a0_0 a0_1 a0_2 a0_3 a0_4 a0_5);
 .req t3 (.rq 7 (.req t3 (.rq 10 (let t4 := (brV (wgV a0_0 a0_1 a0_2 a0_3 a0_4 a0_5));
 .call (F_zaX (t4.1, t4.2.1, t4.2.2.2, t4.2.2.1, t4.1, t4.2.1, t4.2.2.2, t4.2.2.1)) default fun v0 =>
 .rq 1 (.ite (!v0)
 (.rq 1 (.done false))
 (.rq 2 (.ite (t4.2.2.1 != 0)
 (.rq 2 (.done (true)))
 (.rq 4 (.call (lo zU_b2042 (a0_0, a0_1, a0_2, a0_3, a0_4, a0_5, t4.1, t4.2.2.2) (t4.1, 0)) default fun v1 =>
 .ite v1.isRt
 (.rq 6 (.done ((v1.getR == 1) && (true))))
 (.done false)))))))))))))))))
def F_zU (x : (List Bool) × (List Tk) × (List Th) × (List Lk) × (List Int) × Int) : Option Bool := (zU x).run fun _ => none
def io_zU : Io := ⟨n_zU, [.sl tB, .sl yK, .sl yH, .sl yL, .sl tI, tI], [.agg [qm 0, qm 1, qm 2, qm 3, qm 4, qm 5]], [], [[.sl tB, .sl yK, .sl yH, .sl yL, .sl tI, tI]], [tB], .lf (qm 0), [], [], false⟩
def zU_P : List zbG := [zU_p2042]
def zU_T : zbN := tab [e_zS, e_zaX, e_zbB, e_zba, e_zbj, e_zbq, e_zaK, e_zaq, e_zaE, e_zbd, e_zbx]
theorem zU_To : zbK pg zU_T := zbH ⟨e_zS_ok, e_zaX_ok, e_zbB_ok, e_zba_ok, e_zbj_ok, e_zbq_ok, e_zaK_ok, e_zaq_ok, e_zaE_ok, e_zbd_ok, e_zbx_ok, trivial⟩
theorem zU_k2042 : (zU_p2042).OK pg (zU_T) (zcc 76 (zU_P)) (zbR f_zU) 76 := ⟨by kernel_rfl, fun i x => by kernel_rfl⟩
theorem zU_go : zbX pg (zU_T) io_zU f_zU (zU_P) [] (zU) := ⟨by kernel_rfl, by kernel_rfl, fun x => by kernel_rfl⟩
theorem ok_zU : io_zU.Okay pg (F_zU) := zbU zbI (zU_To) (zU_go) ⟨zU_k2042, trivial⟩
theorem gcd_up : ∀ (L : List Rat) (m g : Nat), (L.map (upV m)).foldl Nat.gcd g ∣ g ∧ ∀ q ∈ L, (L.map (upV m)).foldl Nat.gcd g ∣ upV m q
 | [], m, g => ⟨Nat.dvd_refl _, fun q h => by cases h⟩
 | q :: L, m, g => by
  obtain ⟨h1, h2⟩ := gcd_up L m (Nat.gcd g (upV m q))
  rw [List.map_cons, List.foldl_cons]
  refine ⟨Nat.dvd_trans h1 (Nat.gcd_dvd_left ..), fun p hp => ?_⟩
  rcases List.mem_cons.1 hp with rfl | hp
  ·exact Nat.dvd_trans h1 (Nat.gcd_dvd_right ..)
  ·exact h2 p hp
theorem lcm_least : ∀ (L : List Rat) (m k : Nat), m ∣ k → (∀ q ∈ L, q.den ∣ k) → L.foldl (fun m q => Nat.lcm m q.den) m ∣ k
 | [], _, _, h, _ => h
 | q :: L, m, k, h, hq => lcm_least L _ k (Nat.lcm_dvd h (hq q (List.mem_cons_self ..))) fun p hp => hq p (List.mem_cons_of_mem _ hp)
theorem gcd_one {L : List Rat} (hL : ∀ q ∈ L, 0 ≤ q) : (zdf L).foldl Nat.gcd (zcX L) = 1 := by
 obtain ⟨h1, h2⟩ := gcd_up L (zcX L) (zcX L)
 have hm := lcm_pos L 1 (by decide)
 change 0 < zcX L at hm
 unfold zdf
 generalize hg : (L.map (upV (zcX L))).foldl Nat.gcd (zcX L) = g at h1 h2
 obtain ⟨m', hm'⟩ := h1
 have hg0 : 0 < g := by
  rcases Nat.eq_zero_or_pos g with h | h
  ·rw [h, Nat.zero_mul] at hm'; omega
  ·exact h
 have hd : ∀ q ∈ L, q.den ∣ m' := fun q hq => by
  obtain ⟨u, hu⟩ := h2 q hq
  have hdm : q.den ∣ zcX L := (lcm_dvd L 1).2 q hq
  obtain ⟨t, ht⟩ := hdm
  have h3 : upV (zcX L) q = t * q.num.toNat := by
   unfold upV
   rw [ht, Nat.mul_div_cancel_left _ q.den_pos]
  have h4 : t * q.num.toNat = g * u := h3.symm.trans hu
  have h5 : q.den * t = g * m' := ht.symm.trans hm'
  have h6 : q.num.toNat * m' = q.den * u := by
   have : g * (q.num.toNat * m') = g * (q.den * u) := by
    calc g * (q.num.toNat * m') = q.num.toNat * (g * m') := by rw [Nat.mul_left_comm]
     _ = q.num.toNat * (q.den * t) := by rw [h5]
     _ = q.den * (t * q.num.toNat) := by rw [Nat.mul_left_comm, Nat.mul_comm q.num.toNat t]
     _ = q.den * (g * u) := by rw [h4]
     _ = g * (q.den * u) := by rw [Nat.mul_left_comm]
   exact Nat.eq_of_mul_eq_mul_left hg0 this
  have hcop : Nat.Coprime q.den q.num.toNat := by
   have := q.reduced
   have e : q.num.natAbs = q.num.toNat := by
    have := Rat.num_nonneg.2 (hL q hq)
    omega
   rw [e] at this
   exact this.symm
  exact hcop.dvd_of_dvd_mul_left ⟨u, h6⟩
 have h7 := lcm_least L 1 m' (Nat.one_dvd _) hd
 change zcX L ∣ m' at h7
 have h8 : m' ≤ g * m' := Nat.le_mul_of_pos_left _ hg0
 have hm'0 : 0 < m' := by
  rcases Nat.eq_zero_or_pos m' with h | h
  ·rw [h, Nat.mul_zero] at hm'; omega
  ·exact h
 have h9 := Nat.le_of_dvd hm'0 h7
 rw [hm'] at h9
 rcases Nat.lt_or_ge g 2 with h | h
 ·omega
 ·have := Nat.mul_le_mul_right m' h
  omega
section
variable {a : List Bool} {b : List Tk} {c : List Th} {d : List Lk} {e : List Int} {f : Int}
theorem so_loop (hw : wOK a b c d e f = true) (hm : zcX (wgV a b c d e f) < 18446744073709551616) (hs : (zdf (wgV a b c d e f)).sum < 18446744073709551616) : ∀ (n i g : Nat), i + n = c.length →
  lo zU_b2042 (a, b, c, d, e, f, (zcX (wgV a b c d e f) : Int), i64s (zdf (wgV a b c d e f))) ((g : Int), (i : Int)) = some (.rt (((zdf (wgV a b c d e f)).drop i).foldl Nat.gcd g : Nat))
 | 0, i, g, h => by
  have hlen : (zdf (wgV a b c d e f)).length = c.length := by unfold zdf; rw [List.length_map, zhy]
  rw [zbP, zU_b2042]
  simp only [RT.run]
  rw [if_neg (by unfold i64s; rw [List.length_map, hlen]; simp; omega), List.drop_eq_nil_of_le (by omega)]
  rfl
 | n + 1, i, g, h => by
  obtain ⟨H, h8⟩ := zdl hw
  have hlc := H.lenC
  have hlen : (zdf (wgV a b c d e f)).length = c.length := by unfold zdf; rw [List.length_map, zhy]
  have hi : i < (zdf (wgV a b c d e f)).length := by omega
  have hic : 0 ≤ (i : Int) ∧ (i : Int) < (c.length : Int) := by omega
  have hiw : i < (wgV a b c d e f).length := by rw [zhy]; omega
  have hg : gI (i64s (zdf (wgV a b c d e f))) (i : Int) = (((zdf (wgV a b c d e f))[i] : Nat) : Int) := by
   unfold i64s
   rw [zdX (α := Nat) (fun (n : Nat) => (n : Int)) (by omega), zcj hi]
  have hup : (zdf (wgV a b c d e f))[i] = upV (zcX (wgV a b c d e f)) (gI (wgV a b c d e f) (i : Int)) := by
   rw [zcj hiw]
   simp [zdf]
  obtain ⟨s1, s2⟩ := H.wg_sm hic
  have hmp := lcm_pos (wgV a b c d e f) 1 (by decide)
  change 0 < zcX (wgV a b c d e f) at hmp
  have hinL : inB (i64s (zdf (wgV a b c d e f))) (i : Int) = true := zbO.2 (by unfold i64s; rw [List.length_map]; omega)
  have hule : (zdf (wgV a b c d e f))[i] < 18446744073709551616 := Nat.lt_of_le_of_lt (sum_ge (List.getElem_mem hi)) hs
  have hq : mkRat (((zdf (wgV a b c d e f))[i] : Nat) : Int) (zcX (wgV a b c d e f)) = gI (wgV a b c d e f) (i : Int) := by
   have hdv : (gI (wgV a b c d e f) (i : Int)).den ∣ zcX (wgV a b c d e f) := (lcm_dvd (wgV a b c d e f) 1).2 _ (zff (by omega))
   rw [hup]
   obtain ⟨t, ht⟩ := hdv
   conv => rhs; rw [← mkRat_self s1]
   unfold upV
   rw [ht, Nat.mul_div_cancel_left _ (gI (wgV a b c d e f) (i : Int)).den_pos]
   refine (cross (by rw [← ht]; omega) (gI (wgV a b c d e f) (i : Int)).den_nz).2 ?_
   rw [Nat.mul_comm t, Nat.mul_assoc, Nat.mul_comm t]
  have sq : sm 64 (mkRat (((zdf (wgV a b c d e f))[i] : Nat) : Int) (zcX (wgV a b c d e f))) := zfq (by omega) (by omega) (by omega)
  have e3 : mkRat ((((((zdf (wgV a b c d e f))[i] : Nat) : Int).toNat : Nat) : Int)) ((zcX (wgV a b c d e f) : Int)).toNat = gI (wgV a b c d e f) (i : Int) := by rw [Int.toNat_natCast, Int.toNat_natCast, hq]
  have hcmp : zcK ((val B16 (rQ (gI (wgV a b c d e f) (i : Int))).1 * val B16 (rQ (gI (wgV a b c d e f) (i : Int))).2 : Nat) : Int) ((val B16 (rQ (gI (wgV a b c d e f) (i : Int))).1 * val B16 (rQ (gI (wgV a b c d e f) (i : Int))).2 : Nat) : Int) = 0 := cmpI_eq.2 rfl
  have ih := so_loop hw hm hs n (i + 1) (Nat.gcd g (zdf (wgV a b c d e f))[i]) (by omega)
  rw [zbP, zU_b2042]
  simp only [RT.run, hg]
  rw [if_pos (by unfold i64s; rw [List.length_map, hlen]; simp; omega), if_pos hinL, if_pos hinL, if_pos (decide_eq_true (by omega)), hw, zbO.2 hic, if_pos (by decide), e3, zfF s2 (by decide), if_pos (by decide), hcmp, if_neg (by decide), Int.toNat_natCast, Int.toNat_natCast, zbL (by omega), show (i : Int) + 1 = ((i + 1 : Nat) : Int) by omega, ih, List.drop_eq_getElem_cons hi, List.foldl_cons]
end
theorem ScaleOf_F (a : List Bool) (b : List Tk) (c : List Th) (d : List Lk) (e : List Int) (f : Int) : F_zU (a, b, c, d, e, f) = some true := by
 show (zU _).run _ = _
 rw [zU]
 simp only [RT.run]
 cases hs : smallV a b c d e with
 | false => rw [if_pos (by simp), if_pos (by simp), if_pos (by simp)]
 | true =>
  have hb : b.length ≤ 200 := by
   unfold smallV at hs
   simp only [Bool.and_eq_true, decide_eq_true_eq] at hs
   omega
  rw [if_pos (by rw [decide_eq_true (show b.length ≤ 1000000 by omega)]; rfl), if_pos (by rfl)]
  cases hl : (decide (b.length ≤ 30) && decide (cnt2 b ≤ 8)) with
  | false => rfl
  | true =>
   cases hf : zeJ a b c d e f with
   | false => rfl
   | true =>
    rw [if_neg (by decide)]
    have hw : wOK a b c d e f = true := by
     rw [Bool.and_eq_true] at hl
     unfold wOK
     rw [hf, hl.2]; rfl
    obtain ⟨H, h8⟩ := zdl hw
    have hsame : ∀ x : Int × Int × Int × List Int, F_zaX (x.1, x.2.1, x.2.2.2, x.2.2.1, x.1, x.2.1, x.2.2.2, x.2.2.1) = some true := fun x => by
     show (zaX _).run _ = _
     rw [zaX]
     simp [RT.run]
    rw [hw, if_pos rfl, if_pos rfl, hsame, Option.bind_some, if_neg (by decide)]
    unfold brV
    by_cases hc : zcX (wgV a b c d e f) < 18446744073709551616 ∧ (zdf (wgV a b c d e f)).sum < 18446744073709551616
    ·have l1 := so_loop hw hc.1 hc.2 c.length 0 (zcX (wgV a b c d e f)) (by omega)
     rw [List.drop_zero, show ((0 : Nat) : Int) = 0 from rfl, gcd_one (fun q hq => (H.wg_mem q hq).1)] at l1
     rw [if_pos hc, if_neg (by simp)]
     simp only
     rw [l1]
     rfl
    ·rw [if_neg hc, if_pos (by decide)]
end
end Go.Proofs.YtlfdidaeachpoaaGreat
namespace Go.Proofs.YtlfdidaeachpoaaGreat
open Go Go.RowKit
theorem exists_list {α : Type} {Q : Nat → α → Prop} : ∀ (n : Nat), (∀ i, i < n → ∃ x, Q i x) → ∃ xs : List α, xs.length = n ∧ ∀ i (h : i < xs.length), Q i xs[i]
 | 0, _ => ⟨[], rfl, fun i hi => absurd hi (Nat.not_lt_zero i)⟩
 | n + 1, h => by
  obtain ⟨xs, h1, h2⟩ := exists_list n fun i hi => h i (by omega)
  obtain ⟨x, hx⟩ := h n (by omega)
  refine ⟨xs ++ [x], by simp [h1], fun i hi => ?_⟩
  by_cases hin : i < xs.length
  ·rw [List.getElem_append_left hin]
   exact h2 i hin
  ·have : i = n := by simp at hi; omega
   subst this
   rw [List.getElem_append_right (by omega)]
   simpa [h1] using hx
theorem cell_at {w : World} {a : Addr} {u : Value} (h : w.cell? a = some u) : a.spot = none ∧ a.block < w.heap.size := by
 unfold World.cell? at h
 split at h
 ·rename_i c _ _ hb
  split at h
  ·cases h
  ·rename_i hs
   refine ⟨by simpa using hs, ?_⟩
   apply Decidable.byContradiction
   intro hlt
   rw [Array.getElem?_eq_none (Nat.le_of_not_lt hlt)] at hb
   cases hb
 ·cases h
theorem add_block (a : Addr) (n : Nat) : (a.add n).block = a.block := by
 unfold Addr.add
 split <;> rfl
theorem add_plain (b o n : Nat) : Addr.add ⟨b, o, none⟩ n = ⟨b, o + n, none⟩ := by
 unfold Addr.add
 split
 ·rename_i h; subst h; rfl
 ·rfl
def inHeap (w : World) : Nat → Prop := fun b => b < w.heap.size
section
variable {H : Type} {enc : TypeId × Value → H} {P : Program} {w : World} {held : Bool}
theorem fields_rep {g : TypeId → Option Ty} {fuel : Nat} {cs : List Value}
  (ih : ∀ (t : TypeId) (ty : Ty) (cs : List Value) (y : DataW H × List MemPlace), g t = some ty → P.cellsOf t = ty.size → DataW.trod enc P w 0 (fun _ => true) held fuel t cs = some y → ∃ x, zcn w (inHeap w) ty cs x) :
  ∀ (fs : List Field) (off : Nat) (ty : Ty), tyFs P g fs off = some ty → (∀ f ∈ fs, ∃ y, DataW.trod enc P w 0 (fun _ => true) held fuel f.type ((cs.drop f.offset).take (P.cellsOf f.type)) = some y) →
   ∃ x, zcn w (inHeap w) ty ((cs.drop off).take ty.size) x
 | [], _, _, h, _ => by cases h
 | f :: fs, off, ty, h, hf => by
  unfold tyFs at h
  split at h
  ·cases h
  ·rename_i a ha
   split at h
   ·rename_i hc
    obtain ⟨y, hy⟩ := hf f (List.mem_cons_self ..)
    rw [hc.1, hc.2] at hy
    obtain ⟨x, hx⟩ := ih f.type a _ y ha hc.2 hy
    split at h
    ·cases h
     exact ⟨x, hx⟩
    ·rename_i f' fs'
     split at h
     ·rename_i b hb
      cases h
      obtain ⟨x', hx'⟩ := fields_rep ih (f' :: fs') (off + a.size) b hb fun z hz => hf z (List.mem_cons_of_mem _ hz)
      refine ⟨(x, x'), _, _, ?_, hx, hx'⟩
      show (cs.drop off).take (a.size + b.size) = _
      rw [List.take_add, List.drop_drop]
     ·cases h
   ·cases h
theorem trod_rep : ∀ (n : Nat) (t : TypeId) (ty : Ty) (fuel : Nat) (cs : List Value) (y : DataW H × List MemPlace), tyOf P n t = some ty → P.cellsOf t = ty.size → DataW.trod enc P w 0 (fun _ => true) held fuel t cs = some y → ∃ x, zcn w (inHeap w) ty cs x := by
 intro n
 induction n with
 | zero => intro t ty fuel cs y h; cases h
 | succ n ih =>
  intro t ty fuel cs y ht hsz h
  unfold tyOf at ht
  split at ht
  ·rename_i k hu
   cases ht
   obtain ⟨m, rfl, _, hw⟩ := DataW.trod_int hu h
   exact ⟨m, rfl, hw⟩
  ·rename_i hu
   cases ht
   obtain ⟨b, rfl, _⟩ := DataW.trod_bool hu h
   exact ⟨b, rfl⟩
  ·rename_i hu
   cases ht
   obtain ⟨s, rfl, _, hs⟩ := DataW.trod_string hu h
   exact ⟨s, rfl, hs⟩
  ·rename_i e hu
   split at ht
   ·rename_i a ha
    split at ht
    ·rename_i hc
     cases ht
     rcases DataW.trod_slice hu h with ⟨rfl, _⟩ | ⟨ad, len, cap, elems, rest, m, _, rfl, _, _, hlc, hcm, hlen, hel, _, _⟩
     ·exact ⟨[], none, 0, rfl, Nat.le_refl _, Nat.zero_le _, fun _ => rfl, fun i hi => absurd hi (Nat.not_lt_zero i)⟩
     ·have hpos := a.size_pos
      have had : 0 < len → ad.spot = none := by
       intro h0
       have h1 := hel 0 h0
       rw [List.getElem?_eq_getElem (by omega), Option.bind_eq_some_iff] at h1
       obtain ⟨us, hus, _⟩ := h1
       obtain ⟨_, hl, hcell⟩ := World.cells?_some hus
       have c0 := hcell 0 (by omega)
       rw [List.getElem?_eq_getElem (by omega), Nat.zero_mul] at c0
       exact (cell_at c0).1
      have each : ∀ i, i < len → ∃ x : a.den, ∃ b o us, (some ad : Option Addr) = some ⟨b, o, none⟩ ∧ inHeap w b ∧ us.length = a.size ∧ Mem w b (o + i * a.size) us ∧ zcn w (inHeap w) a us x := by
       intro i hi
       have h1 := hel i hi
       rw [List.getElem?_eq_getElem (by omega), Option.bind_eq_some_iff] at h1
       obtain ⟨us, hus, hy⟩ := h1
       obtain ⟨_, hl, hcell⟩ := World.cells?_some hus
       obtain ⟨x, hx⟩ := ih e a m us _ ha hc hy
       have c0 := hcell 0 (by omega)
       rw [List.getElem?_eq_getElem (by omega)] at c0
       have hb := (cell_at c0).2
       rw [add_block, add_block] at hb
       have hsp := had (by omega)
       obtain ⟨b, o, sp⟩ := ad
       simp only at hsp
       subst hsp
       refine ⟨x, b, o, us, rfl, hb, by omega, fun j u hu' => ?_, hx⟩
       have hj : j < us.length := by
        apply Decidable.byContradiction
        intro hn
        rw [List.getElem?_eq_none (by omega)] at hu'
        cases hu'
       have := hcell j (by omega)
       rw [hu', add_plain, add_plain] at this
       rw [← hc]
       exact this
      obtain ⟨xs, hxl, hxs⟩ := exists_list len each
      refine ⟨xs, some ad, cap, by rw [hxl], by omega, hcm, (fun h => by cases h), fun i hi => ?_⟩
      obtain ⟨b, o, us, h1, h2, h3, h4, h5⟩ := hxs i hi
      exact ⟨b, o, us, h1, h2, h3, h4, h5⟩
    ·cases ht
   ·cases ht
  ·rename_i fs hu
   obtain ⟨xs, m, _, _, hl, hxl, hf⟩ := DataW.trod_struct hu h
   obtain ⟨x, hx⟩ := fields_rep (enc := enc) (held := held) (fuel := m) (cs := cs) (fun t ty cs y h1 h2 h3 => ih t ty m cs y h1 h2 h3) fs.toList 0 ty ht (fun f hf' => by
    obtain ⟨i, hi, rfl⟩ := List.mem_iff_getElem.1 hf'
    have hi' : i < fs.size := by simpa using hi
    have := hf i fs.toList[i] (by simp [hi'])
    rw [List.getElem?_eq_getElem (by omega)] at this
    exact ⟨_, this⟩)
   refine ⟨x, ?_⟩
   rw [List.drop_zero, List.take_of_length_le (by omega)] at hx
   exact hx
  ·cases ht
end
theorem callPost_below {w : World} {ok : Nat → Prop} {n : Nat} {r : zdn} {v : Value} {w' : World} {β' : Nat → Option Value} {ok' : Nat → Prop} (h : zgC w (fun _ => none) ok n r v w' β' ok') : Below w.heap.size w w' :=
 ⟨h.os, h.tape, h.output, h.size, fun k hk => h.block k hk (fun _ _ _ e => by cases e)⟩
end Go.Proofs.YtlfdidaeachpoaaGreat
