/- Part 6 of the walk and of the plain law. -/
import Derived.Test.YtlfdidaeachpoaaGreatCLT5
import Derived.Test.YtlfdidaeachpoaaGreatCLT2
import Derived.Below
import Derived.ChangeArms
import Derived.DataReads
set_option linter.unusedSimpArgs false
set_option linter.unusedVariables false
namespace Go.Proofs.YtlfdidaeachpoaaGreat
open Go Go.RowKit
set_option maxRecDepth 100000
noncomputable section
theorem wg_hyp {a : List Bool} {b : List Tk} {c : List Th} {d : List Lk} {e : List Int} {f : Int} (H : zcr a b c d e f) : (∀ q ∈ wgV a b c d e f, 0 ≤ q ∧ sm 5000 q) ∧ (wgV a b c d e f).length ≤ 100 := by
 have hlc := H.lenC
 exact ⟨fun q hq => ⟨(H.wg_mem q hq).1, zeI (by decide) (H.wg_mem q hq).2⟩, by rw [zgb]; omega⟩
def zbG : ((List Bool) × (List Tk) × (List Th) × (List Lk) × (List Int) × Int) → RT Unit (Int × Int × Int × (List Int))
| (s_0, s_1, s_2, s_3, s_4, s_5) =>
 .rq 4 (.req ((wOK s_0 s_1 s_2 s_3 s_4 s_5)) (.call (F_zX (((wgV s_0 s_1 s_2 s_3 s_4 s_5).map rq))) default fun v0 =>
 .rq 4 (.done (v0.1, v0.2.1, v0.2.2.1, v0.2.2.2))))
def F_zbG (x : (List Bool) × (List Tk) × (List Th) × (List Lk) × (List Int) × Int) : Option (Int × Int × Int × (List Int)) := (zbG x).run fun _ => none
def io_zbG : Io := ⟨n_zbG, [.sl tB, .sl yK, .sl yH, .sl yL, .sl tI, tI], [.agg [qm 0, qm 1, qm 2, qm 3, qm 4, qm 5]], [], [[.sl tB, .sl yK, .sl yH, .sl yL, .sl tI, tI]], [tU, tU, tI, .sl tU], .tup [(true, [qm 0, qm 1, qr 0]), (false, [qm 2])], [], [(true, .arr 48 (qm 3))], false⟩
def zbG_P : List zcc := []
def zbG_T : zch := tab [e_zX, e_zA]
theorem zbG_To : zcg pg zbG_T := zce ⟨e_zX_ok, e_zA_ok, trivial⟩
theorem zbG_go : zct pg (zbG_T) io_zbG f_zbG (zbG_P) [.cellRow 32 2 600034 48 tU, .cellRen 32 2 600034] (zbG) := ⟨by kernel_rfl, by kernel_rfl, fun x => by kernel_rfl⟩
theorem ok_zbG : io_zbG.Okay pg (F_zbG) := zcq zcf (zbG_To) (zbG_go) trivial
def e_zbG : zcn := io_zbG.sp (fun (a, b, c, d, e, f) => (wOK a b c d e f)) (fun (a, b, c, d, e, f) => (brV (wgV a b c d e f)))
theorem sp_zbG (h : ∀ (a : List Bool) (b : List Tk) (c : List Th) (d : List Lk) (e : List Int) (f : Int), WfT [.sl tB, .sl yK, .sl yH, .sl yL, .sl tI, tI] (a, b, c, d, e, f) → ((wOK a b c d e f)) = true → (zbG (a, b, c, d, e, f)).run (fun _ => none) = some (brV (wgV a b c d e f))) : e_zbG.ok pg := zcs ok_zbG fun (a, b, c, d, e, f) hw hc => h a b c d e f hw hc
theorem e_zbG_ok : e_zbG.ok pg := sp_zbG fun a b c d e f _ hc => by
 obtain ⟨H, h8⟩ := zdl hc
 rw [zbG]
 simp only [RT.run]
 rw [if_pos hc, bring_F (wg_hyp H).1 (wg_hyp H).2]
 rfl
def xK : Nat := 5000
def zbT : ((List Int) × (List Int)) → RT Unit (List Int)
| (a_0, b_0) =>
 .rq 13 (.ite (((a_0.length : Int) == 0) || ((b_0.length : Int) == 0))
 (.rq 2 (.done []))
 (.rq 2 (.req (okM 38 a_0 && okM 38 b_0) (.rq 2 (.req (isM 37 a_0 && isM 37 b_0) (.req (okM 37 (zcd B16 (val B16 a_0 * val B16 b_0)) && (okM 37 (zcd B16 (Nat.gcd (val B16 a_0) (val B16 b_0))) && decide (0 < val B16 (zcd B16 (Nat.gcd (val B16 a_0) (val B16 b_0)))))) (.rq 9 (.done (zcd B16 (val B16 (zcd B16 (val B16 a_0 * val B16 b_0)) / val B16 (zcd B16 (Nat.gcd (val B16 a_0) (val B16 b_0)))))))))))))
def F_zbT (x : (List Int) × (List Int)) : Option (List Int) := (zbT x).run fun _ => none
def io_zbT : Io := ⟨n_zbT, [.sl tI, .sl tI], [.agg [qm 0], .agg [qm 1]], [], [[.sl tI], [.sl tI]], [.sl tI], .agg [qr 0], [], [(true, .arr 3 (qm 0))], false⟩
def zbT_P : List zcc := []
def zbT_T : zch := tab [e_zbh, e_zam, e_zaa]
theorem zbT_To : zcg pg zbT_T := zce ⟨e_zbh_ok, e_zam_ok, zhV, trivial⟩
theorem zbT_go : zct pg (zbT_T) io_zbT f_zbT (zbT_P) [.cellRow 64 0 600064 3 tI, .cellRen 64 0 600064] (zbT) := ⟨by kernel_rfl, by kernel_rfl, fun x => by kernel_rfl⟩
theorem ok_zbT : io_zbT.Okay pg (F_zbT) := zcq zcf (zbT_To) (zbT_go) trivial
theorem den_lt {n k : Nat} {q : Rat} (h : sm n q) (hk : n ≤ k) : q.den < 2 ^ k := lt_pow hk h.2
theorem digs16_ne {m : Nat} (h : 0 < m) : ((zcd B16 m).length : Int) ≠ 0 := by
 rw [zgy (by decide) h]
 simp only [List.length_cons]
 omega
theorem lcmR_F {m d k : Nat} (hm : 0 < m) (hd : 0 < d) (h1 : m < 2 ^ k) (h2 : d < 2 ^ k) (hk : k ≤ 1000000) : F_zbT (zcd B16 m, zcd B16 d) = some (zcd B16 (Nat.lcm m d)) := by
 have l1 := (zdy h1).2
 have l2 := (zdy h2).2
 have hg : 0 < Nat.gcd m d := Nat.gcd_pos_of_pos_left _ hm
 have hgk : Nat.gcd m d < 2 ^ k := Nat.lt_of_le_of_lt (Nat.gcd_le_left _ hm) h1
 have l3 := (zdy hgk).2
 have hmd : m * d < 2 ^ (k + k) := by rw [Nat.pow_add]; exact Nat.mul_lt_mul'' h1 h2
 have l4 := (zdy hmd).2
 have w : ∀ v, wfd B16 (zcd B16 v) = true := fun v => zcS (by decide) v
 have iM : ∀ v n, (zcd B16 v).length ≤ 2 ^ n → isM n (zcd B16 v) = true := fun v n h => zgz h
 show (zbT _).run _ = _
 rw [zbT]
 simp only [RT.run, zcw (show 2 ≤ B16 by decide)]
 rw [if_neg (by simp only [Bool.or_eq_true, beq_iff_eq]; rintro (h | h); exact digs16_ne hm h; exact digs16_ne hd h), if_pos (by rw [Bool.and_eq_true, zcX, zcX]; exact ⟨⟨by omega, w _⟩, by omega, w _⟩),
  if_pos (by rw [iM _ _ (by omega), iM _ _ (by omega)]; rfl), if_pos (by rw [Bool.and_eq_true, Bool.and_eq_true, zcX, zcX, decide_eq_true_eq]; exact ⟨⟨by omega, w _⟩, ⟨by omega, w _⟩, hg⟩)]
 rfl
def e_zbT : zcn := io_zbT.en F_zbT
theorem e_zbT_ok : e_zbT.ok pg := zeE ok_zbT
def zbg_b58 : (List ((List Int) × List Int)) → (Int × (List Int)) → RT (Int × (List Int)) (List Int)
| l, (i, r48) =>
 .rq 4 (.ite (decide (i < (l.length : Int)))
 (.rq 3 (.req (inB l i) (.rq 2 (.call (F_zbT (r48, (gI l i).2)) default fun v0 =>
 .rq 4 (.again (w64 (i + 1), v0))))))
 (.done r48))
def zbg_p58 : zcc := ⟨58, true, [.sl (.pair (.sl tI) (.sl tI))], [tI, .sl tI], ⟨[.keep [0, 2, 3, 4], .gc, .cellRow 48 0 600048 3 tI, .cellRen 48 0 600048, .gc], [0, 2, 3, 4], [.lf (qi 0), .lf (qp 32), .lf (qp 48), .lf (qm 0)], [(32, true, .cells [.fix (.nil)]), (48, true, .cells [qr 600048]), (600048, true, .arr 3 (qm 1))]⟩, [⟨2, ⟨[.keep [2, 3], .gc, .cellRow 48 0 600048 3 tI, .cellRen 48 0 600048, .gc], [2, 3], [.lf (qp 32), .lf (qp 48)], [(32, true, .cells [.fix (.nil)]), (48, true, .cells [qr 600048]), (600048, true, .arr 3 (qm 0))]⟩, [.sl tI]⟩], zbg_b58⟩
def zbg : (List ((List Int) × List Int)) → RT Unit (List Int)
| l =>
 .rq 5 (.call (lo zbg_b58 l (0, zcd B16 (1 : Int).toNat)) default fun v1 =>
 .rq 2 (.done v1))
def F_zbg (x : (List ((List Int) × List Int))) : Option (List Int) := (zbg x).run fun _ => none
def io_zbg : Io := ⟨n_zbg, [.sl (.pair (.sl tI) (.sl tI))], [.lf (qm 0)], [], [[.sl (.pair (.sl tI) (.sl tI))]], [.sl tI], .agg [qr 0], [], [(true, .arr 3 (qm 0))], false⟩
def zbg_P : List zcc := [zbg_p58]
def zbg_T : zch := tab [e_zbT, e_zbr]
theorem zbg_To : zcg pg zbg_T := zce ⟨e_zbT_ok, e_zbr_ok, trivial⟩
theorem zbg_k58 : (zbg_p58).OK pg (zbg_T) (zcy 20 (zbg_P)) (zcp f_zbg) 20 := ⟨by kernel_rfl, fun i x => by kernel_rfl⟩
theorem zbg_go : zct pg (zbg_T) io_zbg f_zbg (zbg_P) [.cellRow 32 0 600032 3 tI, .cellRen 32 0 600032] (zbg) := ⟨by kernel_rfl, by kernel_rfl, fun x => by kernel_rfl⟩
theorem ok_zbg : io_zbg.Okay pg (F_zbg) := zcq zcf (zbg_To) (zbg_go) ⟨zbg_k58, trivial⟩
section
variable {L : List Rat} (hL : ∀ q ∈ L, 0 ≤ q ∧ sm 5000 q) (hl : L.length ≤ 100)
include hL hl
theorem lcR_loop : ∀ (n i m k : Nat), i + n = L.length → 0 < m → m < 2 ^ k → 5000 ≤ k → k + 5000 * n ≤ 1000000 →
  lo zbg_b58 (L.map rQ) ((i : Int), zcd B16 m) = some (zcd B16 ((L.drop i).foldl (fun m q => Nat.lcm m q.den) m))
 | 0, i, m, k, h, _, _, _, _ => by
  rw [zcm, zbg_b58]
  simp only [RT.run, List.length_map]
  rw [if_neg (by simp; omega), List.drop_eq_nil_of_le (by omega)]
  rfl
 | n + 1, i, m, k, h, h0, hm, hk5, hk => by
  have hi : i < L.length := by omega
  have hg : gI (L.map rQ) (i : Int) = rQ L[i] := by rw [zen rQ (by omega), zcH hi]
  obtain ⟨s1, s2⟩ := hL _ (List.getElem_mem hi)
  have ih := lcR_loop n (i + 1) (Nat.lcm m L[i].den) (k + 5000) (by omega) (Nat.lcm_pos h0 L[i].den_pos) (by
   exact lcm_sm hm s2) (by omega) (by omega)
  rw [zcm, zbg_b58]
  simp only [RT.run, List.length_map]
  rw [if_pos (by simp; omega), if_pos (zck.2 (by rw [List.length_map]; omega)), hg]
  show (F_zbT (zcd B16 m, zcd B16 L[i].den)).bind _ = _
  rw [lcmR_F h0 L[i].den_pos hm (den_lt s2 hk5) (by omega), Option.bind_some, zcj (by omega), show (i : Int) + 1 = ((i + 1 : Nat) : Int) by omega, ih, List.drop_eq_getElem_cons hi, List.foldl_cons]
theorem lcmL_F : F_zbg (L.map rQ) = some (zcd B16 (lcmV L)) := by
 show (zbg _).run _ = _
 rw [zbg]
 simp only [RT.run]
 have h1 := lcR_loop hL hl L.length 0 1 xK (by omega) (by decide) (lt_pow (m := 1) (by decide) (by decide)) (by decide) (by unfold xK; omega)
 rw [List.drop_zero, show ((0 : Nat) : Int) = 0 from rfl] at h1
 show (lo zbg_b58 _ (0, zcd B16 1)).bind _ = _
 rw [h1]
 rfl
end
def e_zbg : zcn := io_zbg.en F_zbg
theorem e_zbg_ok : e_zbg.ok pg := zeE ok_zbg
def zbZ : ((List Int) × (List Int) × (List Int)) → RT Unit (List Int)
| (q_0, q_1, m_0) =>
 .rq 6 (.req (okM 38 q_0 && okM 38 m_0) (.rq 2 (.req (okM 37 (zcd B16 (val B16 q_0 * val B16 m_0)) && (okM 37 q_1 && decide (0 < val B16 q_1))) (.rq 9 (.done (zcd B16 (val B16 (zcd B16 (val B16 q_0 * val B16 m_0)) / val B16 q_1)))))))
def F_zbZ (x : (List Int) × (List Int) × (List Int)) : Option (List Int) := (zbZ x).run fun _ => none
def io_zbZ : Io := ⟨n_zbZ, [.sl tI, .sl tI, .sl tI], [.agg [qm 0, qm 1], .agg [qm 2]], [], [[.sl tI, .sl tI], [.sl tI]], [.sl tI], .agg [qr 0], [], [(true, .arr 3 (qm 0))], false⟩
def zbZ_P : List zcc := []
def zbZ_T : zch := tab [e_zam, e_zaa]
theorem zbZ_To : zcg pg zbZ_T := zce ⟨e_zam_ok, zhV, trivial⟩
theorem zbZ_go : zct pg (zbZ_T) io_zbZ f_zbZ (zbZ_P) [.cellRow 64 0 600064 3 tI, .cellRen 64 0 600064] (zbZ) := ⟨by kernel_rfl, by kernel_rfl, fun x => by kernel_rfl⟩
theorem ok_zbZ : io_zbZ.Okay pg (F_zbZ) := zcq zcf (zbZ_To) (zbZ_go) trivial
theorem up_F {q : Rat} {m k n : Nat} (hq : 0 ≤ q ∧ sm n q) (hn : n ≤ 100000) (hm : m < 2 ^ k) (hk : k ≤ 1000000) (hd : q.den ∣ m) : F_zbZ ((rQ q).1, (rQ q).2, zcd B16 m) = some (zcd B16 (upV m q)) := by
 obtain ⟨s1, s2⟩ := hq.2
 have l1 := (zdy s1).2
 have l2 := (zdy s2).2
 have l3 := (zdy hm).2
 have hp : q.num.toNat * m < 2 ^ (n + k) := by rw [Nat.pow_add]; exact Nat.mul_lt_mul'' s1 hm
 have l4 := (zdy hp).2
 have w : ∀ v, wfd B16 (zcd B16 v) = true := fun v => zcS (by decide) v
 show (zbZ (zcd B16 q.num.toNat, zcd B16 q.den, zcd B16 m)).run _ = _
 rw [zbZ]
 simp only [RT.run, zcw (show 2 ≤ B16 by decide)]
 rw [if_pos (by rw [Bool.and_eq_true, zcX, zcX]; exact ⟨⟨by omega, w _⟩, by omega, w _⟩), if_pos (by rw [Bool.and_eq_true, Bool.and_eq_true, zcX, zcX, decide_eq_true_eq]; exact ⟨⟨by omega, w _⟩, ⟨by omega, w _⟩, q.den_pos⟩)]
 unfold upV
 rw [Nat.mul_comm (m / q.den), Nat.mul_div_assoc _ hd]
def e_zbZ : zcn := io_zbZ.en F_zbZ
theorem e_zbZ_ok : e_zbZ.ok pg := zeE ok_zbZ
def zhf : ((List ((List Int) × List Int)) × (List Int)) → (Int × (List Int) × (List Int)) → RT (Int × (List Int) × (List Int)) ((List Int) × (List Int))
| (l, r64), (i, r8, r112) =>
 .rq 4 (.ite (decide (i < (l.length : Int)))
 (.rq 2 (.req (inB l i) (.rq 2 (.call (F_zbZ ((gI l i).1, (gI l i).2, r64)) default fun v2 =>
 .rq 4 (.req (okM 39 r112 && okM 39 v2) (.rq 2 (.req (wfd B16 v2) (.rq 8 (.req (zdG 8 r8 [if v2.length ≤ 4 then ((val B16 v2 : Nat) : Int) else 0]) (.rq 4 (.again (w64 (i + 1), r8 ++ [if v2.length ≤ 4 then ((val B16 v2 : Nat) : Int) else 0], zcd B16 (val B16 r112 + val B16 v2)))))))))))))
 (.done (r8, r112)))
def zar_p506 : zcc := ⟨506, true, [.sl (.pair (.sl tI) (.sl tI)), tU, tB, tU, tU, .sl tI], [tI, .sl tU, .sl tI], ⟨[.keep [0, 2, 4, 5, 6, 7, 8, 9], .gc, .nilRow 8 800008 48 tU, .ren 8 700008, .ren 8 900008, .cellRow 64 0 600064 3 tI, .cellRow 112 0 600112 3 tI, .cellRen 64 0 600064, .cellRen 112 0 600112, .gc], [0, 2, 4, 5, 6, 7, 8, 9], [.lf (qi 0), .lf (qp 32), .lf (qp 64), .lf (qi 1), .lf (qi 2), .lf (qp 112), .lf (qr 900008), .lf (qm 0)], [(32, true, .cells [qi 3, qi 4, .fix (.nil)]), (64, true, .cells [qr 600064]), (112, true, .cells [qr 600112]), (900008, true, .arr 48 (qm 1)), (600064, true, .arr 3 (qi 5)), (600112, true, .arr 3 (qm 2))]⟩, [⟨2, ⟨[.keep [2, 5, 6, 7, 8], .gc, .nilRow 8 800008 48 tU, .ren 8 700008, .ren 8 900008, .cellRow 112 0 600112 3 tI, .cellRen 112 0 600112, .gc], [2, 5, 6, 7, 8], [.lf (qp 32), .lf (qi 1), .lf (qi 2), .lf (qp 112), .lf (qr 900008)], [(32, true, .cells [qi 3, qi 4, .fix (.nil)]), (112, true, .cells [qr 600112]), (900008, true, .arr 48 (qm 0)), (600112, true, .arr 3 (qm 1))]⟩, [.sl tU, .sl tI]⟩], (fun i => zhf (i.1, i.2.2.2.2.2))⟩
def zar : (List ((List Int) × List Int)) → RT Unit (Int × Int × Int × (List Int))
| l =>
 .rq 3 (.call (F_zbg l) default fun v0 =>
 .rq 3 (.req (wfd B16 v0) (.rq 10 (.call (lo zhf (l, v0) (0, [], [])) default fun v3 =>
 .rq 1 (.req (wfd B16 v3.2) (.rq 11 (.ite ((!(decide (v0.length ≤ 4))) || (!(decide (v3.2.length ≤ 4))))
 (.rq 3 (.done (0, 0, 10, [])))
 (.rq 6 (.done (if v0.length ≤ 4 then ((val B16 v0 : Nat) : Int) else 0, if v3.2.length ≤ 4 then ((val B16 v3.2 : Nat) : Int) else 0, 0, v3.1))))))))))
def F_zar (x : (List ((List Int) × List Int))) : Option (Int × Int × Int × (List Int)) := (zar x).run fun _ => none
def io_zar : Io := ⟨n_zar, [.sl (.pair (.sl tI) (.sl tI))], [.lf (qm 0)], [], [[.sl (.pair (.sl tI) (.sl tI))]], [tU, tU, tI, .sl tU], .tup [(true, [qm 0, qm 1, qr 0]), (false, [qm 2])], [], [(true, .arr 48 (qm 3))], false⟩
def zar_P : List zcc := [zar_p506]
def zar_T : zch := tab [e_zbZ, e_zbg, e_zba, e_zaL]
theorem zar_To : zcg pg zar_T := zce ⟨e_zbZ_ok, e_zbg_ok, e_zba_ok, e_zaL_ok, trivial⟩
theorem zar_k506 : (zar_p506).OK pg (zar_T) (zcy 63 (zar_P)) (zcp f_zar) 63 := ⟨by kernel_rfl, fun i x => by kernel_rfl⟩
theorem zar_go : zct pg (zar_T) io_zar f_zar (zar_P) [.cellRow 32 2 600034 48 tU, .cellRen 32 2 600034] (zar) := ⟨by kernel_rfl, by kernel_rfl, fun x => by kernel_rfl⟩
theorem ok_zar : io_zar.Okay pg (F_zar) := zcq zcf (zar_To) (zar_go) ⟨zar_k506, trivial⟩
section
variable {L : List Rat} (hL : ∀ q ∈ L, 0 ≤ q ∧ sm 5000 q) (hl : L.length ≤ 100)
include hL hl
theorem brR_loop {m k : Nat} (hm : m < 2 ^ k) (hk : k ≤ 600000) (hd : ∀ q ∈ L, q.den ∣ m) : ∀ (n i s u : Nat) (r : List Int), i + n = L.length → s < 2 ^ u → u + 606000 * n ≤ 100000000 → r.length ≤ i →
  lo zhf (L.map rQ, zcd B16 m) ((i : Int), r, zcd B16 s) = some (r ++ (L.drop i).map (fun q => if (zcd B16 (upV m q)).length ≤ 4 then toI (upV m q) else 0), zcd B16 (s + ((L.drop i).map (upV m)).sum))
 | 0, i, s, u, r, h, _, _, _ => by
  rw [zcm, zhf]
  simp only [RT.run, List.length_map]
  rw [if_neg (by simp; omega), List.drop_eq_nil_of_le (by omega)]
  simp
 | n + 1, i, s, u, r, h, hs, hu, hr => by
  have hi : i < L.length := by omega
  have hg : gI (L.map rQ) (i : Int) = rQ L[i] := by rw [zen rQ (by omega), zcH hi]
  have hub := up_bound hL hm (List.getElem_mem hi)
  have l1 := (zdy hub).2
  have l2 := (zdy hs).2
  have w : ∀ v, wfd B16 (zcd B16 v) = true := fun v => zcS (by decide) v
  have hs' : s + upV m L[i] < 2 ^ (u + 606000) := by
   have h1 : 2 ^ u ≤ 2 ^ (u + 605999) := Nat.pow_le_pow_right (by decide) (by omega)
   have h2 : 2 ^ (k + 5000) ≤ 2 ^ (u + 605999) := Nat.pow_le_pow_right (by decide) (by omega)
   have h3 : 2 ^ (u + 606000) = 2 ^ (u + 605999) * 2 := Nat.pow_succ ..
   omega
  have ih := brR_loop hm hk hd n (i + 1) (s + upV m L[i]) (u + 606000) (r ++ [if (zcd B16 (upV m L[i])).length ≤ 4 then toI (upV m L[i]) else 0]) (by omega) hs' (by omega) (by simp; omega)
  rw [zcm, zhf]
  simp only [RT.run, List.length_map]
  rw [if_pos (by simp; omega), if_pos (zck.2 (by rw [List.length_map]; omega)), hg, up_F (hL _ (List.getElem_mem hi)) (by decide) hm (by omega) (hd _ (List.getElem_mem hi)), Option.bind_some,
   if_pos (by rw [Bool.and_eq_true, zcX, zcX]; exact ⟨⟨by omega, w _⟩, by omega, w _⟩), w, if_pos rfl, if_pos (zhh (by decide) (by simp; omega)), zcw (by decide), zcw (by decide), zcj (by omega), show (i : Int) + 1 = ((i + 1 : Nat) : Int) by omega]
  show lo zhf _ (_, r ++ [if (zcd B16 (upV m L[i])).length ≤ 4 then toI (upV m L[i]) else 0], _) = _
  rw [ih, List.drop_eq_getElem_cons hi, List.map_cons, List.map_cons, List.sum_cons, List.append_assoc, Nat.add_assoc]
  rfl
theorem bringR_F : F_zar (L.map rQ) = some (brV L) := by
 have hlt := lcm_lt hL
 have hdv : ∀ q ∈ L, q.den ∣ lcmV L := (lcm_dvd L 1).2
 have w : ∀ v, wfd B16 (zcd B16 v) = true := fun v => zcS (by decide) v
 have h1 := brR_loop hL hl hlt (by omega) hdv L.length 0 0 1 [] (by omega) (by decide) (by omega) (by simp)
 rw [List.drop_zero, List.nil_append, Nat.zero_add, show ((0 : Nat) : Int) = 0 from rfl] at h1
 show (zar _).run _ = _
 rw [zar]
 simp only [RT.run]
 rw [lcmL_F hL hl, Option.bind_some, w, if_pos rfl]
 show (lo zhf (_, _) (0, [], zcd B16 0)).bind _ = _
 rw [h1, Option.bind_some]
 simp only [w, if_true, zcw (show 2 ≤ B16 by decide)]
 unfold brV
 have e1 : (L.map (upV (lcmV L))).sum = (upsV L).sum := rfl
 rw [e1]
 by_cases c1 : lcmV L < 18446744073709551616
 ·by_cases c2 : (upsV L).sum < 18446744073709551616
  ·rw [if_neg (by rw [decide_eq_true ((fits16 _).2 c1), decide_eq_true ((fits16 _).2 c2)]; decide), if_pos ((fits16 _).2 c1), if_pos ((fits16 _).2 c2), if_pos (show lcmV L < 18446744073709551616 ∧ (upsV L).sum < 18446744073709551616 from ⟨c1, c2⟩)]
   congr 4
   unfold i64s upsV
   rw [List.map_map]
   refine List.map_congr_left fun q hq => ?_
   rw [if_pos ((fits16 _).2 (Nat.lt_of_le_of_lt (sum_ge (List.mem_map_of_mem hq)) c2))]
   rfl
  ·rw [if_pos (by rw [decide_eq_false (fun h => c2 ((fits16 _).1 h))]; simp), if_neg (fun h => c2 h.2)]
 ·rw [if_pos (by rw [decide_eq_false (fun h => c1 ((fits16 _).1 h))]; simp), if_neg (fun h => c1 h.1)]
end
def e_zar : zcn := io_zar.en F_zar
theorem e_zar_ok : e_zar.ok pg := zeE ok_zar
def zbC_b58 : ((List Bool) × (List Tk) × (List Th) × (List Lk) × (List Int) × Int) → (Int × (List ((List Int) × List Int))) → RT (Int × (List ((List Int) × List Int))) (List ((List Int) × List Int))
| (s_0, s_1, s_2, s_3, s_4, s_5), (i, r4) =>
 .rq 5 (.ite (decide (i < (s_2.length : Int)))
 (.rq 3 (.req ((wOK s_0 s_1 s_2 s_3 s_4 s_5 && inB s_2 i)) (.rq 1 (let t0 := (rQ (gI (wgV s_0 s_1 s_2 s_3 s_4 s_5) i));
 let t1 := [(t0.1, t0.2)];
 .req (zdG 48 r4 t1) (.rq 4 (.again (w64 (i + 1), r4 ++ t1)))))))
 (.done r4))
def zbC_p58 : zcc := ⟨58, true, [.sl tB, .sl yK, .sl yH, .sl yL, .sl tI, tI, tU, tU], [tI, .sl (.pair (.sl tI) (.sl tI))], ⟨[.keep [1, 2, 4, 5], .gc, .nilRow 4 800004 35 (.pair (.sl tI) (.sl tI)), .ren 4 700004, .ren 4 900004, .gc], [1, 2, 4, 5], [.lf (qp 16), .lf (qp 32), .lf (qr 900004), .lf (qm 0)], [(16, true, .cells [qi 0, qi 1, qi 2, qi 3, qi 4, qi 5]), (32, true, .cells [qi 6, qi 7, .fix (.nil)]), (900004, true, .arr 35 (qm 1))]⟩, [⟨2, ⟨[.keep [2, 4], .gc, .nilRow 4 800004 35 (.pair (.sl tI) (.sl tI)), .ren 4 700004, .ren 4 900004, .gc], [2, 4], [.lf (qp 32), .lf (qr 900004)], [(32, true, .cells [qi 6, qi 7, .fix (.nil)]), (900004, true, .arr 35 (qm 0))]⟩, [.sl (.pair (.sl tI) (.sl tI))]⟩], (fun i => zbC_b58 (i.1, i.2.1, i.2.2.1, i.2.2.2.1, i.2.2.2.2.1, i.2.2.2.2.2.1))⟩
def zbC : ((List Bool) × (List Tk) × (List Th) × (List Lk) × (List Int) × Int) → RT Unit (Int × Int × Int × (List Int))
| (s_0, s_1, s_2, s_3, s_4, s_5) =>
 .rq 5 (.call (lo zbC_b58 (s_0, s_1, s_2, s_3, s_4, s_5) (0, [])) default fun v0 =>
 .rq 1 (.call (F_zar v0) default fun v1 =>
 .rq 4 (.done (v1.1, v1.2.1, v1.2.2.1, v1.2.2.2))))
def F_zbC (x : (List Bool) × (List Tk) × (List Th) × (List Lk) × (List Int) × Int) : Option (Int × Int × Int × (List Int)) := (zbC x).run fun _ => none
def io_zbC : Io := ⟨n_zbC, [.sl tB, .sl yK, .sl yH, .sl yL, .sl tI, tI], [.agg [qm 0, qm 1, qm 2, qm 3, qm 4, qm 5]], [], [[.sl tB, .sl yK, .sl yH, .sl yL, .sl tI, tI]], [tU, tU, tI, .sl tU], .tup [(true, [qm 0, qm 1, qr 0]), (false, [qm 2])], [], [(true, .arr 48 (qm 3))], false⟩
def zbC_P : List zcc := [zbC_p58]
def zbC_T : zch := tab [e_zar, e_zbb]
theorem zbC_To : zcg pg zbC_T := zce ⟨e_zar_ok, e_zbb_ok, trivial⟩
theorem zbC_k58 : (zbC_p58).OK pg (zbC_T) (zcy 23 (zbC_P)) (zcp f_zbC) 23 := ⟨by kernel_rfl, fun i x => by kernel_rfl⟩
theorem zbC_go : zct pg (zbC_T) io_zbC f_zbC (zbC_P) [.cellRow 32 2 600034 48 tU, .cellRen 32 2 600034] (zbC) := ⟨by kernel_rfl, by kernel_rfl, fun x => by kernel_rfl⟩
theorem ok_zbC : io_zbC.Okay pg (F_zbC) := zcq zcf (zbC_To) (zbC_go) ⟨zbC_k58, trivial⟩
theorem of_loop {a : List Bool} {b : List Tk} {c : List Th} {d : List Lk} {e : List Int} {f : Int} (hw : wOK a b c d e f = true) : ∀ (n i : Nat), i + n = c.length → lo zbC_b58 (a, b, c, d, e, f) ((i : Int), ((wgV a b c d e f).take i).map rQ) = some ((wgV a b c d e f).map rQ)
 | 0, i, h => by
  rw [zcm, zbC_b58]
  simp only [RT.run]
  rw [if_neg (by simp; omega), List.take_of_length_le (by rw [zgb]; omega)]
 | n + 1, i, h => by
  obtain ⟨H, h8⟩ := zdl hw
  have hlc := H.lenC
  rw [zcm, zbC_b58]
  simp only [RT.run, pe]
  rw [if_pos (by simp; omega), hw, zck.2 (show 0 ≤ (i : Int) ∧ (i : Int) < (c.length : Int) by omega), if_pos (by decide), if_pos (zhh (by decide) (by simp; omega)), take_rQ _ (by rw [zgb]; omega), zcj (by omega), show (i : Int) + 1 = ((i + 1 : Nat) : Int) by omega, of_loop hw n (i + 1) (by omega)]
def e_zbC : zcn := io_zbC.sp (fun (a, b, c, d, e, f) => (wOK a b c d e f)) (fun (a, b, c, d, e, f) => (brV (wgV a b c d e f)))
theorem sp_zbC (h : ∀ (a : List Bool) (b : List Tk) (c : List Th) (d : List Lk) (e : List Int) (f : Int), WfT [.sl tB, .sl yK, .sl yH, .sl yL, .sl tI, tI] (a, b, c, d, e, f) → ((wOK a b c d e f)) = true → (zbC (a, b, c, d, e, f)).run (fun _ => none) = some (brV (wgV a b c d e f))) : e_zbC.ok pg := zcs ok_zbC fun (a, b, c, d, e, f) hw hc => h a b c d e f hw hc
theorem e_zbC_ok : e_zbC.ok pg := sp_zbC fun a b c d e f _ hc => by
 obtain ⟨H, h8⟩ := zdl hc
 have l1 := of_loop hc c.length 0 (by omega)
 rw [List.take_zero, List.map_nil, show ((0 : Nat) : Int) = 0 from rfl] at l1
 rw [zbC]
 simp only [RT.run]
 rw [l1, Option.bind_some, bringR_F (wg_hyp H).1 (wg_hyp H).2]
 rfl
section
variable {a : List Bool} {b : List Tk} {c : List Th} {d : List Lk} {e : List Int} {f : Int}
end
end
end Go.Proofs.YtlfdidaeachpoaaGreat
namespace Go.Proofs.YtlfdidaeachpoaaGreat
open Go Go.RowKit
set_option maxRecDepth 100000
noncomputable section
def zdv : List Nat → Nat → Nat → Int
 | [], _, _ => -1
 | w :: l, r, i => if r < w then (i : Int) else zdv l (r - w) (i + 1)
theorem pickG_lt : ∀ (l : List Nat) (r i : Nat), (0 ≤ zdv l r i ↔ r < l.sum) ∧ (r < l.sum → ∃ j : Nat, zdv l r i = ((i + j : Nat) : Int) ∧ j < l.length ∧ 0 < l.getD j 0)
 | [], r, i => by simp [zdv]
 | w :: l, r, i => by
  unfold zdv
  by_cases h : r < w
  ·rw [if_pos h]
   refine ⟨⟨fun _ => by rw [List.sum_cons]; omega, fun _ => by omega⟩, fun _ => ⟨0, rfl, by simp, ?_⟩⟩
   show 0 < w
   omega
  ·rw [if_neg h]
   obtain ⟨h1, h2⟩ := pickG_lt l (r - w) (i + 1)
   refine ⟨by rw [h1, List.sum_cons]; omega, fun hr => ?_⟩
   obtain ⟨j, h3, h4, h5⟩ := h2 (by rw [List.sum_cons] at hr; omega)
   exact ⟨j + 1, by rw [h3]; congr 1; omega, by simp; omega, by simpa using h5⟩
def zdh (l : List Int) : List Nat := l.map Int.toNat
theorem toNs_toI {l : List Int} (h : ∀ x ∈ l, 0 ≤ x ∧ x < 18446744073709551616) : (zdh l).map toI = l ∧ ∀ w ∈ zdh l, w < 18446744073709551616 := by
 refine ⟨?_, fun w hw => ?_⟩
 ·unfold zdh toI
  rw [List.map_map]
  conv => rhs; rw [← List.map_id l]
  exact List.map_congr_left fun x hx => by
   show ((x.toNat : Nat) : Int) = x
   exact Int.toNat_of_nonneg (h x hx).1
 ·obtain ⟨x, hx, rfl⟩ := List.mem_map.1 hw
  have := h x hx
  omega
theorem toNs_toI' (l : List Nat) : zdh (l.map toI) = l := by
 unfold zdh
 rw [List.map_map]
 conv => rhs; rw [← List.map_id l]
 exact List.map_congr_left fun x _ => Int.toNat_natCast x
def zbK : (Int × Int × Int) → RT Unit Bool
| (s_0, s_1, r) =>
 .rq 16 (.done ((decide (s_0 ≤ r)) && (decide ((zcu (r - s_0)) < s_1))))
def F_zbK (x : Int × Int × Int) : Option Bool := (zbK x).run fun _ => none
def io_zbK : Io := ⟨n_zbK, [tU, tU, tU], [.agg [qm 0, qm 1], .lf (qm 2)], [], [[tU, tU], [tU]], [tB], .lf (qm 0), [], [], false⟩
def zbK_P : List zcc := []
def zbK_T : zch := tab []
theorem zbK_To : zcg pg zbK_T := zce trivial
theorem zbK_go : zct pg (zbK_T) io_zbK f_zbK (zbK_P) [] (zbK) := ⟨by kernel_rfl, by kernel_rfl, fun x => by kernel_rfl⟩
theorem ok_zbK : io_zbK.Okay pg (F_zbK) := zcq zcf (zbK_To) (zbK_go) trivial
def e_zbK : zcn := io_zbK.sp (fun (x, y, r) => true) (fun (x, y, r) => ((decide (x ≤ r)) && (decide ((zcu (r - x)) < y))))
theorem sp_zbK (h : ∀ (x : Int) (y : Int) (r : Int), WfT [tU, tU, tU] (x, y, r) → (zbK (x, y, r)).run (fun _ => none) = some ((decide (x ≤ r)) && (decide ((zcu (r - x)) < y)))) : e_zbK.ok pg := zcs ok_zbK fun (x, y, r) hw hc => h x y r hw
theorem e_zbK_ok : e_zbK.ok pg := sp_zbK fun x y r _ => by
 rw [zbK]; rfl
def zaX : (Int × Int × Int) → RT Unit (Bool × Int)
| (x_0, x_1, a1) =>
 .rq 6 (.done (((decide (x_0 ≤ a1)) && (decide ((zcu (a1 - x_0)) < x_1))), a1))
def F_zaX (x : Int × Int × Int) : Option (Bool × Int) := (zaX x).run fun _ => none
def io_zaX : Io := ⟨n_zaX, [tU, tU, tU], [.agg [qm 0, qm 1], .lf (qp 0)], [.cells [qm 2]], [[tU, tU], []], [tB, tU], .lf (qm 0), [(true, .cells [qm 1])], [], false⟩
def zaX_P : List zcc := []
def zaX_T : zch := tab [e_zbK]
theorem zaX_To : zcg pg zaX_T := zce ⟨e_zbK_ok, trivial⟩
theorem zaX_go : zct pg (zaX_T) io_zaX f_zaX (zaX_P) [] (zaX) := ⟨by kernel_rfl, by kernel_rfl, fun x => by kernel_rfl⟩
theorem ok_zaX : io_zaX.Okay pg (F_zaX) := zcq zcf (zaX_To) (zaX_go) trivial
def e_zaX : zcn := io_zaX.sp (fun (x, y, r) => true) (fun (x, y, r) => ((decide (x ≤ r)) && (decide ((zcu (r - x)) < y)), r))
theorem sp_zaX (h : ∀ (x : Int) (y : Int) (r : Int), WfT [tU, tU, tU] (x, y, r) → (zaX (x, y, r)).run (fun _ => none) = some ((decide (x ≤ r)) && (decide ((zcu (r - x)) < y)), r)) : e_zaX.ok pg := zcs ok_zaX fun (x, y, r) hw hc => h x y r hw
theorem e_zaX_ok : e_zaX.ok pg := sp_zaX fun x y r _ => by
 rw [zaX]; rfl
def zd_b26 : ((List (Int × Int)) × Int × Int) → Int → RT Int (LR Int Unit)
| (s, x7, p0), x8 =>
 .rq 1 (.ite (decide (x8 < x7))
 (.rq 5 (.req (inB s x8) (.rq 2 (.ite ((decide ((gI s x8).1 ≤ p0)) && (decide ((zcu (p0 - (gI s x8).1)) < (gI s x8).2)))
 (.rq 2 (.done (.ex x8)))
 (.rq 2 (.again (w64 (x8 + 1))))))))
 (.done (.rt ())))
def zd_p26 : zcc := ⟨26, true, [.sl (.pair tU tU), tI, tU], [tI], ⟨[.keep [0, 1, 7, 8], .gc], [0, 1, 7, 8], [.lf (qi 0), .lf (.fix (.fn 152 [1048576])), .lf (qi 1), .lf (qm 0)], [(1048576, true, .cells [qi 2])]⟩, [⟨1, ⟨[.keep [4], .gc], [4], [.lf (qm 0)], [(1048576, true, .cells [qi 2])]⟩, [tI]⟩, ⟨2, ⟨[.keep [], .gc], [], [], [(1048576, true, .cells [qi 2])]⟩, []⟩], zd_b26⟩
def zd : ((List (Int × Int)) × Int) → RT Unit (Int × Int)
| (s, f_0) =>
 .rq 4 (.call (lo zd_b26 (s, (s.length : Int), f_0) 0) default fun v0 =>
 .ite v0.isRt
 (.rq 1 (.done ((-1), f_0)))
 (.done (v0.getX, f_0)))
def F_zd (x : (List (Int × Int)) × Int) : Option (Int × Int) := (zd x).run fun _ => none
def io_zd : Io := ⟨n_zd, [.sl (.pair tU tU), tU], [.lf (qm 0), .lf (.fix (.fn 152 [0]))], [.cells [qm 1]], [[.sl (.pair tU tU)], []], [tI, tU], .lf (qm 0), [(true, .cells [qm 1])], [], false⟩
def zd_P : List zcc := [zd_p26]
def zd_T : zch := tab [e_zaX]
theorem zd_To : zcg pg zd_T := zce ⟨e_zaX_ok, trivial⟩
theorem zd_k26 : (zd_p26).OK pg (zd_T) (zcy 19 (zd_P)) (zcp f_zd) 19 := ⟨by kernel_rfl, fun i x => by kernel_rfl⟩
theorem zd_go : zct pg (zd_T) io_zd f_zd (zd_P) [] (zd) := ⟨by kernel_rfl, by kernel_rfl, fun x => by kernel_rfl⟩
theorem ok_zd : io_zd.Okay pg (F_zd) := zcq zcf (zd_To) (zd_go) ⟨zd_k26, trivial⟩
def e_zd : zcn := io_zd.en F_zd
theorem e_zd_ok : e_zd.ok pg := zeE ok_zd
theorem pidx_loop (L : List (Int × Int)) (r : Nat) (hL : L.length ≤ 100000) (hr : r < 18446744073709551616) : ∀ (l : List Nat) (s i : Nat), L.drop i = zeT s l → i ≤ L.length → s ≤ r →
  lo zd_b26 (L, (L.length : Int), (r : Int)) (i : Int) = some (if 0 ≤ zdv l (r - s) i then .ex (zdv l (r - s) i) else .rt ())
 | [], s, i, h, hi, hs => by
  have hlen : L.length ≤ i := by
   have := congrArg List.length h
   rw [List.length_drop] at this
   simp [zeT] at this
   omega
  rw [zcm, zd_b26]
  simp only [RT.run]
  rw [if_neg (by simp; omega)]
  rfl
 | w :: l, s, i, h, hi, hs => by
  have hlt : i < L.length := by
   have := congrArg List.length h
   rw [List.length_drop] at this
   simp [zeT] at this
   omega
  rw [List.drop_eq_getElem_cons hlt, zeT] at h
  obtain ⟨h1, h2⟩ := List.cons.inj h
  rw [zcm, zd_b26]
  simp only [RT.run, zcH hlt, h1]
  rw [if_pos (by simp; omega), if_pos (zck.2 ⟨by omega, by omega⟩), decide_eq_true (show (s : Int) ≤ (r : Int) by omega), Bool.true_and, zcC (by omega), zcj (by omega), show (i : Int) + 1 = ((i + 1 : Nat) : Int) by omega]
  unfold zdv
  by_cases hw : r - s < w
  ·rw [if_pos (by simp; omega), if_pos hw, if_pos (by omega)]
  ·rw [if_neg (by simp; omega), if_neg hw, pidx_loop L r hL hr l (s + w) (i + 1) h2 hlt (by omega), show r - (s + w) = r - s - w by omega]
def zH : ((List Int) × Int) → RT Unit (Int × Bool)
| (l, r) =>
 .rq 4 (.call (F_zac l) default fun v0 =>
 .rq 7 (.call (F_zd (v0.2, r)) default fun v1 =>
 .rq 6 (.done (v1.1, decide (0 ≤ v1.1)))))
def F_zH (x : (List Int) × Int) : Option (Int × Bool) := (zH x).run fun _ => none
def io_zH : Io := ⟨n_zH, [.sl tU, tU], [.lf (qm 0), .lf (qm 1)], [], [[.sl tU], [tU]], [tI, tB], .tup [(false, [qm 0]), (false, [qm 1])], [], [], false⟩
def zH_P : List zcc := []
def zH_T : zch := tab [e_zd, e_zac]
theorem zH_To : zcg pg zH_T := zce ⟨e_zd_ok, e_zac_ok, trivial⟩
theorem zH_go : zct pg (zH_T) io_zH f_zH (zH_P) [] (zH) := ⟨by kernel_rfl, by kernel_rfl, fun x => by kernel_rfl⟩
theorem ok_zH : io_zH.Okay pg (F_zH) := zcq zcf (zH_To) (zH_go) trivial
def e_zH : zcn := io_zH.sp (fun (l, r) => (decide (l.length ≤ 100000) && decide ((zdh l).sum < 18446744073709551616))) (fun (l, r) => (zdv (zdh l) r.toNat 0, decide (0 ≤ zdv (zdh l) r.toNat 0)))
theorem sp_zH (h : ∀ (l : List Int) (r : Int), WfT [.sl tU, tU] (l, r) → ((decide (l.length ≤ 100000) && decide ((zdh l).sum < 18446744073709551616))) = true → (zH (l, r)).run (fun _ => none) = some (zdv (zdh l) r.toNat 0, decide (0 ≤ zdv (zdh l) r.toNat 0))) : e_zH.ok pg := zcs ok_zH fun (l, r) hw hc => h l r hw hc
theorem e_zH_ok : e_zH.ok pg := sp_zH fun l r hw hc => by
 rw [Bool.and_eq_true, decide_eq_true_eq, decide_eq_true_eq] at hc
 have hr : 0 ≤ r ∧ r < 18446744073709551616 := hw.2
 have hll : ∀ x ∈ l, 0 ≤ x ∧ x < 18446744073709551616 := fun x hx => hw.1.2 x hx
 obtain ⟨e1, e2⟩ := toNs_toI hll
 have hlen : (zdh l).length = l.length := by simp [zdh]
 obtain ⟨m, rfl⟩ := Int.eq_ofNat_of_zero_le hr.1
 rw [zH]
 simp only [RT.run]
 have hs := spans_F (zdh l) (by omega) e2
 rw [e1, if_pos hc.2] at hs
 have hi := pidx_loop (zeT 0 (zdh l)) m (by rw [ziK]; omega) (by omega) (zdh l) 0 0 (by rw [List.drop_zero]) (by omega) (by omega)
 rw [Nat.sub_zero, show ((0 : Nat) : Int) = 0 from rfl] at hi
 have hf : F_zd (zeT 0 (zdh l), (m : Int)) = some (zdv (zdh l) m 0, (m : Int)) := by
  show (zd _).run _ = _
  rw [zd]
  simp only [RT.run]
  rw [hi, Option.bind_some]
  by_cases h : 0 ≤ zdv (zdh l) m 0
  ·rw [if_pos h]; rfl
  ·rw [if_neg h]
   have : zdv (zdh l) m 0 = -1 := by
    have hn : ∀ (l : List Nat) (r i : Nat), zdv l r i = -1 ∨ 0 ≤ zdv l r i := by
     intro l
     induction l with
     | nil => intro r i; exact .inl rfl
     | cons w l ih =>
      intro r i
      unfold zdv
      split
      ·exact .inr (by omega)
      ·exact ih _ _
    rcases hn (zdh l) m 0 with h' | h'
    ·exact h'
    ·exact absurd h' h
   rw [this]; rfl
 rw [hs, Option.bind_some, hf, Option.bind_some, Int.toNat_natCast]
def zaV_b26 : (List Int) → (Int × Int) → RT (Int × Int) (LR Int Unit)
| l, (r, i) =>
 .rq 4 (.ite (decide (i < (l.length : Int)))
 (.rq 3 (.req (inB l i) (.rq 2 (.ite (decide (r < (gI l i)))
 (.rq 2 (.done (.ex i)))
 (.rq 3 (.req (inB l i) (.rq 6 (.again (zcu (r - (gI l i)), w64 (i + 1))))))))))
 (.done (.rt ())))
def zaV_p26 : zcc := ⟨26, true, [.sl tU], [tU, tI], ⟨[.keep [0, 1, 5], .gc], [0, 1, 5], [.lf (qi 0), .lf (qm 0), .lf (qm 1)], []⟩, [⟨1, ⟨[.keep [4], .gc], [4], [.lf (qm 0)], []⟩, [tI]⟩, ⟨2, ⟨[.keep [], .gc], [], [], []⟩, []⟩], zaV_b26⟩
def zaV : ((List Int) × Int) → RT Unit Int
| (l, r) =>
 .rq 2 (.call (lo zaV_b26 l (r, 0)) default fun v0 =>
 .ite v0.isRt
 (.rq 1 (.done (-1)))
 (.done v0.getX))
def F_zaV (x : (List Int) × Int) : Option Int := (zaV x).run fun _ => none
def io_zaV : Io := ⟨n_zaV, [.sl tU, tU], [.lf (qm 0), .lf (qm 1)], [], [[.sl tU], [tU]], [tI], .lf (qm 0), [], [], false⟩
def zaV_P : List zcc := [zaV_p26]
def zaV_T : zch := tab []
theorem zaV_To : zcg pg zaV_T := zce trivial
theorem zaV_k26 : (zaV_p26).OK pg (zaV_T) (zcy 25 (zaV_P)) (zcp f_zaV) 25 := ⟨by kernel_rfl, fun i x => by kernel_rfl⟩
theorem zaV_go : zct pg (zaV_T) io_zaV f_zaV (zaV_P) [] (zaV) := ⟨by kernel_rfl, by kernel_rfl, fun x => by kernel_rfl⟩
theorem ok_zaV : io_zaV.Okay pg (F_zaV) := zcq zcf (zaV_To) (zaV_go) ⟨zaV_k26, trivial⟩
theorem pickR_loop (L : List Nat) (hL : L.length ≤ 100000) (hw : ∀ w ∈ L, w < 18446744073709551616) : ∀ (l : List Nat) (r i : Nat), L.drop i = l → i ≤ L.length → r < 18446744073709551616 →
  lo zaV_b26 (L.map toI) ((r : Int), (i : Int)) = some (if 0 ≤ zdv l r i then .ex (zdv l r i) else .rt ())
 | [], r, i, h, hi, _ => by
  have hlen : L.length ≤ i := by
   have := congrArg List.length h
   rw [List.length_drop] at this
   simp at this
   omega
  rw [zcm, zaV_b26]
  simp only [RT.run]
  rw [if_neg (by simp; omega)]
  rfl
 | w :: l, r, i, h, hi, hr => by
  have hlt : i < L.length := by
   have := congrArg List.length h
   rw [List.length_drop] at this
   simp at this
   omega
  rw [List.drop_eq_getElem_cons hlt] at h
  obtain ⟨h1, h2⟩ := List.cons.inj h
  have hg : gI (L.map toI) (i : Int) = (w : Int) := by rw [zen toI (by omega), zcH hlt, h1]; rfl
  have hin : inB (L.map toI) (i : Int) = true := zck.2 (by rw [List.length_map]; omega)
  have hwb := hw _ (List.getElem_mem hlt)
  rw [h1] at hwb
  rw [zcm, zaV_b26]
  simp only [RT.run, hg]
  rw [if_pos (by simp; omega), if_pos hin]
  unfold zdv
  by_cases hw' : r < w
  ·rw [if_pos (by simp; omega), if_pos hw', if_pos (by omega)]
  ·rw [if_neg (by simp; omega), if_pos hin, if_neg hw', zcC (by omega), zcj (by omega), show (i : Int) + 1 = ((i + 1 : Nat) : Int) by omega, show (r : Int) - (w : Int) = ((r - w : Nat) : Int) by omega, pickR_loop L hL hw l (r - w) (i + 1) h2 hlt (by omega)]
def e_zaV : zcn := io_zaV.sp (fun (l, r) => (decide (l.length ≤ 100000) && decide (r.toNat < (zdh l).sum))) (fun (l, r) => (zdv (zdh l) r.toNat 0))
theorem sp_zaV (h : ∀ (l : List Int) (r : Int), WfT [.sl tU, tU] (l, r) → ((decide (l.length ≤ 100000) && decide (r.toNat < (zdh l).sum))) = true → (zaV (l, r)).run (fun _ => none) = some (zdv (zdh l) r.toNat 0)) : e_zaV.ok pg := zcs ok_zaV fun (l, r) hw hc => h l r hw hc
theorem e_zaV_ok : e_zaV.ok pg := sp_zaV fun l r hw hc => by
 rw [Bool.and_eq_true, decide_eq_true_eq, decide_eq_true_eq] at hc
 have hr : 0 ≤ r ∧ r < 18446744073709551616 := hw.2
 have hll : ∀ x ∈ l, 0 ≤ x ∧ x < 18446744073709551616 := fun x hx => hw.1.2 x hx
 obtain ⟨e1, e2⟩ := toNs_toI hll
 have hlen : (zdh l).length = l.length := by simp [zdh]
 obtain ⟨m, rfl⟩ := Int.eq_ofNat_of_zero_le hr.1
 rw [Int.toNat_natCast] at hc
 rw [zaV]
 simp only [RT.run]
 have hi := pickR_loop (zdh l) (by omega) e2 (zdh l) m 0 (by rw [List.drop_zero]) (by omega) (by omega)
 rw [e1, if_pos ((pickG_lt _ _ _).1.2 hc.2), show ((0 : Nat) : Int) = 0 from rfl] at hi
 rw [hi, Int.toNat_natCast]
 rfl
abbrev Br := Int × Int × Int × List Int
def atB (x : Br) (r : Int) : Int × Int := if (x.2.2.1 != 0) = true then (-1, x.2.2.1) else if (x.2.1 == 0) = true then (-1, 16) else if decide (x.2.1 ≤ r) = true then (-1, 1) else (zdv (zdh x.2.2.2) r.toNat 0, 0)
theorem brV_sum (L : List Rat) (hL : L.length ≤ 100) : (brV L).2.2.2.length ≤ 100000 ∧ (zdh (brV L).2.2.2).sum < 18446744073709551616 ∧ ((brV L).2.2.1 = 0 → ((zdh (brV L).2.2.2).sum : Int) = (brV L).2.1 ∧ (brV L).2.2.2.length = L.length ∧ ∀ x ∈ (brV L).2.2.2, 0 ≤ x ∧ x < 18446744073709551616) := by
 unfold brV
 by_cases h : lcmV L < 18446744073709551616 ∧ (upsV L).sum < 18446744073709551616
 ·rw [if_pos h]
  have e : zdh (i64s (upsV L)) = upsV L := toNs_toI' _
  simp only
  rw [e]
  refine ⟨by simp [i64s, upsV]; omega, h.2, fun _ => ⟨rfl, by simp [i64s, upsV], fun x hx => ?_⟩⟩
  obtain ⟨w, hw, rfl⟩ := List.mem_map.1 hx
  have := sum_ge hw
  omega
 ·rw [if_neg h]
  exact ⟨by simp, by decide, fun h => by cases h⟩
def zau : ((List Bool) × (List Tk) × (List Th) × (List Lk) × (List Int) × Int) → RT Unit (Int × Int)
| (s_0, s_1, s_2, s_3, s_4, s_5) =>
 .rq 4 (.req ((wOK s_0 s_1 s_2 s_3 s_4 s_5)) (.rq 11 (let t0 := (brV (wgV s_0 s_1 s_2 s_3 s_4 s_5));
 .done (t0.2.1, t0.2.2.1))))
def F_zau (x : (List Bool) × (List Tk) × (List Th) × (List Lk) × (List Int) × Int) : Option (Int × Int) := (zau x).run fun _ => none
def io_zau : Io := ⟨n_zau, [.sl tB, .sl yK, .sl yH, .sl yL, .sl tI, tI], [.agg [qm 0, qm 1, qm 2, qm 3, qm 4, qm 5]], [], [[.sl tB, .sl yK, .sl yH, .sl yL, .sl tI, tI]], [tU, tI], .tup [(false, [qm 0]), (false, [qm 1])], [], [], false⟩
def zau_P : List zcc := []
def zau_T : zch := tab [e_zbG]
theorem zau_To : zcg pg zau_T := zce ⟨e_zbG_ok, trivial⟩
theorem zau_go : zct pg (zau_T) io_zau f_zau (zau_P) [] (zau) := ⟨by kernel_rfl, by kernel_rfl, fun x => by kernel_rfl⟩
theorem ok_zau : io_zau.Okay pg (F_zau) := zcq zcf (zau_To) (zau_go) trivial
def e_zau : zcn := io_zau.sp (fun (a, b, c, d, e, f) => (wOK a b c d e f)) (fun (a, b, c, d, e, f) => ((brV (wgV a b c d e f)).2.1, (brV (wgV a b c d e f)).2.2.1))
theorem sp_zau (h : ∀ (a : List Bool) (b : List Tk) (c : List Th) (d : List Lk) (e : List Int) (f : Int), WfT [.sl tB, .sl yK, .sl yH, .sl yL, .sl tI, tI] (a, b, c, d, e, f) → ((wOK a b c d e f)) = true → (zau (a, b, c, d, e, f)).run (fun _ => none) = some ((brV (wgV a b c d e f)).2.1, (brV (wgV a b c d e f)).2.2.1)) : e_zau.ok pg := zcs ok_zau fun (a, b, c, d, e, f) hw hc => h a b c d e f hw hc
theorem e_zau_ok : e_zau.ok pg := sp_zau fun a b c d e f _ hc => by
 rw [zau]
 simp only [RT.run]
 rw [if_pos hc]
def zax : ((List Bool) × (List Tk) × (List Th) × (List Lk) × (List Int) × Int) → RT Unit (Int × Int × Int × (List Int))
| (s_0, s_1, s_2, s_3, s_4, s_5) =>
 .rq 4 (.req ((wOK s_0 s_1 s_2 s_3 s_4 s_5)) (.rq 13 (let t0 := (brV (wgV s_0 s_1 s_2 s_3 s_4 s_5));
 .ite ((t0.2.2.1 == 0) && (t0.2.1 == 0))
 (.rq 5 (.done (t0.1, t0.2.1, 16, t0.2.2.2)))
 (.rq 4 (.done (t0.1, t0.2.1, t0.2.2.1, t0.2.2.2))))))
def F_zax (x : (List Bool) × (List Tk) × (List Th) × (List Lk) × (List Int) × Int) : Option (Int × Int × Int × (List Int)) := (zax x).run fun _ => none
def io_zax : Io := ⟨n_zax, [.sl tB, .sl yK, .sl yH, .sl yL, .sl tI, tI], [.agg [qm 0, qm 1, qm 2, qm 3, qm 4, qm 5]], [], [[.sl tB, .sl yK, .sl yH, .sl yL, .sl tI, tI]], [tU, tU, tI, .sl tU], .tup [(true, [qm 0, qm 1, qr 0]), (false, [qm 2])], [], [(true, .arr 48 (qm 3))], false⟩
def zax_P : List zcc := []
def zax_T : zch := tab [e_zbG]
theorem zax_To : zcg pg zax_T := zce ⟨e_zbG_ok, trivial⟩
theorem zax_go : zct pg (zax_T) io_zax f_zax (zax_P) [.cellRow 32 2 600034 48 tU, .cellRen 32 2 600034] (zax) := ⟨by kernel_rfl, by kernel_rfl, fun x => by kernel_rfl⟩
theorem ok_zax : io_zax.Okay pg (F_zax) := zcq zcf (zax_To) (zax_go) trivial
def opB (x : Br) : Br := if ((x.2.2.1 == 0) && (x.2.1 == 0)) = true then (x.1, x.2.1, 16, x.2.2.2) else x
def e_zax : zcn := io_zax.sp (fun (a, b, c, d, e, f) => (wOK a b c d e f)) (fun (a, b, c, d, e, f) => (opB (brV (wgV a b c d e f))))
theorem sp_zax (h : ∀ (a : List Bool) (b : List Tk) (c : List Th) (d : List Lk) (e : List Int) (f : Int), WfT [.sl tB, .sl yK, .sl yH, .sl yL, .sl tI, tI] (a, b, c, d, e, f) → ((wOK a b c d e f)) = true → (zax (a, b, c, d, e, f)).run (fun _ => none) = some (opB (brV (wgV a b c d e f)))) : e_zax.ok pg := zcs ok_zax fun (a, b, c, d, e, f) hw hc => h a b c d e f hw hc
theorem e_zax_ok : e_zax.ok pg := sp_zax fun a b c d e f _ hc => by
 rw [zax]
 simp only [RT.run]
 rw [if_pos hc]
 unfold opB
 split <;> rfl
def zbc : ((List Bool) × (List Tk) × (List Th) × (List Lk) × (List Int) × Int × Int) → RT Unit (Int × Int)
| (s_0, s_1, s_2, s_3, s_4, s_5, r) =>
 .rq 4 (.req ((wOK s_0 s_1 s_2 s_3 s_4 s_5)) (.rq 8 (let t0 := (opB (brV (wgV s_0 s_1 s_2 s_3 s_4 s_5)));
 .ite (t0.2.2.1 != 0)
 (.rq 3 (.done ((-1), t0.2.2.1)))
 (.rq 3 (.req ((decide (t0.2.2.2.length ≤ 100000) && decide ((zdh t0.2.2.2).sum < 18446744073709551616))) (.rq 7 (.ite (!(decide (0 ≤ zdv (zdh t0.2.2.2) r.toNat 0)))
 (.rq 2 (.done ((-1), 1)))
 (.rq 3 (.done (zdv (zdh t0.2.2.2) r.toNat 0, 0))))))))))
def F_zbc (x : (List Bool) × (List Tk) × (List Th) × (List Lk) × (List Int) × Int × Int) : Option (Int × Int) := (zbc x).run fun _ => none
def io_zbc : Io := ⟨n_zbc, [.sl tB, .sl yK, .sl yH, .sl yL, .sl tI, tI, tU], [.agg [qm 0, qm 1, qm 2, qm 3, qm 4, qm 5], .lf (qm 6)], [], [[.sl tB, .sl yK, .sl yH, .sl yL, .sl tI, tI], [tU]], [tI, tI], .tup [(false, [qm 0]), (false, [qm 1])], [], [], false⟩
def zbc_P : List zcc := []
def zbc_T : zch := tab [e_zax, e_zH]
theorem zbc_To : zcg pg zbc_T := zce ⟨e_zax_ok, e_zH_ok, trivial⟩
theorem zbc_go : zct pg (zbc_T) io_zbc f_zbc (zbc_P) [] (zbc) := ⟨by kernel_rfl, by kernel_rfl, fun x => by kernel_rfl⟩
theorem ok_zbc : io_zbc.Okay pg (F_zbc) := zcq zcf (zbc_To) (zbc_go) trivial
def e_zbc : zcn := io_zbc.sp (fun (a, b, c, d, e, f, r) => (wOK a b c d e f)) (fun (a, b, c, d, e, f, r) => (atB (brV (wgV a b c d e f)) r))
theorem sp_zbc (h : ∀ (a : List Bool) (b : List Tk) (c : List Th) (d : List Lk) (e : List Int) (f : Int) (r : Int), WfT [.sl tB, .sl yK, .sl yH, .sl yL, .sl tI, tI, tU] (a, b, c, d, e, f, r) → ((wOK a b c d e f)) = true → (zbc (a, b, c, d, e, f, r)).run (fun _ => none) = some (atB (brV (wgV a b c d e f)) r)) : e_zbc.ok pg := zcs ok_zbc fun (a, b, c, d, e, f, r) hw hc => h a b c d e f r hw hc
theorem e_zbc_ok : e_zbc.ok pg := sp_zbc fun a b c d e f r hw hc => by
 obtain ⟨H, h8⟩ := zdl hc
 have hr : 0 ≤ r ∧ r < 18446744073709551616 := hw.2.2.2.2.2.2
 obtain ⟨b1, b2, b3⟩ := brV_sum (wgV a b c d e f) (wg_hyp H).2
 rw [zbc]
 simp only [RT.run]
 rw [if_pos hc]
 generalize brV (wgV a b c d e f) = x at *
 unfold atB
 by_cases h1 : x.2.2.1 = 0
 ·have e1 : (x.2.2.1 == 0) = true := by simpa using h1
  have e2 : ¬ (x.2.2.1 != 0) = true := by simpa using h1
  obtain ⟨t1, t2, t3⟩ := b3 h1
  rw [if_neg e2]
  by_cases h2 : (x.2.1 == 0) = true
  ·have ho : opB x = (x.1, x.2.1, 16, x.2.2.2) := by unfold opB; rw [e1, h2]; rfl
   rw [ho, if_pos h2, if_pos (show ((16 : Int) != 0) = true by decide)]
  ·have ho : opB x = x := by unfold opB; rw [e1, Bool.eq_false_iff.2 h2]; rfl
   rw [ho, if_neg h2, if_neg e2, if_pos (by rw [decide_eq_true b1, decide_eq_true b2]; rfl)]
   have hp := (pickG_lt (zdh x.2.2.2) r.toNat 0).1
   by_cases h3 : x.2.1 ≤ r
   ·have : ¬ 0 ≤ zdv (zdh x.2.2.2) r.toNat 0 := fun h => by
     have := hp.1 h
     omega
    rw [decide_eq_true h3, decide_eq_false this, if_pos (by decide), if_pos rfl]
   ·have : 0 ≤ zdv (zdh x.2.2.2) r.toNat 0 := hp.2 (by omega)
    rw [decide_eq_false h3, decide_eq_true this, if_neg (by decide), if_neg (by decide)]
 ·have e1 : (x.2.2.1 == 0) = false := by simpa using h1
  have e2 : (x.2.2.1 != 0) = true := by simpa using h1
  have ho : opB x = x := by unfold opB; rw [e1]; rfl
  rw [ho, if_pos e2, if_pos e2]
def zca : ((List Bool) × (List Tk) × (List Th) × (List Lk) × (List Int) × Int × Int) → RT Unit (Int × Int)
| (s_0, s_1, s_2, s_3, s_4, s_5, r) =>
 .rq 4 (.req ((wOK s_0 s_1 s_2 s_3 s_4 s_5)) (.rq 8 (let t0 := (brV (wgV s_0 s_1 s_2 s_3 s_4 s_5));
 .ite (t0.2.2.1 != 0)
 (.rq 3 (.done ((-1), t0.2.2.1)))
 (.rq 3 (.ite (t0.2.1 == 0)
 (.rq 2 (.done ((-1), 16)))
 (.rq 4 (.ite (decide (t0.2.1 ≤ r))
 (.rq 2 (.done ((-1), 1)))
 (.rq 3 (.req ((decide (t0.2.2.2.length ≤ 100000) && decide (r.toNat < (zdh t0.2.2.2).sum))) (.rq 2 (.done ((zdv (zdh t0.2.2.2) r.toNat 0), 0))))))))))))
def F_zca (x : (List Bool) × (List Tk) × (List Th) × (List Lk) × (List Int) × Int × Int) : Option (Int × Int) := (zca x).run fun _ => none
def io_zca : Io := ⟨n_zca, [.sl tB, .sl yK, .sl yH, .sl yL, .sl tI, tI, tU], [.agg [qm 0, qm 1, qm 2, qm 3, qm 4, qm 5], .lf (qm 6)], [], [[.sl tB, .sl yK, .sl yH, .sl yL, .sl tI, tI], [tU]], [tI, tI], .tup [(false, [qm 0]), (false, [qm 1])], [], [], false⟩
def zca_P : List zcc := []
def zca_T : zch := tab [e_zaV, e_zbC]
theorem zca_To : zcg pg zca_T := zce ⟨e_zaV_ok, e_zbC_ok, trivial⟩
theorem zca_go : zct pg (zca_T) io_zca f_zca (zca_P) [] (zca) := ⟨by kernel_rfl, by kernel_rfl, fun x => by kernel_rfl⟩
theorem ok_zca : io_zca.Okay pg (F_zca) := zcq zcf (zca_To) (zca_go) trivial
def e_zca : zcn := io_zca.sp (fun (a, b, c, d, e, f, r) => (wOK a b c d e f)) (fun (a, b, c, d, e, f, r) => (atB (brV (wgV a b c d e f)) r))
theorem sp_zca (h : ∀ (a : List Bool) (b : List Tk) (c : List Th) (d : List Lk) (e : List Int) (f : Int) (r : Int), WfT [.sl tB, .sl yK, .sl yH, .sl yL, .sl tI, tI, tU] (a, b, c, d, e, f, r) → ((wOK a b c d e f)) = true → (zca (a, b, c, d, e, f, r)).run (fun _ => none) = some (atB (brV (wgV a b c d e f)) r)) : e_zca.ok pg := zcs ok_zca fun (a, b, c, d, e, f, r) hw hc => h a b c d e f r hw hc
theorem e_zca_ok : e_zca.ok pg := sp_zca fun a b c d e f r hw hc => by
 obtain ⟨H, h8⟩ := zdl hc
 have hr : 0 ≤ r ∧ r < 18446744073709551616 := hw.2.2.2.2.2.2
 obtain ⟨b1, b2, b3⟩ := brV_sum (wgV a b c d e f) (wg_hyp H).2
 rw [zca]
 simp only [RT.run]
 rw [if_pos hc]
 generalize brV (wgV a b c d e f) = x at *
 unfold atB
 by_cases h1 : (x.2.2.1 != 0) = true
 ·rw [if_pos h1, if_pos h1]
 ·rw [if_neg h1, if_neg h1]
  obtain ⟨t1, t2, t3⟩ := b3 (by simpa using h1)
  by_cases h2 : (x.2.1 == 0) = true
  ·rw [if_pos h2, if_pos h2]
  ·rw [if_neg h2, if_neg h2]
   by_cases h3 : decide (x.2.1 ≤ r) = true
   ·rw [if_pos h3, if_pos h3]
   ·rw [decide_eq_true_eq] at h3
    rw [decide_eq_false h3, if_neg (by decide), if_pos (by rw [decide_eq_true b1, decide_eq_true (show r.toNat < (zdh x.2.2.2).sum by omega)]; rfl), if_neg (by decide)]
def chM (p q : Rat) : Rat := mkRat ((p.num.toNat * q.den : Nat) : Int) (p.den * q.num.toNat)
def chV (L : List Rat) (i : Int) : Rat := if (inB L i && decide (zcG L ≠ 0)) = true then chM (gI L i) (zcG L) else 0
theorem wg_sum {a : List Bool} {b : List Tk} {c : List Th} {d : List Lk} {e : List Int} {f : Int} (H : zcr a b c d e f) : 0 ≤ zcG (wgV a b c d e f) ∧ sm 20000 (zcG (wgV a b c d e f)) := by
 obtain ⟨h1, h2⟩ := rsum_sm H.wg_mem
 have hlc := H.lenC
 exact ⟨h1, zeI (by rw [zgb]; omega) h2⟩
theorem num_zero {q : Rat} (h : 0 ≤ q) : q.num.toNat = 0 ↔ q = 0 := by
 have h1 := Rat.num_nonneg.2 h
 rw [← Rat.num_eq_zero]
 omega
theorem chM_sm {p q : Rat} {m n : Nat} (hp : sm m p) (hq0 : 0 ≤ q) (hq : sm n q) (hne : q ≠ 0) : 0 ≤ chM p q ∧ sm (m + n) (chM p q) := by
 have h1 := Nat.mul_lt_mul'' hp.1 hq.2
 have h2 := Nat.mul_lt_mul'' hp.2 hq.1
 rw [← Nat.pow_add] at h1 h2
 exact ⟨zeZ _ _, zfT (Nat.mul_ne_zero p.den_nz (fun h => hne ((num_zero hq0).1 h))) h1 h2⟩
theorem ch_sm {a : List Bool} {b : List Tk} {c : List Th} {d : List Lk} {e : List Int} {f : Int} (H : zcr a b c d e f) (i : Int) : 0 ≤ chV (wgV a b c d e f) i ∧ sm 21000 (chV (wgV a b c d e f) i) := by
 unfold chV
 split
 ·rename_i h
  rw [Bool.and_eq_true, decide_eq_true_eq] at h
  obtain ⟨s1, s2⟩ := wg_sum H
  have hi := zck.1 h.1
  rw [zgb] at hi
  obtain ⟨h1, h2⟩ := chM_sm (H.wg_sm hi).2 s1 s2 h.2
  exact ⟨h1, zeI (by decide) h2⟩
 ·exact ⟨by decide, zhu _ (by decide)⟩
def zby : ((List Int) × (List Int) × (List Int) × (List Int)) → RT Unit (Bool × (List Int) × (List Int))
| (a_0, a_1, b_0, b_1) =>
 .rq 9 (.req (okMs [a_0, b_1]) (.rq 5 (.req (okMs [a_1, b_0]) (let t0 := zcd B32 (zeL [a_0, b_1]);
 let t1 := zcd B32 (zeL [a_1, b_0]);
 .req (okL 36 t0 && okL 36 t1) (.rq 4 (let t2 := mkR (val B32 t0) (val B32 t1);
 .done (t2.1, t2.2.1, t2.2.2)))))))
def F_zby (x : (List Int) × (List Int) × (List Int) × (List Int)) : Option (Bool × (List Int) × (List Int)) := (zby x).run fun _ => none
def io_zby : Io := ⟨n_zby, [.sl tV, .sl tV, .sl tV, .sl tV], [.agg [qm 0, qm 1], .agg [qm 2, qm 3]], [], [[.sl tV, .sl tV], [.sl tV, .sl tV]], [tB, .sl tV, .sl tV], .tup [(true, [qr 0, qr 1]), (false, [qm 0])], [], [(true, .arr 122 (qm 1)), (true, .arr 122 (qm 2))], false⟩
def zby_P : List zcc := []
def zby_T : zch := tab [e_zaG, e_zaM]
theorem zby_To : zcg pg zby_T := zce ⟨e_zaG_ok, e_zaM_ok, trivial⟩
theorem zby_go : zct pg (zby_T) io_zby f_zby (zby_P) [.cellRow 64 0 600064 122 tV, .cellRow 64 1 600065 122 tV, .cellRen 64 0 600064, .cellRen 64 1 600065] (zby) := ⟨by kernel_rfl, by kernel_rfl, fun x => by kernel_rfl⟩
theorem ok_zby : io_zby.Okay pg (F_zby) := zcq zcf (zby_To) (zby_go) trivial
theorem div_F {p q : Rat} {m n : Nat} (hp : sm m p) (hq : sm n q) (hm : m ≤ 1000000) (hn : n ≤ 1000000) : F_zby ((rq p).1, (rq p).2, (rq q).1, (rq q).2) = some (mkR (p.num.toNat * q.den) (p.den * q.num.toNat)) := by
 have l1 := rq_len hp
 have l2 := rq_len hq
 have m1 := zhZ (a := (rq p).1) (b := (rq q).2) (zcS (by decide) _) (zcS (by decide) _)
 have m2 := zhZ (a := (rq p).2) (b := (rq q).1) (zcS (by decide) _) (zcS (by decide) _)
 rw [rq_num, rq_den] at m1 m2
 show (zby _).run _ = _
 rw [zby]
 simp only [RT.run, prod2, zcw (show 2 ≤ B32 by decide), rq_num, rq_den]
 rw [if_pos (by rw [zfB]; simp [lenS]; omega), if_pos (by rw [zfB]; simp [lenS]; omega), if_pos (by rw [Bool.and_eq_true, okL36, okL36]; omega)]
def e_zby : zcn := io_zby.en F_zby
theorem e_zby_ok : e_zby.ok pg := zeE ok_zby
def zad : ((List Bool) × (List Tk) × (List Th) × (List Lk) × (List Int) × Int × Int) → RT Unit ((List Int) × (List Int))
| (s_0, s_1, s_2, s_3, s_4, s_5, i) =>
 .rq 3 (.req ((wOK s_0 s_1 s_2 s_3 s_4 s_5)) (.rq 9 (let t0 := ((wgV s_0 s_1 s_2 s_3 s_4 s_5).map rq);
 .ite ((decide (i < 0)) || (decide ((t0.length : Int) ≤ i)))
 (.rq 2 (.done ([], zcd B32 1)))
 (.rq 2 (.req (inB t0 i) (.rq 2 (.req (okS t0) (let t1 := rq (sumQ t0);
 let t2 := gI t0 i;
 .call (F_zby (t2.1, t2.2, t1.1, t1.2)) default fun v0 =>
 .rq 8 (.ite (!v0.1)
 (.rq 2 (.done ([], zcd B32 1)))
 (.rq 2 (.done (v0.2.1, v0.2.2))))))))))))
def F_zad (x : (List Bool) × (List Tk) × (List Th) × (List Lk) × (List Int) × Int × Int) : Option ((List Int) × (List Int)) := (zad x).run fun _ => none
def io_zad : Io := ⟨n_zad, [.sl tB, .sl yK, .sl yH, .sl yL, .sl tI, tI, tI], [.agg [qm 0, qm 1, qm 2, qm 3, qm 4, qm 5], .lf (qm 6)], [], [[.sl tB, .sl yK, .sl yH, .sl yL, .sl tI, tI], [tI]], [.sl tV, .sl tV], .agg [qr 0, qr 1], [], [(true, .arr 122 (qm 0)), (true, .arr 122 (qm 1))], false⟩
def zad_P : List zcc := []
def zad_T : zch := tab [e_zby, e_zA, e_zab, e_zao]
theorem zad_To : zcg pg zad_T := zce ⟨e_zby_ok, e_zA_ok, e_zab_ok, zhe, trivial⟩
theorem zad_go : zct pg (zad_T) io_zad f_zad (zad_P) [.cellRow 64 0 600064 122 tV, .cellRow 64 1 600065 122 tV, .cellRen 64 0 600064, .cellRen 64 1 600065] (zad) := ⟨by kernel_rfl, by kernel_rfl, fun x => by kernel_rfl⟩
theorem ok_zad : io_zad.Okay pg (F_zad) := zcq zcf (zad_To) (zad_go) trivial
def e_zad : zcn := io_zad.sp (fun (a, b, c, d, e, f, i) => (wOK a b c d e f)) (fun (a, b, c, d, e, f, i) => (rq (chV (wgV a b c d e f) i)))
theorem sp_zad (h : ∀ (a : List Bool) (b : List Tk) (c : List Th) (d : List Lk) (e : List Int) (f : Int) (i : Int), WfT [.sl tB, .sl yK, .sl yH, .sl yL, .sl tI, tI, tI] (a, b, c, d, e, f, i) → ((wOK a b c d e f)) = true → (zad (a, b, c, d, e, f, i)).run (fun _ => none) = some (rq (chV (wgV a b c d e f) i))) : e_zad.ok pg := zcs ok_zad fun (a, b, c, d, e, f, i) hw hc => h a b c d e f i hw hc
theorem e_zad_ok : e_zad.ok pg := sp_zad fun a b c d e f i _ hc => by
 obtain ⟨H, h8⟩ := zdl hc
 have hlc := H.lenC
 obtain ⟨s1, s2⟩ := wg_sum H
 rw [zad]
 simp only [RT.run]
 rw [if_pos hc, List.length_map]
 unfold chV
 cases hin : inB (wgV a b c d e f) i with
 | false =>
  rw [if_pos]
  ·rfl
  ·unfold inB at hin
   simp only [Bool.and_eq_false_iff, decide_eq_false_iff_not] at hin
   simp only [Bool.or_eq_true, decide_eq_true_eq]
   omega
 | true =>
  have hi := zck.1 hin
  have hi' : 0 ≤ i ∧ i < (c.length : Int) := by rw [← zgb (a := a) (b := b) (c := c) (d := d) (e := e) (f := f)]; exact hi
  rw [if_neg (by simp; omega), if_pos (zck.2 (by rw [List.length_map]; exact hi)), okS_map (n := 510) (fun q hq => (H.wg_mem q hq).2) (wg_hyp H).2 (by decide), if_pos rfl, sumQ_map fun q hq => (H.wg_mem q hq).1, zen rq hi, div_F (H.wg_sm hi').2 s2 (by decide) (by decide), Option.bind_some]
  unfold mkR chM
  by_cases hz : zcG (wgV a b c d e f) = 0
  ·have hd : (gI (wgV a b c d e f) i).den * (zcG (wgV a b c d e f)).num.toNat = 0 := by rw [hz]; simp
   rw [if_pos hd, if_pos (by decide), if_neg (by rw [decide_eq_false (fun h => h hz)]; decide)]
   rfl
  ·have hne : (gI (wgV a b c d e f) i).den * (zcG (wgV a b c d e f)).num.toNat ≠ 0 := Nat.mul_ne_zero (gI (wgV a b c d e f) i).den_nz (fun h => hz ((num_zero s1).1 h))
   rw [if_neg hne, if_neg (by simp), if_pos (by rw [decide_eq_true hz]; rfl)]
def zbQ : ((List Int) × (List Int)) → RT Unit Bool
| (q_0, q_1) =>
 .rq 8 (.done ((q_0.length : Int) == 0))
def F_zbQ (x : (List Int) × (List Int)) : Option Bool := (zbQ x).run fun _ => none
def io_zbQ : Io := ⟨n_zbQ, [.sl tI, .sl tI], [.agg [qm 0, qm 1]], [], [[.sl tI, .sl tI]], [tB], .lf (qm 0), [], [], false⟩
def zbQ_P : List zcc := []
def zbQ_T : zch := tab []
theorem zbQ_To : zcg pg zbQ_T := zce trivial
theorem zbQ_go : zct pg (zbQ_T) io_zbQ f_zbQ (zbQ_P) [] (zbQ) := ⟨by kernel_rfl, by kernel_rfl, fun x => by kernel_rfl⟩
theorem ok_zbQ : io_zbQ.Okay pg (F_zbQ) := zcq zcf (zbQ_To) (zbQ_go) trivial
def e_zbQ : zcn := io_zbQ.sp (fun (x, y) => true) (fun (x, y) => ((x.length : Int) == 0))
theorem sp_zbQ (h : ∀ (x : List Int) (y : List Int), WfT [.sl tI, .sl tI] (x, y) → (zbQ (x, y)).run (fun _ => none) = some ((x.length : Int) == 0)) : e_zbQ.ok pg := zcs ok_zbQ fun (x, y) hw hc => h x y hw
theorem e_zbQ_ok : e_zbQ.ok pg := sp_zbQ fun x y _ => by
 rw [zbQ]; rfl
def zbW : ((List Int) × (List Int) × (List Int) × (List Int)) → RT Unit ((List Int) × (List Int))
| (a_0, a_1, b_0, b_1) =>
 .rq 7 (.req (okM 38 a_0 && okM 38 b_1) (.rq 4 (.req (okM 38 a_1 && okM 38 b_0) (.rq 1 (.req (isM 36 (zcd B16 (val B16 a_0 * val B16 b_1)) && (isM 36 (zcd B16 (val B16 a_1 * val B16 b_0)) && decide (val B16 (zcd B16 (val B16 a_1 * val B16 b_0)) ≠ 0))) (.rq 1 (let t0 := rQ (zdg (zcd B16 (val B16 a_0 * val B16 b_1)) (zcd B16 (val B16 a_1 * val B16 b_0)));
 .done (t0.1, t0.2))))))))
def F_zbW (x : (List Int) × (List Int) × (List Int) × (List Int)) : Option ((List Int) × (List Int)) := (zbW x).run fun _ => none
def io_zbW : Io := ⟨n_zbW, [.sl tI, .sl tI, .sl tI, .sl tI], [.agg [qm 0, qm 1], .agg [qm 2, qm 3]], [], [[.sl tI, .sl tI], [.sl tI, .sl tI]], [.sl tI, .sl tI], .agg [qr 0, qr 1], [], [(true, .arr 3 (qm 0)), (true, .arr 3 (qm 1))], false⟩
def zbW_P : List zcc := []
def zbW_T : zch := tab [e_zbH, e_zaa]
theorem zbW_To : zcg pg zbW_T := zce ⟨e_zbH_ok, zhV, trivial⟩
theorem zbW_go : zct pg (zbW_T) io_zbW f_zbW (zbW_P) [.cellRow 64 0 600064 3 tI, .cellRow 64 1 600065 3 tI, .cellRen 64 0 600064, .cellRen 64 1 600065] (zbW) := ⟨by kernel_rfl, by kernel_rfl, fun x => by kernel_rfl⟩
theorem ok_zbW : io_zbW.Okay pg (F_zbW) := zcq zcf (zbW_To) (zbW_go) trivial
theorem divR_F {p q : Rat} {m n : Nat} (hp : sm m p) (hq : sm n q) (hm : m ≤ 1000000) (hn : n ≤ 1000000) (h0 : 0 ≤ q) (hne : q ≠ 0) : F_zbW ((rQ p).1, (rQ p).2, (rQ q).1, (rQ q).2) = some (rQ (chM p q)) := by
 have l1 := zdy hp.1
 have l2 := zdy hp.2
 have l3 := zdy hq.1
 have l4 := zdy hq.2
 have h1 := Nat.mul_lt_mul'' hp.1 hq.2
 have h2 := Nat.mul_lt_mul'' hp.2 hq.1
 rw [← Nat.pow_add] at h1 h2
 have l5 := zdy h1
 have l6 := zdy h2
 have w : ∀ v, wfd B16 (zcd B16 v) = true := fun v => zcS (by decide) v
 have hz : p.den * q.num.toNat ≠ 0 := Nat.mul_ne_zero p.den_nz (fun h => hne ((num_zero h0).1 h))
 show (zbW (zcd B16 p.num.toNat, zcd B16 p.den, zcd B16 q.num.toNat, zcd B16 q.den)).run _ = _
 rw [zbW]
 simp only [RT.run, zcw (show 2 ≤ B16 by decide)]
 rw [if_pos (by rw [Bool.and_eq_true, zcX, zcX]; exact ⟨⟨by omega, w _⟩, by omega, w _⟩), if_pos (by rw [Bool.and_eq_true, zcX, zcX]; exact ⟨⟨by omega, w _⟩, by omega, w _⟩),
  if_pos (by rw [zgz (by omega), zgz (by omega), decide_eq_true hz]; rfl)]
 unfold zdg chM
 rw [zcw (by decide), zcw (by decide)]
def e_zbW : zcn := io_zbW.en F_zbW
theorem e_zbW_ok : e_zbW.ok pg := zeE ok_zbW
def zii : ((List Bool) × (List Tk) × (List Th) × (List Lk) × (List Int) × Int) → (Int × (List Int) × (List Int)) → RT (Int × (List Int) × (List Int)) ((List Int) × (List Int))
| (s_0, s_1, s_2, s_3, s_4, s_5), (k, r80, r81) =>
 .rq 5 (.ite (decide (k < (s_2.length : Int)))
 (.rq 3 (.req ((wOK s_0 s_1 s_2 s_3 s_4 s_5 && inB s_2 k)) (let t0 := (rQ (gI (wgV s_0 s_1 s_2 s_3 s_4 s_5) k));
 .req (okq r80 r81 && okq t0.1 t0.2) (.rq 4 (let t1 := rQ (zdg r80 r81 + zdg t0.1 t0.2);
 .again (w64 (k + 1), t1.1, t1.2))))))
 (.done (r80, r81)))
def zaf_p58 : zcc := ⟨58, true, [tI, .sl tB, .sl yK, .sl yH, .sl yL, .sl tI, tI], [tI, .sl tI, .sl tI], ⟨[.keep [1, 2, 4, 5, 6], .gc, .cellRow 80 0 600080 3 tI, .cellRow 80 1 600081 3 tI, .cellRen 80 0 600080, .cellRen 80 1 600081, .gc], [1, 2, 4, 5, 6], [.lf (qi 0), .lf (qp 32), .lf (qp 64), .lf (qp 80), .lf (qm 0)], [(32, true, .cells [qi 1, qi 2, qi 3, qi 4, qi 5, qi 6]), (64, true, .cells [.fix (.nil), .fix (.nil)]), (80, true, .cells [qr 600080, qr 600081]), (600080, true, .arr 3 (qm 1)), (600081, true, .arr 3 (qm 2))]⟩, [⟨2, ⟨[.keep [1, 2, 4, 5], .gc, .cellRow 80 0 600080 3 tI, .cellRow 80 1 600081 3 tI, .cellRen 80 0 600080, .cellRen 80 1 600081, .gc], [1, 2, 4, 5], [.lf (qi 0), .lf (qp 32), .lf (qp 64), .lf (qp 80)], [(32, true, .cells [qi 1, qi 2, qi 3, qi 4, qi 5, qi 6]), (64, true, .cells [.fix (.nil), .fix (.nil)]), (80, true, .cells [qr 600080, qr 600081]), (600080, true, .arr 3 (qm 0)), (600081, true, .arr 3 (qm 1))]⟩, [.sl tI, .sl tI]⟩], (fun i => zii (i.2.1, i.2.2.1, i.2.2.2.1, i.2.2.2.2.1, i.2.2.2.2.2.1, i.2.2.2.2.2.2))⟩
def zaf : ((List Bool) × (List Tk) × (List Th) × (List Lk) × (List Int) × Int × Int) → RT Unit ((List Int) × (List Int))
| (s_0, s_1, s_2, s_3, s_4, s_5, i) =>
 .rq 6 (.call (lo zii (s_0, s_1, s_2, s_3, s_4, s_5) (0, (rQ (((0 : Int).toNat : Nat) : Rat)).1, (rQ (((0 : Int).toNat : Nat) : Rat)).2)) default fun v0 =>
 .rq 13 (.ite (((decide (i < 0)) || (decide ((s_2.length : Int) ≤ i))) || (((v0.1.length : Int) == 0)))
 (.rq 2 (.done ((rQ (((0 : Int).toNat : Nat) : Rat)).1, (rQ (((0 : Int).toNat : Nat) : Rat)).2)))
 (.rq 2 (.req ((wOK s_0 s_1 s_2 s_3 s_4 s_5 && inB s_2 i)) (.rq 1 (let t0 := (rQ (gI (wgV s_0 s_1 s_2 s_3 s_4 s_5) i));
 .call (F_zbW (t0.1, t0.2, v0.1, v0.2)) default fun v1 =>
 .rq 1 (.done (v1.1, v1.2))))))))
def F_zaf (x : (List Bool) × (List Tk) × (List Th) × (List Lk) × (List Int) × Int × Int) : Option ((List Int) × (List Int)) := (zaf x).run fun _ => none
def io_zaf : Io := ⟨n_zaf, [.sl tB, .sl yK, .sl yH, .sl yL, .sl tI, tI, tI], [.agg [qm 0, qm 1, qm 2, qm 3, qm 4, qm 5], .lf (qm 6)], [], [[.sl tB, .sl yK, .sl yH, .sl yL, .sl tI, tI], [tI]], [.sl tI, .sl tI], .agg [qr 0, qr 1], [], [(true, .arr 3 (qm 0)), (true, .arr 3 (qm 1))], false⟩
def zaf_P : List zcc := [zaf_p58]
def zaf_T : zch := tab [e_zbW, e_zbQ, e_zbb, e_zbI, e_zbD]
theorem zaf_To : zcg pg zaf_T := zce ⟨e_zbW_ok, e_zbQ_ok, e_zbb_ok, e_zbI_ok, e_zbD_ok, trivial⟩
theorem zaf_k58 : (zaf_p58).OK pg (zaf_T) (zcy 39 (zaf_P)) (zcp f_zaf) 39 := ⟨by kernel_rfl, fun i x => by kernel_rfl⟩
theorem zaf_go : zct pg (zaf_T) io_zaf f_zaf (zaf_P) [.cellRow 64 0 600064 3 tI, .cellRow 64 1 600065 3 tI, .cellRen 64 0 600064, .cellRen 64 1 600065] (zaf) := ⟨by kernel_rfl, by kernel_rfl, fun x => by kernel_rfl⟩
theorem ok_zaf : io_zaf.Okay pg (F_zaf) := zcq zcf (zaf_To) (zaf_go) ⟨zaf_k58, trivial⟩
theorem chR_loop {a : List Bool} {b : List Tk} {c : List Th} {d : List Lk} {e : List Int} {f : Int} (hw : wOK a b c d e f = true) : ∀ (n i m : Nat) (q : Rat), i + n = c.length → 0 ≤ q → sm m q → m + 511 * n ≤ 100000 →
  lo zii (a, b, c, d, e, f) ((i : Int), (rQ q).1, (rQ q).2) = some (rQ (q + zcG ((wgV a b c d e f).drop i)))
 | 0, i, m, q, h, _, _, _ => by
  rw [zcm, zii]
  simp only [RT.run]
  rw [if_neg (by simp; omega), List.drop_eq_nil_of_le (by rw [zgb]; omega)]
  show some (rQ q) = some (rQ (q + 0))
  rw [Rat.add_zero]
 | n + 1, i, m, q, h, h0, hm, hb => by
  obtain ⟨H, h8⟩ := zdl hw
  have hlc := H.lenC
  have hi : 0 ≤ (i : Int) ∧ (i : Int) < (c.length : Int) := by omega
  have hil : i < (wgV a b c d e f).length := by rw [zgb]; omega
  obtain ⟨s2, s3⟩ := H.wg_sm hi
  have ih := chR_loop hw n (i + 1) _ (q + gI (wgV a b c d e f) (i : Int)) (by omega) (Rat.add_nonneg h0 s2) (sm_add h0 s2 hm s3) (by omega)
  rw [zcm, zii]
  simp only [RT.run]
  rw [if_pos (by simp; omega), hw, zck.2 hi, if_pos (by decide), zfO hm (by omega), zfO s3 (by decide), if_pos (by decide), zcj (by omega), show (i : Int) + 1 = ((i + 1 : Nat) : Int) by omega, zeQ h0, zeQ s2]
  show lo zii _ (_, (rQ (q + gI (wgV a b c d e f) (i : Int))).1, (rQ (q + gI (wgV a b c d e f) (i : Int))).2) = _
  rw [ih, List.drop_eq_getElem_cons hil, zcO, zcH hil, Rat.add_assoc]
def e_zaf : zcn := io_zaf.sp (fun (a, b, c, d, e, f, i) => (wOK a b c d e f)) (fun (a, b, c, d, e, f, i) => (rQ (chV (wgV a b c d e f) i)))
theorem sp_zaf (h : ∀ (a : List Bool) (b : List Tk) (c : List Th) (d : List Lk) (e : List Int) (f : Int) (i : Int), WfT [.sl tB, .sl yK, .sl yH, .sl yL, .sl tI, tI, tI] (a, b, c, d, e, f, i) → ((wOK a b c d e f)) = true → (zaf (a, b, c, d, e, f, i)).run (fun _ => none) = some (rQ (chV (wgV a b c d e f) i))) : e_zaf.ok pg := zcs ok_zaf fun (a, b, c, d, e, f, i) hw hc => h a b c d e f i hw hc
theorem e_zaf_ok : e_zaf.ok pg := sp_zaf fun a b c d e f i _ hc => by
 obtain ⟨H, h8⟩ := zdl hc
 have hlc := H.lenC
 obtain ⟨s1, s2⟩ := wg_sum H
 have hl := chR_loop hc c.length 0 1 0 (by omega) (by decide) (zhu _ (by decide)) (by omega)
 rw [show ((0 : Nat) : Int) = 0 from rfl, List.drop_zero, Rat.zero_add] at hl
 rw [zaf]
 simp only [RT.run]
 show (lo zii _ (0, (rQ 0).1, (rQ 0).2)).bind _ = _
 rw [hl, Option.bind_some]
 have hzz : (((rQ (zcG (wgV a b c d e f))).1.length : Int) == 0) = decide (zcG (wgV a b c d e f) = 0) := by
  rw [Bool.eq_iff_iff, beq_iff_eq, decide_eq_true_eq, ← num_zero s1]
  show ((zcd 65536 (zcG (wgV a b c d e f)).num.toNat).length : Int) = 0 ↔ _
  rw [show ((zcd 65536 (zcG (wgV a b c d e f)).num.toNat).length : Int) = 0 ↔ (zcd 65536 (zcG (wgV a b c d e f)).num.toNat).length = 0 by omega]
  exact digs_nil (by decide)
 simp only [hzz]
 unfold chV
 have hinn : inB (wgV a b c d e f) i = inB c i := by unfold inB; rw [zgb]
 rw [hinn]
 cases hin : inB c i with
 | false =>
  have ho : (decide (i < 0) || decide ((c.length : Int) ≤ i)) = true := by
   unfold inB at hin
   simp only [Bool.and_eq_false_iff, decide_eq_false_iff_not] at hin
   simp only [Bool.or_eq_true, decide_eq_true_eq]
   omega
  rw [ho]
  simp
 | true =>
  have hi := zck.1 hin
  have ho : (decide (i < 0) || decide ((c.length : Int) ≤ i)) = false := by simp; omega
  rw [ho]
  by_cases hz : zcG (wgV a b c d e f) = 0
  ·simp [hz]
  ·have hd : decide (zcG (wgV a b c d e f) = 0) = false := decide_eq_false hz
   rw [hd, hc]
   simp only [Bool.not_false, Bool.or_true, Bool.or_self, Bool.and_self, if_true, Bool.false_eq_true, if_false]
   rw [divR_F (H.wg_sm hi).2 s2 (by decide) (by decide) s1 hz, if_pos (by simp [hz])]
   rfl
end
end Go.Proofs.YtlfdidaeachpoaaGreat
namespace Go.Proofs.YtlfdidaeachpoaaGreat
open Go
abbrev n_zO : Nat := 46
noncomputable abbrev f_zO : Func := Tryz.f46
abbrev n_zW : Nat := 49
noncomputable abbrev f_zW : Func := Tryz.f49
abbrev n_zM : Nat := 148
noncomputable abbrev f_zM : Func := Tryz.f148
abbrev n_zN : Nat := 183
noncomputable abbrev f_zN : Func := Tryz.f183
end Go.Proofs.YtlfdidaeachpoaaGreat
namespace Go.Proofs.YtlfdidaeachpoaaGreat
open Go Go.RowKit
set_option maxRecDepth 100000
noncomputable section
def zo : (List Int) → RT Unit (List Int)
| s =>
 .rq 2 (let t0 := zdG 8 [] s;
 .may (List.isEmpty s)
 (.ite true
 (.rq 1 (.done []))
 (.rq 2 (.req t0 (.rq 1 (.done ([] ++ s))))))
 (.ite false
 (.rq 1 (.done []))
 (.rq 2 (.req t0 (.rq 1 (.done ([] ++ s)))))))
def F_zo (x : (List Int)) : Option (List Int) := (zo x).run fun _ => none
def io_zo : Io := ⟨n_zo, [.sl tU], [.lf (qm 0)], [], [[.sl tU]], [.sl tU], .lf (qr 0), [], [(true, .arr 48 (qm 0))], false⟩
def zo_P : List zcc := []
def zo_T : zch := tab []
theorem zo_To : zcg pg zo_T := zce trivial
theorem zo_go : zct pg (zo_T) io_zo f_zo (zo_P) [.nilRow 2 800002 48 tU, .ren 2 700002, .ren 2 900002] (zo) := ⟨by kernel_rfl, by kernel_rfl, fun x => by kernel_rfl⟩
theorem ok_zo : io_zo.Okay pg (F_zo) := zcq zcf (zo_To) (zo_go) trivial
def e_zo : zcn := io_zo.sp (fun s => (okL 40 s)) (fun s => s)
theorem sp_zo (h : ∀ (s : List Int), WfT [.sl tU] s → ((okL 40 s)) = true → (zo s).run (fun _ => none) = some s) : e_zo.ok pg := zcs ok_zo fun s hw hc => h s hw hc
theorem e_zo_ok : e_zo.ok pg := sp_zo fun s _ hc => by
 replace hc := okL40.1 hc
 have h : zdG 8 [] s = true := by rw [zep, zit]; simp; omega
 unfold zo
 simp only [RT.run, h, List.nil_append, if_true, if_false, Bool.false_eq_true]
 cases s with
 | nil => simp [bothR]
 | cons a s => simp
def zbz : (List Int) → RT Unit ((List Int) × Int)
| l =>
 .rq 2 (.req ((okL 40 l)) (.rq 3 (.done (l, 0))))
def F_zbz (x : (List Int)) : Option ((List Int) × Int) := (zbz x).run fun _ => none
def io_zbz : Io := ⟨n_zbz, [.sl tU], [.lf (qm 0)], [], [[.sl tU]], [.sl tU, tI], .lf (qp 0), [], [(true, .cells [qm 0, qm 1])], true⟩
def zbz_P : List zcc := []
def zbz_T : zch := tab [e_zo]
theorem zbz_To : zcg pg zbz_T := zce ⟨e_zo_ok, trivial⟩
theorem zbz_go : zct pg (zbz_T) io_zbz f_zbz (zbz_P) [.cellDat 96, .cellDen 96 [.sl tU]] (zbz) := ⟨by kernel_rfl, by kernel_rfl, fun x => by kernel_rfl⟩
theorem ok_zbz : io_zbz.Okay pg (F_zbz) := zcq zcf (zbz_To) (zbz_go) trivial
def e_zbz : zcn := io_zbz.sp (fun l => (okL 40 l)) (fun l => (l, 0))
theorem sp_zbz (h : ∀ (l : List Int), WfT [.sl tU] l → ((okL 40 l)) = true → (zbz l).run (fun _ => none) = some (l, 0)) : e_zbz.ok pg := zcs ok_zbz fun l hw hc => h l hw hc
theorem e_zbz_ok : e_zbz.ok pg := sp_zbz fun l _ hc => by
 rw [zbz]
 simp only [RT.run]
 rw [if_pos hc]
def zO : (Int × (List Int) × Int) → RT Unit (Int × (List Int) × Int)
| (a1, s_0, s_1) =>
 .rq 4 (.ite false
 (.rq 1 (.done (2, s_0, s_1)))
 (.rq 12 (.ite ((decide (a1 < 0)) || (decide ((s_0.length : Int) < a1)))
 (.rq 1 (.done (6, s_0, s_1)))
 (.rq 6 (.done (0, s_0, a1))))))
def F_zO (x : Int × (List Int) × Int) : Option (Int × (List Int) × Int) := (zO x).run fun _ => none
def io_zO : Io := ⟨n_zO, [tI, .sl tU, tI], [.lf (qp 0), .lf (qm 0)], [.cells [qm 1, qm 2]], [[], [tI]], [tI, .sl tU, tI], .lf (qm 0), [(true, .cells [qm 1, qm 2])], [], true⟩
def zO_P : List zcc := []
def zO_T : zch := tab []
theorem zO_To : zcg pg zO_T := zce trivial
theorem zO_go : zct pg (zO_T) io_zO f_zO (zO_P) [] (zO) := ⟨by kernel_rfl, by kernel_rfl, fun x => by kernel_rfl⟩
theorem ok_zO : io_zO.Okay pg (F_zO) := zcq zcf (zO_To) (zO_go) trivial
def seekV (k : Int) (l : List Int) (at_ : Int) : Int × List Int × Int := if (decide (k < 0) || decide ((l.length : Int) < k)) = true then (6, l, at_) else (0, l, k)
def e_zO : zcn := io_zO.sp (fun (k, l, at_) => true) (fun (k, l, at_) => (seekV k l at_))
theorem sp_zO (h : ∀ (k : Int) (l : List Int) (at_ : Int), WfT [tI, .sl tU, tI] (k, l, at_) → (zO (k, l, at_)).run (fun _ => none) = some (seekV k l at_)) : e_zO.ok pg := zcs ok_zO fun (k, l, at_) hw hc => h k l at_ hw
theorem e_zO_ok : e_zO.ok pg := sp_zO fun k l at_ _ => by
 rw [zO]
 simp only [RT.run]
 unfold seekV
 rw [if_neg (by decide)]
 by_cases h : (decide (k < 0) || decide ((l.length : Int) < k)) = true
 ·rw [if_pos h, if_pos h]
 ·rw [if_neg h, if_neg h]
def zW : ((List Int) × Int) → RT Unit (Int × (List Int) × Int)
| (s_0, s_1) =>
 .rq 3 (.ite false
 (.rq 1 (.done (0, s_0, s_1)))
 (.rq 5 (.done (s_1, s_0, s_1))))
def F_zW (x : (List Int) × Int) : Option (Int × (List Int) × Int) := (zW x).run fun _ => none
def io_zW : Io := ⟨n_zW, [.sl tU, tI], [.lf (qp 0)], [.cells [qm 0, qm 1]], [[]], [tI, .sl tU, tI], .lf (qm 0), [(true, .cells [qm 1, qm 2])], [], true⟩
def zW_P : List zcc := []
def zW_T : zch := tab []
theorem zW_To : zcg pg zW_T := zce trivial
theorem zW_go : zct pg (zW_T) io_zW f_zW (zW_P) [] (zW) := ⟨by kernel_rfl, by kernel_rfl, fun x => by kernel_rfl⟩
theorem ok_zW : io_zW.Okay pg (F_zW) := zcq zcf (zW_To) (zW_go) trivial
def e_zW : zcn := io_zW.sp (fun (l, at_) => true) (fun (l, at_) => (at_, l, at_))
theorem sp_zW (h : ∀ (l : List Int) (at_ : Int), WfT [.sl tU, tI] (l, at_) → (zW (l, at_)).run (fun _ => none) = some (at_, l, at_)) : e_zW.ok pg := zcs ok_zW fun (l, at_) hw hc => h l at_ hw
theorem e_zW_ok : e_zW.ok pg := sp_zW fun l at_ _ => by
 rw [zW]; rfl
def zN : ((List Int) × Int) → RT Unit (Int × Int × (List Int) × Int)
| (s_0, s_1) =>
 .rq 5 (.ite false
 (.rq 2 (.done (0, 2, s_0, s_1)))
 (.rq 11 (.ite (s_1 == (s_0.length : Int))
 (.rq 2 (.done (0, 11, s_0, s_1)))
 (.rq 8 (.req (inB s_0 s_1) (.rq 3 (.done (gI s_0 s_1, 0, s_0, s_1))))))))
def F_zN (x : (List Int) × Int) : Option (Int × Int × (List Int) × Int) := (zN x).run fun _ => none
def io_zN : Io := ⟨n_zN, [.sl tU, tI], [.lf (qp 0)], [.cells [qm 0, qm 1]], [[]], [tU, tI, .sl tU, tI], .tup [(false, [qm 0]), (false, [qm 1])], [(true, .cells [qm 2, qm 3])], [], true⟩
def zN_P : List zcc := []
def zN_T : zch := tab []
theorem zN_To : zcg pg zN_T := zce trivial
theorem zN_go : zct pg (zN_T) io_zN f_zN (zN_P) [] (zN) := ⟨by kernel_rfl, by kernel_rfl, fun x => by kernel_rfl⟩
theorem ok_zN : io_zN.Okay pg (F_zN) := zcq zcf (zN_To) (zN_go) trivial
def peekV (l : List Int) (at_ : Int) : Int × Int × List Int × Int := if (at_ == (l.length : Int)) = true then (0, 11, l, at_) else (gI l at_, 0, l, at_)
def e_zN : zcn := io_zN.sp (fun (l, at_) => (decide (0 ≤ at_) && decide (at_ ≤ (l.length : Int)))) (fun (l, at_) => (peekV l at_))
theorem sp_zN (h : ∀ (l : List Int) (at_ : Int), WfT [.sl tU, tI] (l, at_) → ((decide (0 ≤ at_) && decide (at_ ≤ (l.length : Int)))) = true → (zN (l, at_)).run (fun _ => none) = some (peekV l at_)) : e_zN.ok pg := zcs ok_zN fun (l, at_) hw hc => h l at_ hw hc
theorem e_zN_ok : e_zN.ok pg := sp_zN fun l at_ _ hc => by
 rw [Bool.and_eq_true, decide_eq_true_eq, decide_eq_true_eq] at hc
 rw [zN]
 simp only [RT.run]
 unfold peekV
 rw [if_neg (by decide)]
 by_cases h : at_ = (l.length : Int)
 ·have hb : (at_ == (l.length : Int)) = true := by simpa using h
  rw [hb, if_pos rfl, if_pos rfl]
 ·have hb : (at_ == (l.length : Int)) = false := by simpa using h
  rw [hb, if_neg (by decide), if_pos (zck.2 (by omega)), if_neg (by decide)]
def zM : ((List Int) × Int) → RT Unit (Int × Int × (List Int) × Int)
| (s_0, s_1) =>
 .rq 3 (.req ((decide (0 ≤ s_1) && decide (s_1 ≤ (s_0.length : Int)))) (.rq 7 (.ite (((peekV s_0 s_1)).2.1 == 0)
 (.rq 12 (.done (((peekV s_0 s_1)).1, ((peekV s_0 s_1)).2.1, ((peekV s_0 s_1)).2.2.1, w64 (((peekV s_0 s_1)).2.2.2 + 1))))
 (.rq 4 (.done (((peekV s_0 s_1)).1, ((peekV s_0 s_1)).2.1, ((peekV s_0 s_1)).2.2.1, ((peekV s_0 s_1)).2.2.2))))))
def F_zM (x : (List Int) × Int) : Option (Int × Int × (List Int) × Int) := (zM x).run fun _ => none
def io_zM : Io := ⟨n_zM, [.sl tU, tI], [.lf (qp 0)], [.cells [qm 0, qm 1]], [[]], [tU, tI, .sl tU, tI], .tup [(false, [qm 0]), (false, [qm 1])], [(true, .cells [qm 2, qm 3])], [], true⟩
def zM_P : List zcc := []
def zM_T : zch := tab [e_zN]
theorem zM_To : zcg pg zM_T := zce ⟨e_zN_ok, trivial⟩
theorem zM_go : zct pg (zM_T) io_zM f_zM (zM_P) [] (zM) := ⟨by kernel_rfl, by kernel_rfl, fun x => by kernel_rfl⟩
theorem ok_zM : io_zM.Okay pg (F_zM) := zcq zcf (zM_To) (zM_go) trivial
def zfF (l : List Int) (at_ : Int) : Int × Int × List Int × Int := if (at_ == (l.length : Int)) = true then (0, 11, l, at_) else (gI l at_, 0, l, at_ + 1)
def e_zM : zcn := io_zM.sp (fun (l, at_) => (decide (0 ≤ at_) && decide (at_ ≤ (l.length : Int)))) (fun (l, at_) => (zfF l at_))
theorem sp_zM (h : ∀ (l : List Int) (at_ : Int), WfT [.sl tU, tI] (l, at_) → ((decide (0 ≤ at_) && decide (at_ ≤ (l.length : Int)))) = true → (zM (l, at_)).run (fun _ => none) = some (zfF l at_)) : e_zM.ok pg := zcs ok_zM fun (l, at_) hw hc => h l at_ hw hc
theorem e_zM_ok : e_zM.ok pg := sp_zM fun l at_ hw hc => by
 have hl : l.length ≤ 9223372036854775807 := hw.1.1
 have hc' := hc
 rw [Bool.and_eq_true, decide_eq_true_eq, decide_eq_true_eq] at hc'
 rw [zM]
 simp only [RT.run]
 rw [if_pos hc]
 unfold peekV zfF
 by_cases h : at_ = (l.length : Int)
 ·have hb : (at_ == (l.length : Int)) = true := by simpa using h
  simp only [hb, if_true]
  rfl
 ·have hb : (at_ == (l.length : Int)) = false := by simpa using h
  simp only [hb, Bool.false_eq_true, if_false]
  rw [if_pos (by decide), zcj (by omega)]
def zbt : Int → RT Unit Int
| t =>
 .rq 3 (.ite (t == 0)
 (.rq 1 (.done 0))
 (.rq 3 (.req (t != 0) (.rq 1 (.done (Int.tmod (zcu (0 - t)) t))))))
def F_zbt (x : Int) : Option Int := (zbt x).run fun _ => none
def io_zbt : Io := ⟨n_zbt, [tU], [.lf (qm 0)], [], [[tU]], [tU], .lf (qm 0), [], [], false⟩
def zbt_P : List zcc := []
def zbt_T : zch := tab []
theorem zbt_To : zcg pg zbt_T := zce trivial
theorem zbt_go : zct pg (zbt_T) io_zbt f_zbt (zbt_P) [] (zbt) := ⟨by kernel_rfl, by kernel_rfl, fun x => by kernel_rfl⟩
theorem ok_zbt : io_zbt.Okay pg (F_zbt) := zcq zcf (zbt_To) (zbt_go) trivial
def restV (t : Int) : Int := if (t == 0) = true then 0 else 18446744073709551616 % t
theorem restV_lt {t : Int} (h : 0 ≤ t) : 0 ≤ restV t ∧ (0 < t → restV t < t) := by
 unfold restV
 by_cases h0 : t = 0
 ·rw [if_pos (by simpa using h0)]; omega
 ·rw [if_neg (by simpa using h0)]
  exact ⟨Int.emod_nonneg _ h0, fun hp => Int.emod_lt_of_pos _ hp⟩
def e_zbt : zcn := io_zbt.sp (fun t => true) (fun t => (restV t))
theorem sp_zbt (h : ∀ (t : Int), WfT [tU] t → (zbt t).run (fun _ => none) = some (restV t)) : e_zbt.ok pg := zcs ok_zbt fun t hw hc => h t hw
theorem e_zbt_ok : e_zbt.ok pg := sp_zbt fun t hw => by
 have ht : 0 ≤ t ∧ t < 18446744073709551616 := hw
 rw [zbt]
 simp only [RT.run]
 unfold restV
 by_cases h0 : t = 0
 ·have hb : (t == 0) = true := by simpa using h0
  rw [hb, if_pos rfl, if_pos rfl]
 ·have hb : (t == 0) = false := by simpa using h0
  rw [hb, if_neg (by decide), if_pos (by simpa using h0), if_neg (by decide)]
  have e1 : zcu (0 - t) = 18446744073709551616 - t := by rw [wu64_eq]; omega
  rw [e1, Int.tmod_eq_emod_of_nonneg (by omega), Int.sub_emod_right]
def zbk : (Int × Int) → RT Unit Bool
| (t, w) =>
 .rq 11 (.done ((decide (0 < t)) && (decide (w ≤ (zcu (18446744073709551615 - ((restV t))))))))
def F_zbk (x : Int × Int) : Option Bool := (zbk x).run fun _ => none
def io_zbk : Io := ⟨n_zbk, [tU, tU], [.lf (qm 0), .lf (qm 1)], [], [[tU], [tU]], [tB], .lf (qm 0), [], [], false⟩
def zbk_P : List zcc := []
def zbk_T : zch := tab [e_zbt]
theorem zbk_To : zcg pg zbk_T := zce ⟨e_zbt_ok, trivial⟩
theorem zbk_go : zct pg (zbk_T) io_zbk f_zbk (zbk_P) [] (zbk) := ⟨by kernel_rfl, by kernel_rfl, fun x => by kernel_rfl⟩
theorem ok_zbk : io_zbk.Okay pg (F_zbk) := zcq zcf (zbk_To) (zbk_go) trivial
def zgv (t w : Int) : Bool := decide (0 < t) && decide (w ≤ 18446744073709551615 - restV t)
def e_zbk : zcn := io_zbk.sp (fun (t, w) => true) (fun (t, w) => (zgv t w))
theorem sp_zbk (h : ∀ (t : Int) (w : Int), WfT [tU, tU] (t, w) → (zbk (t, w)).run (fun _ => none) = some (zgv t w)) : e_zbk.ok pg := zcs ok_zbk fun (t, w) hw hc => h t w hw
theorem e_zbk_ok : e_zbk.ok pg := sp_zbk fun t w hw => by
 have ht : 0 ≤ t ∧ t < 18446744073709551616 := hw.1
 have hr := restV_lt ht.1
 rw [zbk]
 simp only [RT.run]
 unfold zgv
 by_cases h0 : 0 < t
 ·have := hr.2 h0
  rw [zcC (by omega)]
 ·rw [decide_eq_false h0, Bool.false_and, Bool.false_and]
def zbu : (Int × Int) → RT Unit (Int × Bool)
| (t, w) =>
 .rq 6 (.ite (!((zgv t w)))
 (.rq 2 (.done (0, false)))
 (.rq 2 (.req (t != 0) (.rq 2 (.done (Int.tmod w t, true))))))
def F_zbu (x : Int × Int) : Option (Int × Bool) := (zbu x).run fun _ => none
def io_zbu : Io := ⟨n_zbu, [tU, tU], [.lf (qm 0), .lf (qm 1)], [], [[tU], [tU]], [tU, tB], .tup [(false, [qm 0]), (false, [qm 1])], [], [], false⟩
def zbu_P : List zcc := []
def zbu_T : zch := tab [e_zbk]
theorem zbu_To : zcg pg zbu_T := zce ⟨e_zbk_ok, trivial⟩
theorem zbu_go : zct pg (zbu_T) io_zbu f_zbu (zbu_P) [] (zbu) := ⟨by kernel_rfl, by kernel_rfl, fun x => by kernel_rfl⟩
theorem ok_zbu : io_zbu.Okay pg (F_zbu) := zcq zcf (zbu_To) (zbu_go) trivial
def tellV (t w : Int) : Int × Bool := if zgv t w = true then (w % t, true) else (0, false)
def e_zbu : zcn := io_zbu.sp (fun (t, w) => true) (fun (t, w) => (tellV t w))
theorem sp_zbu (h : ∀ (t : Int) (w : Int), WfT [tU, tU] (t, w) → (zbu (t, w)).run (fun _ => none) = some (tellV t w)) : e_zbu.ok pg := zcs ok_zbu fun (t, w) hw hc => h t w hw
theorem e_zbu_ok : e_zbu.ok pg := sp_zbu fun t w hw => by
 have hw1 : 0 ≤ w ∧ w < 18446744073709551616 := hw.2
 rw [zbu]
 simp only [RT.run]
 unfold tellV
 cases h : zgv t w with
 | false => rfl
 | true =>
  have h0 : 0 < t := by unfold zgv at h; rw [Bool.and_eq_true] at h; exact of_decide_eq_true h.1
  rw [if_neg (by decide), if_pos (by simp; omega), if_pos rfl, Int.tmod_eq_emod_of_nonneg (by omega)]
def zaA_b30 : (Int × Int) → ((List Int) × Int) → RT ((List Int) × Int) (Int × Int × (List Int) × Int)
| (t, was), (p0_0, p0_1) =>
 .rq 1 (.req ((decide (0 ≤ p0_1) && decide (p0_1 ≤ (p0_0.length : Int)))) (.rq 7 (.ite (((zfF p0_0 p0_1)).2.1 != 0)
 (.rq 6 (let t0 := (seekV was ((zfF p0_0 p0_1)).2.2.1 ((zfF p0_0 p0_1)).2.2.2);
 .done (0, ((zfF p0_0 p0_1)).2.1, t0.2.1, t0.2.2)))
 (.rq 9 (let t1 := (tellV t ((zfF p0_0 p0_1)).1);
 .ite t1.2
 (.rq 3 (.done (t1.1, 0, ((zfF p0_0 p0_1)).2.2.1, ((zfF p0_0 p0_1)).2.2.2)))
 (.again (((zfF p0_0 p0_1)).2.2.1, ((zfF p0_0 p0_1)).2.2.2)))))))
def zaA_p30 : zcc := ⟨30, true, [tU, tI], [.sl tU, tI], ⟨[.keep [0, 1, 6], .gc], [0, 1, 6], [.lf (qp 1048576), .lf (qi 0), .lf (qi 1)], [(1048576, true, .cells [qm 0, qm 1])]⟩, [⟨1, ⟨[.keep [4, 5], .gc], [4, 5], [.lf (qm 0), .lf (qm 1)], [(1048576, true, .cells [qm 2, qm 3])]⟩, [tU, tI, .sl tU, tI]⟩], zaA_b30⟩
def zaA : (Int × (List Int) × Int) → RT Unit (Int × Int × (List Int) × Int)
| (t, s_0, s_1) =>
 .rq 5 (.ite false
 (.rq 2 (.done (0, 2, s_0, s_1)))
 (.rq 3 (.ite (t == 0)
 (.rq 2 (.done (0, 1, s_0, s_1)))
 (.rq 3 (.call (lo zaA_b30 (t, s_1) (s_0, s_1)) default fun v0 =>
 .done (v0.1, v0.2.1, v0.2.2.1, v0.2.2.2))))))
def F_zaA (x : Int × (List Int) × Int) : Option (Int × Int × (List Int) × Int) := (zaA x).run fun _ => none
def io_zaA : Io := ⟨n_zaA, [tU, .sl tU, tI], [.lf (qp 0), .lf (qm 0)], [.cells [qm 1, qm 2]], [[], [tU]], [tU, tI, .sl tU, tI], .tup [(false, [qm 0]), (false, [qm 1])], [(true, .cells [qm 2, qm 3])], [], true⟩
def zaA_P : List zcc := [zaA_p30]
def zaA_T : zch := tab [e_zbu, e_zM, e_zW, e_zO]
theorem zaA_To : zcg pg zaA_T := zce ⟨e_zbu_ok, e_zM_ok, e_zW_ok, e_zO_ok, trivial⟩
theorem zaA_k30 : (zaA_p30).OK pg (zaA_T) (zcy 38 (zaA_P)) (zcp f_zaA) 38 := ⟨by kernel_rfl, fun i x => by kernel_rfl⟩
theorem zaA_go : zct pg (zaA_T) io_zaA f_zaA (zaA_P) [] (zaA) := ⟨by kernel_rfl, by kernel_rfl, fun x => by kernel_rfl⟩
theorem ok_zaA : io_zaA.Okay pg (F_zaA) := zcq zcf (zaA_To) (zaA_go) ⟨zaA_k30, trivial⟩
def firstV (t : Int) (l : List Int) (at_ : Int) : Option Nat := (l.drop at_.toNat).findIdx? (zgv t)
def fromV (t : Int) (l : List Int) (at_ : Int) : Int × Int × List Int × Int := if (t == 0) = true then (0, 1, l, at_) else match firstV t l at_ with
 | some j => (gI l (at_ + (j : Int)) % t, 0, l, at_ + (j : Int) + 1)
 | none => (0, 11, l, at_)
theorem from_loop (t : Int) (l : List Int) (was : Int) (hw : 0 ≤ was ∧ was ≤ (l.length : Int)) (hl : l.length ≤ 9223372036854775807) : ∀ (n i : Nat), i + n = l.length →
  lo zaA_b30 (t, was) (l, (i : Int)) = some (match (l.drop i).findIdx? (zgv t) with
   | some j => (gI l ((i : Int) + (j : Int)) % t, 0, l, (i : Int) + (j : Int) + 1)
   | none => (0, 11, l, was))
 | 0, i, h => by
  have ht : zfF l (i : Int) = (0, 11, l, (i : Int)) := by unfold zfF; rw [if_pos (by simp; omega)]
  have hs : seekV was l (i : Int) = (0, l, was) := by unfold seekV; rw [if_neg (by simp; omega)]
  rw [zcm, zaA_b30]
  simp only [RT.run, ht, hs]
  rw [if_pos (by simp; omega), if_pos (by decide), List.drop_eq_nil_of_le (by omega)]
  rfl
 | n + 1, i, h => by
  have hi : i < l.length := by omega
  have ht : zfF l (i : Int) = (l[i], 0, l, (i : Int) + 1) := by unfold zfF; rw [if_neg (by simp; omega), zcH hi]
  rw [zcm, zaA_b30]
  simp only [RT.run, ht]
  rw [if_pos (by simp; omega), if_neg (by decide), List.drop_eq_getElem_cons hi, List.findIdx?_cons]
  unfold tellV
  cases hk : zgv t l[i] with
  | true =>
   simp only [if_true]
   rw [show (i : Int) + ((0 : Nat) : Int) = (i : Int) by omega, zcH hi]
  | false =>
   simp only [Bool.false_eq_true, if_false]
   rw [show (i : Int) + 1 = ((i + 1 : Nat) : Int) by omega, from_loop t l was hw hl n (i + 1) (by omega)]
   cases (l.drop (i + 1)).findIdx? (zgv t) with
   | none => rfl
   | some j =>
    simp only [Option.map_some]
    rw [show ((i + 1 : Nat) : Int) + (j : Int) = (i : Int) + ((j + 1 : Nat) : Int) by omega]
def e_zaA : zcn := io_zaA.sp (fun (t, l, at_) => (decide (0 ≤ at_) && decide (at_ ≤ (l.length : Int)))) (fun (t, l, at_) => (fromV t l at_))
theorem sp_zaA (h : ∀ (t : Int) (l : List Int) (at_ : Int), WfT [tU, .sl tU, tI] (t, l, at_) → ((decide (0 ≤ at_) && decide (at_ ≤ (l.length : Int)))) = true → (zaA (t, l, at_)).run (fun _ => none) = some (fromV t l at_)) : e_zaA.ok pg := zcs ok_zaA fun (t, l, at_) hw hc => h t l at_ hw hc
theorem e_zaA_ok : e_zaA.ok pg := sp_zaA fun t l at_ hw hc => by
 have hl : l.length ≤ 9223372036854775807 := hw.2.1.1
 have hc' := hc
 rw [Bool.and_eq_true, decide_eq_true_eq, decide_eq_true_eq] at hc'
 obtain ⟨i, rfl⟩ := Int.eq_ofNat_of_zero_le hc'.1
 have := from_loop t l (i : Int) hc' hl (l.length - i) i (by omega)
 rw [zaA]
 simp only [RT.run]
 unfold fromV firstV
 rw [if_neg (by decide), Int.toNat_natCast]
 by_cases h0 : (t == 0) = true
 ·rw [if_pos h0, if_pos h0]
 ·rw [if_neg h0, if_neg h0, this, Option.bind_some]
def zaD : ((List Bool) × (List Tk) × (List Th) × (List Lk) × (List Int) × Int × (List Int) × Int) → RT Unit (Int × Int × (List Int) × Int)
| (s_0, s_1, s_2, s_3, s_4, s_5, w_0, w_1) =>
 .rq 5 (.ite false
 (.rq 2 (.done ((-1), 2, w_0, w_1)))
 (.rq 1 (.req ((wOK s_0 s_1 s_2 s_3 s_4 s_5)) (.rq 8 (let t0 := (opB (brV (wgV s_0 s_1 s_2 s_3 s_4 s_5)));
 .ite (t0.2.2.1 != 0)
 (.rq 3 (.done ((-1), t0.2.2.1, w_0, w_1)))
 (.rq 3 (.req ((decide (0 ≤ w_1) && decide (w_1 ≤ (w_0.length : Int)))) (.rq 7 (let t1 := (fromV t0.2.1 w_0 w_1);
 .ite (t1.2.1 != 0)
 (.rq 3 (.done ((-1), t1.2.1, t1.2.2.1, t1.2.2.2)))
 (.rq 3 (.req ((decide (t0.2.2.2.length ≤ 100000) && decide ((zdh t0.2.2.2).sum < 18446744073709551616))) (.rq 8 (.done (zdv (zdh t0.2.2.2) t1.1.toNat 0, 0, t1.2.2.1, t1.2.2.2))))))))))))))
def F_zaD (x : (List Bool) × (List Tk) × (List Th) × (List Lk) × (List Int) × Int × (List Int) × Int) : Option (Int × Int × (List Int) × Int) := (zaD x).run fun _ => none
def io_zaD : Io := ⟨n_zaD, [.sl tB, .sl yK, .sl yH, .sl yL, .sl tI, tI, .sl tU, tI], [.agg [qm 0, qm 1, qm 2, qm 3, qm 4, qm 5], .lf (qp 0)], [.cells [qm 6, qm 7]], [[.sl tB, .sl yK, .sl yH, .sl yL, .sl tI, tI], []], [tI, tI, .sl tU, tI], .tup [(false, [qm 0]), (false, [qm 1])], [(true, .cells [qm 2, qm 3])], [], true⟩
def zaD_P : List zcc := []
def zaD_T : zch := tab [e_zaA, e_zax, e_zH]
theorem zaD_To : zcg pg zaD_T := zce ⟨e_zaA_ok, e_zax_ok, e_zH_ok, trivial⟩
theorem zaD_go : zct pg (zaD_T) io_zaD f_zaD (zaD_P) [] (zaD) := ⟨by kernel_rfl, by kernel_rfl, fun x => by kernel_rfl⟩
theorem ok_zaD : io_zaD.Okay pg (F_zaD) := zcq zcf (zaD_To) (zaD_go) trivial
def drawV (x : Br) (l : List Int) (at_ : Int) : Int × Int × List Int × Int := if (x.2.2.1 != 0) = true then (-1, x.2.2.1, l, at_) else if (x.2.1 == 0) = true then (-1, 16, l, at_) else
 match firstV x.2.1 l at_ with
 | some j => (zdv (zdh x.2.2.2) (gI l (at_ + (j : Int)) % x.2.1).toNat 0, 0, l, at_ + (j : Int) + 1)
 | none => (-1, 11, l, at_)
def e_zaD : zcn := io_zaD.sp (fun (a, b, c, d, e, f, l, at_) => (wOK a b c d e f && (decide (0 ≤ at_) && decide (at_ ≤ (l.length : Int))))) (fun (a, b, c, d, e, f, l, at_) => (drawV (brV (wgV a b c d e f)) l at_))
theorem sp_zaD (h : ∀ (a : List Bool) (b : List Tk) (c : List Th) (d : List Lk) (e : List Int) (f : Int) (l : List Int) (at_ : Int), WfT [.sl tB, .sl yK, .sl yH, .sl yL, .sl tI, tI, .sl tU, tI] (a, b, c, d, e, f, l, at_) → ((wOK a b c d e f && (decide (0 ≤ at_) && decide (at_ ≤ (l.length : Int))))) = true → (zaD (a, b, c, d, e, f, l, at_)).run (fun _ => none) = some (drawV (brV (wgV a b c d e f)) l at_)) : e_zaD.ok pg := zcs ok_zaD fun (a, b, c, d, e, f, l, at_) hw hc => h a b c d e f l at_ hw hc
theorem e_zaD_ok : e_zaD.ok pg := sp_zaD fun a b c d e f l at_ _ hc => by
 rw [Bool.and_eq_true] at hc
 obtain ⟨H, h8⟩ := zdl hc.1
 obtain ⟨b1, b2, b3⟩ := brV_sum (wgV a b c d e f) (wg_hyp H).2
 rw [zaD]
 simp only [RT.run]
 rw [if_neg (by decide), if_pos hc.1]
 generalize brV (wgV a b c d e f) = x at *
 unfold drawV
 by_cases h1 : x.2.2.1 = 0
 ·have e1 : (x.2.2.1 == 0) = true := by simpa using h1
  have e2 : ¬ (x.2.2.1 != 0) = true := by simpa using h1
  rw [if_neg e2]
  by_cases h2 : (x.2.1 == 0) = true
  ·have ho : opB x = (x.1, x.2.1, 16, x.2.2.2) := by unfold opB; rw [e1, h2]; rfl
   rw [ho, if_pos h2, if_pos (show ((16 : Int) != 0) = true by decide)]
  ·have ho : opB x = x := by unfold opB; rw [e1, Bool.eq_false_iff.2 h2]; rfl
   rw [ho, if_neg h2, if_neg e2, if_pos hc.2]
   unfold fromV
   rw [if_neg h2]
   cases firstV x.2.1 l at_ with
   | none => rfl
   | some j =>
    dsimp only
    rw [if_neg (by decide), if_pos (by rw [decide_eq_true b1, decide_eq_true b2]; rfl)]
 ·have e1 : (x.2.2.1 == 0) = false := by simpa using h1
  have e2 : (x.2.2.1 != 0) = true := by simpa using h1
  have ho : opB x = x := by unfold opB; rw [e1]; rfl
  rw [ho, if_pos e2, if_pos e2]
def R08_whole : Unit → RT Unit (List Int)
| _ =>
 .rq 4 (.done [0, 0, 0, 0, 1])
def zaY : (Int × Int) → RT Unit (Bool × Int × Int × Int × Int × Bool)
| (amount, to) =>
 .rq 5 (.done (true, 0, amount, 1, to, true))
def F_zaY (x : Int × Int) : Option (Bool × Int × Int × Int × Int × Bool) := (zaY x).run fun _ => none
def io_zaY : Io := ⟨n_zaY, [tI, tI], [.lf (qm 0), .lf (qm 1)], [], [[tI], [tI]], [tB, tI, tI, tI, tI, tB], .agg [qm 0, qm 1, qm 2, qm 3, qm 4, qm 5], [], [], false⟩
def zaY_P : List zcc := []
def zaY_T : zch := tab []
theorem zaY_To : zcg pg zaY_T := zce trivial
theorem zaY_go : zct pg (zaY_T) io_zaY f_zaY (zaY_P) [] (zaY) := ⟨by kernel_rfl, by kernel_rfl, fun x => by kernel_rfl⟩
theorem ok_zaY : io_zaY.Okay pg (F_zaY) := zcq zcf (zaY_To) (zaY_go) trivial
def e_zaY : zcn := io_zaY.sp (fun (a, b) => true) (fun (a, b) => ((true, 0, a, 1, b, true)))
theorem sp_zaY (h : ∀ (a : Int) (b : Int), WfT [tI, tI] (a, b) → (zaY (a, b)).run (fun _ => none) = some ((true, 0, a, 1, b, true))) : e_zaY.ok pg := zcs ok_zaY fun (a, b) hw hc => h a b hw
theorem e_zaY_ok : e_zaY.ok pg := sp_zaY fun a b _ => by
 rw [zaY]; rfl
def zbw : (Int × Int) → RT Unit (Int × (List Bool) × (List Tk) × (List Th))
| (a, b) =>
 .rq 15 (let t0 := (2, (-1), (-1), 1, 1);
 .done (5, [true], [((((true, 0, a, 1, (0 : Int), true))).1, (((true, 0, a, 1, (0 : Int), true))).2.1, (((true, 0, a, 1, (0 : Int), true))).2.2.1, (((true, 0, a, 1, (0 : Int), true))).2.2.2.1, (((true, 0, a, 1, (0 : Int), true))).2.2.2.2.1, (((true, 0, a, 1, (0 : Int), true))).2.2.2.2.2), ((((true, 0, b, 1, (1 : Int), true))).1, (((true, 0, b, 1, (1 : Int), true))).2.1, (((true, 0, b, 1, (1 : Int), true))).2.2.1, (((true, 0, b, 1, (1 : Int), true))).2.2.2.1, (((true, 0, b, 1, (1 : Int), true))).2.2.2.2.1, (((true, 0, b, 1, (1 : Int), true))).2.2.2.2.2)], [t0, t0]))
def F_zbw (x : Int × Int) : Option (Int × (List Bool) × (List Tk) × (List Th)) := (zbw x).run fun _ => none
def io_zbw : Io := ⟨n_zbw, [tI, tI], [.lf (qm 0), .lf (qm 1)], [], [[tI], [tI]], [tI, .sl tB, .sl yK, .sl yH], .agg [qr 0, qr 1, qr 2, .fix (.nil), .fix (.nil), qm 0], [], [(true, .arr 4 (qm 1)), (true, .arr 97 (qm 2)), (true, .arr 82 (qm 3))], false⟩
def zbw_P : List zcc := []
def zbw_T : zch := tab [e_zaY]
theorem zbw_To : zcg pg zbw_T := zce ⟨e_zaY_ok, trivial⟩
theorem zbw_go : zct pg (zbw_T) io_zbw f_zbw (zbw_P) [.cellRow 64 0 600064 4 tB, .cellRow 64 1 600065 97 yK, .cellRow 64 2 600066 82 yH, .cellRen 64 0 600064, .cellRen 64 1 600065, .cellRen 64 2 600066] (zbw) := ⟨by kernel_rfl, by kernel_rfl, fun x => by kernel_rfl⟩
theorem ok_zbw : io_zbw.Okay pg (F_zbw) := zcq zcf (zbw_To) (zbw_go) trivial
def e_zbw : zcn := io_zbw.sp (fun (a, b) => true) (fun (a, b) => (5, [true], [(true, 0, a, 1, 0, true), (true, 0, b, 1, 1, true)], [(2, -1, -1, 1, 1), (2, -1, -1, 1, 1)]))
theorem sp_zbw (h : ∀ (a : Int) (b : Int), WfT [tI, tI] (a, b) → (zbw (a, b)).run (fun _ => none) = some (5, [true], [(true, 0, a, 1, 0, true), (true, 0, b, 1, 1, true)], [(2, -1, -1, 1, 1), (2, -1, -1, 1, 1)])) : e_zbw.ok pg := zcs ok_zbw fun (a, b) hw hc => h a b hw
theorem e_zbw_ok : e_zbw.ok pg := sp_zbw fun a b _ => by
 rw [zbw]; rfl
def zah_b510 : (Int × Int × Int × Int × Int × Int × Int × Int × Int × (List Bool) × (List Tk) × (List Th)) → RT Unit Bool
| (i, s, t, x5, L, i_2, t_2, l_5, p_1, x11, x11_2, x11_3) =>
 .rq 3 (let t0 := (wOK x11 x11_2 x11_3 [] [] l_5);
 let t1 := (rq (chV (wgV x11 x11_2 x11_3 [] [] l_5) (0 : Int)));
 let t2 := isM 38 (rQ (mkRat (((1 : Int).toNat : Nat) : Int) (3 : Int).toNat)).1 && isM 38 (rQ (mkRat (((1 : Int).toNat : Nat) : Int) (3 : Int).toNat)).2;
 let t3 := decide (t1.1 = zcd B32 (val B16 (rQ (mkRat (((1 : Int).toNat : Nat) : Int) (3 : Int).toNat)).1)) && decide (t1.2 = zcd B32 (val B16 (rQ (mkRat (((1 : Int).toNat : Nat) : Int) (3 : Int).toNat)).2));
 let q0 : RT Unit Bool := (.rq 1 (.req t0 (.req (decide ((3 : Int) ≠ 0)) (.req t2 (.rq 2 (.done t3))))));
 let q5 : RT Unit Bool := (.rq 4 (.ite (t_2 == 1)
 q0
 (.rq 2 (.done false))));
 let q1 : RT Unit Bool := (.rq 4 (.ite (i_2 == 0)
 (.rq 5 (.ite (p_1 == 1)
 q5
 (.rq 2 (.ite false
 q0
 (.rq 2 (.done false))))))
 (.rq 2 (.ite false
 q5
 (.rq 2 (.ite false
 q0
 (.rq 2 (.done false))))))));
 let q2 : RT Unit Bool := (.rq 2 (.ite false
 (.rq 5 (.ite (p_1 == 1)
 q5
 (.rq 2 (.ite false
 q0
 (.rq 2 (.done false))))))
 (.rq 2 (.ite false
 q5
 (.rq 2 (.ite false
 q0
 (.rq 2 (.done false))))))));
 let q3 : RT Unit Bool := (.rq 4 (.ite (x5 == 0)
 (.rq 4 (.ite (L == 1)
 q1
 q2))
 (.rq 2 (.ite false
 q1
 q2))));
 let q4 : RT Unit Bool := (.rq 2 (.ite false
 (.rq 4 (.ite (L == 1)
 q1
 q2))
 (.rq 2 (.ite false
 q1
 q2))));
 .ite (i == 0)
 (.rq 4 (.ite (s == 0)
 (.rq 4 (.ite (t == 1)
 q3
 q4))
 (.rq 2 (.ite false
 q3
 q4))))
 (.rq 2 (.ite false
 (.rq 4 (.ite (t == 1)
 q3
 q4))
 (.rq 2 (.ite false
 q3
 q4)))))
def zah_p510 : zcc := ⟨510, false, [tI, tI, tI, tI, tI, tI, tI, tI, .sl tU, tI, .sl tB, .sl yK, .sl yH], [], ⟨[.keep [1, 2, 3, 4, 5, 6, 7, 8, 10], .gc], [1, 2, 3, 4, 5, 6, 7, 8, 10], [.lf (qp 16), .lf (qi 0), .lf (qi 1), .lf (qi 2), .lf (qi 3), .lf (qp 369), .lf (qi 4), .lf (qi 5), .lf (qi 6)], [(16, true, .cells [qr 177, qr 178, qr 179, .fix (.nil), .fix (.nil), qi 7]), (369, true, .cells [qi 8, qi 9]), (177, false, .arr 4 (qi 10)), (178, false, .arr 97 (qi 11)), (179, false, .arr 82 (qi 12))]⟩, [⟨0, ⟨[.keep [0], .gc], [0], [.lf (qm 0)], []⟩, [tB]⟩], (fun i _ => zah_b510 (i.1, i.2.1, i.2.2.1, i.2.2.2.1, i.2.2.2.2.1, i.2.2.2.2.2.1, i.2.2.2.2.2.2.1, i.2.2.2.2.2.2.2.1, i.2.2.2.2.2.2.2.2.2.1, i.2.2.2.2.2.2.2.2.2.2.1, i.2.2.2.2.2.2.2.2.2.2.2.1, i.2.2.2.2.2.2.2.2.2.2.2.2))⟩
def zah : Unit → RT Unit Bool
| _ =>
 .rq 5 (.req ((wOK ([true]) ([(true, 0, (10 : Int), 1, 0, true), (true, 0, (20 : Int), 1, 1, true)]) ([(2, -1, -1, 1, 1), (2, -1, -1, 1, 1)]) [] [] (5))) (.rq 6 (.req ((wOK ([true]) ([(true, 0, (10 : Int), 1, 0, true), (true, 0, (20 : Int), 1, 1, true)]) ([(2, -1, -1, 1, 1), (2, -1, -1, 1, 1)]) [] [] (5))) (.rq 6 (.req ((okL 40 [10])) (.rq 3 (.req ((wOK ([true]) ([(true, 0, (10 : Int), 1, 0, true), (true, 0, (20 : Int), 1, 1, true)]) ([(2, -1, -1, 1, 1), (2, -1, -1, 1, 1)]) [] [] (5) && (decide (0 ≤ (0)) && decide ((0) ≤ ([10].length : Int))))) (.rq 6 (.req ((wOK ([true]) ([(true, 0, (10 : Int), 1, 0, true), (true, 0, (20 : Int), 1, 1, true)]) ([(2, -1, -1, 1, 1), (2, -1, -1, 1, 1)]) [] [] (5))) (.rq 5 (let t0 := (atB (brV (wgV ([true]) ([(true, 0, (10 : Int), 1, 0, true), (true, 0, (20 : Int), 1, 1, true)]) ([(2, -1, -1, 1, 1), (2, -1, -1, 1, 1)]) [] [] (5))) (9 : Int));
 let t1 := (atB (brV (wgV ([true]) ([(true, 0, (10 : Int), 1, 0, true), (true, 0, (20 : Int), 1, 1, true)]) ([(2, -1, -1, 1, 1), (2, -1, -1, 1, 1)]) [] [] (5))) (10 : Int));
 let t2 := (drawV (brV (wgV ([true]) ([(true, 0, (10 : Int), 1, 0, true), (true, 0, (20 : Int), 1, 1, true)]) ([(2, -1, -1, 1, 1), (2, -1, -1, 1, 1)]) [] [] (5))) [10] (0));
 .call (on zah_b510 (t0.1, t0.2, t1.1, t1.2, t2.1, t2.2.1, ((atB (brV (wgV ([true]) ([(true, 0, (10 : Int), 1, 0, true), (true, 0, (20 : Int), 1, 1, true)]) ([(2, -1, -1, 1, 1), (2, -1, -1, 1, 1)]) [] [] (5))) (30 : Int))).2, 5, t2.2.2.2, [true], [(true, 0, (10 : Int), 1, 0, true), (true, 0, (20 : Int), 1, 1, true)], [(2, -1, -1, 1, 1), (2, -1, -1, 1, 1)])) default fun v0 =>
 .done v0)))))))))))
def F_zah (x : Unit) : Option Bool := (zah x).run fun _ => none
def io_zah : Io := ⟨n_zah, [], [], [], [], [tB], .lf (qm 0), [], [], false⟩
def zah_P : List zcc := [zah_p510]
def zah_T : zch := tab [e_zbw, e_zaD, e_zW, e_zbz, e_zad, e_zbc, e_zaR, e_zbX]
theorem zah_To : zcg pg zah_T := zce ⟨e_zbw_ok, e_zaD_ok, e_zW_ok, e_zbz_ok, e_zad_ok, e_zbc_ok, e_zaR_ok, e_zbX_ok, trivial⟩
theorem zah_k510 : (zah_p510).OK pg (zah_T) (zcy 72 (zah_P)) (zcp f_zah) 72 := ⟨by kernel_rfl, fun i x => by kernel_rfl⟩
theorem zah_go : zct pg (zah_T) io_zah f_zah (zah_P) [] (zah) := ⟨by kernel_rfl, by kernel_rfl, fun x => by kernel_rfl⟩
theorem ok_zah : io_zah.Okay pg (F_zah) := zcq zcf (zah_To) (zah_go) ⟨zah_k510, trivial⟩
def e_zah : zcn := io_zah.sp (fun _ => true) (fun _ => true)
theorem sp_zah (h : (zah ()).run (fun _ => none) = some true) : e_zah.ok pg := zcs ok_zah fun _ _ hc => h
theorem e_zah_ok : e_zah.ok pg := sp_zah (by kernel_rfl)
def zx_b254 : (Int × Int × Int × Int × Int × Int × Int × Int × (List Bool) × (List Tk) × (List Th) × (List Lk) × (List Int) × Int × Int) → RT Unit Bool
| (i, L, i_2, s, t, x11, r, c, s_0, s_1, s_2, s_3, s_4, s_5, e_1) =>
 .rq 4 (let t0 := (wOK s_0 s_1 s_2 s_3 s_4 s_5);
 let t1 := (rq (chV (wgV s_0 s_1 s_2 s_3 s_4 s_5) i));
 let t2 := (rQ (chV (wgV s_0 s_1 s_2 s_3 s_4 s_5) i));
 let t3 := isM 38 t2.1 && isM 38 t2.2;
 let t4 := decide (t1.1 = zcd B32 (val B16 t2.1)) && decide (t1.2 = zcd B32 (val B16 t2.2));
 let q0 : RT Unit Bool := (.rq 2 (.req t0 (.rq 2 (.req t0 (.req t3 (.rq 2 (.ite t4
 (.rq 3 (.done (true)))
 (.rq 2 (.done false)))))))));
 let q1 : RT Unit Bool := (.rq 2 (.ite false
 (.rq 3 (.done (true)))
 (.rq 2 (.done false))));
 .ite (L == s)
 (.rq 5 (.ite (i_2 == t)
 (.rq 6 (.ite (x11 == e_1)
 (.rq 5 (.ite (r == c)
 q0
 q1))
 (.rq 2 (.ite false
 q0
 q1))))
 (.rq 2 (.ite false
 (.rq 5 (.ite (r == c)
 q0
 q1))
 (.rq 2 (.ite false
 q0
 q1))))))
 (.rq 2 (.ite false
 (.rq 6 (.ite (x11 == e_1)
 (.rq 5 (.ite (r == c)
 q0
 q1))
 (.rq 2 (.ite false
 q0
 q1))))
 (.rq 2 (.ite false
 (.rq 5 (.ite (r == c)
 q0
 q1))
 (.rq 2 (.ite false
 q0
 q1)))))))
def zx_p254 : zcc := ⟨254, false, [tI, tI, tI, tI, tI, tU, tI, tI, .sl tB, .sl yK, .sl yH, .sl yL, .sl tI, tI, tU, tU, .sl tU], [], ⟨[.keep [2, 3, 7, 8, 9, 10, 11, 12, 13, 14], .gc], [2, 3, 7, 8, 9, 10, 11, 12, 13, 14], [.lf (qi 0), .lf (qp 48), .lf (qi 1), .lf (qi 2), .lf (qi 3), .lf (qi 4), .lf (qi 5), .lf (qi 6), .lf (qp 208), .lf (qi 7)], [(48, true, .cells [qi 8, qi 9, qi 10, qi 11, qi 12, qi 13]), (208, true, .cells [qi 14, qi 15, qr 769]), (769, true, .arr 48 (qi 16))]⟩, [⟨0, ⟨[.keep [6], .gc], [6], [.lf (qm 0)], []⟩, [tB]⟩], (fun i _ => zx_b254 (i.1, i.2.1, i.2.2.1, i.2.2.2.1, i.2.2.2.2.1, i.2.2.2.2.2.1, i.2.2.2.2.2.2.1, i.2.2.2.2.2.2.2.1, i.2.2.2.2.2.2.2.2.1, i.2.2.2.2.2.2.2.2.2.1, i.2.2.2.2.2.2.2.2.2.2.1, i.2.2.2.2.2.2.2.2.2.2.2.1, i.2.2.2.2.2.2.2.2.2.2.2.2.1, i.2.2.2.2.2.2.2.2.2.2.2.2.2.1, i.2.2.2.2.2.2.2.2.2.2.2.2.2.2.2.1))⟩
def zx : ((List Bool) × (List Tk) × (List Th) × (List Lk) × (List Int) × Int × Int × Int) → RT Unit Bool
| (a0_0, a0_1, a0_2, a0_3, a0_4, a0_5, l, i) =>
 .rq 7 (let t0 := (smallV a0_0 a0_1 a0_2 a0_3 a0_4);
 let t1 := !t0;
 .req (((decide (a0_1.length ≤ 1000000))) || (!(!t1))) (.rq 4 (let t2 := t1 || (!((decide (a0_1.length ≤ 30) && decide (cnt2 a0_1 ≤ 8))));
 .req (t0 || (!(!t2))) (.rq 2 (.ite (t2 || (!((zfs a0_0 a0_1 a0_2 a0_3 a0_4 a0_5))))
 (.rq 2 (.done (true)))
 (.rq 2 (let t3 := (wOK a0_0 a0_1 a0_2 a0_3 a0_4 a0_5);
 .req t3 (.rq 7 (.req t3 (.rq 6 (let t4 := (wOK a0_0 a0_1 a0_2 a0_3 a0_4 a0_5);
 .req t4 (.rq 6 (.req t4 (.rq 6 (let t5 := (brV (wgV a0_0 a0_1 a0_2 a0_3 a0_4 a0_5));
 let t6 := (atB (brV (wgV a0_0 a0_1 a0_2 a0_3 a0_4 a0_5)) l);
 .call (on zx_b254 (i, t6.1, t6.2, t6.1, t6.2, (brV (wgV a0_0 a0_1 a0_2 a0_3 a0_4 a0_5)).2.1, (brV (wgV a0_0 a0_1 a0_2 a0_3 a0_4 a0_5)).2.2.1, t5.2.2.1, a0_0, a0_1, a0_2, a0_3, a0_4, a0_5, t5.2.1)) default fun v0 =>
 .done v0)))))))))))))))
def F_zx (x : (List Bool) × (List Tk) × (List Th) × (List Lk) × (List Int) × Int × Int × Int) : Option Bool := (zx x).run fun _ => none
def io_zx : Io := ⟨n_zx, [.sl tB, .sl yK, .sl yH, .sl yL, .sl tI, tI, tU, tI], [.agg [qm 0, qm 1, qm 2, qm 3, qm 4, qm 5], .lf (qm 6), .lf (qm 7)], [], [[.sl tB, .sl yK, .sl yH, .sl yL, .sl tI, tI], [tU], [tI]], [tB], .lf (qm 0), [], [], false⟩
def zx_P : List zcc := [zx_p254]
def zx_T : zch := tab [e_zah, e_zaf, e_zad, e_zca, e_zbc, e_zau, e_zbC, e_zaB, e_zaP, e_zbv, e_zaR]
theorem zx_To : zcg pg zx_T := zce ⟨e_zah_ok, e_zaf_ok, e_zad_ok, e_zca_ok, e_zbc_ok, e_zau_ok, e_zbC_ok, e_zaB_ok, e_zaP_ok, e_zbv_ok, e_zaR_ok, trivial⟩
theorem zx_k254 : (zx_p254).OK pg (zx_T) (zcy 82 (zx_P)) (zcp f_zx) 82 := ⟨by kernel_rfl, fun i x => by kernel_rfl⟩
theorem zx_go : zct pg (zx_T) io_zx f_zx (zx_P) [] (zx) := ⟨by kernel_rfl, by kernel_rfl, fun x => by kernel_rfl⟩
theorem ok_zx : io_zx.Okay pg (F_zx) := zcq zcf (zx_To) (zx_go) ⟨zx_k254, trivial⟩
theorem LotteryTells_F (a : List Bool) (b : List Tk) (c : List Th) (d : List Lk) (e : List Int) (f r i : Int) : F_zx (a, b, c, d, e, f, r, i) = some true := by
 show (zx _).run _ = _
 rw [zx]
 simp only [RT.run]
 cases hs : smallV a b c d e with
 | false => rw [if_pos (by simp), if_pos (by simp), if_pos (by simp)]
 | true =>
  have hb : b.length ≤ 200 := by
   unfold smallV at hs
   simp only [Bool.and_eq_true, decide_eq_true_eq] at hs
   omega
  rw [if_pos (by rw [decide_eq_true (show b.length ≤ 1000000 by omega)]; rfl), if_pos (by rfl)]
  cases hl : (decide (b.length ≤ 30) && decide (cnt2 b ≤ 8)) with
  | false => rfl
  | true =>
   cases hf : zfs a b c d e f with
   | false => rfl
   | true =>
    rw [if_neg (by decide)]
    have hw : wOK a b c d e f = true := by
     rw [Bool.and_eq_true] at hl
     unfold wOK
     rw [hf, hl.2]; rfl
    obtain ⟨H, h8⟩ := zdl hw
    obtain ⟨m1, m2⟩ := isM_rQ (ch_sm H i).2 (by decide)
    have e1 : rq (chV (wgV a b c d e f) i) = toB (rQ (chV (wgV a b c d e f) i)) := (toB_rQ _).symm
    have : ∀ p q r s, on zx_b254 (i, p, q, p, q, r, s, s, a, b, c, d, e, f, r) = some true := fun p q r s => by
     show (zx_b254 _).run _ = _
     rw [zx_b254]
     simp only [RT.run, beq_self_eq_true, if_true, hw, m1, m2, Bool.and_self]
     rw [e1]
     simp [toB]
    rw [hw, if_pos rfl, if_pos rfl, if_pos rfl, if_pos rfl, this]
    rfl
end
end Go.Proofs.YtlfdidaeachpoaaGreat
namespace Go.Proofs.YtlfdidaeachpoaaGreat
open Go Go.RowKit
theorem exists_list {α : Type} {Q : Nat → α → Prop} : ∀ (n : Nat), (∀ i, i < n → ∃ x, Q i x) → ∃ xs : List α, xs.length = n ∧ ∀ i (h : i < xs.length), Q i xs[i]
 | 0, _ => ⟨[], rfl, fun i hi => absurd hi (Nat.not_lt_zero i)⟩
 | n + 1, h => by
  obtain ⟨xs, h1, h2⟩ := exists_list n fun i hi => h i (by omega)
  obtain ⟨x, hx⟩ := h n (by omega)
  refine ⟨xs ++ [x], by simp [h1], fun i hi => ?_⟩
  by_cases hin : i < xs.length
  ·rw [List.getElem_append_left hin]
   exact h2 i hin
  ·have : i = n := by simp at hi; omega
   subst this
   rw [List.getElem_append_right (by omega)]
   simpa [h1] using hx
theorem cell_at {w : World} {a : Addr} {u : Value} (h : w.cell? a = some u) : a.spot = none ∧ a.block < w.heap.size := by
 unfold World.cell? at h
 split at h
 ·rename_i c _ _ hb
  split at h
  ·cases h
  ·rename_i hs
   refine ⟨by simpa using hs, ?_⟩
   apply Decidable.byContradiction
   intro hlt
   rw [Array.getElem?_eq_none (Nat.le_of_not_lt hlt)] at hb
   cases hb
 ·cases h
theorem add_block (a : Addr) (n : Nat) : (a.add n).block = a.block := by
 unfold Addr.add
 split <;> rfl
theorem add_plain (b o n : Nat) : Addr.add ⟨b, o, none⟩ n = ⟨b, o + n, none⟩ := by
 unfold Addr.add
 split
 ·rename_i h; subst h; rfl
 ·rfl
def zfZ (w : World) : Nat → Prop := fun b => b < w.heap.size
section
variable {H : Type} {enc : TypeId × Value → H} {P : Program} {w : World} {held : Bool}
theorem fields_rep {g : TypeId → Option Ty} {fuel : Nat} {cs : List Value}
  (ih : ∀ (t : TypeId) (ty : Ty) (cs : List Value) (y : DataW H × List MemPlace), g t = some ty → P.cellsOf t = ty.size → DataW.trod enc P w 0 (fun _ => true) held fuel t cs = some y → ∃ x, zcI w (zfZ w) ty cs x) :
  ∀ (fs : List Field) (off : Nat) (ty : Ty), tyFs P g fs off = some ty → (∀ f ∈ fs, ∃ y, DataW.trod enc P w 0 (fun _ => true) held fuel f.type ((cs.drop f.offset).take (P.cellsOf f.type)) = some y) →
   ∃ x, zcI w (zfZ w) ty ((cs.drop off).take ty.size) x
 | [], _, _, h, _ => by cases h
 | f :: fs, off, ty, h, hf => by
  unfold tyFs at h
  split at h
  ·cases h
  ·rename_i a ha
   split at h
   ·rename_i hc
    obtain ⟨y, hy⟩ := hf f (List.mem_cons_self ..)
    rw [hc.1, hc.2] at hy
    obtain ⟨x, hx⟩ := ih f.type a _ y ha hc.2 hy
    split at h
    ·cases h
     exact ⟨x, hx⟩
    ·rename_i f' fs'
     split at h
     ·rename_i b hb
      cases h
      obtain ⟨x', hx'⟩ := fields_rep ih (f' :: fs') (off + a.size) b hb fun z hz => hf z (List.mem_cons_of_mem _ hz)
      refine ⟨(x, x'), _, _, ?_, hx, hx'⟩
      show (cs.drop off).take (a.size + b.size) = _
      rw [List.take_add, List.drop_drop]
     ·cases h
   ·cases h
theorem trod_rep : ∀ (n : Nat) (t : TypeId) (ty : Ty) (fuel : Nat) (cs : List Value) (y : DataW H × List MemPlace), tyOf P n t = some ty → P.cellsOf t = ty.size → DataW.trod enc P w 0 (fun _ => true) held fuel t cs = some y → ∃ x, zcI w (zfZ w) ty cs x := by
 intro n
 induction n with
 | zero => intro t ty fuel cs y h; cases h
 | succ n ih =>
  intro t ty fuel cs y ht hsz h
  unfold tyOf at ht
  split at ht
  ·rename_i k hu
   cases ht
   obtain ⟨m, rfl, _, hw⟩ := DataW.trod_int hu h
   exact ⟨m, rfl, hw⟩
  ·rename_i hu
   cases ht
   obtain ⟨b, rfl, _⟩ := DataW.trod_bool hu h
   exact ⟨b, rfl⟩
  ·rename_i hu
   cases ht
   obtain ⟨s, rfl, _, hs⟩ := DataW.trod_string hu h
   exact ⟨s, rfl, hs⟩
  ·rename_i e hu
   split at ht
   ·rename_i a ha
    split at ht
    ·rename_i hc
     cases ht
     rcases DataW.trod_slice hu h with ⟨rfl, _⟩ | ⟨ad, len, cap, elems, rest, m, _, rfl, _, _, hlc, hcm, hlen, hel, _, _⟩
     ·exact ⟨[], none, 0, rfl, Nat.le_refl _, Nat.zero_le _, fun _ => rfl, fun i hi => absurd hi (Nat.not_lt_zero i)⟩
     ·have hpos := a.size_pos
      have had : 0 < len → ad.spot = none := by
       intro h0
       have h1 := hel 0 h0
       rw [List.getElem?_eq_getElem (by omega), Option.bind_eq_some_iff] at h1
       obtain ⟨us, hus, _⟩ := h1
       obtain ⟨_, hl, hcell⟩ := World.cells?_some hus
       have c0 := hcell 0 (by omega)
       rw [List.getElem?_eq_getElem (by omega), Nat.zero_mul] at c0
       exact (cell_at c0).1
      have each : ∀ i, i < len → ∃ x : a.den, ∃ b o us, (some ad : Option Addr) = some ⟨b, o, none⟩ ∧ zfZ w b ∧ us.length = a.size ∧ Mem w b (o + i * a.size) us ∧ zcI w (zfZ w) a us x := by
       intro i hi
       have h1 := hel i hi
       rw [List.getElem?_eq_getElem (by omega), Option.bind_eq_some_iff] at h1
       obtain ⟨us, hus, hy⟩ := h1
       obtain ⟨_, hl, hcell⟩ := World.cells?_some hus
       obtain ⟨x, hx⟩ := ih e a m us _ ha hc hy
       have c0 := hcell 0 (by omega)
       rw [List.getElem?_eq_getElem (by omega)] at c0
       have hb := (cell_at c0).2
       rw [add_block, add_block] at hb
       have hsp := had (by omega)
       obtain ⟨b, o, sp⟩ := ad
       simp only at hsp
       subst hsp
       refine ⟨x, b, o, us, rfl, hb, by omega, fun j u hu' => ?_, hx⟩
       have hj : j < us.length := by
        apply Decidable.byContradiction
        intro hn
        rw [List.getElem?_eq_none (by omega)] at hu'
        cases hu'
       have := hcell j (by omega)
       rw [hu', add_plain, add_plain] at this
       rw [← hc]
       exact this
      obtain ⟨xs, hxl, hxs⟩ := exists_list len each
      refine ⟨xs, some ad, cap, by rw [hxl], by omega, hcm, (fun h => by cases h), fun i hi => ?_⟩
      obtain ⟨b, o, us, h1, h2, h3, h4, h5⟩ := hxs i hi
      exact ⟨b, o, us, h1, h2, h3, h4, h5⟩
    ·cases ht
   ·cases ht
  ·rename_i fs hu
   obtain ⟨xs, m, _, _, hl, hxl, hf⟩ := DataW.trod_struct hu h
   obtain ⟨x, hx⟩ := fields_rep (enc := enc) (held := held) (fuel := m) (cs := cs) (fun t ty cs y h1 h2 h3 => ih t ty m cs y h1 h2 h3) fs.toList 0 ty ht (fun f hf' => by
    obtain ⟨i, hi, rfl⟩ := List.mem_iff_getElem.1 hf'
    have hi' : i < fs.size := by simpa using hi
    have := hf i fs.toList[i] (by simp [hi'])
    rw [List.getElem?_eq_getElem (by omega)] at this
    exact ⟨_, this⟩)
   refine ⟨x, ?_⟩
   rw [List.drop_zero, List.take_of_length_le (by omega)] at hx
   exact hx
  ·cases ht
end
theorem callPost_below {w : World} {ok : Nat → Prop} {n : Nat} {r : zdN} {v : Value} {w' : World} {β' : Nat → Option Value} {ok' : Nat → Prop} (h : zhj w (fun _ => none) ok n r v w' β' ok') : Below w.heap.size w w' :=
 ⟨h.os, h.tape, h.output, h.size, fun k hk => h.block k hk (fun _ _ _ e => by cases e)⟩
end Go.Proofs.YtlfdidaeachpoaaGreat
