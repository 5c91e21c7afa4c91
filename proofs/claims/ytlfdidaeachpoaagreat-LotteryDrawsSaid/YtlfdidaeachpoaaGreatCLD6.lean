/- Part 6 of the walk and of the plain law. -/
import Derived.Test.YtlfdidaeachpoaaGreatCLD5
import Derived.Test.YtlfdidaeachpoaaGreatCLD2
import Derived.Below
import Derived.ChangeArms
import Derived.DataReads
set_option linter.unusedSimpArgs false
set_option linter.unusedVariables false
namespace Go.Proofs.YtlfdidaeachpoaaGreat
open Go Go.RowKit
set_option maxRecDepth 100000
noncomputable section
theorem wg_hyp {a : List Bool} {b : List Tk} {c : List Th} {d : List Lk} {e : List Int} {f : Int} (H : zcs a b c d e f) : (∀ q ∈ wgV a b c d e f, 0 ≤ q ∧ sm 5000 q) ∧ (wgV a b c d e f).length ≤ 100 := by
 have hlc := H.lenC
 exact ⟨fun q hq => ⟨(H.wg_mem q hq).1, zeY (by decide) (H.wg_mem q hq).2⟩, by rw [wgV_len]; omega⟩
def zbR : ((List Bool) × (List Tk) × (List Th) × (List Lk) × (List Int) × Int) → RT Unit (Int × Int × Int × (List Int))
| (s_0, s_1, s_2, s_3, s_4, s_5) =>
 .rq 4 (.req ((wOK s_0 s_1 s_2 s_3 s_4 s_5)) (.call (F_zY (((wgV s_0 s_1 s_2 s_3 s_4 s_5).map rq))) default fun v0 =>
 .rq 4 (.done (v0.1, v0.2.1, v0.2.2.1, v0.2.2.2))))
def F_zbR (x : (List Bool) × (List Tk) × (List Th) × (List Lk) × (List Int) × Int) : Option (Int × Int × Int × (List Int)) := (zbR x).run fun _ => none
def io_zbR : Io := ⟨n_zbR, [.sl tB, .sl yK, .sl yH, .sl yL, .sl tI, tI], [.agg [qm 0, qm 1, qm 2, qm 3, qm 4, qm 5]], [], [[.sl tB, .sl yK, .sl yH, .sl yL, .sl tI, tI]], [tU, tU, tI, .sl tU], .tup [(true, [qm 0, qm 1, qr 0]), (false, [qm 2])], [], [(true, .arr 48 (qm 3))], false⟩
def zbR_P : List zcd := []
def zbR_T : zci := tab [e_zY, e_zB]
theorem zbR_To : zch pg zbR_T := zce ⟨e_zY_ok, e_zB_ok, trivial⟩
theorem zbR_go : zcu pg (zbR_T) io_zbR f_zbR (zbR_P) [.cellRow 32 2 600034 48 tU, .cellRen 32 2 600034] (zbR) := ⟨by kernel_rfl, by kernel_rfl, fun x => by kernel_rfl⟩
theorem ok_zbR : io_zbR.Okay pg (F_zbR) := zcr zcg (zbR_To) (zbR_go) trivial
def e_zbR : zcn := io_zbR.sp (fun (a, b, c, d, e, f) => (wOK a b c d e f)) (fun (a, b, c, d, e, f) => (brV (wgV a b c d e f)))
theorem sp_zbR (h : ∀ (a : List Bool) (b : List Tk) (c : List Th) (d : List Lk) (e : List Int) (f : Int), WfT [.sl tB, .sl yK, .sl yH, .sl yL, .sl tI, tI] (a, b, c, d, e, f) → ((wOK a b c d e f)) = true → (zbR (a, b, c, d, e, f)).run (fun _ => none) = some (brV (wgV a b c d e f))) : e_zbR.ok pg := zct ok_zbR fun (a, b, c, d, e, f) hw hc => h a b c d e f hw hc
theorem e_zbR_ok : e_zbR.ok pg := sp_zbR fun a b c d e f _ hc => by
 obtain ⟨H, h8⟩ := zdx hc
 rw [zbR]
 simp only [RT.run]
 rw [if_pos hc, bring_F (wg_hyp H).1 (wg_hyp H).2]
 rfl
def xK : Nat := 5000
def zbW : ((List Int) × (List Int)) → RT Unit (List Int)
| (a_0, b_0) =>
 .rq 13 (.ite (((a_0.length : Int) == 0) || ((b_0.length : Int) == 0))
 (.rq 2 (.done []))
 (.rq 2 (.req (okM 38 a_0 && okM 38 b_0) (.rq 2 (.req (isM 37 a_0 && isM 37 b_0) (.req (okM 37 (zcf B16 (val B16 a_0 * val B16 b_0)) && (okM 37 (zcf B16 (Nat.gcd (val B16 a_0) (val B16 b_0))) && decide (0 < val B16 (zcf B16 (Nat.gcd (val B16 a_0) (val B16 b_0)))))) (.rq 9 (.done (zcf B16 (val B16 (zcf B16 (val B16 a_0 * val B16 b_0)) / val B16 (zcf B16 (Nat.gcd (val B16 a_0) (val B16 b_0)))))))))))))
def F_zbW (x : (List Int) × (List Int)) : Option (List Int) := (zbW x).run fun _ => none
def io_zbW : Io := ⟨n_zbW, [.sl tI, .sl tI], [.agg [qm 0], .agg [qm 1]], [], [[.sl tI], [.sl tI]], [.sl tI], .agg [qr 0], [], [(true, .arr 3 (qm 0))], false⟩
def zbW_P : List zcd := []
def zbW_T : zci := tab [e_zbf, e_zah, e_zac]
theorem zbW_To : zch pg zbW_T := zce ⟨e_zbf_ok, e_zah_ok, e_zac_ok, trivial⟩
theorem zbW_go : zcu pg (zbW_T) io_zbW f_zbW (zbW_P) [.cellRow 64 0 600064 3 tI, .cellRen 64 0 600064] (zbW) := ⟨by kernel_rfl, by kernel_rfl, fun x => by kernel_rfl⟩
theorem ok_zbW : io_zbW.Okay pg (F_zbW) := zcr zcg (zbW_To) (zbW_go) trivial
theorem den_lt {n k : Nat} {q : Rat} (h : sm n q) (hk : n ≤ k) : q.den < 2 ^ k := lt_pow hk h.2
theorem digs16_ne {m : Nat} (h : 0 < m) : ((zcf B16 m).length : Int) ≠ 0 := by
 rw [zgt (by decide) h]
 simp only [List.length_cons]
 omega
theorem lcmR_F {m d k : Nat} (hm : 0 < m) (hd : 0 < d) (h1 : m < 2 ^ k) (h2 : d < 2 ^ k) (hk : k ≤ 1000000) : F_zbW (zcf B16 m, zcf B16 d) = some (zcf B16 (Nat.lcm m d)) := by
 have l1 := (zeB h1).2
 have l2 := (zeB h2).2
 have hg : 0 < Nat.gcd m d := Nat.gcd_pos_of_pos_left _ hm
 have hgk : Nat.gcd m d < 2 ^ k := Nat.lt_of_le_of_lt (Nat.gcd_le_left _ hm) h1
 have l3 := (zeB hgk).2
 have hmd : m * d < 2 ^ (k + k) := by rw [Nat.pow_add]; exact Nat.mul_lt_mul'' h1 h2
 have l4 := (zeB hmd).2
 have w : ∀ v, wfd B16 (zcf B16 v) = true := fun v => zcP (by decide) v
 have iM : ∀ v n, (zcf B16 v).length ≤ 2 ^ n → isM n (zcf B16 v) = true := fun v n h => zib h
 show (zbW _).run _ = _
 rw [zbW]
 simp only [RT.run, zcy (show 2 ≤ B16 by decide)]
 rw [if_neg (by simp only [Bool.or_eq_true, beq_iff_eq]; rintro (h | h); exact digs16_ne hm h; exact digs16_ne hd h), if_pos (by rw [Bool.and_eq_true, zcY, zcY]; exact ⟨⟨by omega, w _⟩, by omega, w _⟩),
  if_pos (by rw [iM _ _ (by omega), iM _ _ (by omega)]; rfl), if_pos (by rw [Bool.and_eq_true, Bool.and_eq_true, zcY, zcY, decide_eq_true_eq]; exact ⟨⟨by omega, w _⟩, ⟨by omega, w _⟩, hg⟩)]
 rfl
def e_zbW : zcn := io_zbW.en F_zbW
theorem e_zbW_ok : e_zbW.ok pg := zeK ok_zbW
def zbg_b58 : (List ((List Int) × List Int)) → (Int × (List Int)) → RT (Int × (List Int)) (List Int)
| l, (i, r48) =>
 .rq 4 (.ite (decide (i < (l.length : Int)))
 (.rq 3 (.req (inB l i) (.rq 2 (.call (F_zbW (r48, (gI l i).2)) default fun v0 =>
 .rq 4 (.again (w64 (i + 1), v0))))))
 (.done r48))
def zbg_p58 : zcd := ⟨58, true, [.sl (.pair (.sl tI) (.sl tI))], [tI, .sl tI], ⟨[.keep [0, 2, 3, 4], .gc, .cellRow 48 0 600048 3 tI, .cellRen 48 0 600048, .gc], [0, 2, 3, 4], [.lf (qi 0), .lf (qp 32), .lf (qp 48), .lf (qm 0)], [(32, true, .cells [.fix (.nil)]), (48, true, .cells [qr 600048]), (600048, true, .arr 3 (qm 1))]⟩, [⟨2, ⟨[.keep [2, 3], .gc, .cellRow 48 0 600048 3 tI, .cellRen 48 0 600048, .gc], [2, 3], [.lf (qp 32), .lf (qp 48)], [(32, true, .cells [.fix (.nil)]), (48, true, .cells [qr 600048]), (600048, true, .arr 3 (qm 0))]⟩, [.sl tI]⟩], zbg_b58⟩
def zbg : (List ((List Int) × List Int)) → RT Unit (List Int)
| l =>
 .rq 5 (.call (lo zbg_b58 l (0, zcf B16 (1 : Int).toNat)) default fun v1 =>
 .rq 2 (.done v1))
def F_zbg (x : (List ((List Int) × List Int))) : Option (List Int) := (zbg x).run fun _ => none
def io_zbg : Io := ⟨n_zbg, [.sl (.pair (.sl tI) (.sl tI))], [.lf (qm 0)], [], [[.sl (.pair (.sl tI) (.sl tI))]], [.sl tI], .agg [qr 0], [], [(true, .arr 3 (qm 0))], false⟩
def zbg_P : List zcd := [zbg_p58]
def zbg_T : zci := tab [e_zbW, e_zbi]
theorem zbg_To : zch pg zbg_T := zce ⟨e_zbW_ok, zhU, trivial⟩
theorem zbg_k58 : (zbg_p58).OK pg (zbg_T) (zcz 20 (zbg_P)) (zcq f_zbg) 20 := ⟨by kernel_rfl, fun i x => by kernel_rfl⟩
theorem zbg_go : zcu pg (zbg_T) io_zbg f_zbg (zbg_P) [.cellRow 32 0 600032 3 tI, .cellRen 32 0 600032] (zbg) := ⟨by kernel_rfl, by kernel_rfl, fun x => by kernel_rfl⟩
theorem ok_zbg : io_zbg.Okay pg (F_zbg) := zcr zcg (zbg_To) (zbg_go) ⟨zbg_k58, trivial⟩
section
variable {L : List Rat} (hL : ∀ q ∈ L, 0 ≤ q ∧ sm 5000 q) (hl : L.length ≤ 100)
include hL hl
theorem lcR_loop : ∀ (n i m k : Nat), i + n = L.length → 0 < m → m < 2 ^ k → 5000 ≤ k → k + 5000 * n ≤ 1000000 →
  lo zbg_b58 (L.map rQ) ((i : Int), zcf B16 m) = some (zcf B16 ((L.drop i).foldl (fun m q => Nat.lcm m q.den) m))
 | 0, i, m, k, h, _, _, _, _ => by
  rw [zco, zbg_b58]
  simp only [RT.run, List.length_map]
  rw [if_neg (by simp; omega), List.drop_eq_nil_of_le (by omega)]
  rfl
 | n + 1, i, m, k, h, h0, hm, hk5, hk => by
  have hi : i < L.length := by omega
  have hg : gI (L.map rQ) (i : Int) = rQ L[i] := by rw [zes rQ (by omega), zcG hi]
  obtain ⟨s1, s2⟩ := hL _ (List.getElem_mem hi)
  have ih := lcR_loop n (i + 1) (Nat.lcm m L[i].den) (k + 5000) (by omega) (Nat.lcm_pos h0 L[i].den_pos) (by
   exact lcm_sm hm s2) (by omega) (by omega)
  rw [zco, zbg_b58]
  simp only [RT.run, List.length_map]
  rw [if_pos (by simp; omega), if_pos (zcm.2 (by rw [List.length_map]; omega)), hg]
  show (F_zbW (zcf B16 m, zcf B16 L[i].den)).bind _ = _
  rw [lcmR_F h0 L[i].den_pos hm (den_lt s2 hk5) (by omega), Option.bind_some, zcj (by omega), show (i : Int) + 1 = ((i + 1 : Nat) : Int) by omega, ih, List.drop_eq_getElem_cons hi, List.foldl_cons]
theorem lcmL_F : F_zbg (L.map rQ) = some (zcf B16 (lcmV L)) := by
 show (zbg _).run _ = _
 rw [zbg]
 simp only [RT.run]
 have h1 := lcR_loop hL hl L.length 0 1 xK (by omega) (by decide) (lt_pow (m := 1) (by decide) (by decide)) (by decide) (by unfold xK; omega)
 rw [List.drop_zero, show ((0 : Nat) : Int) = 0 from rfl] at h1
 show (lo zbg_b58 _ (0, zcf B16 1)).bind _ = _
 rw [h1]
 rfl
end
def e_zbg : zcn := io_zbg.en F_zbg
theorem e_zbg_ok : e_zbg.ok pg := zeK ok_zbg
def zcb : ((List Int) × (List Int) × (List Int)) → RT Unit (List Int)
| (q_0, q_1, m_0) =>
 .rq 6 (.req (okM 38 q_0 && okM 38 m_0) (.rq 2 (.req (okM 37 (zcf B16 (val B16 q_0 * val B16 m_0)) && (okM 37 q_1 && decide (0 < val B16 q_1))) (.rq 9 (.done (zcf B16 (val B16 (zcf B16 (val B16 q_0 * val B16 m_0)) / val B16 q_1)))))))
def F_zcb (x : (List Int) × (List Int) × (List Int)) : Option (List Int) := (zcb x).run fun _ => none
def io_zcb : Io := ⟨n_zcb, [.sl tI, .sl tI, .sl tI], [.agg [qm 0, qm 1], .agg [qm 2]], [], [[.sl tI, .sl tI], [.sl tI]], [.sl tI], .agg [qr 0], [], [(true, .arr 3 (qm 0))], false⟩
def zcb_P : List zcd := []
def zcb_T : zci := tab [e_zah, e_zac]
theorem zcb_To : zch pg zcb_T := zce ⟨e_zah_ok, e_zac_ok, trivial⟩
theorem zcb_go : zcu pg (zcb_T) io_zcb f_zcb (zcb_P) [.cellRow 64 0 600064 3 tI, .cellRen 64 0 600064] (zcb) := ⟨by kernel_rfl, by kernel_rfl, fun x => by kernel_rfl⟩
theorem ok_zcb : io_zcb.Okay pg (F_zcb) := zcr zcg (zcb_To) (zcb_go) trivial
theorem up_F {q : Rat} {m k n : Nat} (hq : 0 ≤ q ∧ sm n q) (hn : n ≤ 100000) (hm : m < 2 ^ k) (hk : k ≤ 1000000) (hd : q.den ∣ m) : F_zcb ((rQ q).1, (rQ q).2, zcf B16 m) = some (zcf B16 (upV m q)) := by
 obtain ⟨s1, s2⟩ := hq.2
 have l1 := (zeB s1).2
 have l2 := (zeB s2).2
 have l3 := (zeB hm).2
 have hp : q.num.toNat * m < 2 ^ (n + k) := by rw [Nat.pow_add]; exact Nat.mul_lt_mul'' s1 hm
 have l4 := (zeB hp).2
 have w : ∀ v, wfd B16 (zcf B16 v) = true := fun v => zcP (by decide) v
 show (zcb (zcf B16 q.num.toNat, zcf B16 q.den, zcf B16 m)).run _ = _
 rw [zcb]
 simp only [RT.run, zcy (show 2 ≤ B16 by decide)]
 rw [if_pos (by rw [Bool.and_eq_true, zcY, zcY]; exact ⟨⟨by omega, w _⟩, by omega, w _⟩), if_pos (by rw [Bool.and_eq_true, Bool.and_eq_true, zcY, zcY, decide_eq_true_eq]; exact ⟨⟨by omega, w _⟩, ⟨by omega, w _⟩, q.den_pos⟩)]
 unfold upV
 rw [Nat.mul_comm (m / q.den), Nat.mul_div_assoc _ hd]
def e_zcb : zcn := io_zcb.en F_zcb
theorem e_zcb_ok : e_zcb.ok pg := zeK ok_zcb
def zhj : ((List ((List Int) × List Int)) × (List Int)) → (Int × (List Int) × (List Int)) → RT (Int × (List Int) × (List Int)) ((List Int) × (List Int))
| (l, r64), (i, r8, r112) =>
 .rq 4 (.ite (decide (i < (l.length : Int)))
 (.rq 2 (.req (inB l i) (.rq 2 (.call (F_zcb ((gI l i).1, (gI l i).2, r64)) default fun v2 =>
 .rq 4 (.req (okM 39 r112 && okM 39 v2) (.rq 2 (.req (wfd B16 v2) (.rq 8 (.req (zdF 8 r8 [if v2.length ≤ 4 then ((val B16 v2 : Nat) : Int) else 0]) (.rq 4 (.again (w64 (i + 1), r8 ++ [if v2.length ≤ 4 then ((val B16 v2 : Nat) : Int) else 0], zcf B16 (val B16 r112 + val B16 v2)))))))))))))
 (.done (r8, r112)))
def zat_p506 : zcd := ⟨506, true, [.sl (.pair (.sl tI) (.sl tI)), tU, tB, tU, tU, .sl tI], [tI, .sl tU, .sl tI], ⟨[.keep [0, 2, 4, 5, 6, 7, 8, 9], .gc, .nilRow 8 800008 48 tU, .ren 8 700008, .ren 8 900008, .cellRow 64 0 600064 3 tI, .cellRow 112 0 600112 3 tI, .cellRen 64 0 600064, .cellRen 112 0 600112, .gc], [0, 2, 4, 5, 6, 7, 8, 9], [.lf (qi 0), .lf (qp 32), .lf (qp 64), .lf (qi 1), .lf (qi 2), .lf (qp 112), .lf (qr 900008), .lf (qm 0)], [(32, true, .cells [qi 3, qi 4, .fix (.nil)]), (64, true, .cells [qr 600064]), (112, true, .cells [qr 600112]), (900008, true, .arr 48 (qm 1)), (600064, true, .arr 3 (qi 5)), (600112, true, .arr 3 (qm 2))]⟩, [⟨2, ⟨[.keep [2, 5, 6, 7, 8], .gc, .nilRow 8 800008 48 tU, .ren 8 700008, .ren 8 900008, .cellRow 112 0 600112 3 tI, .cellRen 112 0 600112, .gc], [2, 5, 6, 7, 8], [.lf (qp 32), .lf (qi 1), .lf (qi 2), .lf (qp 112), .lf (qr 900008)], [(32, true, .cells [qi 3, qi 4, .fix (.nil)]), (112, true, .cells [qr 600112]), (900008, true, .arr 48 (qm 0)), (600112, true, .arr 3 (qm 1))]⟩, [.sl tU, .sl tI]⟩], (fun i => zhj (i.1, i.2.2.2.2.2))⟩
def zat : (List ((List Int) × List Int)) → RT Unit (Int × Int × Int × (List Int))
| l =>
 .rq 3 (.call (F_zbg l) default fun v0 =>
 .rq 3 (.req (wfd B16 v0) (.rq 10 (.call (lo zhj (l, v0) (0, [], [])) default fun v3 =>
 .rq 1 (.req (wfd B16 v3.2) (.rq 11 (.ite ((!(decide (v0.length ≤ 4))) || (!(decide (v3.2.length ≤ 4))))
 (.rq 3 (.done (0, 0, 10, [])))
 (.rq 6 (.done (if v0.length ≤ 4 then ((val B16 v0 : Nat) : Int) else 0, if v3.2.length ≤ 4 then ((val B16 v3.2 : Nat) : Int) else 0, 0, v3.1))))))))))
def F_zat (x : (List ((List Int) × List Int))) : Option (Int × Int × Int × (List Int)) := (zat x).run fun _ => none
def io_zat : Io := ⟨n_zat, [.sl (.pair (.sl tI) (.sl tI))], [.lf (qm 0)], [], [[.sl (.pair (.sl tI) (.sl tI))]], [tU, tU, tI, .sl tU], .tup [(true, [qm 0, qm 1, qr 0]), (false, [qm 2])], [], [(true, .arr 48 (qm 3))], false⟩
def zat_P : List zcd := [zat_p506]
def zat_T : zci := tab [e_zcb, e_zbg, e_zbc, e_zaF]
theorem zat_To : zch pg zat_T := zce ⟨e_zcb_ok, e_zbg_ok, e_zbc_ok, e_zaF_ok, trivial⟩
theorem zat_k506 : (zat_p506).OK pg (zat_T) (zcz 63 (zat_P)) (zcq f_zat) 63 := ⟨by kernel_rfl, fun i x => by kernel_rfl⟩
theorem zat_go : zcu pg (zat_T) io_zat f_zat (zat_P) [.cellRow 32 2 600034 48 tU, .cellRen 32 2 600034] (zat) := ⟨by kernel_rfl, by kernel_rfl, fun x => by kernel_rfl⟩
theorem ok_zat : io_zat.Okay pg (F_zat) := zcr zcg (zat_To) (zat_go) ⟨zat_k506, trivial⟩
section
variable {L : List Rat} (hL : ∀ q ∈ L, 0 ≤ q ∧ sm 5000 q) (hl : L.length ≤ 100)
include hL hl
theorem brR_loop {m k : Nat} (hm : m < 2 ^ k) (hk : k ≤ 600000) (hd : ∀ q ∈ L, q.den ∣ m) : ∀ (n i s u : Nat) (r : List Int), i + n = L.length → s < 2 ^ u → u + 606000 * n ≤ 100000000 → r.length ≤ i →
  lo zhj (L.map rQ, zcf B16 m) ((i : Int), r, zcf B16 s) = some (r ++ (L.drop i).map (fun q => if (zcf B16 (upV m q)).length ≤ 4 then toI (upV m q) else 0), zcf B16 (s + ((L.drop i).map (upV m)).sum))
 | 0, i, s, u, r, h, _, _, _ => by
  rw [zco, zhj]
  simp only [RT.run, List.length_map]
  rw [if_neg (by simp; omega), List.drop_eq_nil_of_le (by omega)]
  simp
 | n + 1, i, s, u, r, h, hs, hu, hr => by
  have hi : i < L.length := by omega
  have hg : gI (L.map rQ) (i : Int) = rQ L[i] := by rw [zes rQ (by omega), zcG hi]
  have hub := up_bound hL hm (List.getElem_mem hi)
  have l1 := (zeB hub).2
  have l2 := (zeB hs).2
  have w : ∀ v, wfd B16 (zcf B16 v) = true := fun v => zcP (by decide) v
  have hs' : s + upV m L[i] < 2 ^ (u + 606000) := by
   have h1 : 2 ^ u ≤ 2 ^ (u + 605999) := Nat.pow_le_pow_right (by decide) (by omega)
   have h2 : 2 ^ (k + 5000) ≤ 2 ^ (u + 605999) := Nat.pow_le_pow_right (by decide) (by omega)
   have h3 : 2 ^ (u + 606000) = 2 ^ (u + 605999) * 2 := Nat.pow_succ ..
   omega
  have ih := brR_loop hm hk hd n (i + 1) (s + upV m L[i]) (u + 606000) (r ++ [if (zcf B16 (upV m L[i])).length ≤ 4 then toI (upV m L[i]) else 0]) (by omega) hs' (by omega) (by simp; omega)
  rw [zco, zhj]
  simp only [RT.run, List.length_map]
  rw [if_pos (by simp; omega), if_pos (zcm.2 (by rw [List.length_map]; omega)), hg, up_F (hL _ (List.getElem_mem hi)) (by decide) hm (by omega) (hd _ (List.getElem_mem hi)), Option.bind_some,
   if_pos (by rw [Bool.and_eq_true, zcY, zcY]; exact ⟨⟨by omega, w _⟩, by omega, w _⟩), w, if_pos rfl, if_pos (zhk (by decide) (by simp; omega)), zcy (by decide), zcy (by decide), zcj (by omega), show (i : Int) + 1 = ((i + 1 : Nat) : Int) by omega]
  show lo zhj _ (_, r ++ [if (zcf B16 (upV m L[i])).length ≤ 4 then toI (upV m L[i]) else 0], _) = _
  rw [ih, List.drop_eq_getElem_cons hi, List.map_cons, List.map_cons, List.sum_cons, List.append_assoc, Nat.add_assoc]
  rfl
theorem bringR_F : F_zat (L.map rQ) = some (brV L) := by
 have hlt := lcm_lt hL
 have hdv : ∀ q ∈ L, q.den ∣ lcmV L := (lcm_dvd L 1).2
 have w : ∀ v, wfd B16 (zcf B16 v) = true := fun v => zcP (by decide) v
 have h1 := brR_loop hL hl hlt (by omega) hdv L.length 0 0 1 [] (by omega) (by decide) (by omega) (by simp)
 rw [List.drop_zero, List.nil_append, Nat.zero_add, show ((0 : Nat) : Int) = 0 from rfl] at h1
 show (zat _).run _ = _
 rw [zat]
 simp only [RT.run]
 rw [lcmL_F hL hl, Option.bind_some, w, if_pos rfl]
 show (lo zhj (_, _) (0, [], zcf B16 0)).bind _ = _
 rw [h1, Option.bind_some]
 simp only [w, if_true, zcy (show 2 ≤ B16 by decide)]
 unfold brV
 have e1 : (L.map (upV (lcmV L))).sum = (upsV L).sum := rfl
 rw [e1]
 by_cases c1 : lcmV L < 18446744073709551616
 ·by_cases c2 : (upsV L).sum < 18446744073709551616
  ·rw [if_neg (by rw [decide_eq_true ((zgR _).2 c1), decide_eq_true ((zgR _).2 c2)]; decide), if_pos ((zgR _).2 c1), if_pos ((zgR _).2 c2), if_pos (show lcmV L < 18446744073709551616 ∧ (upsV L).sum < 18446744073709551616 from ⟨c1, c2⟩)]
   congr 4
   unfold i64s upsV
   rw [List.map_map]
   refine List.map_congr_left fun q hq => ?_
   rw [if_pos ((zgR _).2 (Nat.lt_of_le_of_lt (sum_ge (List.mem_map_of_mem hq)) c2))]
   rfl
  ·rw [if_pos (by rw [decide_eq_false (fun h => c2 ((zgR _).1 h))]; simp), if_neg (fun h => c2 h.2)]
 ·rw [if_pos (by rw [decide_eq_false (fun h => c1 ((zgR _).1 h))]; simp), if_neg (fun h => c1 h.1)]
end
def e_zat : zcn := io_zat.en F_zat
theorem e_zat_ok : e_zat.ok pg := zeK ok_zat
def zbG_b58 : ((List Bool) × (List Tk) × (List Th) × (List Lk) × (List Int) × Int) → (Int × (List ((List Int) × List Int))) → RT (Int × (List ((List Int) × List Int))) (List ((List Int) × List Int))
| (s_0, s_1, s_2, s_3, s_4, s_5), (i, r4) =>
 .rq 5 (.ite (decide (i < (s_2.length : Int)))
 (.rq 3 (.req ((wOK s_0 s_1 s_2 s_3 s_4 s_5 && inB s_2 i)) (.rq 1 (let t0 := (rQ (gI (wgV s_0 s_1 s_2 s_3 s_4 s_5) i));
 let t1 := [(t0.1, t0.2)];
 .req (zdF 48 r4 t1) (.rq 4 (.again (w64 (i + 1), r4 ++ t1)))))))
 (.done r4))
def zbG_p58 : zcd := ⟨58, true, [.sl tB, .sl yK, .sl yH, .sl yL, .sl tI, tI, tU, tU], [tI, .sl (.pair (.sl tI) (.sl tI))], ⟨[.keep [1, 2, 4, 5], .gc, .nilRow 4 800004 35 (.pair (.sl tI) (.sl tI)), .ren 4 700004, .ren 4 900004, .gc], [1, 2, 4, 5], [.lf (qp 16), .lf (qp 32), .lf (qr 900004), .lf (qm 0)], [(16, true, .cells [qi 0, qi 1, qi 2, qi 3, qi 4, qi 5]), (32, true, .cells [qi 6, qi 7, .fix (.nil)]), (900004, true, .arr 35 (qm 1))]⟩, [⟨2, ⟨[.keep [2, 4], .gc, .nilRow 4 800004 35 (.pair (.sl tI) (.sl tI)), .ren 4 700004, .ren 4 900004, .gc], [2, 4], [.lf (qp 32), .lf (qr 900004)], [(32, true, .cells [qi 6, qi 7, .fix (.nil)]), (900004, true, .arr 35 (qm 0))]⟩, [.sl (.pair (.sl tI) (.sl tI))]⟩], (fun i => zbG_b58 (i.1, i.2.1, i.2.2.1, i.2.2.2.1, i.2.2.2.2.1, i.2.2.2.2.2.1))⟩
def zbG : ((List Bool) × (List Tk) × (List Th) × (List Lk) × (List Int) × Int) → RT Unit (Int × Int × Int × (List Int))
| (s_0, s_1, s_2, s_3, s_4, s_5) =>
 .rq 5 (.call (lo zbG_b58 (s_0, s_1, s_2, s_3, s_4, s_5) (0, [])) default fun v0 =>
 .rq 1 (.call (F_zat v0) default fun v1 =>
 .rq 4 (.done (v1.1, v1.2.1, v1.2.2.1, v1.2.2.2))))
def F_zbG (x : (List Bool) × (List Tk) × (List Th) × (List Lk) × (List Int) × Int) : Option (Int × Int × Int × (List Int)) := (zbG x).run fun _ => none
def io_zbG : Io := ⟨n_zbG, [.sl tB, .sl yK, .sl yH, .sl yL, .sl tI, tI], [.agg [qm 0, qm 1, qm 2, qm 3, qm 4, qm 5]], [], [[.sl tB, .sl yK, .sl yH, .sl yL, .sl tI, tI]], [tU, tU, tI, .sl tU], .tup [(true, [qm 0, qm 1, qr 0]), (false, [qm 2])], [], [(true, .arr 48 (qm 3))], false⟩
def zbG_P : List zcd := [zbG_p58]
def zbG_T : zci := tab [e_zat, e_zbl]
theorem zbG_To : zch pg zbG_T := zce ⟨e_zat_ok, e_zbl_ok, trivial⟩
theorem zbG_k58 : (zbG_p58).OK pg (zbG_T) (zcz 23 (zbG_P)) (zcq f_zbG) 23 := ⟨by kernel_rfl, fun i x => by kernel_rfl⟩
theorem zbG_go : zcu pg (zbG_T) io_zbG f_zbG (zbG_P) [.cellRow 32 2 600034 48 tU, .cellRen 32 2 600034] (zbG) := ⟨by kernel_rfl, by kernel_rfl, fun x => by kernel_rfl⟩
theorem ok_zbG : io_zbG.Okay pg (F_zbG) := zcr zcg (zbG_To) (zbG_go) ⟨zbG_k58, trivial⟩
theorem of_loop {a : List Bool} {b : List Tk} {c : List Th} {d : List Lk} {e : List Int} {f : Int} (hw : wOK a b c d e f = true) : ∀ (n i : Nat), i + n = c.length → lo zbG_b58 (a, b, c, d, e, f) ((i : Int), ((wgV a b c d e f).take i).map rQ) = some ((wgV a b c d e f).map rQ)
 | 0, i, h => by
  rw [zco, zbG_b58]
  simp only [RT.run]
  rw [if_neg (by simp; omega), List.take_of_length_le (by rw [wgV_len]; omega)]
 | n + 1, i, h => by
  obtain ⟨H, h8⟩ := zdx hw
  have hlc := H.lenC
  rw [zco, zbG_b58]
  simp only [RT.run, pe]
  rw [if_pos (by simp; omega), hw, zcm.2 (show 0 ≤ (i : Int) ∧ (i : Int) < (c.length : Int) by omega), if_pos (by decide), if_pos (zhk (by decide) (by simp; omega)), take_rQ _ (by rw [wgV_len]; omega), zcj (by omega), show (i : Int) + 1 = ((i + 1 : Nat) : Int) by omega, of_loop hw n (i + 1) (by omega)]
def e_zbG : zcn := io_zbG.sp (fun (a, b, c, d, e, f) => (wOK a b c d e f)) (fun (a, b, c, d, e, f) => (brV (wgV a b c d e f)))
theorem sp_zbG (h : ∀ (a : List Bool) (b : List Tk) (c : List Th) (d : List Lk) (e : List Int) (f : Int), WfT [.sl tB, .sl yK, .sl yH, .sl yL, .sl tI, tI] (a, b, c, d, e, f) → ((wOK a b c d e f)) = true → (zbG (a, b, c, d, e, f)).run (fun _ => none) = some (brV (wgV a b c d e f))) : e_zbG.ok pg := zct ok_zbG fun (a, b, c, d, e, f) hw hc => h a b c d e f hw hc
theorem e_zbG_ok : e_zbG.ok pg := sp_zbG fun a b c d e f _ hc => by
 obtain ⟨H, h8⟩ := zdx hc
 have l1 := of_loop hc c.length 0 (by omega)
 rw [List.take_zero, List.map_nil, show ((0 : Nat) : Int) = 0 from rfl] at l1
 rw [zbG]
 simp only [RT.run]
 rw [l1, Option.bind_some, bringR_F (wg_hyp H).1 (wg_hyp H).2]
 rfl
section
variable {a : List Bool} {b : List Tk} {c : List Th} {d : List Lk} {e : List Int} {f : Int}
end
end
end Go.Proofs.YtlfdidaeachpoaaGreat
namespace Go.Proofs.YtlfdidaeachpoaaGreat
open Go Go.RowKit
set_option maxRecDepth 100000
noncomputable section
def zds : List Nat → Nat → Nat → Int
 | [], _, _ => -1
 | w :: l, r, i => if r < w then (i : Int) else zds l (r - w) (i + 1)
theorem pickG_lt : ∀ (l : List Nat) (r i : Nat), (0 ≤ zds l r i ↔ r < l.sum) ∧ (r < l.sum → ∃ j : Nat, zds l r i = ((i + j : Nat) : Int) ∧ j < l.length ∧ 0 < l.getD j 0)
 | [], r, i => by simp [zds]
 | w :: l, r, i => by
  unfold zds
  by_cases h : r < w
  ·rw [if_pos h]
   refine ⟨⟨fun _ => by rw [List.sum_cons]; omega, fun _ => by omega⟩, fun _ => ⟨0, rfl, by simp, ?_⟩⟩
   show 0 < w
   omega
  ·rw [if_neg h]
   obtain ⟨h1, h2⟩ := pickG_lt l (r - w) (i + 1)
   refine ⟨by rw [h1, List.sum_cons]; omega, fun hr => ?_⟩
   obtain ⟨j, h3, h4, h5⟩ := h2 (by rw [List.sum_cons] at hr; omega)
   exact ⟨j + 1, by rw [h3]; congr 1; omega, by simp; omega, by simpa using h5⟩
def zdh (l : List Int) : List Nat := l.map Int.toNat
theorem toNs_toI {l : List Int} (h : ∀ x ∈ l, 0 ≤ x ∧ x < 18446744073709551616) : (zdh l).map toI = l ∧ ∀ w ∈ zdh l, w < 18446744073709551616 := by
 refine ⟨?_, fun w hw => ?_⟩
 ·unfold zdh toI
  rw [List.map_map]
  conv => rhs; rw [← List.map_id l]
  exact List.map_congr_left fun x hx => by
   show ((x.toNat : Nat) : Int) = x
   exact Int.toNat_of_nonneg (h x hx).1
 ·obtain ⟨x, hx, rfl⟩ := List.mem_map.1 hw
  have := h x hx
  omega
theorem toNs_toI' (l : List Nat) : zdh (l.map toI) = l := by
 unfold zdh
 rw [List.map_map]
 conv => rhs; rw [← List.map_id l]
 exact List.map_congr_left fun x _ => Int.toNat_natCast x
def zbL : (Int × Int × Int) → RT Unit Bool
| (s_0, s_1, r) =>
 .rq 16 (.done ((decide (s_0 ≤ r)) && (decide ((zcv (r - s_0)) < s_1))))
def F_zbL (x : Int × Int × Int) : Option Bool := (zbL x).run fun _ => none
def io_zbL : Io := ⟨n_zbL, [tU, tU, tU], [.agg [qm 0, qm 1], .lf (qm 2)], [], [[tU, tU], [tU]], [tB], .lf (qm 0), [], [], false⟩
def zbL_P : List zcd := []
def zbL_T : zci := tab []
theorem zbL_To : zch pg zbL_T := zce trivial
theorem zbL_go : zcu pg (zbL_T) io_zbL f_zbL (zbL_P) [] (zbL) := ⟨by kernel_rfl, by kernel_rfl, fun x => by kernel_rfl⟩
theorem ok_zbL : io_zbL.Okay pg (F_zbL) := zcr zcg (zbL_To) (zbL_go) trivial
def e_zbL : zcn := io_zbL.sp (fun (x, y, r) => true) (fun (x, y, r) => ((decide (x ≤ r)) && (decide ((zcv (r - x)) < y))))
theorem sp_zbL (h : ∀ (x : Int) (y : Int) (r : Int), WfT [tU, tU, tU] (x, y, r) → (zbL (x, y, r)).run (fun _ => none) = some ((decide (x ≤ r)) && (decide ((zcv (r - x)) < y)))) : e_zbL.ok pg := zct ok_zbL fun (x, y, r) hw hc => h x y r hw
theorem e_zbL_ok : e_zbL.ok pg := sp_zbL fun x y r _ => by
 rw [zbL]; rfl
def zaY : (Int × Int × Int) → RT Unit (Bool × Int)
| (x_0, x_1, a1) =>
 .rq 6 (.done (((decide (x_0 ≤ a1)) && (decide ((zcv (a1 - x_0)) < x_1))), a1))
def F_zaY (x : Int × Int × Int) : Option (Bool × Int) := (zaY x).run fun _ => none
def io_zaY : Io := ⟨n_zaY, [tU, tU, tU], [.agg [qm 0, qm 1], .lf (qp 0)], [.cells [qm 2]], [[tU, tU], []], [tB, tU], .lf (qm 0), [(true, .cells [qm 1])], [], false⟩
def zaY_P : List zcd := []
def zaY_T : zci := tab [e_zbL]
theorem zaY_To : zch pg zaY_T := zce ⟨e_zbL_ok, trivial⟩
theorem zaY_go : zcu pg (zaY_T) io_zaY f_zaY (zaY_P) [] (zaY) := ⟨by kernel_rfl, by kernel_rfl, fun x => by kernel_rfl⟩
theorem ok_zaY : io_zaY.Okay pg (F_zaY) := zcr zcg (zaY_To) (zaY_go) trivial
def e_zaY : zcn := io_zaY.sp (fun (x, y, r) => true) (fun (x, y, r) => ((decide (x ≤ r)) && (decide ((zcv (r - x)) < y)), r))
theorem sp_zaY (h : ∀ (x : Int) (y : Int) (r : Int), WfT [tU, tU, tU] (x, y, r) → (zaY (x, y, r)).run (fun _ => none) = some ((decide (x ≤ r)) && (decide ((zcv (r - x)) < y)), r)) : e_zaY.ok pg := zct ok_zaY fun (x, y, r) hw hc => h x y r hw
theorem e_zaY_ok : e_zaY.ok pg := sp_zaY fun x y r _ => by
 rw [zaY]; rfl
def zd_b26 : ((List (Int × Int)) × Int × Int) → Int → RT Int (LR Int Unit)
| (s, x7, p0), x8 =>
 .rq 1 (.ite (decide (x8 < x7))
 (.rq 5 (.req (inB s x8) (.rq 2 (.ite ((decide ((gI s x8).1 ≤ p0)) && (decide ((zcv (p0 - (gI s x8).1)) < (gI s x8).2)))
 (.rq 2 (.done (.ex x8)))
 (.rq 2 (.again (w64 (x8 + 1))))))))
 (.done (.rt ())))
def zd_p26 : zcd := ⟨26, true, [.sl (.pair tU tU), tI, tU], [tI], ⟨[.keep [0, 1, 7, 8], .gc], [0, 1, 7, 8], [.lf (qi 0), .lf (.fix (.fn 152 [1048576])), .lf (qi 1), .lf (qm 0)], [(1048576, true, .cells [qi 2])]⟩, [⟨1, ⟨[.keep [4], .gc], [4], [.lf (qm 0)], [(1048576, true, .cells [qi 2])]⟩, [tI]⟩, ⟨2, ⟨[.keep [], .gc], [], [], [(1048576, true, .cells [qi 2])]⟩, []⟩], zd_b26⟩
def zd : ((List (Int × Int)) × Int) → RT Unit (Int × Int)
| (s, f_0) =>
 .rq 4 (.call (lo zd_b26 (s, (s.length : Int), f_0) 0) default fun v0 =>
 .ite v0.isRt
 (.rq 1 (.done ((-1), f_0)))
 (.done (v0.getX, f_0)))
def F_zd (x : (List (Int × Int)) × Int) : Option (Int × Int) := (zd x).run fun _ => none
def io_zd : Io := ⟨n_zd, [.sl (.pair tU tU), tU], [.lf (qm 0), .lf (.fix (.fn 152 [0]))], [.cells [qm 1]], [[.sl (.pair tU tU)], []], [tI, tU], .lf (qm 0), [(true, .cells [qm 1])], [], false⟩
def zd_P : List zcd := [zd_p26]
def zd_T : zci := tab [e_zaY]
theorem zd_To : zch pg zd_T := zce ⟨e_zaY_ok, trivial⟩
theorem zd_k26 : (zd_p26).OK pg (zd_T) (zcz 19 (zd_P)) (zcq f_zd) 19 := ⟨by kernel_rfl, fun i x => by kernel_rfl⟩
theorem zd_go : zcu pg (zd_T) io_zd f_zd (zd_P) [] (zd) := ⟨by kernel_rfl, by kernel_rfl, fun x => by kernel_rfl⟩
theorem ok_zd : io_zd.Okay pg (F_zd) := zcr zcg (zd_To) (zd_go) ⟨zd_k26, trivial⟩
def e_zd : zcn := io_zd.en F_zd
theorem e_zd_ok : e_zd.ok pg := zeK ok_zd
theorem pidx_loop (L : List (Int × Int)) (r : Nat) (hL : L.length ≤ 100000) (hr : r < 18446744073709551616) : ∀ (l : List Nat) (s i : Nat), L.drop i = zeT s l → i ≤ L.length → s ≤ r →
  lo zd_b26 (L, (L.length : Int), (r : Int)) (i : Int) = some (if 0 ≤ zds l (r - s) i then .ex (zds l (r - s) i) else .rt ())
 | [], s, i, h, hi, hs => by
  have hlen : L.length ≤ i := by
   have := congrArg List.length h
   rw [List.length_drop] at this
   simp [zeT] at this
   omega
  rw [zco, zd_b26]
  simp only [RT.run]
  rw [if_neg (by simp; omega)]
  rfl
 | w :: l, s, i, h, hi, hs => by
  have hlt : i < L.length := by
   have := congrArg List.length h
   rw [List.length_drop] at this
   simp [zeT] at this
   omega
  rw [List.drop_eq_getElem_cons hlt, zeT] at h
  obtain ⟨h1, h2⟩ := List.cons.inj h
  rw [zco, zd_b26]
  simp only [RT.run, zcG hlt, h1]
  rw [if_pos (by simp; omega), if_pos (zcm.2 ⟨by omega, by omega⟩), decide_eq_true (show (s : Int) ≤ (r : Int) by omega), Bool.true_and, zcD (by omega), zcj (by omega), show (i : Int) + 1 = ((i + 1 : Nat) : Int) by omega]
  unfold zds
  by_cases hw : r - s < w
  ·rw [if_pos (by simp; omega), if_pos hw, if_pos (by omega)]
  ·rw [if_neg (by simp; omega), if_neg hw, pidx_loop L r hL hr l (s + w) (i + 1) h2 hlt (by omega), show r - (s + w) = r - s - w by omega]
def zI : ((List Int) × Int) → RT Unit (Int × Bool)
| (l, r) =>
 .rq 4 (.call (F_zae l) default fun v0 =>
 .rq 7 (.call (F_zd (v0.2, r)) default fun v1 =>
 .rq 6 (.done (v1.1, decide (0 ≤ v1.1)))))
def F_zI (x : (List Int) × Int) : Option (Int × Bool) := (zI x).run fun _ => none
def io_zI : Io := ⟨n_zI, [.sl tU, tU], [.lf (qm 0), .lf (qm 1)], [], [[.sl tU], [tU]], [tI, tB], .tup [(false, [qm 0]), (false, [qm 1])], [], [], false⟩
def zI_P : List zcd := []
def zI_T : zci := tab [e_zd, e_zae]
theorem zI_To : zch pg zI_T := zce ⟨e_zd_ok, e_zae_ok, trivial⟩
theorem zI_go : zcu pg (zI_T) io_zI f_zI (zI_P) [] (zI) := ⟨by kernel_rfl, by kernel_rfl, fun x => by kernel_rfl⟩
theorem ok_zI : io_zI.Okay pg (F_zI) := zcr zcg (zI_To) (zI_go) trivial
def e_zI : zcn := io_zI.sp (fun (l, r) => (decide (l.length ≤ 100000) && decide ((zdh l).sum < 18446744073709551616))) (fun (l, r) => (zds (zdh l) r.toNat 0, decide (0 ≤ zds (zdh l) r.toNat 0)))
theorem sp_zI (h : ∀ (l : List Int) (r : Int), WfT [.sl tU, tU] (l, r) → ((decide (l.length ≤ 100000) && decide ((zdh l).sum < 18446744073709551616))) = true → (zI (l, r)).run (fun _ => none) = some (zds (zdh l) r.toNat 0, decide (0 ≤ zds (zdh l) r.toNat 0))) : e_zI.ok pg := zct ok_zI fun (l, r) hw hc => h l r hw hc
theorem e_zI_ok : e_zI.ok pg := sp_zI fun l r hw hc => by
 rw [Bool.and_eq_true, decide_eq_true_eq, decide_eq_true_eq] at hc
 have hr : 0 ≤ r ∧ r < 18446744073709551616 := hw.2
 have hll : ∀ x ∈ l, 0 ≤ x ∧ x < 18446744073709551616 := fun x hx => hw.1.2 x hx
 obtain ⟨e1, e2⟩ := toNs_toI hll
 have hlen : (zdh l).length = l.length := by simp [zdh]
 obtain ⟨m, rfl⟩ := Int.eq_ofNat_of_zero_le hr.1
 rw [zI]
 simp only [RT.run]
 have hs := spans_F (zdh l) (by omega) e2
 rw [e1, if_pos hc.2] at hs
 have hi := pidx_loop (zeT 0 (zdh l)) m (by rw [ziH]; omega) (by omega) (zdh l) 0 0 (by rw [List.drop_zero]) (by omega) (by omega)
 rw [Nat.sub_zero, show ((0 : Nat) : Int) = 0 from rfl] at hi
 have hf : F_zd (zeT 0 (zdh l), (m : Int)) = some (zds (zdh l) m 0, (m : Int)) := by
  show (zd _).run _ = _
  rw [zd]
  simp only [RT.run]
  rw [hi, Option.bind_some]
  by_cases h : 0 ≤ zds (zdh l) m 0
  ·rw [if_pos h]; rfl
  ·rw [if_neg h]
   have : zds (zdh l) m 0 = -1 := by
    have hn : ∀ (l : List Nat) (r i : Nat), zds l r i = -1 ∨ 0 ≤ zds l r i := by
     intro l
     induction l with
     | nil => intro r i; exact .inl rfl
     | cons w l ih =>
      intro r i
      unfold zds
      split
      ·exact .inr (by omega)
      ·exact ih _ _
    rcases hn (zdh l) m 0 with h' | h'
    ·exact h'
    ·exact absurd h' h
   rw [this]; rfl
 rw [hs, Option.bind_some, hf, Option.bind_some, Int.toNat_natCast]
def zaT_b26 : (List Int) → (Int × Int) → RT (Int × Int) (LR Int Unit)
| l, (r, i) =>
 .rq 4 (.ite (decide (i < (l.length : Int)))
 (.rq 3 (.req (inB l i) (.rq 2 (.ite (decide (r < (gI l i)))
 (.rq 2 (.done (.ex i)))
 (.rq 3 (.req (inB l i) (.rq 6 (.again (zcv (r - (gI l i)), w64 (i + 1))))))))))
 (.done (.rt ())))
def zaT_p26 : zcd := ⟨26, true, [.sl tU], [tU, tI], ⟨[.keep [0, 1, 5], .gc], [0, 1, 5], [.lf (qi 0), .lf (qm 0), .lf (qm 1)], []⟩, [⟨1, ⟨[.keep [4], .gc], [4], [.lf (qm 0)], []⟩, [tI]⟩, ⟨2, ⟨[.keep [], .gc], [], [], []⟩, []⟩], zaT_b26⟩
def zaT : ((List Int) × Int) → RT Unit Int
| (l, r) =>
 .rq 2 (.call (lo zaT_b26 l (r, 0)) default fun v0 =>
 .ite v0.isRt
 (.rq 1 (.done (-1)))
 (.done v0.getX))
def F_zaT (x : (List Int) × Int) : Option Int := (zaT x).run fun _ => none
def io_zaT : Io := ⟨n_zaT, [.sl tU, tU], [.lf (qm 0), .lf (qm 1)], [], [[.sl tU], [tU]], [tI], .lf (qm 0), [], [], false⟩
def zaT_P : List zcd := [zaT_p26]
def zaT_T : zci := tab []
theorem zaT_To : zch pg zaT_T := zce trivial
theorem zaT_k26 : (zaT_p26).OK pg (zaT_T) (zcz 25 (zaT_P)) (zcq f_zaT) 25 := ⟨by kernel_rfl, fun i x => by kernel_rfl⟩
theorem zaT_go : zcu pg (zaT_T) io_zaT f_zaT (zaT_P) [] (zaT) := ⟨by kernel_rfl, by kernel_rfl, fun x => by kernel_rfl⟩
theorem ok_zaT : io_zaT.Okay pg (F_zaT) := zcr zcg (zaT_To) (zaT_go) ⟨zaT_k26, trivial⟩
theorem pickR_loop (L : List Nat) (hL : L.length ≤ 100000) (hw : ∀ w ∈ L, w < 18446744073709551616) : ∀ (l : List Nat) (r i : Nat), L.drop i = l → i ≤ L.length → r < 18446744073709551616 →
  lo zaT_b26 (L.map toI) ((r : Int), (i : Int)) = some (if 0 ≤ zds l r i then .ex (zds l r i) else .rt ())
 | [], r, i, h, hi, _ => by
  have hlen : L.length ≤ i := by
   have := congrArg List.length h
   rw [List.length_drop] at this
   simp at this
   omega
  rw [zco, zaT_b26]
  simp only [RT.run]
  rw [if_neg (by simp; omega)]
  rfl
 | w :: l, r, i, h, hi, hr => by
  have hlt : i < L.length := by
   have := congrArg List.length h
   rw [List.length_drop] at this
   simp at this
   omega
  rw [List.drop_eq_getElem_cons hlt] at h
  obtain ⟨h1, h2⟩ := List.cons.inj h
  have hg : gI (L.map toI) (i : Int) = (w : Int) := by rw [zes toI (by omega), zcG hlt, h1]; rfl
  have hin : inB (L.map toI) (i : Int) = true := zcm.2 (by rw [List.length_map]; omega)
  have hwb := hw _ (List.getElem_mem hlt)
  rw [h1] at hwb
  rw [zco, zaT_b26]
  simp only [RT.run, hg]
  rw [if_pos (by simp; omega), if_pos hin]
  unfold zds
  by_cases hw' : r < w
  ·rw [if_pos (by simp; omega), if_pos hw', if_pos (by omega)]
  ·rw [if_neg (by simp; omega), if_pos hin, if_neg hw', zcD (by omega), zcj (by omega), show (i : Int) + 1 = ((i + 1 : Nat) : Int) by omega, show (r : Int) - (w : Int) = ((r - w : Nat) : Int) by omega, pickR_loop L hL hw l (r - w) (i + 1) h2 hlt (by omega)]
def e_zaT : zcn := io_zaT.sp (fun (l, r) => (decide (l.length ≤ 100000) && decide (r.toNat < (zdh l).sum))) (fun (l, r) => (zds (zdh l) r.toNat 0))
theorem sp_zaT (h : ∀ (l : List Int) (r : Int), WfT [.sl tU, tU] (l, r) → ((decide (l.length ≤ 100000) && decide (r.toNat < (zdh l).sum))) = true → (zaT (l, r)).run (fun _ => none) = some (zds (zdh l) r.toNat 0)) : e_zaT.ok pg := zct ok_zaT fun (l, r) hw hc => h l r hw hc
theorem e_zaT_ok : e_zaT.ok pg := sp_zaT fun l r hw hc => by
 rw [Bool.and_eq_true, decide_eq_true_eq, decide_eq_true_eq] at hc
 have hr : 0 ≤ r ∧ r < 18446744073709551616 := hw.2
 have hll : ∀ x ∈ l, 0 ≤ x ∧ x < 18446744073709551616 := fun x hx => hw.1.2 x hx
 obtain ⟨e1, e2⟩ := toNs_toI hll
 have hlen : (zdh l).length = l.length := by simp [zdh]
 obtain ⟨m, rfl⟩ := Int.eq_ofNat_of_zero_le hr.1
 rw [Int.toNat_natCast] at hc
 rw [zaT]
 simp only [RT.run]
 have hi := pickR_loop (zdh l) (by omega) e2 (zdh l) m 0 (by rw [List.drop_zero]) (by omega) (by omega)
 rw [e1, if_pos ((pickG_lt _ _ _).1.2 hc.2), show ((0 : Nat) : Int) = 0 from rfl] at hi
 rw [hi, Int.toNat_natCast]
 rfl
abbrev Br := Int × Int × Int × List Int
def atB (x : Br) (r : Int) : Int × Int := if (x.2.2.1 != 0) = true then (-1, x.2.2.1) else if (x.2.1 == 0) = true then (-1, 16) else if decide (x.2.1 ≤ r) = true then (-1, 1) else (zds (zdh x.2.2.2) r.toNat 0, 0)
theorem brV_sum (L : List Rat) (hL : L.length ≤ 100) : (brV L).2.2.2.length ≤ 100000 ∧ (zdh (brV L).2.2.2).sum < 18446744073709551616 ∧ ((brV L).2.2.1 = 0 → ((zdh (brV L).2.2.2).sum : Int) = (brV L).2.1 ∧ (brV L).2.2.2.length = L.length ∧ ∀ x ∈ (brV L).2.2.2, 0 ≤ x ∧ x < 18446744073709551616) := by
 unfold brV
 by_cases h : lcmV L < 18446744073709551616 ∧ (upsV L).sum < 18446744073709551616
 ·rw [if_pos h]
  have e : zdh (i64s (upsV L)) = upsV L := toNs_toI' _
  simp only
  rw [e]
  refine ⟨by simp [i64s, upsV]; omega, h.2, fun _ => ⟨rfl, by simp [i64s, upsV], fun x hx => ?_⟩⟩
  obtain ⟨w, hw, rfl⟩ := List.mem_map.1 hx
  have := sum_ge hw
  omega
 ·rw [if_neg h]
  exact ⟨by simp, by decide, fun h => by cases h⟩
def lottery_Total : ((List Bool) × (List Tk) × (List Th) × (List Lk) × (List Int) × Int) → RT Unit (Int × Int)
| (s_0, s_1, s_2, s_3, s_4, s_5) =>
 .rq 4 (.req ((wOK s_0 s_1 s_2 s_3 s_4 s_5)) (.rq 11 (let t0 := (brV (wgV s_0 s_1 s_2 s_3 s_4 s_5));
 .done (t0.2.1, t0.2.2.1))))
def zar : ((List Bool) × (List Tk) × (List Th) × (List Lk) × (List Int) × Int) → RT Unit (Int × Int × Int × (List Int))
| (s_0, s_1, s_2, s_3, s_4, s_5) =>
 .rq 4 (.req ((wOK s_0 s_1 s_2 s_3 s_4 s_5)) (.rq 13 (let t0 := (brV (wgV s_0 s_1 s_2 s_3 s_4 s_5));
 .ite ((t0.2.2.1 == 0) && (t0.2.1 == 0))
 (.rq 5 (.done (t0.1, t0.2.1, 16, t0.2.2.2)))
 (.rq 4 (.done (t0.1, t0.2.1, t0.2.2.1, t0.2.2.2))))))
def F_zar (x : (List Bool) × (List Tk) × (List Th) × (List Lk) × (List Int) × Int) : Option (Int × Int × Int × (List Int)) := (zar x).run fun _ => none
def io_zar : Io := ⟨n_zar, [.sl tB, .sl yK, .sl yH, .sl yL, .sl tI, tI], [.agg [qm 0, qm 1, qm 2, qm 3, qm 4, qm 5]], [], [[.sl tB, .sl yK, .sl yH, .sl yL, .sl tI, tI]], [tU, tU, tI, .sl tU], .tup [(true, [qm 0, qm 1, qr 0]), (false, [qm 2])], [], [(true, .arr 48 (qm 3))], false⟩
def zar_P : List zcd := []
def zar_T : zci := tab [e_zbR]
theorem zar_To : zch pg zar_T := zce ⟨e_zbR_ok, trivial⟩
theorem zar_go : zcu pg (zar_T) io_zar f_zar (zar_P) [.cellRow 32 2 600034 48 tU, .cellRen 32 2 600034] (zar) := ⟨by kernel_rfl, by kernel_rfl, fun x => by kernel_rfl⟩
theorem ok_zar : io_zar.Okay pg (F_zar) := zcr zcg (zar_To) (zar_go) trivial
def opB (x : Br) : Br := if ((x.2.2.1 == 0) && (x.2.1 == 0)) = true then (x.1, x.2.1, 16, x.2.2.2) else x
def e_zar : zcn := io_zar.sp (fun (a, b, c, d, e, f) => (wOK a b c d e f)) (fun (a, b, c, d, e, f) => (opB (brV (wgV a b c d e f))))
theorem sp_zar (h : ∀ (a : List Bool) (b : List Tk) (c : List Th) (d : List Lk) (e : List Int) (f : Int), WfT [.sl tB, .sl yK, .sl yH, .sl yL, .sl tI, tI] (a, b, c, d, e, f) → ((wOK a b c d e f)) = true → (zar (a, b, c, d, e, f)).run (fun _ => none) = some (opB (brV (wgV a b c d e f)))) : e_zar.ok pg := zct ok_zar fun (a, b, c, d, e, f) hw hc => h a b c d e f hw hc
theorem e_zar_ok : e_zar.ok pg := sp_zar fun a b c d e f _ hc => by
 rw [zar]
 simp only [RT.run]
 rw [if_pos hc]
 unfold opB
 split <;> rfl
def zbj : ((List Bool) × (List Tk) × (List Th) × (List Lk) × (List Int) × Int × Int) → RT Unit (Int × Int)
| (s_0, s_1, s_2, s_3, s_4, s_5, r) =>
 .rq 4 (.req ((wOK s_0 s_1 s_2 s_3 s_4 s_5)) (.rq 8 (let t0 := (opB (brV (wgV s_0 s_1 s_2 s_3 s_4 s_5)));
 .ite (t0.2.2.1 != 0)
 (.rq 3 (.done ((-1), t0.2.2.1)))
 (.rq 3 (.req ((decide (t0.2.2.2.length ≤ 100000) && decide ((zdh t0.2.2.2).sum < 18446744073709551616))) (.rq 7 (.ite (!(decide (0 ≤ zds (zdh t0.2.2.2) r.toNat 0)))
 (.rq 2 (.done ((-1), 1)))
 (.rq 3 (.done (zds (zdh t0.2.2.2) r.toNat 0, 0))))))))))
def F_zbj (x : (List Bool) × (List Tk) × (List Th) × (List Lk) × (List Int) × Int × Int) : Option (Int × Int) := (zbj x).run fun _ => none
def io_zbj : Io := ⟨n_zbj, [.sl tB, .sl yK, .sl yH, .sl yL, .sl tI, tI, tU], [.agg [qm 0, qm 1, qm 2, qm 3, qm 4, qm 5], .lf (qm 6)], [], [[.sl tB, .sl yK, .sl yH, .sl yL, .sl tI, tI], [tU]], [tI, tI], .tup [(false, [qm 0]), (false, [qm 1])], [], [], false⟩
def zbj_P : List zcd := []
def zbj_T : zci := tab [e_zar, e_zI]
theorem zbj_To : zch pg zbj_T := zce ⟨e_zar_ok, e_zI_ok, trivial⟩
theorem zbj_go : zcu pg (zbj_T) io_zbj f_zbj (zbj_P) [] (zbj) := ⟨by kernel_rfl, by kernel_rfl, fun x => by kernel_rfl⟩
theorem ok_zbj : io_zbj.Okay pg (F_zbj) := zcr zcg (zbj_To) (zbj_go) trivial
def e_zbj : zcn := io_zbj.sp (fun (a, b, c, d, e, f, r) => (wOK a b c d e f)) (fun (a, b, c, d, e, f, r) => (atB (brV (wgV a b c d e f)) r))
theorem sp_zbj (h : ∀ (a : List Bool) (b : List Tk) (c : List Th) (d : List Lk) (e : List Int) (f : Int) (r : Int), WfT [.sl tB, .sl yK, .sl yH, .sl yL, .sl tI, tI, tU] (a, b, c, d, e, f, r) → ((wOK a b c d e f)) = true → (zbj (a, b, c, d, e, f, r)).run (fun _ => none) = some (atB (brV (wgV a b c d e f)) r)) : e_zbj.ok pg := zct ok_zbj fun (a, b, c, d, e, f, r) hw hc => h a b c d e f r hw hc
theorem e_zbj_ok : e_zbj.ok pg := sp_zbj fun a b c d e f r hw hc => by
 obtain ⟨H, h8⟩ := zdx hc
 have hr : 0 ≤ r ∧ r < 18446744073709551616 := hw.2.2.2.2.2.2
 obtain ⟨b1, b2, b3⟩ := brV_sum (wgV a b c d e f) (wg_hyp H).2
 rw [zbj]
 simp only [RT.run]
 rw [if_pos hc]
 generalize brV (wgV a b c d e f) = x at *
 unfold atB
 by_cases h1 : x.2.2.1 = 0
 ·have e1 : (x.2.2.1 == 0) = true := by simpa using h1
  have e2 : ¬ (x.2.2.1 != 0) = true := by simpa using h1
  obtain ⟨t1, t2, t3⟩ := b3 h1
  rw [if_neg e2]
  by_cases h2 : (x.2.1 == 0) = true
  ·have ho : opB x = (x.1, x.2.1, 16, x.2.2.2) := by unfold opB; rw [e1, h2]; rfl
   rw [ho, if_pos h2, if_pos (show ((16 : Int) != 0) = true by decide)]
  ·have ho : opB x = x := by unfold opB; rw [e1, Bool.eq_false_iff.2 h2]; rfl
   rw [ho, if_neg h2, if_neg e2, if_pos (by rw [decide_eq_true b1, decide_eq_true b2]; rfl)]
   have hp := (pickG_lt (zdh x.2.2.2) r.toNat 0).1
   by_cases h3 : x.2.1 ≤ r
   ·have : ¬ 0 ≤ zds (zdh x.2.2.2) r.toNat 0 := fun h => by
     have := hp.1 h
     omega
    rw [decide_eq_true h3, decide_eq_false this, if_pos (by decide), if_pos rfl]
   ·have : 0 ≤ zds (zdh x.2.2.2) r.toNat 0 := hp.2 (by omega)
    rw [decide_eq_false h3, decide_eq_true this, if_neg (by decide), if_neg (by decide)]
 ·have e1 : (x.2.2.1 == 0) = false := by simpa using h1
  have e2 : (x.2.2.1 != 0) = true := by simpa using h1
  have ho : opB x = x := by unfold opB; rw [e1]; rfl
  rw [ho, if_pos e2, if_pos e2]
def chM (p q : Rat) : Rat := mkRat ((p.num.toNat * q.den : Nat) : Int) (p.den * q.num.toNat)
def chV (L : List Rat) (i : Int) : Rat := if (inB L i && decide (zcI L ≠ 0)) = true then chM (gI L i) (zcI L) else 0
theorem wg_sum {a : List Bool} {b : List Tk} {c : List Th} {d : List Lk} {e : List Int} {f : Int} (H : zcs a b c d e f) : 0 ≤ zcI (wgV a b c d e f) ∧ sm 20000 (zcI (wgV a b c d e f)) := by
 obtain ⟨h1, h2⟩ := rsum_sm H.wg_mem
 have hlc := H.lenC
 exact ⟨h1, zeY (by rw [wgV_len]; omega) h2⟩
theorem num_zero {q : Rat} (h : 0 ≤ q) : q.num.toNat = 0 ↔ q = 0 := by
 have h1 := Rat.num_nonneg.2 h
 rw [← Rat.num_eq_zero]
 omega
def zbC : ((List Int) × (List Int) × (List Int) × (List Int)) → RT Unit (Bool × (List Int) × (List Int))
| (a_0, a_1, b_0, b_1) =>
 .rq 9 (.req (okMs [a_0, b_1]) (.rq 5 (.req (okMs [a_1, b_0]) (let t0 := zcf B32 (zeN [a_0, b_1]);
 let t1 := zcf B32 (zeN [a_1, b_0]);
 .req (okL 36 t0 && okL 36 t1) (.rq 4 (let t2 := mkR (val B32 t0) (val B32 t1);
 .done (t2.1, t2.2.1, t2.2.2)))))))
def F_zbC (x : (List Int) × (List Int) × (List Int) × (List Int)) : Option (Bool × (List Int) × (List Int)) := (zbC x).run fun _ => none
def io_zbC : Io := ⟨n_zbC, [.sl tV, .sl tV, .sl tV, .sl tV], [.agg [qm 0, qm 1], .agg [qm 2, qm 3]], [], [[.sl tV, .sl tV], [.sl tV, .sl tV]], [tB, .sl tV, .sl tV], .tup [(true, [qr 0, qr 1]), (false, [qm 0])], [], [(true, .arr 122 (qm 1)), (true, .arr 122 (qm 2))], false⟩
def zbC_P : List zcd := []
def zbC_T : zci := tab [e_zaG, e_zaL]
theorem zbC_To : zch pg zbC_T := zce ⟨e_zaG_ok, e_zaL_ok, trivial⟩
theorem zbC_go : zcu pg (zbC_T) io_zbC f_zbC (zbC_P) [.cellRow 64 0 600064 122 tV, .cellRow 64 1 600065 122 tV, .cellRen 64 0 600064, .cellRen 64 1 600065] (zbC) := ⟨by kernel_rfl, by kernel_rfl, fun x => by kernel_rfl⟩
theorem ok_zbC : io_zbC.Okay pg (F_zbC) := zcr zcg (zbC_To) (zbC_go) trivial
theorem div_F {p q : Rat} {m n : Nat} (hp : sm m p) (hq : sm n q) (hm : m ≤ 1000000) (hn : n ≤ 1000000) : F_zbC ((rq p).1, (rq p).2, (rq q).1, (rq q).2) = some (mkR (p.num.toNat * q.den) (p.den * q.num.toNat)) := by
 have l1 := rq_len hp
 have l2 := rq_len hq
 have m1 := zie (a := (rq p).1) (b := (rq q).2) (zcP (by decide) _) (zcP (by decide) _)
 have m2 := zie (a := (rq p).2) (b := (rq q).1) (zcP (by decide) _) (zcP (by decide) _)
 rw [rq_num, rq_den] at m1 m2
 show (zbC _).run _ = _
 rw [zbC]
 simp only [RT.run, prod2, zcy (show 2 ≤ B32 by decide), rq_num, rq_den]
 rw [if_pos (by rw [zfx]; simp [lenS]; omega), if_pos (by rw [zfx]; simp [lenS]; omega), if_pos (by rw [Bool.and_eq_true, okL36, okL36]; omega)]
def e_zbC : zcn := io_zbC.en F_zbC
theorem e_zbC_ok : e_zbC.ok pg := zeK ok_zbC
def zam : ((List Bool) × (List Tk) × (List Th) × (List Lk) × (List Int) × Int × Int) → RT Unit ((List Int) × (List Int))
| (s_0, s_1, s_2, s_3, s_4, s_5, i) =>
 .rq 3 (.req ((wOK s_0 s_1 s_2 s_3 s_4 s_5)) (.rq 9 (let t0 := ((wgV s_0 s_1 s_2 s_3 s_4 s_5).map rq);
 .ite ((decide (i < 0)) || (decide ((t0.length : Int) ≤ i)))
 (.rq 2 (.done ([], zcf B32 1)))
 (.rq 2 (.req (inB t0 i) (.rq 2 (.req (okS t0) (let t1 := rq (sumQ t0);
 let t2 := gI t0 i;
 .call (F_zbC (t2.1, t2.2, t1.1, t1.2)) default fun v0 =>
 .rq 8 (.ite (!v0.1)
 (.rq 2 (.done ([], zcf B32 1)))
 (.rq 2 (.done (v0.2.1, v0.2.2))))))))))))
def F_zam (x : (List Bool) × (List Tk) × (List Th) × (List Lk) × (List Int) × Int × Int) : Option ((List Int) × (List Int)) := (zam x).run fun _ => none
def io_zam : Io := ⟨n_zam, [.sl tB, .sl yK, .sl yH, .sl yL, .sl tI, tI, tI], [.agg [qm 0, qm 1, qm 2, qm 3, qm 4, qm 5], .lf (qm 6)], [], [[.sl tB, .sl yK, .sl yH, .sl yL, .sl tI, tI], [tI]], [.sl tV, .sl tV], .agg [qr 0, qr 1], [], [(true, .arr 122 (qm 0)), (true, .arr 122 (qm 1))], false⟩
def zam_P : List zcd := []
def zam_T : zci := tab [e_zbC, e_zB, e_zab, e_zap]
theorem zam_To : zch pg zam_T := zce ⟨e_zbC_ok, e_zB_ok, e_zab_ok, zhh, trivial⟩
theorem zam_go : zcu pg (zam_T) io_zam f_zam (zam_P) [.cellRow 64 0 600064 122 tV, .cellRow 64 1 600065 122 tV, .cellRen 64 0 600064, .cellRen 64 1 600065] (zam) := ⟨by kernel_rfl, by kernel_rfl, fun x => by kernel_rfl⟩
theorem ok_zam : io_zam.Okay pg (F_zam) := zcr zcg (zam_To) (zam_go) trivial
def e_zam : zcn := io_zam.sp (fun (a, b, c, d, e, f, i) => (wOK a b c d e f)) (fun (a, b, c, d, e, f, i) => (rq (chV (wgV a b c d e f) i)))
theorem sp_zam (h : ∀ (a : List Bool) (b : List Tk) (c : List Th) (d : List Lk) (e : List Int) (f : Int) (i : Int), WfT [.sl tB, .sl yK, .sl yH, .sl yL, .sl tI, tI, tI] (a, b, c, d, e, f, i) → ((wOK a b c d e f)) = true → (zam (a, b, c, d, e, f, i)).run (fun _ => none) = some (rq (chV (wgV a b c d e f) i))) : e_zam.ok pg := zct ok_zam fun (a, b, c, d, e, f, i) hw hc => h a b c d e f i hw hc
theorem e_zam_ok : e_zam.ok pg := sp_zam fun a b c d e f i _ hc => by
 obtain ⟨H, h8⟩ := zdx hc
 have hlc := H.lenC
 obtain ⟨s1, s2⟩ := wg_sum H
 rw [zam]
 simp only [RT.run]
 rw [if_pos hc, List.length_map]
 unfold chV
 cases hin : inB (wgV a b c d e f) i with
 | false =>
  rw [if_pos]
  ·rfl
  ·unfold inB at hin
   simp only [Bool.and_eq_false_iff, decide_eq_false_iff_not] at hin
   simp only [Bool.or_eq_true, decide_eq_true_eq]
   omega
 | true =>
  have hi := zcm.1 hin
  have hi' : 0 ≤ i ∧ i < (c.length : Int) := by rw [← wgV_len (a := a) (b := b) (c := c) (d := d) (e := e) (f := f)]; exact hi
  rw [if_neg (by simp; omega), if_pos (zcm.2 (by rw [List.length_map]; exact hi)), okS_map (n := 510) (fun q hq => (H.wg_mem q hq).2) (wg_hyp H).2 (by decide), if_pos rfl, sumQ_map fun q hq => (H.wg_mem q hq).1, zes rq hi, div_F (H.wg_sm hi').2 s2 (by decide) (by decide), Option.bind_some]
  unfold mkR chM
  by_cases hz : zcI (wgV a b c d e f) = 0
  ·have hd : (gI (wgV a b c d e f) i).den * (zcI (wgV a b c d e f)).num.toNat = 0 := by rw [hz]; simp
   rw [if_pos hd, if_pos (by decide), if_neg (by rw [decide_eq_false (fun h => h hz)]; decide)]
   rfl
  ·have hne : (gI (wgV a b c d e f) i).den * (zcI (wgV a b c d e f)).num.toNat ≠ 0 := Nat.mul_ne_zero (gI (wgV a b c d e f) i).den_nz (fun h => hz ((num_zero s1).1 h))
   rw [if_neg hne, if_neg (by simp), if_pos (by rw [decide_eq_true hz]; rfl)]
end
end Go.Proofs.YtlfdidaeachpoaaGreat
namespace Go.Proofs.YtlfdidaeachpoaaGreat
open Go
abbrev n_zM : Nat := 46
noncomputable abbrev f_zM : Func := Tryz.f46
abbrev n_zR : Nat := 49
noncomputable abbrev f_zR : Func := Tryz.f49
abbrev n_zP : Nat := 148
noncomputable abbrev f_zP : Func := Tryz.f148
abbrev n_zO : Nat := 183
noncomputable abbrev f_zO : Func := Tryz.f183
end Go.Proofs.YtlfdidaeachpoaaGreat
namespace Go.Proofs.YtlfdidaeachpoaaGreat
open Go Go.RowKit
set_option maxRecDepth 100000
noncomputable section
def zo : (List Int) → RT Unit (List Int)
| s =>
 .rq 2 (let t0 := zdF 8 [] s;
 .may (List.isEmpty s)
 (.ite true
 (.rq 1 (.done []))
 (.rq 2 (.req t0 (.rq 1 (.done ([] ++ s))))))
 (.ite false
 (.rq 1 (.done []))
 (.rq 2 (.req t0 (.rq 1 (.done ([] ++ s)))))))
def F_zo (x : (List Int)) : Option (List Int) := (zo x).run fun _ => none
def io_zo : Io := ⟨n_zo, [.sl tU], [.lf (qm 0)], [], [[.sl tU]], [.sl tU], .lf (qr 0), [], [(true, .arr 48 (qm 0))], false⟩
def zo_P : List zcd := []
def zo_T : zci := tab []
theorem zo_To : zch pg zo_T := zce trivial
theorem zo_go : zcu pg (zo_T) io_zo f_zo (zo_P) [.nilRow 2 800002 48 tU, .ren 2 700002, .ren 2 900002] (zo) := ⟨by kernel_rfl, by kernel_rfl, fun x => by kernel_rfl⟩
theorem ok_zo : io_zo.Okay pg (F_zo) := zcr zcg (zo_To) (zo_go) trivial
def e_zo : zcn := io_zo.sp (fun s => (okL 40 s)) (fun s => s)
theorem sp_zo (h : ∀ (s : List Int), WfT [.sl tU] s → ((okL 40 s)) = true → (zo s).run (fun _ => none) = some s) : e_zo.ok pg := zct ok_zo fun s hw hc => h s hw hc
theorem e_zo_ok : e_zo.ok pg := sp_zo fun s _ hc => by
 replace hc := okL40.1 hc
 have h : zdF 8 [] s = true := by rw [zej, ziu]; simp; omega
 unfold zo
 simp only [RT.run, h, List.nil_append, if_true, if_false, Bool.false_eq_true]
 cases s with
 | nil => simp [bothR]
 | cons a s => simp
def zbu : (List Int) → RT Unit ((List Int) × Int)
| l =>
 .rq 2 (.req ((okL 40 l)) (.rq 3 (.done (l, 0))))
def F_zbu (x : (List Int)) : Option ((List Int) × Int) := (zbu x).run fun _ => none
def io_zbu : Io := ⟨n_zbu, [.sl tU], [.lf (qm 0)], [], [[.sl tU]], [.sl tU, tI], .lf (qp 0), [], [(true, .cells [qm 0, qm 1])], true⟩
def zbu_P : List zcd := []
def zbu_T : zci := tab [e_zo]
theorem zbu_To : zch pg zbu_T := zce ⟨e_zo_ok, trivial⟩
theorem zbu_go : zcu pg (zbu_T) io_zbu f_zbu (zbu_P) [.cellDat 96, .cellDen 96 [.sl tU]] (zbu) := ⟨by kernel_rfl, by kernel_rfl, fun x => by kernel_rfl⟩
theorem ok_zbu : io_zbu.Okay pg (F_zbu) := zcr zcg (zbu_To) (zbu_go) trivial
def e_zbu : zcn := io_zbu.sp (fun l => (okL 40 l)) (fun l => (l, 0))
theorem sp_zbu (h : ∀ (l : List Int), WfT [.sl tU] l → ((okL 40 l)) = true → (zbu l).run (fun _ => none) = some (l, 0)) : e_zbu.ok pg := zct ok_zbu fun l hw hc => h l hw hc
theorem e_zbu_ok : e_zbu.ok pg := sp_zbu fun l _ hc => by
 rw [zbu]
 simp only [RT.run]
 rw [if_pos hc]
def zM : (Int × (List Int) × Int) → RT Unit (Int × (List Int) × Int)
| (a1, s_0, s_1) =>
 .rq 4 (.ite false
 (.rq 1 (.done (2, s_0, s_1)))
 (.rq 12 (.ite ((decide (a1 < 0)) || (decide ((s_0.length : Int) < a1)))
 (.rq 1 (.done (6, s_0, s_1)))
 (.rq 6 (.done (0, s_0, a1))))))
def F_zM (x : Int × (List Int) × Int) : Option (Int × (List Int) × Int) := (zM x).run fun _ => none
def io_zM : Io := ⟨n_zM, [tI, .sl tU, tI], [.lf (qp 0), .lf (qm 0)], [.cells [qm 1, qm 2]], [[], [tI]], [tI, .sl tU, tI], .lf (qm 0), [(true, .cells [qm 1, qm 2])], [], true⟩
def zM_P : List zcd := []
def zM_T : zci := tab []
theorem zM_To : zch pg zM_T := zce trivial
theorem zM_go : zcu pg (zM_T) io_zM f_zM (zM_P) [] (zM) := ⟨by kernel_rfl, by kernel_rfl, fun x => by kernel_rfl⟩
theorem ok_zM : io_zM.Okay pg (F_zM) := zcr zcg (zM_To) (zM_go) trivial
def seekV (k : Int) (l : List Int) (at_ : Int) : Int × List Int × Int := if (decide (k < 0) || decide ((l.length : Int) < k)) = true then (6, l, at_) else (0, l, k)
def e_zM : zcn := io_zM.sp (fun (k, l, at_) => true) (fun (k, l, at_) => (seekV k l at_))
theorem sp_zM (h : ∀ (k : Int) (l : List Int) (at_ : Int), WfT [tI, .sl tU, tI] (k, l, at_) → (zM (k, l, at_)).run (fun _ => none) = some (seekV k l at_)) : e_zM.ok pg := zct ok_zM fun (k, l, at_) hw hc => h k l at_ hw
theorem e_zM_ok : e_zM.ok pg := sp_zM fun k l at_ _ => by
 rw [zM]
 simp only [RT.run]
 unfold seekV
 rw [if_neg (by decide)]
 by_cases h : (decide (k < 0) || decide ((l.length : Int) < k)) = true
 ·rw [if_pos h, if_pos h]
 ·rw [if_neg h, if_neg h]
def zR : ((List Int) × Int) → RT Unit (Int × (List Int) × Int)
| (s_0, s_1) =>
 .rq 3 (.ite false
 (.rq 1 (.done (0, s_0, s_1)))
 (.rq 5 (.done (s_1, s_0, s_1))))
def F_zR (x : (List Int) × Int) : Option (Int × (List Int) × Int) := (zR x).run fun _ => none
def io_zR : Io := ⟨n_zR, [.sl tU, tI], [.lf (qp 0)], [.cells [qm 0, qm 1]], [[]], [tI, .sl tU, tI], .lf (qm 0), [(true, .cells [qm 1, qm 2])], [], true⟩
def zR_P : List zcd := []
def zR_T : zci := tab []
theorem zR_To : zch pg zR_T := zce trivial
theorem zR_go : zcu pg (zR_T) io_zR f_zR (zR_P) [] (zR) := ⟨by kernel_rfl, by kernel_rfl, fun x => by kernel_rfl⟩
theorem ok_zR : io_zR.Okay pg (F_zR) := zcr zcg (zR_To) (zR_go) trivial
def e_zR : zcn := io_zR.sp (fun (l, at_) => true) (fun (l, at_) => (at_, l, at_))
theorem sp_zR (h : ∀ (l : List Int) (at_ : Int), WfT [.sl tU, tI] (l, at_) → (zR (l, at_)).run (fun _ => none) = some (at_, l, at_)) : e_zR.ok pg := zct ok_zR fun (l, at_) hw hc => h l at_ hw
theorem e_zR_ok : e_zR.ok pg := sp_zR fun l at_ _ => by
 rw [zR]; rfl
def zO : ((List Int) × Int) → RT Unit (Int × Int × (List Int) × Int)
| (s_0, s_1) =>
 .rq 5 (.ite false
 (.rq 2 (.done (0, 2, s_0, s_1)))
 (.rq 11 (.ite (s_1 == (s_0.length : Int))
 (.rq 2 (.done (0, 11, s_0, s_1)))
 (.rq 8 (.req (inB s_0 s_1) (.rq 3 (.done (gI s_0 s_1, 0, s_0, s_1))))))))
def F_zO (x : (List Int) × Int) : Option (Int × Int × (List Int) × Int) := (zO x).run fun _ => none
def io_zO : Io := ⟨n_zO, [.sl tU, tI], [.lf (qp 0)], [.cells [qm 0, qm 1]], [[]], [tU, tI, .sl tU, tI], .tup [(false, [qm 0]), (false, [qm 1])], [(true, .cells [qm 2, qm 3])], [], true⟩
def zO_P : List zcd := []
def zO_T : zci := tab []
theorem zO_To : zch pg zO_T := zce trivial
theorem zO_go : zcu pg (zO_T) io_zO f_zO (zO_P) [] (zO) := ⟨by kernel_rfl, by kernel_rfl, fun x => by kernel_rfl⟩
theorem ok_zO : io_zO.Okay pg (F_zO) := zcr zcg (zO_To) (zO_go) trivial
def peekV (l : List Int) (at_ : Int) : Int × Int × List Int × Int := if (at_ == (l.length : Int)) = true then (0, 11, l, at_) else (gI l at_, 0, l, at_)
def e_zO : zcn := io_zO.sp (fun (l, at_) => (decide (0 ≤ at_) && decide (at_ ≤ (l.length : Int)))) (fun (l, at_) => (peekV l at_))
theorem sp_zO (h : ∀ (l : List Int) (at_ : Int), WfT [.sl tU, tI] (l, at_) → ((decide (0 ≤ at_) && decide (at_ ≤ (l.length : Int)))) = true → (zO (l, at_)).run (fun _ => none) = some (peekV l at_)) : e_zO.ok pg := zct ok_zO fun (l, at_) hw hc => h l at_ hw hc
theorem e_zO_ok : e_zO.ok pg := sp_zO fun l at_ _ hc => by
 rw [Bool.and_eq_true, decide_eq_true_eq, decide_eq_true_eq] at hc
 rw [zO]
 simp only [RT.run]
 unfold peekV
 rw [if_neg (by decide)]
 by_cases h : at_ = (l.length : Int)
 ·have hb : (at_ == (l.length : Int)) = true := by simpa using h
  rw [hb, if_pos rfl, if_pos rfl]
 ·have hb : (at_ == (l.length : Int)) = false := by simpa using h
  rw [hb, if_neg (by decide), if_pos (zcm.2 (by omega)), if_neg (by decide)]
def zP : ((List Int) × Int) → RT Unit (Int × Int × (List Int) × Int)
| (s_0, s_1) =>
 .rq 3 (.req ((decide (0 ≤ s_1) && decide (s_1 ≤ (s_0.length : Int)))) (.rq 7 (.ite (((peekV s_0 s_1)).2.1 == 0)
 (.rq 12 (.done (((peekV s_0 s_1)).1, ((peekV s_0 s_1)).2.1, ((peekV s_0 s_1)).2.2.1, w64 (((peekV s_0 s_1)).2.2.2 + 1))))
 (.rq 4 (.done (((peekV s_0 s_1)).1, ((peekV s_0 s_1)).2.1, ((peekV s_0 s_1)).2.2.1, ((peekV s_0 s_1)).2.2.2))))))
def F_zP (x : (List Int) × Int) : Option (Int × Int × (List Int) × Int) := (zP x).run fun _ => none
def io_zP : Io := ⟨n_zP, [.sl tU, tI], [.lf (qp 0)], [.cells [qm 0, qm 1]], [[]], [tU, tI, .sl tU, tI], .tup [(false, [qm 0]), (false, [qm 1])], [(true, .cells [qm 2, qm 3])], [], true⟩
def zP_P : List zcd := []
def zP_T : zci := tab [e_zO]
theorem zP_To : zch pg zP_T := zce ⟨e_zO_ok, trivial⟩
theorem zP_go : zcu pg (zP_T) io_zP f_zP (zP_P) [] (zP) := ⟨by kernel_rfl, by kernel_rfl, fun x => by kernel_rfl⟩
theorem ok_zP : io_zP.Okay pg (F_zP) := zcr zcg (zP_To) (zP_go) trivial
def zfF (l : List Int) (at_ : Int) : Int × Int × List Int × Int := if (at_ == (l.length : Int)) = true then (0, 11, l, at_) else (gI l at_, 0, l, at_ + 1)
def e_zP : zcn := io_zP.sp (fun (l, at_) => (decide (0 ≤ at_) && decide (at_ ≤ (l.length : Int)))) (fun (l, at_) => (zfF l at_))
theorem sp_zP (h : ∀ (l : List Int) (at_ : Int), WfT [.sl tU, tI] (l, at_) → ((decide (0 ≤ at_) && decide (at_ ≤ (l.length : Int)))) = true → (zP (l, at_)).run (fun _ => none) = some (zfF l at_)) : e_zP.ok pg := zct ok_zP fun (l, at_) hw hc => h l at_ hw hc
theorem e_zP_ok : e_zP.ok pg := sp_zP fun l at_ hw hc => by
 have hl : l.length ≤ 9223372036854775807 := hw.1.1
 have hc' := hc
 rw [Bool.and_eq_true, decide_eq_true_eq, decide_eq_true_eq] at hc'
 rw [zP]
 simp only [RT.run]
 rw [if_pos hc]
 unfold peekV zfF
 by_cases h : at_ = (l.length : Int)
 ·have hb : (at_ == (l.length : Int)) = true := by simpa using h
  simp only [hb, if_true]
  rfl
 ·have hb : (at_ == (l.length : Int)) = false := by simpa using h
  simp only [hb, Bool.false_eq_true, if_false]
  rw [if_pos (by decide), zcj (by omega)]
def zbx : Int → RT Unit Int
| t =>
 .rq 3 (.ite (t == 0)
 (.rq 1 (.done 0))
 (.rq 3 (.req (t != 0) (.rq 1 (.done (Int.tmod (zcv (0 - t)) t))))))
def F_zbx (x : Int) : Option Int := (zbx x).run fun _ => none
def io_zbx : Io := ⟨n_zbx, [tU], [.lf (qm 0)], [], [[tU]], [tU], .lf (qm 0), [], [], false⟩
def zbx_P : List zcd := []
def zbx_T : zci := tab []
theorem zbx_To : zch pg zbx_T := zce trivial
theorem zbx_go : zcu pg (zbx_T) io_zbx f_zbx (zbx_P) [] (zbx) := ⟨by kernel_rfl, by kernel_rfl, fun x => by kernel_rfl⟩
theorem ok_zbx : io_zbx.Okay pg (F_zbx) := zcr zcg (zbx_To) (zbx_go) trivial
def restV (t : Int) : Int := if (t == 0) = true then 0 else 18446744073709551616 % t
theorem restV_lt {t : Int} (h : 0 ≤ t) : 0 ≤ restV t ∧ (0 < t → restV t < t) := by
 unfold restV
 by_cases h0 : t = 0
 ·rw [if_pos (by simpa using h0)]; omega
 ·rw [if_neg (by simpa using h0)]
  exact ⟨Int.emod_nonneg _ h0, fun hp => Int.emod_lt_of_pos _ hp⟩
def e_zbx : zcn := io_zbx.sp (fun t => true) (fun t => (restV t))
theorem sp_zbx (h : ∀ (t : Int), WfT [tU] t → (zbx t).run (fun _ => none) = some (restV t)) : e_zbx.ok pg := zct ok_zbx fun t hw hc => h t hw
theorem e_zbx_ok : e_zbx.ok pg := sp_zbx fun t hw => by
 have ht : 0 ≤ t ∧ t < 18446744073709551616 := hw
 rw [zbx]
 simp only [RT.run]
 unfold restV
 by_cases h0 : t = 0
 ·have hb : (t == 0) = true := by simpa using h0
  rw [hb, if_pos rfl, if_pos rfl]
 ·have hb : (t == 0) = false := by simpa using h0
  rw [hb, if_neg (by decide), if_pos (by simpa using h0), if_neg (by decide)]
  have e1 : zcv (0 - t) = 18446744073709551616 - t := by rw [wu64_eq]; omega
  rw [e1, Int.tmod_eq_emod_of_nonneg (by omega), Int.sub_emod_right]
def zbp : (Int × Int) → RT Unit Bool
| (t, w) =>
 .rq 11 (.done ((decide (0 < t)) && (decide (w ≤ (zcv (18446744073709551615 - ((restV t))))))))
def F_zbp (x : Int × Int) : Option Bool := (zbp x).run fun _ => none
def io_zbp : Io := ⟨n_zbp, [tU, tU], [.lf (qm 0), .lf (qm 1)], [], [[tU], [tU]], [tB], .lf (qm 0), [], [], false⟩
def zbp_P : List zcd := []
def zbp_T : zci := tab [e_zbx]
theorem zbp_To : zch pg zbp_T := zce ⟨e_zbx_ok, trivial⟩
theorem zbp_go : zcu pg (zbp_T) io_zbp f_zbp (zbp_P) [] (zbp) := ⟨by kernel_rfl, by kernel_rfl, fun x => by kernel_rfl⟩
theorem ok_zbp : io_zbp.Okay pg (F_zbp) := zcr zcg (zbp_To) (zbp_go) trivial
def zdL (t w : Int) : Bool := decide (0 < t) && decide (w ≤ 18446744073709551615 - restV t)
def e_zbp : zcn := io_zbp.sp (fun (t, w) => true) (fun (t, w) => (zdL t w))
theorem sp_zbp (h : ∀ (t : Int) (w : Int), WfT [tU, tU] (t, w) → (zbp (t, w)).run (fun _ => none) = some (zdL t w)) : e_zbp.ok pg := zct ok_zbp fun (t, w) hw hc => h t w hw
theorem e_zbp_ok : e_zbp.ok pg := sp_zbp fun t w hw => by
 have ht : 0 ≤ t ∧ t < 18446744073709551616 := hw.1
 have hr := restV_lt ht.1
 rw [zbp]
 simp only [RT.run]
 unfold zdL
 by_cases h0 : 0 < t
 ·have := hr.2 h0
  rw [zcD (by omega)]
 ·rw [decide_eq_false h0, Bool.false_and, Bool.false_and]
def zbw : (Int × Int) → RT Unit (Int × Bool)
| (t, w) =>
 .rq 6 (.ite (!((zdL t w)))
 (.rq 2 (.done (0, false)))
 (.rq 2 (.req (t != 0) (.rq 2 (.done (Int.tmod w t, true))))))
def F_zbw (x : Int × Int) : Option (Int × Bool) := (zbw x).run fun _ => none
def io_zbw : Io := ⟨n_zbw, [tU, tU], [.lf (qm 0), .lf (qm 1)], [], [[tU], [tU]], [tU, tB], .tup [(false, [qm 0]), (false, [qm 1])], [], [], false⟩
def zbw_P : List zcd := []
def zbw_T : zci := tab [e_zbp]
theorem zbw_To : zch pg zbw_T := zce ⟨e_zbp_ok, trivial⟩
theorem zbw_go : zcu pg (zbw_T) io_zbw f_zbw (zbw_P) [] (zbw) := ⟨by kernel_rfl, by kernel_rfl, fun x => by kernel_rfl⟩
theorem ok_zbw : io_zbw.Okay pg (F_zbw) := zcr zcg (zbw_To) (zbw_go) trivial
def tellV (t w : Int) : Int × Bool := if zdL t w = true then (w % t, true) else (0, false)
def e_zbw : zcn := io_zbw.sp (fun (t, w) => true) (fun (t, w) => (tellV t w))
theorem sp_zbw (h : ∀ (t : Int) (w : Int), WfT [tU, tU] (t, w) → (zbw (t, w)).run (fun _ => none) = some (tellV t w)) : e_zbw.ok pg := zct ok_zbw fun (t, w) hw hc => h t w hw
theorem e_zbw_ok : e_zbw.ok pg := sp_zbw fun t w hw => by
 have hw1 : 0 ≤ w ∧ w < 18446744073709551616 := hw.2
 rw [zbw]
 simp only [RT.run]
 unfold tellV
 cases h : zdL t w with
 | false => rfl
 | true =>
  have h0 : 0 < t := by unfold zdL at h; rw [Bool.and_eq_true] at h; exact of_decide_eq_true h.1
  rw [if_neg (by decide), if_pos (by simp; omega), if_pos rfl, Int.tmod_eq_emod_of_nonneg (by omega)]
def zaC_b30 : (Int × Int) → ((List Int) × Int) → RT ((List Int) × Int) (Int × Int × (List Int) × Int)
| (t, was), (p0_0, p0_1) =>
 .rq 1 (.req ((decide (0 ≤ p0_1) && decide (p0_1 ≤ (p0_0.length : Int)))) (.rq 7 (.ite (((zfF p0_0 p0_1)).2.1 != 0)
 (.rq 6 (let t0 := (seekV was ((zfF p0_0 p0_1)).2.2.1 ((zfF p0_0 p0_1)).2.2.2);
 .done (0, ((zfF p0_0 p0_1)).2.1, t0.2.1, t0.2.2)))
 (.rq 9 (let t1 := (tellV t ((zfF p0_0 p0_1)).1);
 .ite t1.2
 (.rq 3 (.done (t1.1, 0, ((zfF p0_0 p0_1)).2.2.1, ((zfF p0_0 p0_1)).2.2.2)))
 (.again (((zfF p0_0 p0_1)).2.2.1, ((zfF p0_0 p0_1)).2.2.2)))))))
def zaC_p30 : zcd := ⟨30, true, [tU, tI], [.sl tU, tI], ⟨[.keep [0, 1, 6], .gc], [0, 1, 6], [.lf (qp 1048576), .lf (qi 0), .lf (qi 1)], [(1048576, true, .cells [qm 0, qm 1])]⟩, [⟨1, ⟨[.keep [4, 5], .gc], [4, 5], [.lf (qm 0), .lf (qm 1)], [(1048576, true, .cells [qm 2, qm 3])]⟩, [tU, tI, .sl tU, tI]⟩], zaC_b30⟩
def zaC : (Int × (List Int) × Int) → RT Unit (Int × Int × (List Int) × Int)
| (t, s_0, s_1) =>
 .rq 5 (.ite false
 (.rq 2 (.done (0, 2, s_0, s_1)))
 (.rq 3 (.ite (t == 0)
 (.rq 2 (.done (0, 1, s_0, s_1)))
 (.rq 3 (.call (lo zaC_b30 (t, s_1) (s_0, s_1)) default fun v0 =>
 .done (v0.1, v0.2.1, v0.2.2.1, v0.2.2.2))))))
def F_zaC (x : Int × (List Int) × Int) : Option (Int × Int × (List Int) × Int) := (zaC x).run fun _ => none
def io_zaC : Io := ⟨n_zaC, [tU, .sl tU, tI], [.lf (qp 0), .lf (qm 0)], [.cells [qm 1, qm 2]], [[], [tU]], [tU, tI, .sl tU, tI], .tup [(false, [qm 0]), (false, [qm 1])], [(true, .cells [qm 2, qm 3])], [], true⟩
def zaC_P : List zcd := [zaC_p30]
def zaC_T : zci := tab [e_zbw, e_zP, e_zR, e_zM]
theorem zaC_To : zch pg zaC_T := zce ⟨e_zbw_ok, e_zP_ok, e_zR_ok, e_zM_ok, trivial⟩
theorem zaC_k30 : (zaC_p30).OK pg (zaC_T) (zcz 38 (zaC_P)) (zcq f_zaC) 38 := ⟨by kernel_rfl, fun i x => by kernel_rfl⟩
theorem zaC_go : zcu pg (zaC_T) io_zaC f_zaC (zaC_P) [] (zaC) := ⟨by kernel_rfl, by kernel_rfl, fun x => by kernel_rfl⟩
theorem ok_zaC : io_zaC.Okay pg (F_zaC) := zcr zcg (zaC_To) (zaC_go) ⟨zaC_k30, trivial⟩
def firstV (t : Int) (l : List Int) (at_ : Int) : Option Nat := (l.drop at_.toNat).findIdx? (zdL t)
def fromV (t : Int) (l : List Int) (at_ : Int) : Int × Int × List Int × Int := if (t == 0) = true then (0, 1, l, at_) else match firstV t l at_ with
 | some j => (gI l (at_ + (j : Int)) % t, 0, l, at_ + (j : Int) + 1)
 | none => (0, 11, l, at_)
theorem from_loop (t : Int) (l : List Int) (was : Int) (hw : 0 ≤ was ∧ was ≤ (l.length : Int)) (hl : l.length ≤ 9223372036854775807) : ∀ (n i : Nat), i + n = l.length →
  lo zaC_b30 (t, was) (l, (i : Int)) = some (match (l.drop i).findIdx? (zdL t) with
   | some j => (gI l ((i : Int) + (j : Int)) % t, 0, l, (i : Int) + (j : Int) + 1)
   | none => (0, 11, l, was))
 | 0, i, h => by
  have ht : zfF l (i : Int) = (0, 11, l, (i : Int)) := by unfold zfF; rw [if_pos (by simp; omega)]
  have hs : seekV was l (i : Int) = (0, l, was) := by unfold seekV; rw [if_neg (by simp; omega)]
  rw [zco, zaC_b30]
  simp only [RT.run, ht, hs]
  rw [if_pos (by simp; omega), if_pos (by decide), List.drop_eq_nil_of_le (by omega)]
  rfl
 | n + 1, i, h => by
  have hi : i < l.length := by omega
  have ht : zfF l (i : Int) = (l[i], 0, l, (i : Int) + 1) := by unfold zfF; rw [if_neg (by simp; omega), zcG hi]
  rw [zco, zaC_b30]
  simp only [RT.run, ht]
  rw [if_pos (by simp; omega), if_neg (by decide), List.drop_eq_getElem_cons hi, List.findIdx?_cons]
  unfold tellV
  cases hk : zdL t l[i] with
  | true =>
   simp only [if_true]
   rw [show (i : Int) + ((0 : Nat) : Int) = (i : Int) by omega, zcG hi]
  | false =>
   simp only [Bool.false_eq_true, if_false]
   rw [show (i : Int) + 1 = ((i + 1 : Nat) : Int) by omega, from_loop t l was hw hl n (i + 1) (by omega)]
   cases (l.drop (i + 1)).findIdx? (zdL t) with
   | none => rfl
   | some j =>
    simp only [Option.map_some]
    rw [show ((i + 1 : Nat) : Int) + (j : Int) = (i : Int) + ((j + 1 : Nat) : Int) by omega]
def e_zaC : zcn := io_zaC.sp (fun (t, l, at_) => (decide (0 ≤ at_) && decide (at_ ≤ (l.length : Int)))) (fun (t, l, at_) => (fromV t l at_))
theorem sp_zaC (h : ∀ (t : Int) (l : List Int) (at_ : Int), WfT [tU, .sl tU, tI] (t, l, at_) → ((decide (0 ≤ at_) && decide (at_ ≤ (l.length : Int)))) = true → (zaC (t, l, at_)).run (fun _ => none) = some (fromV t l at_)) : e_zaC.ok pg := zct ok_zaC fun (t, l, at_) hw hc => h t l at_ hw hc
theorem e_zaC_ok : e_zaC.ok pg := sp_zaC fun t l at_ hw hc => by
 have hl : l.length ≤ 9223372036854775807 := hw.2.1.1
 have hc' := hc
 rw [Bool.and_eq_true, decide_eq_true_eq, decide_eq_true_eq] at hc'
 obtain ⟨i, rfl⟩ := Int.eq_ofNat_of_zero_le hc'.1
 have := from_loop t l (i : Int) hc' hl (l.length - i) i (by omega)
 rw [zaC]
 simp only [RT.run]
 unfold fromV firstV
 rw [if_neg (by decide), Int.toNat_natCast]
 by_cases h0 : (t == 0) = true
 ·rw [if_pos h0, if_pos h0]
 ·rw [if_neg h0, if_neg h0, this, Option.bind_some]
def zq : ((List Bool) × (List Tk) × (List Th) × (List Lk) × (List Int) × Int × (List Int) × Int) → RT Unit (Int × Int × (List Int) × Int)
| (s_0, s_1, s_2, s_3, s_4, s_5, w_0, w_1) =>
 .rq 5 (.ite false
 (.rq 2 (.done ((-1), 2, w_0, w_1)))
 (.rq 1 (.req ((wOK s_0 s_1 s_2 s_3 s_4 s_5)) (.rq 8 (let t0 := (opB (brV (wgV s_0 s_1 s_2 s_3 s_4 s_5)));
 .ite (t0.2.2.1 != 0)
 (.rq 3 (.done ((-1), t0.2.2.1, w_0, w_1)))
 (.rq 3 (.req ((decide (0 ≤ w_1) && decide (w_1 ≤ (w_0.length : Int)))) (.rq 7 (let t1 := (fromV t0.2.1 w_0 w_1);
 .ite (t1.2.1 != 0)
 (.rq 3 (.done ((-1), t1.2.1, t1.2.2.1, t1.2.2.2)))
 (.rq 3 (.req ((decide (t0.2.2.2.length ≤ 100000) && decide ((zdh t0.2.2.2).sum < 18446744073709551616))) (.rq 8 (.done (zds (zdh t0.2.2.2) t1.1.toNat 0, 0, t1.2.2.1, t1.2.2.2))))))))))))))
def F_zq (x : (List Bool) × (List Tk) × (List Th) × (List Lk) × (List Int) × Int × (List Int) × Int) : Option (Int × Int × (List Int) × Int) := (zq x).run fun _ => none
def io_zq : Io := ⟨n_zq, [.sl tB, .sl yK, .sl yH, .sl yL, .sl tI, tI, .sl tU, tI], [.agg [qm 0, qm 1, qm 2, qm 3, qm 4, qm 5], .lf (qp 0)], [.cells [qm 6, qm 7]], [[.sl tB, .sl yK, .sl yH, .sl yL, .sl tI, tI], []], [tI, tI, .sl tU, tI], .tup [(false, [qm 0]), (false, [qm 1])], [(true, .cells [qm 2, qm 3])], [], true⟩
def zq_P : List zcd := []
def zq_T : zci := tab [e_zaC, e_zar, e_zI]
theorem zq_To : zch pg zq_T := zce ⟨e_zaC_ok, e_zar_ok, e_zI_ok, trivial⟩
theorem zq_go : zcu pg (zq_T) io_zq f_zq (zq_P) [] (zq) := ⟨by kernel_rfl, by kernel_rfl, fun x => by kernel_rfl⟩
theorem ok_zq : io_zq.Okay pg (F_zq) := zcr zcg (zq_To) (zq_go) trivial
def drawV (x : Br) (l : List Int) (at_ : Int) : Int × Int × List Int × Int := if (x.2.2.1 != 0) = true then (-1, x.2.2.1, l, at_) else if (x.2.1 == 0) = true then (-1, 16, l, at_) else
 match firstV x.2.1 l at_ with
 | some j => (zds (zdh x.2.2.2) (gI l (at_ + (j : Int)) % x.2.1).toNat 0, 0, l, at_ + (j : Int) + 1)
 | none => (-1, 11, l, at_)
def e_zq : zcn := io_zq.sp (fun (a, b, c, d, e, f, l, at_) => (wOK a b c d e f && (decide (0 ≤ at_) && decide (at_ ≤ (l.length : Int))))) (fun (a, b, c, d, e, f, l, at_) => (drawV (brV (wgV a b c d e f)) l at_))
theorem sp_zq (h : ∀ (a : List Bool) (b : List Tk) (c : List Th) (d : List Lk) (e : List Int) (f : Int) (l : List Int) (at_ : Int), WfT [.sl tB, .sl yK, .sl yH, .sl yL, .sl tI, tI, .sl tU, tI] (a, b, c, d, e, f, l, at_) → ((wOK a b c d e f && (decide (0 ≤ at_) && decide (at_ ≤ (l.length : Int))))) = true → (zq (a, b, c, d, e, f, l, at_)).run (fun _ => none) = some (drawV (brV (wgV a b c d e f)) l at_)) : e_zq.ok pg := zct ok_zq fun (a, b, c, d, e, f, l, at_) hw hc => h a b c d e f l at_ hw hc
theorem e_zq_ok : e_zq.ok pg := sp_zq fun a b c d e f l at_ _ hc => by
 rw [Bool.and_eq_true] at hc
 obtain ⟨H, h8⟩ := zdx hc.1
 obtain ⟨b1, b2, b3⟩ := brV_sum (wgV a b c d e f) (wg_hyp H).2
 rw [zq]
 simp only [RT.run]
 rw [if_neg (by decide), if_pos hc.1]
 generalize brV (wgV a b c d e f) = x at *
 unfold drawV
 by_cases h1 : x.2.2.1 = 0
 ·have e1 : (x.2.2.1 == 0) = true := by simpa using h1
  have e2 : ¬ (x.2.2.1 != 0) = true := by simpa using h1
  rw [if_neg e2]
  by_cases h2 : (x.2.1 == 0) = true
  ·have ho : opB x = (x.1, x.2.1, 16, x.2.2.2) := by unfold opB; rw [e1, h2]; rfl
   rw [ho, if_pos h2, if_pos (show ((16 : Int) != 0) = true by decide)]
  ·have ho : opB x = x := by unfold opB; rw [e1, Bool.eq_false_iff.2 h2]; rfl
   rw [ho, if_neg h2, if_neg e2, if_pos hc.2]
   unfold fromV
   rw [if_neg h2]
   cases firstV x.2.1 l at_ with
   | none => rfl
   | some j =>
    dsimp only
    rw [if_neg (by decide), if_pos (by rw [decide_eq_true b1, decide_eq_true b2]; rfl)]
 ·have e1 : (x.2.2.1 == 0) = false := by simpa using h1
  have e2 : (x.2.2.1 != 0) = true := by simpa using h1
  have ho : opB x = x := by unfold opB; rw [e1]; rfl
  rw [ho, if_pos e2, if_pos e2]
def zad : ((List Bool) × (List Tk) × (List Th) × (List Lk) × (List Int) × Int) → RT Unit (Int × Int)
| (s_0, s_1, s_2, s_3, s_4, s_5) =>
 .rq 5 (.ite true
 (.rq 2 (.done ((-1), 2)))
 (.rq 1 (.req ((wOK s_0 s_1 s_2 s_3 s_4 s_5)) (.rq 8 (.ite (((opB (brV (wgV s_0 s_1 s_2 s_3 s_4 s_5)))).2.2.1 != 0)
 (.rq 3 (.done ((-1), ((opB (brV (wgV s_0 s_1 s_2 s_3 s_4 s_5)))).2.2.1)))
 (.rq 3 (.fail)))))))
def F_zad (x : (List Bool) × (List Tk) × (List Th) × (List Lk) × (List Int) × Int) : Option (Int × Int) := (zad x).run fun _ => none
def io_zad : Io := ⟨n_zq, [.sl tB, .sl yK, .sl yH, .sl yL, .sl tI, tI], [.agg [qm 0, qm 1, qm 2, qm 3, qm 4, qm 5], .lf (.fix (.nilp))], [], [[.sl tB, .sl yK, .sl yH, .sl yL, .sl tI, tI], []], [tI, tI], .tup [(false, [qm 0]), (false, [qm 1])], [], [], false⟩
def zad_P : List zcd := []
def zad_T : zci := tab [e_zar]
theorem zad_To : zch pg zad_T := zce ⟨e_zar_ok, trivial⟩
theorem zad_go : zcu pg (zad_T) io_zad f_zq (zad_P) [] (zad) := ⟨by kernel_rfl, by kernel_rfl, fun x => by kernel_rfl⟩
theorem ok_zad : io_zad.Okay pg (F_zad) := zcr zcg (zad_To) (zad_go) trivial
def e_zad : zcn := io_zad.sp (fun (a, b, c, d, e, f) => true) (fun (a, b, c, d, e, f) => (-1, 2))
theorem sp_zad (h : ∀ (a : List Bool) (b : List Tk) (c : List Th) (d : List Lk) (e : List Int) (f : Int), WfT [.sl tB, .sl yK, .sl yH, .sl yL, .sl tI, tI] (a, b, c, d, e, f) → (zad (a, b, c, d, e, f)).run (fun _ => none) = some (-1, 2)) : e_zad.ok pg := zct ok_zad fun (a, b, c, d, e, f) hw hc => h a b c d e f hw
theorem e_zad_ok : e_zad.ok pg := sp_zad fun a b c d e f _ => by
 rw [zad]; rfl
def zbt : Unit → RT Unit (List Int)
| _ =>
 .rq 4 (.done [0, 0, 0, 0, 1])
def F_zbt (x : Unit) : Option (List Int) := (zbt x).run fun _ => none
def io_zbt : Io := ⟨n_zbt, [], [], [], [], [.sl tI], .agg [qr 0], [], [(true, .arr 3 (qm 0))], false⟩
def zbt_P : List zcd := []
def zbt_T : zci := tab []
theorem zbt_To : zch pg zbt_T := zce trivial
theorem zbt_go : zcu pg (zbt_T) io_zbt f_zbt (zbt_P) [.cellRow 0 0 600000 3 tI, .cellRen 0 0 600000] (zbt) := ⟨by kernel_rfl, by kernel_rfl, fun x => by kernel_rfl⟩
theorem ok_zbt : io_zbt.Okay pg (F_zbt) := zcr zcg (zbt_To) (zbt_go) trivial
def e_zbt : zcn := io_zbt.sp (fun _ => true) (fun _ => [0, 0, 0, 0, 1])
theorem sp_zbt (h : (zbt ()).run (fun _ => none) = some [0, 0, 0, 0, 1]) : e_zbt.ok pg := zct ok_zbt fun _ _ hc => h
theorem e_zbt_ok : e_zbt.ok pg := sp_zbt (by rw [zbt]; rfl)
theorem whole_val : val B16 [0, 0, 0, 0, 1] = 18446744073709551616 := by decide
def zbK : Int → RT Unit Int
| t =>
 .rq 3 (.ite (t == 0)
 (.rq 1 (.done 0))
 (.rq 3 (.req (okM 37 ([0, 0, 0, 0, 1]) && (okM 37 (zcf B16 t.toNat) && decide (0 < val B16 (zcf B16 t.toNat)))) (.rq 8 (let t0 := zcf B16 (val B16 ([0, 0, 0, 0, 1]) % val B16 (zcf B16 t.toNat));
 .req (wfd B16 t0) (.rq 7 (.done (if t0.length ≤ 4 then ((val B16 t0 : Nat) : Int) else 0))))))))
def F_zbK (x : Int) : Option Int := (zbK x).run fun _ => none
def io_zbK : Io := ⟨n_zbK, [tU], [.lf (qm 0)], [], [[tU]], [tU], .lf (qm 0), [], [], false⟩
def zbK_P : List zcd := []
def zbK_T : zci := tab [e_zbt, e_zah, e_zaF, e_zbi]
theorem zbK_To : zch pg zbK_T := zce ⟨e_zbt_ok, e_zah_ok, e_zaF_ok, zhU, trivial⟩
theorem zbK_go : zcu pg (zbK_T) io_zbK f_zbK (zbK_P) [] (zbK) := ⟨by kernel_rfl, by kernel_rfl, fun x => by kernel_rfl⟩
theorem ok_zbK : io_zbK.Okay pg (F_zbK) := zcr zcg (zbK_To) (zbK_go) trivial
def e_zbK : zcn := io_zbK.sp (fun t => true) (fun t => (restV t))
theorem sp_zbK (h : ∀ (t : Int), WfT [tU] t → (zbK t).run (fun _ => none) = some (restV t)) : e_zbK.ok pg := zct ok_zbK fun t hw hc => h t hw
theorem e_zbK_ok : e_zbK.ok pg := sp_zbK fun t hw => by
 have ht : 0 ≤ t ∧ t < 18446744073709551616 := hw
 rw [zbK]
 simp only [RT.run, whole_val, zcy (show 2 ≤ B16 by decide)]
 unfold restV
 by_cases h0 : t = 0
 ·have hb : (t == 0) = true := by simpa using h0
  rw [hb, if_pos rfl, if_pos rfl]
 ·obtain ⟨n, rfl⟩ := Int.eq_ofNat_of_zero_le ht.1
  have hn : 0 < n := by omega
  have hlt := Nat.mod_lt 18446744073709551616 hn
  have hf : (zcf B16 (18446744073709551616 % n)).length ≤ 4 := (zgR _).2 (by omega)
  have hg : (zcf B16 n).length ≤ 4 := (zgR _).2 (by omega)
  have hb : (((n : Nat) : Int) == 0) = false := by simpa using h0
  rw [hb, if_neg (by decide), Int.toNat_natCast, if_pos (by
   rw [Bool.and_eq_true, Bool.and_eq_true, zcY, zcY, decide_eq_true_eq]
   exact ⟨by decide, ⟨by omega, zcP (by decide) _⟩, hn⟩), if_pos (zcP (by decide) _), if_pos hf, if_neg (by decide)]
  rfl
def zaU_b12 : (Int × Int) → RT Unit Bool
| (t, w) =>
 .rq 3 (.ite (t == 0)
 (.rq 1 (.done true))
 (.rq 6 (.req (okM 39 ([0, 0, 0, 0, 1]) && (okM 39 (zcf B16 ((restV t)).toNat) && decide (val B16 (zcf B16 ((restV t)).toNat) ≤ val B16 ([0, 0, 0, 0, 1])))) (let t0 := zcf B16 (val B16 ([0, 0, 0, 0, 1]) - val B16 (zcf B16 ((restV t)).toNat));
 .req (wfd B16 (zcf B16 w.toNat) && wfd B16 t0) (.rq 2 (.done (decide (0 ≤ (zdm ((val B16 (zcf B16 w.toNat) : Nat) : Int) ((val B16 t0 : Nat) : Int))))))))))
def zaU_p12 : zcd := ⟨12, false, [tU, tU], [], ⟨[.keep [0, 1], .gc], [0, 1], [.lf (qi 0), .lf (qi 1)], []⟩, [⟨0, ⟨[.keep [0, 1, 18], .gc], [0, 1, 18], [.lf (qi 0), .lf (qi 1), .lf (qm 0)], []⟩, [tB]⟩], (fun i _ => zaU_b12 i)⟩
def zaU : (Int × Int) → RT Unit (Int × Bool)
| (t, w) =>
 .rq 2 (.call (on zaU_b12 (t, w)) default fun v0 =>
 .ite v0
 (.rq 2 (.done (0, false)))
 (.rq 2 (.req (t != 0) (.rq 2 (.done (Int.tmod w t, true))))))
def F_zaU (x : Int × Int) : Option (Int × Bool) := (zaU x).run fun _ => none
def io_zaU : Io := ⟨n_zaU, [tU, tU], [.lf (qm 0), .lf (qm 1)], [], [[tU], [tU]], [tU, tB], .tup [(false, [qm 0]), (false, [qm 1])], [], [], false⟩
def zaU_P : List zcd := [zaU_p12]
def zaU_T : zci := tab [e_zbK, e_zbt, e_zbb, e_zaw, e_zbi]
theorem zaU_To : zch pg zaU_T := zce ⟨e_zbK_ok, e_zbt_ok, e_zbb_ok, e_zaw_ok, zhU, trivial⟩
theorem zaU_k12 : (zaU_p12).OK pg (zaU_T) (zcz 22 (zaU_P)) (zcq f_zaU) 22 := ⟨by kernel_rfl, fun i x => by kernel_rfl⟩
theorem zaU_go : zcu pg (zaU_T) io_zaU f_zaU (zaU_P) [] (zaU) := ⟨by kernel_rfl, by kernel_rfl, fun x => by kernel_rfl⟩
theorem ok_zaU : io_zaU.Okay pg (F_zaU) := zcr zcg (zaU_To) (zaU_go) ⟨zaU_k12, trivial⟩
def e_zaU : zcn := io_zaU.sp (fun (t, w) => true) (fun (t, w) => (tellV t w))
theorem sp_zaU (h : ∀ (t : Int) (w : Int), WfT [tU, tU] (t, w) → (zaU (t, w)).run (fun _ => none) = some (tellV t w)) : e_zaU.ok pg := zct ok_zaU fun (t, w) hw hc => h t w hw
theorem e_zaU_ok : e_zaU.ok pg := sp_zaU fun t w hw => by
 have ht : 0 ≤ t ∧ t < 18446744073709551616 := hw.1
 have hw1 : 0 ≤ w ∧ w < 18446744073709551616 := hw.2
 have hr := restV_lt ht.1
 have hb : on zaU_b12 (t, w) = some (!zdL t w) := by
  show (zaU_b12 _).run _ = _
  rw [zaU_b12]
  simp only [RT.run, whole_val, zcy (show 2 ≤ B16 by decide)]
  unfold zdL
  by_cases h0 : t = 0
  ·rw [if_pos (by simpa using h0), decide_eq_false (show ¬ 0 < t by omega)]; rfl
  ·have hp : 0 < t := by omega
   have hrt := hr.2 hp
   obtain ⟨r, hr'⟩ := Int.eq_ofNat_of_zero_le hr.1
   obtain ⟨v, rfl⟩ := Int.eq_ofNat_of_zero_le hw1.1
   rw [hr'] at hrt ⊢
   have hg : (zcf B16 r).length ≤ 4 := (zgR _).2 (by omega)
   rw [if_neg (by simpa using h0), Int.toNat_natCast, Int.toNat_natCast, if_pos (by
    rw [Bool.and_eq_true, Bool.and_eq_true, zcY, zcY, decide_eq_true_eq]
    exact ⟨by decide, ⟨by omega, zcP (by decide) _⟩, by omega⟩), if_pos (by rw [zcP (by decide), zcP (by decide)]; rfl), decide_eq_true hp, Bool.true_and]
   congr 1
   have hcm : ∀ x y : Int, (0 ≤ zdm x y ↔ y ≤ x) := fun x y => by unfold zdm; split <;> (try split) <;> omega
   rw [Bool.eq_iff_iff, decide_eq_true_eq, hcm, Bool.not_eq_true', decide_eq_false_iff_not]
   omega
 rw [zaU]
 simp only [RT.run]
 rw [hb, Option.bind_some]
 unfold tellV
 cases h : zdL t w with
 | false => rfl
 | true =>
  have h0 : 0 < t := by unfold zdL at h; rw [Bool.and_eq_true] at h; exact of_decide_eq_true h.1
  rw [if_neg (by decide), if_pos (by simp; omega), if_pos rfl, Int.tmod_eq_emod_of_nonneg (by omega)]
def zaR_b26 : ((List Int) × Int) → Int → RT Int (LR (Int × Int) Unit)
| (l, t), i =>
 .rq 4 (.ite (decide (i < (l.length : Int)))
 (.rq 3 (.req (inB l i) (.rq 8 (let t0 := w64 (i + 1);
 let t1 := (tellV t (gI l i));
 .ite t1.2
 (.rq 5 (.done (.ex (t1.1, t0))))
 (.rq 3 (.again t0))))))
 (.done (.rt ())))
def zaR_p26 : zcd := ⟨26, true, [.sl tU, tU], [tI], ⟨[.keep [0, 1, 6], .gc], [0, 1, 6], [.lf (qi 0), .lf (qi 1), .lf (qm 0)], []⟩, [⟨1, ⟨[.keep [4, 5], .gc], [4, 5], [.lf (qm 0), .lf (qm 1)], []⟩, [tU, tI]⟩, ⟨2, ⟨[.keep [], .gc], [], [], []⟩, []⟩], zaR_b26⟩
def zaR : ((List Int) × Int) → RT Unit (Int × Int)
| (l, t) =>
 .rq 3 (.call (lo zaR_b26 (l, t) 0) default fun v0 =>
 .ite v0.isRt
 (.rq 2 (.done (0, 0)))
 (.done (v0.getX.1, v0.getX.2)))
def F_zaR (x : (List Int) × Int) : Option (Int × Int) := (zaR x).run fun _ => none
def io_zaR : Io := ⟨n_zaR, [.sl tU, tU], [.lf (qm 0), .lf (qm 1)], [], [[.sl tU], [tU]], [tU, tI], .tup [(false, [qm 0]), (false, [qm 1])], [], [], false⟩
def zaR_P : List zcd := [zaR_p26]
def zaR_T : zci := tab [e_zaU]
theorem zaR_To : zch pg zaR_T := zce ⟨e_zaU_ok, trivial⟩
theorem zaR_k26 : (zaR_p26).OK pg (zaR_T) (zcz 28 (zaR_P)) (zcq f_zaR) 28 := ⟨by kernel_rfl, fun i x => by kernel_rfl⟩
theorem zaR_go : zcu pg (zaR_T) io_zaR f_zaR (zaR_P) [] (zaR) := ⟨by kernel_rfl, by kernel_rfl, fun x => by kernel_rfl⟩
theorem ok_zaR : io_zaR.Okay pg (F_zaR) := zcr zcg (zaR_To) (zaR_go) ⟨zaR_k26, trivial⟩
theorem fromR_loop (t : Int) (l : List Int) (hl : l.length ≤ 9223372036854775807) : ∀ (n i : Nat), i + n = l.length →
  lo zaR_b26 (l, t) (i : Int) = some (match (l.drop i).findIdx? (zdL t) with
   | some j => .ex (gI l ((i : Int) + (j : Int)) % t, (i : Int) + (j : Int) + 1)
   | none => .rt ())
 | 0, i, h => by
  rw [zco, zaR_b26]
  simp only [RT.run]
  rw [if_neg (by simp; omega), List.drop_eq_nil_of_le (by omega)]
  rfl
 | n + 1, i, h => by
  have hi : i < l.length := by omega
  rw [zco, zaR_b26]
  simp only [RT.run, zcG hi]
  rw [if_pos (by simp; omega), if_pos (zcm.2 ⟨by omega, by omega⟩), zcj (by omega), List.drop_eq_getElem_cons hi, List.findIdx?_cons]
  unfold tellV
  cases hk : zdL t l[i] with
  | true =>
   simp only [if_true]
   rw [show (i : Int) + ((0 : Nat) : Int) = (i : Int) by omega, zcG hi]
  | false =>
   simp only [Bool.false_eq_true, if_false]
   rw [show (i : Int) + 1 = ((i + 1 : Nat) : Int) by omega, fromR_loop t l hl n (i + 1) (by omega)]
   cases (l.drop (i + 1)).findIdx? (zdL t) with
   | none => rfl
   | some j =>
    simp only [Option.map_some]
    rw [show ((i + 1 : Nat) : Int) + (j : Int) = (i : Int) + ((j + 1 : Nat) : Int) by omega]
def fromR (l : List Int) (t : Int) : Int × Int := match l.findIdx? (zdL t) with
 | some j => (gI l (j : Int) % t, (j : Int) + 1)
 | none => (0, 0)
def e_zaR : zcn := io_zaR.sp (fun (l, t) => true) (fun (l, t) => (fromR l t))
theorem sp_zaR (h : ∀ (l : List Int) (t : Int), WfT [.sl tU, tU] (l, t) → (zaR (l, t)).run (fun _ => none) = some (fromR l t)) : e_zaR.ok pg := zct ok_zaR fun (l, t) hw hc => h l t hw
theorem e_zaR_ok : e_zaR.ok pg := sp_zaR fun l t hw => by
 have hl : l.length ≤ 9223372036854775807 := hw.1.1
 have := fromR_loop t l hl l.length 0 (by omega)
 rw [List.drop_zero, show ((0 : Nat) : Int) = 0 from rfl] at this
 rw [zaR]
 simp only [RT.run]
 rw [this]
 unfold fromR
 cases l.findIdx? (zdL t) with
 | none => rfl
 | some j =>
  simp only [Option.bind_some, LR.isRt, LR.getX, Int.zero_add, Bool.false_eq_true, if_false]
def zbN : ((List Bool) × (List Tk) × (List Th) × (List Lk) × (List Int) × Int × (List Int)) → RT Unit (Int × Int × Int)
| (s_0, s_1, s_2, s_3, s_4, s_5, l) =>
 .rq 5 (.req ((wOK s_0 s_1 s_2 s_3 s_4 s_5)) (.rq 8 (let t0 := (brV (wgV s_0 s_1 s_2 s_3 s_4 s_5));
 .ite (t0.2.2.1 != 0)
 (.rq 4 (.done ((-1), 0, t0.2.2.1)))
 (.rq 3 (.ite (t0.2.1 == 0)
 (.rq 3 (.done ((-1), 0, 16)))
 (.rq 11 (let t1 := (fromR l t0.2.1);
 .ite (t1.2 == 0)
 (.rq 3 (.done ((-1), 0, 11)))
 (.rq 3 (.req ((decide (t0.2.2.2.length ≤ 100000) && decide (t1.1.toNat < (zdh t0.2.2.2).sum))) (.rq 4 (.done ((zds (zdh t0.2.2.2) t1.1.toNat 0), t1.2, 0))))))))))))
def F_zbN (x : (List Bool) × (List Tk) × (List Th) × (List Lk) × (List Int) × Int × (List Int)) : Option (Int × Int × Int) := (zbN x).run fun _ => none
def io_zbN : Io := ⟨n_zbN, [.sl tB, .sl yK, .sl yH, .sl yL, .sl tI, tI, .sl tU], [.agg [qm 0, qm 1, qm 2, qm 3, qm 4, qm 5], .lf (qm 6)], [], [[.sl tB, .sl yK, .sl yH, .sl yL, .sl tI, tI], [.sl tU]], [tI, tI, tI], .tup [(false, [qm 0]), (false, [qm 1]), (false, [qm 2])], [], [], false⟩
def zbN_P : List zcd := []
def zbN_T : zci := tab [e_zaR, e_zaT, e_zbG]
theorem zbN_To : zch pg zbN_T := zce ⟨e_zaR_ok, e_zaT_ok, e_zbG_ok, trivial⟩
theorem zbN_go : zcu pg (zbN_T) io_zbN f_zbN (zbN_P) [] (zbN) := ⟨by kernel_rfl, by kernel_rfl, fun x => by kernel_rfl⟩
theorem ok_zbN : io_zbN.Okay pg (F_zbN) := zcr zcg (zbN_To) (zbN_go) trivial
def drawR (x : Br) (l : List Int) : Int × Int × Int := if (x.2.2.1 != 0) = true then (-1, 0, x.2.2.1) else if (x.2.1 == 0) = true then (-1, 0, 16) else
 match l.findIdx? (zdL x.2.1) with
 | some j => (zds (zdh x.2.2.2) (gI l (j : Int) % x.2.1).toNat 0, (j : Int) + 1, 0)
 | none => (-1, 0, 11)
def e_zbN : zcn := io_zbN.sp (fun (a, b, c, d, e, f, l) => (wOK a b c d e f)) (fun (a, b, c, d, e, f, l) => (drawR (brV (wgV a b c d e f)) l))
theorem sp_zbN (h : ∀ (a : List Bool) (b : List Tk) (c : List Th) (d : List Lk) (e : List Int) (f : Int) (l : List Int), WfT [.sl tB, .sl yK, .sl yH, .sl yL, .sl tI, tI, .sl tU] (a, b, c, d, e, f, l) → ((wOK a b c d e f)) = true → (zbN (a, b, c, d, e, f, l)).run (fun _ => none) = some (drawR (brV (wgV a b c d e f)) l)) : e_zbN.ok pg := zct ok_zbN fun (a, b, c, d, e, f, l) hw hc => h a b c d e f l hw hc
theorem e_zbN_ok : e_zbN.ok pg := sp_zbN fun a b c d e f l _ hc => by
 obtain ⟨H, h8⟩ := zdx hc
 obtain ⟨b1, b2, b3⟩ := brV_sum (wgV a b c d e f) (wg_hyp H).2
 rw [zbN]
 simp only [RT.run]
 rw [if_pos hc]
 generalize brV (wgV a b c d e f) = x at *
 unfold drawR
 by_cases h1 : (x.2.2.1 != 0) = true
 ·rw [if_pos h1, if_pos h1]
 ·rw [if_neg h1, if_neg h1]
  obtain ⟨t1, t2, t3⟩ := b3 (by simpa using h1)
  by_cases h2 : (x.2.1 == 0) = true
  ·rw [if_pos h2, if_pos h2]
  ·rw [if_neg h2, if_neg h2]
   unfold fromR
   cases l.findIdx? (zdL x.2.1) with
   | none => rfl
   | some j =>
    have hp : 0 < x.2.1 := by
     have : x.2.1 ≠ 0 := by simpa using h2
     omega
    have h4 := Int.emod_nonneg (gI l (j : Int)) (show x.2.1 ≠ 0 by omega)
    have h5 := Int.emod_lt_of_pos (gI l (j : Int)) hp
    simp only
    rw [if_neg (by simp; omega), if_pos (by rw [decide_eq_true b1, decide_eq_true (show (gI l (j : Int) % x.2.1).toNat < (zdh x.2.2.2).sum by omega)]; rfl)]
def zaZ : (Int × Int) → RT Unit (Bool × Int × Int × Int × Int × Bool)
| (amount, to) =>
 .rq 5 (.done (true, 0, amount, 1, to, true))
def F_zaZ (x : Int × Int) : Option (Bool × Int × Int × Int × Int × Bool) := (zaZ x).run fun _ => none
def io_zaZ : Io := ⟨n_zaZ, [tI, tI], [.lf (qm 0), .lf (qm 1)], [], [[tI], [tI]], [tB, tI, tI, tI, tI, tB], .agg [qm 0, qm 1, qm 2, qm 3, qm 4, qm 5], [], [], false⟩
def zaZ_P : List zcd := []
def zaZ_T : zci := tab []
theorem zaZ_To : zch pg zaZ_T := zce trivial
theorem zaZ_go : zcu pg (zaZ_T) io_zaZ f_zaZ (zaZ_P) [] (zaZ) := ⟨by kernel_rfl, by kernel_rfl, fun x => by kernel_rfl⟩
theorem ok_zaZ : io_zaZ.Okay pg (F_zaZ) := zcr zcg (zaZ_To) (zaZ_go) trivial
def e_zaZ : zcn := io_zaZ.sp (fun (a, b) => true) (fun (a, b) => ((true, 0, a, 1, b, true)))
theorem sp_zaZ (h : ∀ (a : Int) (b : Int), WfT [tI, tI] (a, b) → (zaZ (a, b)).run (fun _ => none) = some ((true, 0, a, 1, b, true))) : e_zaZ.ok pg := zct ok_zaZ fun (a, b) hw hc => h a b hw
theorem e_zaZ_ok : e_zaZ.ok pg := sp_zaZ fun a b _ => by
 rw [zaZ]; rfl
def zbA : (Int × Int) → RT Unit (Int × (List Bool) × (List Tk) × (List Th))
| (a, b) =>
 .rq 15 (let t0 := (2, (-1), (-1), 1, 1);
 .done (5, [true], [((((true, 0, a, 1, (0 : Int), true))).1, (((true, 0, a, 1, (0 : Int), true))).2.1, (((true, 0, a, 1, (0 : Int), true))).2.2.1, (((true, 0, a, 1, (0 : Int), true))).2.2.2.1, (((true, 0, a, 1, (0 : Int), true))).2.2.2.2.1, (((true, 0, a, 1, (0 : Int), true))).2.2.2.2.2), ((((true, 0, b, 1, (1 : Int), true))).1, (((true, 0, b, 1, (1 : Int), true))).2.1, (((true, 0, b, 1, (1 : Int), true))).2.2.1, (((true, 0, b, 1, (1 : Int), true))).2.2.2.1, (((true, 0, b, 1, (1 : Int), true))).2.2.2.2.1, (((true, 0, b, 1, (1 : Int), true))).2.2.2.2.2)], [t0, t0]))
def F_zbA (x : Int × Int) : Option (Int × (List Bool) × (List Tk) × (List Th)) := (zbA x).run fun _ => none
def io_zbA : Io := ⟨n_zbA, [tI, tI], [.lf (qm 0), .lf (qm 1)], [], [[tI], [tI]], [tI, .sl tB, .sl yK, .sl yH], .agg [qr 0, qr 1, qr 2, .fix (.nil), .fix (.nil), qm 0], [], [(true, .arr 4 (qm 1)), (true, .arr 97 (qm 2)), (true, .arr 82 (qm 3))], false⟩
def zbA_P : List zcd := []
def zbA_T : zci := tab [e_zaZ]
theorem zbA_To : zch pg zbA_T := zce ⟨e_zaZ_ok, trivial⟩
theorem zbA_go : zcu pg (zbA_T) io_zbA f_zbA (zbA_P) [.cellRow 64 0 600064 4 tB, .cellRow 64 1 600065 97 yK, .cellRow 64 2 600066 82 yH, .cellRen 64 0 600064, .cellRen 64 1 600065, .cellRen 64 2 600066] (zbA) := ⟨by kernel_rfl, by kernel_rfl, fun x => by kernel_rfl⟩
theorem ok_zbA : io_zbA.Okay pg (F_zbA) := zcr zcg (zbA_To) (zbA_go) trivial
def e_zbA : zcn := io_zbA.sp (fun (a, b) => true) (fun (a, b) => (5, [true], [(true, 0, a, 1, 0, true), (true, 0, b, 1, 1, true)], [(2, -1, -1, 1, 1), (2, -1, -1, 1, 1)]))
theorem sp_zbA (h : ∀ (a : Int) (b : Int), WfT [tI, tI] (a, b) → (zbA (a, b)).run (fun _ => none) = some (5, [true], [(true, 0, a, 1, 0, true), (true, 0, b, 1, 1, true)], [(2, -1, -1, 1, 1), (2, -1, -1, 1, 1)])) : e_zbA.ok pg := zct ok_zbA fun (a, b) hw hc => h a b hw
theorem e_zbA_ok : e_zbA.ok pg := sp_zbA fun a b _ => by
 rw [zbA]; rfl
def zai_b510 : (Int × Int × Int × Int × Int × Int × Int × Int × Int × (List Bool) × (List Tk) × (List Th)) → RT Unit Bool
| (i, s, t, x5, L, i_2, t_2, l_5, p_1, x11, x11_2, x11_3) =>
 .rq 3 (let t0 := (wOK x11 x11_2 x11_3 [] [] l_5);
 let t1 := (rq (chV (wgV x11 x11_2 x11_3 [] [] l_5) (0 : Int)));
 let t2 := isM 38 (rQ (mkRat (((1 : Int).toNat : Nat) : Int) (3 : Int).toNat)).1 && isM 38 (rQ (mkRat (((1 : Int).toNat : Nat) : Int) (3 : Int).toNat)).2;
 let t3 := decide (t1.1 = zcf B32 (val B16 (rQ (mkRat (((1 : Int).toNat : Nat) : Int) (3 : Int).toNat)).1)) && decide (t1.2 = zcf B32 (val B16 (rQ (mkRat (((1 : Int).toNat : Nat) : Int) (3 : Int).toNat)).2));
 let q0 : RT Unit Bool := (.rq 1 (.req t0 (.req (decide ((3 : Int) ≠ 0)) (.req t2 (.rq 2 (.done t3))))));
 let q5 : RT Unit Bool := (.rq 4 (.ite (t_2 == 1)
 q0
 (.rq 2 (.done false))));
 let q1 : RT Unit Bool := (.rq 4 (.ite (i_2 == 0)
 (.rq 5 (.ite (p_1 == 1)
 q5
 (.rq 2 (.ite false
 q0
 (.rq 2 (.done false))))))
 (.rq 2 (.ite false
 q5
 (.rq 2 (.ite false
 q0
 (.rq 2 (.done false))))))));
 let q2 : RT Unit Bool := (.rq 2 (.ite false
 (.rq 5 (.ite (p_1 == 1)
 q5
 (.rq 2 (.ite false
 q0
 (.rq 2 (.done false))))))
 (.rq 2 (.ite false
 q5
 (.rq 2 (.ite false
 q0
 (.rq 2 (.done false))))))));
 let q3 : RT Unit Bool := (.rq 4 (.ite (x5 == 0)
 (.rq 4 (.ite (L == 1)
 q1
 q2))
 (.rq 2 (.ite false
 q1
 q2))));
 let q4 : RT Unit Bool := (.rq 2 (.ite false
 (.rq 4 (.ite (L == 1)
 q1
 q2))
 (.rq 2 (.ite false
 q1
 q2))));
 .ite (i == 0)
 (.rq 4 (.ite (s == 0)
 (.rq 4 (.ite (t == 1)
 q3
 q4))
 (.rq 2 (.ite false
 q3
 q4))))
 (.rq 2 (.ite false
 (.rq 4 (.ite (t == 1)
 q3
 q4))
 (.rq 2 (.ite false
 q3
 q4)))))
def zai_p510 : zcd := ⟨510, false, [tI, tI, tI, tI, tI, tI, tI, tI, .sl tU, tI, .sl tB, .sl yK, .sl yH], [], ⟨[.keep [1, 2, 3, 4, 5, 6, 7, 8, 10], .gc], [1, 2, 3, 4, 5, 6, 7, 8, 10], [.lf (qp 16), .lf (qi 0), .lf (qi 1), .lf (qi 2), .lf (qi 3), .lf (qp 369), .lf (qi 4), .lf (qi 5), .lf (qi 6)], [(16, true, .cells [qr 177, qr 178, qr 179, .fix (.nil), .fix (.nil), qi 7]), (369, true, .cells [qi 8, qi 9]), (177, false, .arr 4 (qi 10)), (178, false, .arr 97 (qi 11)), (179, false, .arr 82 (qi 12))]⟩, [⟨0, ⟨[.keep [0], .gc], [0], [.lf (qm 0)], []⟩, [tB]⟩], (fun i _ => zai_b510 (i.1, i.2.1, i.2.2.1, i.2.2.2.1, i.2.2.2.2.1, i.2.2.2.2.2.1, i.2.2.2.2.2.2.1, i.2.2.2.2.2.2.2.1, i.2.2.2.2.2.2.2.2.2.1, i.2.2.2.2.2.2.2.2.2.2.1, i.2.2.2.2.2.2.2.2.2.2.2.1, i.2.2.2.2.2.2.2.2.2.2.2.2))⟩
def zai : Unit → RT Unit Bool
| _ =>
 .rq 5 (.req ((wOK ([true]) ([(true, 0, (10 : Int), 1, 0, true), (true, 0, (20 : Int), 1, 1, true)]) ([(2, -1, -1, 1, 1), (2, -1, -1, 1, 1)]) [] [] (5))) (.rq 6 (.req ((wOK ([true]) ([(true, 0, (10 : Int), 1, 0, true), (true, 0, (20 : Int), 1, 1, true)]) ([(2, -1, -1, 1, 1), (2, -1, -1, 1, 1)]) [] [] (5))) (.rq 6 (.req ((okL 40 [10])) (.rq 3 (.req ((wOK ([true]) ([(true, 0, (10 : Int), 1, 0, true), (true, 0, (20 : Int), 1, 1, true)]) ([(2, -1, -1, 1, 1), (2, -1, -1, 1, 1)]) [] [] (5) && (decide (0 ≤ (0)) && decide ((0) ≤ ([10].length : Int))))) (.rq 6 (.req ((wOK ([true]) ([(true, 0, (10 : Int), 1, 0, true), (true, 0, (20 : Int), 1, 1, true)]) ([(2, -1, -1, 1, 1), (2, -1, -1, 1, 1)]) [] [] (5))) (.rq 5 (let t0 := (atB (brV (wgV ([true]) ([(true, 0, (10 : Int), 1, 0, true), (true, 0, (20 : Int), 1, 1, true)]) ([(2, -1, -1, 1, 1), (2, -1, -1, 1, 1)]) [] [] (5))) (9 : Int));
 let t1 := (atB (brV (wgV ([true]) ([(true, 0, (10 : Int), 1, 0, true), (true, 0, (20 : Int), 1, 1, true)]) ([(2, -1, -1, 1, 1), (2, -1, -1, 1, 1)]) [] [] (5))) (10 : Int));
 let t2 := (drawV (brV (wgV ([true]) ([(true, 0, (10 : Int), 1, 0, true), (true, 0, (20 : Int), 1, 1, true)]) ([(2, -1, -1, 1, 1), (2, -1, -1, 1, 1)]) [] [] (5))) [10] (0));
 .call (on zai_b510 (t0.1, t0.2, t1.1, t1.2, t2.1, t2.2.1, ((atB (brV (wgV ([true]) ([(true, 0, (10 : Int), 1, 0, true), (true, 0, (20 : Int), 1, 1, true)]) ([(2, -1, -1, 1, 1), (2, -1, -1, 1, 1)]) [] [] (5))) (30 : Int))).2, 5, t2.2.2.2, [true], [(true, 0, (10 : Int), 1, 0, true), (true, 0, (20 : Int), 1, 1, true)], [(2, -1, -1, 1, 1), (2, -1, -1, 1, 1)])) default fun v0 =>
 .done v0)))))))))))
def F_zai (x : Unit) : Option Bool := (zai x).run fun _ => none
def io_zai : Io := ⟨n_zai, [], [], [], [], [tB], .lf (qm 0), [], [], false⟩
def zai_P : List zcd := [zai_p510]
def zai_T : zci := tab [e_zbA, e_zq, e_zR, e_zbu, e_zam, e_zbj, e_zba, e_zbZ]
theorem zai_To : zch pg zai_T := zce ⟨e_zbA_ok, e_zq_ok, e_zR_ok, e_zbu_ok, e_zam_ok, e_zbj_ok, e_zba_ok, e_zbZ_ok, trivial⟩
theorem zai_k510 : (zai_p510).OK pg (zai_T) (zcz 72 (zai_P)) (zcq f_zai) 72 := ⟨by kernel_rfl, fun i x => by kernel_rfl⟩
theorem zai_go : zcu pg (zai_T) io_zai f_zai (zai_P) [] (zai) := ⟨by kernel_rfl, by kernel_rfl, fun x => by kernel_rfl⟩
theorem ok_zai : io_zai.Okay pg (F_zai) := zcr zcg (zai_To) (zai_go) ⟨zai_k510, trivial⟩
def e_zai : zcn := io_zai.sp (fun _ => true) (fun _ => true)
theorem sp_zai (h : (zai ()).run (fun _ => none) = some true) : e_zai.ok pg := zct ok_zai fun _ _ hc => h
theorem e_zai_ok : e_zai.ok pg := sp_zai (by kernel_rfl)
def zy_b510 : (Int × Int × Int × Int × Int × Int × Int × Int × Int) → RT Unit Bool
| (i, i_2, s, t, x11, r, e, c, x45_1) =>
 .rq 4 (let t0 := x45_1 == (w64 (i + x11));
 let q0 : RT Unit Bool := (.rq 4 (.ite (e == (-1))
 (.rq 4 (.ite (c == 2)
 (.rq 3 (.done (true)))
 (.rq 2 (.done false))))
 (.rq 2 (.ite false
 (.rq 3 (.done (true)))
 (.rq 2 (.done false))))));
 let q1 : RT Unit Bool := (.rq 2 (.ite false
 (.rq 4 (.ite (c == 2)
 (.rq 3 (.done (true)))
 (.rq 2 (.done false))))
 (.rq 2 (.ite false
 (.rq 3 (.done (true)))
 (.rq 2 (.done false))))));
 .ite (i_2 == t)
 (.rq 5 (.ite (s == r)
 (.rq 8 (.ite t0
 q0
 q1))
 (.rq 2 (.ite false
 q0
 q1))))
 (.rq 2 (.ite false
 (.rq 8 (.ite t0
 q0
 q1))
 (.rq 2 (.ite false
 q0
 q1)))))
def zy_p510 : zcd := ⟨510, false, [tI, tI, tI, tI, tI, tI, tI, tI, .sl tU, tI], [], ⟨[.keep [2, 7, 8, 9, 10, 11, 12, 13, 14], .gc], [2, 7, 8, 9, 10, 11, 12, 13, 14], [.lf (qi 0), .lf (qp 721), .lf (qi 1), .lf (qi 2), .lf (qi 3), .lf (qi 4), .lf (qi 5), .lf (qi 6), .lf (qi 7)], [(721, true, .cells [qi 8, qi 9])]⟩, [⟨0, ⟨[.keep [6], .gc], [6], [.lf (qm 0)], []⟩, [tB]⟩], (fun i _ => zy_b510 (i.1, i.2.1, i.2.2.1, i.2.2.2.1, i.2.2.2.2.1, i.2.2.2.2.2.1, i.2.2.2.2.2.2.1, i.2.2.2.2.2.2.2.1, i.2.2.2.2.2.2.2.2.2))⟩
def zy : ((List Bool) × (List Tk) × (List Th) × (List Lk) × (List Int) × Int × (List Int) × Int) → RT Unit Bool
| (a0_0, a0_1, a0_2, a0_3, a0_4, a0_5, l, i) =>
 .rq 22 (let t0 := (smallV a0_0 a0_1 a0_2 a0_3 a0_4);
 let t1 := (((decide (100 < (l.length : Int))) || (decide (i < 0))) || (decide ((l.length : Int) < i))) || (!t0);
 .req (((decide (a0_1.length ≤ 1000000))) || (!(!t1))) (.rq 4 (let t2 := t1 || (!((decide (a0_1.length ≤ 30) && decide (cnt2 a0_1 ≤ 8))));
 .req (t0 || (!(!t2))) (.rq 2 (.ite (t2 || (!((zfq a0_0 a0_1 a0_2 a0_3 a0_4 a0_5))))
 (.rq 2 (.done (true)))
 (.rq 1 (.req ((okL 40 l)) (.rq 6 (let t3 := (seekV i l (0));
 .req ((wOK a0_0 a0_1 a0_2 a0_3 a0_4 a0_5 && (decide (0 ≤ t3.2.2) && decide (t3.2.2 ≤ (t3.2.1.length : Int))))) (.rq 8 (.req (dropOK l i) (.req ((wOK a0_0 a0_1 a0_2 a0_3 a0_4 a0_5)) (.rq 14 (let t4 := (drawR (brV (wgV a0_0 a0_1 a0_2 a0_3 a0_4 a0_5)) (dropI l i));
 let t5 := (drawV (brV (wgV a0_0 a0_1 a0_2 a0_3 a0_4 a0_5)) t3.2.1 t3.2.2);
 .call (on zy_b510 (i, t5.1, t5.2.1, t4.1, t4.2.1, t4.2.2, -1, 2, t5.2.2.2)) default fun v0 =>
 .done v0))))))))))))))
def F_zy (x : (List Bool) × (List Tk) × (List Th) × (List Lk) × (List Int) × Int × (List Int) × Int) : Option Bool := (zy x).run fun _ => none
def io_zy : Io := ⟨n_zy, [.sl tB, .sl yK, .sl yH, .sl yL, .sl tI, tI, .sl tU, tI], [.agg [qm 0, qm 1, qm 2, qm 3, qm 4, qm 5], .lf (qm 6), .lf (qm 7)], [], [[.sl tB, .sl yK, .sl yH, .sl yL, .sl tI, tI], [.sl tU], [tI]], [tB], .lf (qm 0), [], [], false⟩
def zy_P : List zcd := [zy_p510]
def zy_T : zci := tab [e_zai, e_zbN, e_zad, e_zq, e_zR, e_zM, e_zbu, e_zaA, e_zaP, e_zby]
theorem zy_To : zch pg zy_T := zce ⟨e_zai_ok, e_zbN_ok, e_zad_ok, e_zq_ok, e_zR_ok, e_zM_ok, e_zbu_ok, e_zaA_ok, e_zaP_ok, e_zby_ok, trivial⟩
theorem zy_k510 : (zy_p510).OK pg (zy_T) (zcz 96 (zy_P)) (zcq f_zy) 96 := ⟨by kernel_rfl, fun i x => by kernel_rfl⟩
theorem zy_go : zcu pg (zy_T) io_zy f_zy (zy_P) [] (zy) := ⟨by kernel_rfl, by kernel_rfl, fun x => by kernel_rfl⟩
theorem ok_zy : io_zy.Okay pg (F_zy) := zcr zcg (zy_To) (zy_go) ⟨zy_k510, trivial⟩
theorem LotteryDraws_F (a : List Bool) (b : List Tk) (c : List Th) (d : List Lk) (e : List Int) (f : Int) (l : List Int) (i : Int) : F_zy (a, b, c, d, e, f, l, i) = some true := by
 show (zy _).run _ = _
 rw [zy]
 simp only [RT.run]
 by_cases hg : ((((decide (100 < (l.length : Int))) || (decide (i < 0))) || (decide ((l.length : Int) < i))) || (!(smallV a b c d e))) = true
 ·rw [hg, if_pos (by simp), if_pos (by simp), if_pos (by simp)]
 ·have hg' := Bool.eq_false_iff.2 hg
  rw [hg']
  simp only [Bool.or_eq_false_iff, decide_eq_false_iff_not, Bool.not_eq_false'] at hg'
  obtain ⟨⟨⟨g1, g2⟩, g3⟩, hs⟩ := hg'
  have hb : b.length ≤ 200 := by
   unfold smallV at hs
   simp only [Bool.and_eq_true, decide_eq_true_eq] at hs
   omega
  rw [hs, if_pos (by rw [decide_eq_true (show b.length ≤ 1000000 by omega)]; rfl), if_pos (by rfl)]
  cases hl : (decide (b.length ≤ 30) && decide (cnt2 b ≤ 8)) with
  | false => rfl
  | true =>
   cases hf : zfq a b c d e f with
   | false => rfl
   | true =>
    rw [if_neg (by decide)]
    have hw : wOK a b c d e f = true := by
     rw [Bool.and_eq_true] at hl
     unfold wOK
     rw [hf, hl.2]; rfl
    have hsk : seekV i l 0 = (0, l, i) := by unfold seekV; rw [if_neg (by simp; omega)]
    obtain ⟨n, rfl⟩ := Int.eq_ofNat_of_zero_le (show 0 ≤ i by omega)
    have hn : n ≤ l.length := by omega
    rw [if_pos (by rw [zeu]; omega), hsk, hw]
    simp only
    rw [if_pos (by simp; omega), if_pos (show dropOK l (n : Int) = true by unfold dropOK; simp; omega), if_pos trivial]
    have hd : ∀ x : Br, ∃ k many er at', drawV x l (n : Int) = (k, er, l, at') ∧ drawR x (dropI l (n : Int)) = (k, many, er) ∧ at' = (n : Int) + many ∧ 0 ≤ many ∧ many ≤ (l.length : Int) := fun x => by
     unfold drawV drawR dropI firstV
     rw [Int.toNat_natCast]
     by_cases h1 : (x.2.2.1 != 0) = true
     ·rw [if_pos h1, if_pos h1]
      exact ⟨_, 0, _, _, rfl, rfl, by omega, by omega, by omega⟩
     ·rw [if_neg h1, if_neg h1]
      by_cases h2 : (x.2.1 == 0) = true
      ·rw [if_pos h2, if_pos h2]
       exact ⟨_, 0, _, _, rfl, rfl, by omega, by omega, by omega⟩
      ·rw [if_neg h2, if_neg h2]
       cases hfi : (l.drop n).findIdx? (zdL x.2.1) with
       | none => exact ⟨_, 0, _, _, rfl, rfl, by omega, by omega, by omega⟩
       | some j =>
        have hj : j < (l.drop n).length := by
         obtain ⟨h3, _⟩ := List.findIdx?_eq_some_iff_getElem.1 hfi
         exact h3
        rw [List.length_drop] at hj
        have e1 : gI l ((n : Int) + (j : Int)) = gI (l.drop n) (j : Int) := by
         rw [show (n : Int) + (j : Int) = ((n + j : Nat) : Int) by omega, zcG (by omega), zcG (by rw [List.length_drop]; omega), List.getElem_drop]
        simp only
        rw [e1]
        exact ⟨_, _, _, _, rfl, rfl, by omega, by omega, by omega⟩
    obtain ⟨k, many, er, at', d1, d2, d3, d4, d5⟩ := hd (brV (wgV a b c d e f))
    rw [d1, d2]
    simp only
    have : on zy_b510 ((n : Int), k, er, k, many, er, -1, 2, at') = some true := by
     show (zy_b510 _).run _ = _
     rw [zy_b510]
     simp only [RT.run]
     rw [zcj (by omega), d3]
     simp
    rw [this]
    rfl
end
end Go.Proofs.YtlfdidaeachpoaaGreat
namespace Go.Proofs.YtlfdidaeachpoaaGreat
open Go Go.RowKit
theorem exists_list {α : Type} {Q : Nat → α → Prop} : ∀ (n : Nat), (∀ i, i < n → ∃ x, Q i x) → ∃ xs : List α, xs.length = n ∧ ∀ i (h : i < xs.length), Q i xs[i]
 | 0, _ => ⟨[], rfl, fun i hi => absurd hi (Nat.not_lt_zero i)⟩
 | n + 1, h => by
  obtain ⟨xs, h1, h2⟩ := exists_list n fun i hi => h i (by omega)
  obtain ⟨x, hx⟩ := h n (by omega)
  refine ⟨xs ++ [x], by simp [h1], fun i hi => ?_⟩
  by_cases hin : i < xs.length
  ·rw [List.getElem_append_left hin]
   exact h2 i hin
  ·have : i = n := by simp at hi; omega
   subst this
   rw [List.getElem_append_right (by omega)]
   simpa [h1] using hx
theorem cell_at {w : World} {a : Addr} {u : Value} (h : w.cell? a = some u) : a.spot = none ∧ a.block < w.heap.size := by
 unfold World.cell? at h
 split at h
 ·rename_i c _ _ hb
  split at h
  ·cases h
  ·rename_i hs
   refine ⟨by simpa using hs, ?_⟩
   apply Decidable.byContradiction
   intro hlt
   rw [Array.getElem?_eq_none (Nat.le_of_not_lt hlt)] at hb
   cases hb
 ·cases h
theorem add_block (a : Addr) (n : Nat) : (a.add n).block = a.block := by
 unfold Addr.add
 split <;> rfl
theorem add_plain (b o n : Nat) : Addr.add ⟨b, o, none⟩ n = ⟨b, o + n, none⟩ := by
 unfold Addr.add
 split
 ·rename_i h; subst h; rfl
 ·rfl
def zfY (w : World) : Nat → Prop := fun b => b < w.heap.size
section
variable {H : Type} {enc : TypeId × Value → H} {P : Program} {w : World} {held : Bool}
theorem fields_rep {g : TypeId → Option Ty} {fuel : Nat} {cs : List Value}
  (ih : ∀ (t : TypeId) (ty : Ty) (cs : List Value) (y : DataW H × List MemPlace), g t = some ty → P.cellsOf t = ty.size → DataW.trod enc P w 0 (fun _ => true) held fuel t cs = some y → ∃ x, zcJ w (zfY w) ty cs x) :
  ∀ (fs : List Field) (off : Nat) (ty : Ty), tyFs P g fs off = some ty → (∀ f ∈ fs, ∃ y, DataW.trod enc P w 0 (fun _ => true) held fuel f.type ((cs.drop f.offset).take (P.cellsOf f.type)) = some y) →
   ∃ x, zcJ w (zfY w) ty ((cs.drop off).take ty.size) x
 | [], _, _, h, _ => by cases h
 | f :: fs, off, ty, h, hf => by
  unfold tyFs at h
  split at h
  ·cases h
  ·rename_i a ha
   split at h
   ·rename_i hc
    obtain ⟨y, hy⟩ := hf f (List.mem_cons_self ..)
    rw [hc.1, hc.2] at hy
    obtain ⟨x, hx⟩ := ih f.type a _ y ha hc.2 hy
    split at h
    ·cases h
     exact ⟨x, hx⟩
    ·rename_i f' fs'
     split at h
     ·rename_i b hb
      cases h
      obtain ⟨x', hx'⟩ := fields_rep ih (f' :: fs') (off + a.size) b hb fun z hz => hf z (List.mem_cons_of_mem _ hz)
      refine ⟨(x, x'), _, _, ?_, hx, hx'⟩
      show (cs.drop off).take (a.size + b.size) = _
      rw [List.take_add, List.drop_drop]
     ·cases h
   ·cases h
theorem trod_rep : ∀ (n : Nat) (t : TypeId) (ty : Ty) (fuel : Nat) (cs : List Value) (y : DataW H × List MemPlace), tyOf P n t = some ty → P.cellsOf t = ty.size → DataW.trod enc P w 0 (fun _ => true) held fuel t cs = some y → ∃ x, zcJ w (zfY w) ty cs x := by
 intro n
 induction n with
 | zero => intro t ty fuel cs y h; cases h
 | succ n ih =>
  intro t ty fuel cs y ht hsz h
  unfold tyOf at ht
  split at ht
  ·rename_i k hu
   cases ht
   obtain ⟨m, rfl, _, hw⟩ := DataW.trod_int hu h
   exact ⟨m, rfl, hw⟩
  ·rename_i hu
   cases ht
   obtain ⟨b, rfl, _⟩ := DataW.trod_bool hu h
   exact ⟨b, rfl⟩
  ·rename_i hu
   cases ht
   obtain ⟨s, rfl, _, hs⟩ := DataW.trod_string hu h
   exact ⟨s, rfl, hs⟩
  ·rename_i e hu
   split at ht
   ·rename_i a ha
    split at ht
    ·rename_i hc
     cases ht
     rcases DataW.trod_slice hu h with ⟨rfl, _⟩ | ⟨ad, len, cap, elems, rest, m, _, rfl, _, _, hlc, hcm, hlen, hel, _, _⟩
     ·exact ⟨[], none, 0, rfl, Nat.le_refl _, Nat.zero_le _, fun _ => rfl, fun i hi => absurd hi (Nat.not_lt_zero i)⟩
     ·have hpos := a.size_pos
      have had : 0 < len → ad.spot = none := by
       intro h0
       have h1 := hel 0 h0
       rw [List.getElem?_eq_getElem (by omega), Option.bind_eq_some_iff] at h1
       obtain ⟨us, hus, _⟩ := h1
       obtain ⟨_, hl, hcell⟩ := World.cells?_some hus
       have c0 := hcell 0 (by omega)
       rw [List.getElem?_eq_getElem (by omega), Nat.zero_mul] at c0
       exact (cell_at c0).1
      have each : ∀ i, i < len → ∃ x : a.den, ∃ b o us, (some ad : Option Addr) = some ⟨b, o, none⟩ ∧ zfY w b ∧ us.length = a.size ∧ Mem w b (o + i * a.size) us ∧ zcJ w (zfY w) a us x := by
       intro i hi
       have h1 := hel i hi
       rw [List.getElem?_eq_getElem (by omega), Option.bind_eq_some_iff] at h1
       obtain ⟨us, hus, hy⟩ := h1
       obtain ⟨_, hl, hcell⟩ := World.cells?_some hus
       obtain ⟨x, hx⟩ := ih e a m us _ ha hc hy
       have c0 := hcell 0 (by omega)
       rw [List.getElem?_eq_getElem (by omega)] at c0
       have hb := (cell_at c0).2
       rw [add_block, add_block] at hb
       have hsp := had (by omega)
       obtain ⟨b, o, sp⟩ := ad
       simp only at hsp
       subst hsp
       refine ⟨x, b, o, us, rfl, hb, by omega, fun j u hu' => ?_, hx⟩
       have hj : j < us.length := by
        apply Decidable.byContradiction
        intro hn
        rw [List.getElem?_eq_none (by omega)] at hu'
        cases hu'
       have := hcell j (by omega)
       rw [hu', add_plain, add_plain] at this
       rw [← hc]
       exact this
      obtain ⟨xs, hxl, hxs⟩ := exists_list len each
      refine ⟨xs, some ad, cap, by rw [hxl], by omega, hcm, (fun h => by cases h), fun i hi => ?_⟩
      obtain ⟨b, o, us, h1, h2, h3, h4, h5⟩ := hxs i hi
      exact ⟨b, o, us, h1, h2, h3, h4, h5⟩
    ·cases ht
   ·cases ht
  ·rename_i fs hu
   obtain ⟨xs, m, _, _, hl, hxl, hf⟩ := DataW.trod_struct hu h
   obtain ⟨x, hx⟩ := fields_rep (enc := enc) (held := held) (fuel := m) (cs := cs) (fun t ty cs y h1 h2 h3 => ih t ty m cs y h1 h2 h3) fs.toList 0 ty ht (fun f hf' => by
    obtain ⟨i, hi, rfl⟩ := List.mem_iff_getElem.1 hf'
    have hi' : i < fs.size := by simpa using hi
    have := hf i fs.toList[i] (by simp [hi'])
    rw [List.getElem?_eq_getElem (by omega)] at this
    exact ⟨_, this⟩)
   refine ⟨x, ?_⟩
   rw [List.drop_zero, List.take_of_length_le (by omega)] at hx
   exact hx
  ·cases ht
end
theorem callPost_below {w : World} {ok : Nat → Prop} {n : Nat} {r : zdN} {v : Value} {w' : World} {β' : Nat → Option Value} {ok' : Nat → Prop} (h : zhg w (fun _ => none) ok n r v w' β' ok') : Below w.heap.size w w' :=
 ⟨h.os, h.tape, h.output, h.size, fun k hk => h.block k hk (fun _ _ _ e => by cases e)⟩
end Go.Proofs.YtlfdidaeachpoaaGreat
