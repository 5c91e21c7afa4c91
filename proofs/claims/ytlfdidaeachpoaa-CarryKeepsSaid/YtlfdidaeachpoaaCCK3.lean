/- Part 3 of the walk and of the plain law. -/
import Derived.Test.YtlfdidaeachpoaaCCK2
import Derived.RangeFuncNested
set_option linter.unusedSimpArgs false
set_option linter.unusedVariables false
namespace Go.Proofs.Ytlfdidaeachpoaa
open Go Go.RowKit
set_option maxRecDepth 100000
noncomputable section
def okL (k : Nat) {α : Type} (xs : List α) : Bool := decide (xs.length ≤ 2 ^ k)
theorem zeW {k : Nat} {α : Type} {xs : List α} : okL k xs = true ↔ xs.length ≤ 2 ^ k := by simp [okL]
theorem okL_mono {k m : Nat} {α : Type} {xs : List α} (h : k ≤ m) (hx : okL k xs = true) : okL m xs = true := by
 rw [zeW] at *
 exact Nat.le_trans hx (Nat.pow_le_pow_right (by decide) h)
theorem okL40 {α : Type} {xs : List α} : okL 40 xs = true ↔ xs.length ≤ 1099511627776 := zeW
theorem okL39 {α : Type} {xs : List α} : okL 39 xs = true ↔ xs.length ≤ 549755813888 := zeW
theorem okL38 {α : Type} {xs : List α} : okL 38 xs = true ↔ xs.length ≤ 274877906944 := zeW
theorem okL36 {α : Type} {xs : List α} : okL 36 xs = true ↔ xs.length ≤ 68719476736 := zeW
theorem okL20 {α : Type} {xs : List α} : okL 20 xs = true ↔ xs.length ≤ 1048576 := zeW
theorem zcn {xs : List Int} (h : Wf (.sl tV) xs) : wfd B32 xs = true := by
 rw [zfJ]
 exact fun d hd => h.2 d hd
def zm : (List Int) → RT Unit (List Int)
| s =>
 .rq 2 (let t0 := apOK 4 [] s;
 .may (List.isEmpty s)
 (.ite true
 (.rq 1 (.done []))
 (.rq 2 (.req t0 (.rq 1 (.done ([] ++ s))))))
 (.ite false
 (.rq 1 (.done []))
 (.rq 2 (.req t0 (.rq 1 (.done ([] ++ s)))))))
def F_zm (x : (List Int)) : Option (List Int) := (zm x).run fun _ => none
def io_zm : Io := ⟨n_zm, [.sl tV], [.lf (qm 0)], [], [[.sl tV]], [.sl tV], .lf (qr 0), [], [(true, .arr 90 (qm 0))], false⟩
def zm_P : List zaV := []
def zm_T : zbf := tab []
theorem zm_To : zbd pg zm_T := zaX trivial
theorem zm_go : zbt pg (zm_T) io_zm f_zm (zm_P) [.nilRow 2 800002 90 tV, .ren 2 700002, .ren 2 900002] (zm) := ⟨by kernel_rfl, by kernel_rfl, fun x => by kernel_rfl⟩
theorem ok_zm : io_zm.Okay pg (F_zm) := zbl zaZ (zm_To) (zm_go) trivial
def e_zm : zbj := io_zm.sp (fun s => okL 40 s) (fun s => s)
theorem sp_zm (h : ∀ (s : List Int), WfT [.sl tV] s → (okL 40 s) = true → (zm s).run (fun _ => none) = some s) : e_zm.ok pg := zbo ok_zm fun s hw hc => h s hw hc
theorem e_zm_ok : e_zm.ok pg := sp_zm fun s _ hc => by
 replace hc := okL40.1 hc
 have h : apOK 4 [] s = true := by rw [zds, maxLen_eq]; simp; omega
 unfold zm
 simp only [RT.run, h, List.nil_append, if_true, if_false, Bool.false_eq_true]
 cases s with
 | nil => simp [bothR]
 | cons a s => simp
def zaP : ((List Int) × Int) → RT Unit Int
| (a, i) =>
 .rq 5 (.ite (decide (i < (a.length : Int)))
 (.rq 2 (.req (inB a i) (.rq 2 (.done (gI a i)))))
 (.rq 1 (.done 0)))
def F_zaP (x : (List Int) × Int) : Option Int := (zaP x).run fun _ => none
def io_zaP : Io := ⟨n_zaP, [.sl tV, tI], [.lf (qm 0), .lf (qm 1)], [], [[.sl tV], [tI]], [tV], .lf (qm 0), [], [], false⟩
def zaP_P : List zaV := []
def zaP_T : zbf := tab []
theorem zaP_To : zbd pg zaP_T := zaX trivial
theorem zaP_go : zbt pg (zaP_T) io_zaP f_zaP (zaP_P) [] (zaP) := ⟨by kernel_rfl, by kernel_rfl, fun x => by kernel_rfl⟩
theorem ok_zaP : io_zaP.Okay pg (F_zaP) := zbl zaZ (zaP_To) (zaP_go) trivial
def e_zaP : zbj := io_zaP.sp (fun (a, i) => decide (0 ≤ i)) (fun (a, i) => dig a i)
theorem sp_zaP (h : ∀ (a : List Int) (i : Int), WfT [.sl tV, tI] (a, i) → (decide (0 ≤ i)) = true → (zaP (a, i)).run (fun _ => none) = some (dig a i)) : e_zaP.ok pg := zbo ok_zaP fun (a, i) hw hc => h a i hw hc
theorem zfI : e_zaP.ok pg := sp_zaP fun a i _ hc => by
 replace hc : 0 ≤ i := of_decide_eq_true hc
 unfold zaP dig
 simp only [RT.run, decide_eq_true_eq]
 split
 ·rw [if_pos (by rw [zbc]; omega)]; rfl
 ·rfl
def zad_b28 : (List Int) → Int → RT Int Int
| a, n =>
 .rq 6 (let t0 := decide (0 < n);
 let t1 := w64 (n - 1);
 .req ((inB a t1) || (!t0)) (.rq 3 (.ite (t0 && ((gI a t1) == 0))
 (.rq 3 (.again t1))
 (.done n))))
def zad_p28 : zaV := ⟨28, true, [.sl tV], [tI], ⟨[.keep [0, 3], .gc], [0, 3], [.lf (qi 0), .lf (qm 0)], []⟩, [⟨2, ⟨[.keep [0, 3], .gc], [0, 3], [.lf (qi 0), .lf (qm 0)], []⟩, [tI]⟩], zad_b28⟩
def zad : (List Int) → RT Unit (List Int)
| a =>
 .rq 4 (.call (lo zad_b28 a (a.length : Int)) default fun v0 =>
 .rq 2 (.req (takeOK a v0) (.req (okL 40 (takeI a v0)) (.rq 1 (.done (takeI a v0))))))
def F_zad (x : (List Int)) : Option (List Int) := (zad x).run fun _ => none
def io_zad : Io := ⟨n_zad, [.sl tV], [.lf (qm 0)], [], [[.sl tV]], [.sl tV], .lf (qr 0), [], [(true, .arr 90 (qm 0))], false⟩
def zad_P : List zaV := [zad_p28]
def zad_T : zbf := tab [e_zm]
theorem zad_To : zbd pg zad_T := zaX ⟨e_zm_ok, trivial⟩
theorem zad_k28 : (zad_p28).OK pg (zad_T) (zbu 22 (zad_P)) (zbh f_zad) 22 := ⟨by kernel_rfl, fun i x => by kernel_rfl⟩
theorem zad_go : zbt pg (zad_T) io_zad f_zad (zad_P) [.nilRow 2 800002 90 tV, .ren 2 700002, .ren 2 900002] (zad) := ⟨by kernel_rfl, by kernel_rfl, fun x => by kernel_rfl⟩
theorem ok_zad : io_zad.Okay pg (F_zad) := zbl zaZ (zad_To) (zad_go) ⟨zad_k28, trivial⟩
theorem cut_l (a : List Int) (hl : a.length ≤ 9223372036854775807) : ∀ n : Nat, n ≤ a.length → lo zad_b28 a (n : Int) = some (cutN a n : Int)
 | 0, _ => by
  rw [zbi, zad_b28]
  simp [RT.run, inB, cutN]
 | n + 1, h => by
  rw [zbi, zad_b28]
  have w : w64 (((n + 1 : Nat) : Int) - 1) = (n : Int) := by rw [zbg] <;> omega
  simp only [RT.run, w]
  rw [if_pos (by rw [zbU]; simp; omega)]
  have hg : gI a (n : Int) = a.getD n 0 := zed a n
  rw [hg, cutN]
  by_cases h0 : a.getD n 0 = 0
  ·rw [if_pos (by rw [h0]; simp), if_pos h0]
   exact cut_l a hl n (by omega)
  ·rw [if_neg (by simp only [Bool.and_eq_true, decide_eq_true_eq, beq_iff_eq]; exact fun h => h0 h.2), if_neg h0]
def e_zad : zbj := io_zad.sp (fun a => okL 40 a) (fun a => zbb B32 (val B32 a))
theorem sp_zad (h : ∀ (a : List Int), WfT [.sl tV] a → (okL 40 a) = true → (zad a).run (fun _ => none) = some (zbb B32 (val B32 a))) : e_zad.ok pg := zbo ok_zad fun a hw hc => h a hw hc
theorem zfo : e_zad.ok pg := sp_zad fun a hw hc => by
 have hw' : Wf (.sl tV) a := hw
 have hl := hw'.1
 unfold zad
 replace hc := okL40.1 hc
 simp only [RT.run, cut_l a hl a.length (Nat.le_refl _), Option.bind_some]
 have hc' := cutN_le a a.length
 have h1 : takeOK a (cutN a a.length : Int) = true := by simp [takeOK]; omega
 have h2 : takeI a (cutN a a.length : Int) = cut a := by simp [takeI, cut]
 rw [if_pos h1, h2, if_pos (by rw [okL40]; show (a.take _).length ≤ _; rw [List.length_take]; omega), cut_eq (by decide) (zcn hw')]
def zaR : Int → RT Unit (List Int)
| n =>
 .rq 7 (let t0 := [zcr n, zcr (shrI .u64 n 32)];
 .req (okL 40 t0) (.rq 1 (.done (zbb B32 (val B32 t0)))))
def F_zaR (x : Int) : Option (List Int) := (zaR x).run fun _ => none
def io_zaR : Io := ⟨n_zaR, [tU], [.lf (qm 0)], [], [[tU]], [.sl tV], .lf (qr 0), [], [(true, .arr 90 (qm 0))], false⟩
def zaR_P : List zaV := []
def zaR_T : zbf := tab [e_zad]
theorem zaR_To : zbd pg zaR_T := zaX ⟨zfo, trivial⟩
theorem zaR_go : zbt pg (zaR_T) io_zaR f_zaR (zaR_P) [.nilRow 2 800002 90 tV, .ren 2 700002, .ren 2 900002] (zaR) := ⟨by kernel_rfl, by kernel_rfl, fun x => by kernel_rfl⟩
theorem ok_zaR : io_zaR.Okay pg (F_zaR) := zbl zaZ (zaR_To) (zaR_go) trivial
def e_zaR : zbj := io_zaR.sp (fun n => true) (fun n => zbb B32 n.toNat)
theorem sp_zaR (h : ∀ (n : Int), WfT [tU] n → (zaR n).run (fun _ => none) = some (zbb B32 n.toNat)) : e_zaR.ok pg := zbo ok_zaR fun n hw hc => h n hw
theorem e_zaR_ok : e_zaR.ok pg := sp_zaR fun n hw => by
 have hw' : 0 ≤ n ∧ n < 18446744073709551616 := hw
 unfold zaR
 have h1 : zcr n = n % 4294967296 := zfK n
 have h2 : zcr (shrI .u64 n 32) = n / 4294967296 := by
  have : shrI .u64 n 32 = n / 4294967296 := by
   unfold shrI
   rw [Int.fdiv_eq_ediv_of_nonneg _ (Int.pow_nonneg (by decide))]
   rfl
  rw [this, zet] <;> omega
 simp only [RT.run, h1, h2]
 rw [if_pos (by rw [okL40]; simp)]
 have e : val B32 [n % 4294967296, n / 4294967296] = n.toNat := by
  simp only [val]
  rw [show B32 = 4294967296 from rfl]
  omega
 rw [e]
def zL : Int → RT Unit Bool
| x =>
 .rq 5 (.done (x != x))
def F_zL (x : Int) : Option Bool := (zL x).run fun _ => none
def io_zL : Io := ⟨n_zL, [tV], [.lf (qm 0)], [], [[tV]], [tB], .lf (qm 0), [], [], false⟩
def zL_P : List zaV := []
def zL_T : zbf := tab []
theorem zL_To : zbd pg zL_T := zaX trivial
theorem zL_go : zbt pg (zL_T) io_zL f_zL (zL_P) [] (zL) := ⟨by kernel_rfl, by kernel_rfl, fun x => by kernel_rfl⟩
theorem ok_zL : io_zL.Okay pg (F_zL) := zbl zaZ (zL_To) (zL_go) trivial
def e_zL : zbj := io_zL.sp (fun x => true) (fun x => false)
theorem sp_zL (h : ∀ (x : Int), WfT [tV] x → (zL x).run (fun _ => none) = some false) : e_zL.ok pg := zbo ok_zL fun x hw hc => h x hw
theorem e_zL_ok : e_zL.ok pg := sp_zL fun x _ => by
 simp [zL, RT.run]
def zD : (Int × Int) → RT Unit Int
| (x, y) =>
 .rq 8 (.ite (false)
 (.rq 1 (.ite (false)
 (.rq 1 (.done 0))
 (.rq 1 (.done (-1)))))
 (.rq 1 (.ite (false)
 (.rq 1 (.done 1))
 (.rq 3 (.ite (decide (x < y))
 (.rq 1 (.done (-1)))
 (.rq 3 (.ite (decide (y < x))
 (.rq 1 (.done 1))
 (.rq 1 (.done 0)))))))))
def F_zD (x : Int × Int) : Option Int := (zD x).run fun _ => none
def io_zD : Io := ⟨n_zD, [tV, tV], [.lf (qm 0), .lf (qm 1)], [], [[tV], [tV]], [tI], .lf (qm 0), [], [], false⟩
def zD_P : List zaV := []
def zD_T : zbf := tab [e_zL]
theorem zD_To : zbd pg zD_T := zaX ⟨e_zL_ok, trivial⟩
theorem zD_go : zbt pg (zD_T) io_zD f_zD (zD_P) [] (zD) := ⟨by kernel_rfl, by kernel_rfl, fun x => by kernel_rfl⟩
theorem ok_zD : io_zD.Okay pg (F_zD) := zbl zaZ (zD_To) (zD_go) trivial
def e_zD : zbj := io_zD.sp (fun (x, y) => true) (fun (x, y) => cmpI x y)
theorem sp_zD (h : ∀ (x : Int) (y : Int), WfT [tV, tV] (x, y) → (zD (x, y)).run (fun _ => none) = some (cmpI x y)) : e_zD.ok pg := zbo ok_zD fun (x, y) hw hc => h x y hw
theorem e_zD_ok : e_zD.ok pg := sp_zD fun x y _ => by
 unfold zD cmpI
 simp only [RT.run, Bool.false_eq_true, if_false, decide_eq_true_eq]
 split
 ·rfl
 ·split <;> rfl
def zax_b26 : ((List Int) × (List Int)) → Int → RT Int (LR Int Unit)
| (a, b), i =>
 .rq 2 (.ite (decide (0 ≤ i))
 (.rq 2 (.req (decide (0 ≤ i)) (.rq 2 (.req (decide (0 ≤ i)) (.rq 4 (let t0 := cmpI (dig a i) (dig b i);
 .ite (t0 != 0)
 (.rq 2 (.done (.ex t0)))
 (.rq 3 (.again (w64 (i - 1))))))))))
 (.done (.rt ())))
def zax_p26 : zaV := ⟨26, true, [.sl tV, .sl tV], [tI], ⟨[.keep [0, 1, 5], .gc], [0, 1, 5], [.lf (qi 0), .lf (qi 1), .lf (qm 0)], []⟩, [⟨1, ⟨[.keep [4], .gc], [4], [.lf (qm 0)], []⟩, [tI]⟩, ⟨2, ⟨[.keep [], .gc], [], [], []⟩, []⟩], zax_b26⟩
def zax : ((List Int) × (List Int)) → RT Unit Int
| (a, b) =>
 .rq 8 (.call (lo zax_b26 (a, b) (w64 ((maxI (a.length : Int) (b.length : Int)) - 1))) default fun v0 =>
 .ite v0.isRt
 (.rq 1 (.done 0))
 (.done v0.getX))
def F_zax (x : (List Int) × (List Int)) : Option Int := (zax x).run fun _ => none
def io_zax : Io := ⟨n_zax, [.sl tV, .sl tV], [.lf (qm 0), .lf (qm 1)], [], [[.sl tV], [.sl tV]], [tI], .lf (qm 0), [], [], false⟩
def zax_P : List zaV := [zax_p26]
def zax_T : zbf := tab [e_zD, e_zaP]
theorem zax_To : zbd pg zax_T := zaX ⟨e_zD_ok, zfI, trivial⟩
theorem zax_k26 : (zax_p26).OK pg (zax_T) (zbu 27 (zax_P)) (zbh f_zax) 27 := ⟨by kernel_rfl, fun i x => by kernel_rfl⟩
theorem zax_go : zbt pg (zax_T) io_zax f_zax (zax_P) [] (zax) := ⟨by kernel_rfl, by kernel_rfl, fun x => by kernel_rfl⟩
theorem ok_zax : io_zax.Okay pg (F_zax) := zbl zaZ (zax_To) (zax_go) ⟨zax_k26, trivial⟩
theorem cmp_l (a b : List Int) : ∀ n : Nat, n ≤ 9223372036854775807 → lo zax_b26 (a, b) ((n : Int) - 1) = some (if cmpN a b n = 0 then .rt () else .ex (cmpN a b n))
 | 0, _ => by
  rw [zbi, zax_b26]
  simp [RT.run, cmpN]
 | n + 1, h => by
  rw [zbi, zax_b26]
  have e : ((n + 1 : Nat) : Int) - 1 = (n : Int) := by omega
  have w : w64 ((n : Int) - 1) = (n : Int) - 1 := by rw [zbg]; omega
  have hn : decide (0 ≤ (n : Int)) = true := by simp
  simp only [RT.run, e, w, hn, if_true]
  by_cases h0 : cmpI (dig a n) (dig b n) = 0
  ·rw [if_neg (by simp [h0]), show cmpN a b (n + 1) = cmpN a b n from if_pos h0]
   exact cmp_l a b n (by omega)
  ·rw [if_pos (by simp [h0]), show cmpN a b (n + 1) = cmpI (dig a n) (dig b n) from if_neg h0, if_neg h0]
def e_zax : zbj := io_zax.sp (fun (a, b) => true) (fun (a, b) => cmpI (val B32 a) (val B32 b))
theorem sp_zax (h : ∀ (a : List Int) (b : List Int), WfT [.sl tV, .sl tV] (a, b) → (zax (a, b)).run (fun _ => none) = some (cmpI (val B32 a) (val B32 b))) : e_zax.ok pg := zbo ok_zax fun (a, b) hw hc => h a b hw
theorem e_zax_ok : e_zax.ok pg := sp_zax fun a b hw => by
 have ha : Wf (.sl tV) a := hw.1
 have hb : Wf (.sl tV) b := hw.2
 have hla := ha.1
 have hlb := hb.1
 unfold zax
 have hm : maxI (a.length : Int) (b.length : Int) = ((max a.length b.length : Nat) : Int) := by unfold maxI; split <;> omega
 have hw : w64 (((max a.length b.length : Nat) : Int) - 1) = ((max a.length b.length : Nat) : Int) - 1 := by rw [zbg]; omega
 simp only [RT.run, hm, hw, cmp_l a b (max a.length b.length) (by omega), Option.bind_some]
 rw [← cmpN_all (b := B32) (k := max a.length b.length) (by decide) (zcn ha) (zcn hb) (by omega) (by omega)]
 split
 ·rename_i h; simp [LR.isRt, h]
 ·simp [LR.isRt, LR.getX]
def zam_b122 : ((List Int) × (List Int) × Int) → (Int × Int × (List Int)) → RT (Int × Int × (List Int)) (List Int)
| (a, b, x13), (over, x14, r5) =>
 .rq 1 (.ite (decide (x14 < x13))
 (.rq 5 (.req (decide (0 ≤ x14)) (.rq 3 (.req (decide (0 ≤ x14)) (.rq 8 (let t0 := zbr (over + (zbr ((zbr (dig a x14)) + (zbr (dig b x14)))));
 let t1 := [zcr t0];
 .req (apOK 4 r5 t1) (.rq 6 (.again (shrI .u64 t0 32, w64 (x14 + 1), r5 ++ t1)))))))))
 (.done r5))
def zam_p122 : zaV := ⟨122, true, [.sl tV, .sl tV, tI], [tU, tI, .sl tV], ⟨[.keep [0, 1, 5, 6, 13, 14], .gc, .nilRow 5 800005 90 tV, .ren 5 700005, .ren 5 900005, .gc], [0, 1, 5, 6, 13, 14], [.lf (qi 0), .lf (qi 1), .lf (qr 900005), .lf (qm 0), .lf (qi 2), .lf (qm 1)], [(900005, true, .arr 90 (qm 2))]⟩, [⟨2, ⟨[.keep [5], .gc, .nilRow 5 800005 90 tV, .ren 5 700005, .ren 5 900005, .gc], [5], [.lf (qr 900005)], [(900005, true, .arr 90 (qm 0))]⟩, [.sl tV]⟩], zam_b122⟩
def zam : ((List Int) × (List Int)) → RT Unit (List Int)
| (a, b) =>
 .rq 10 (.call (lo zam_b122 (a, b, w64 ((maxI (a.length : Int) (b.length : Int)) + 1)) (0, 0, [])) default fun v0 =>
 .rq 1 (.req (okL 40 v0) (.rq 1 (.done (zbb B32 (val B32 v0))))))
def F_zam (x : (List Int) × (List Int)) : Option (List Int) := (zam x).run fun _ => none
def io_zam : Io := ⟨n_zam, [.sl tV, .sl tV], [.lf (qm 0), .lf (qm 1)], [], [[.sl tV], [.sl tV]], [.sl tV], .lf (qr 0), [], [(true, .arr 90 (qm 0))], false⟩
def zam_P : List zaV := [zam_p122]
def zam_T : zbf := tab [e_zad, e_zaP]
theorem zam_To : zbd pg zam_T := zaX ⟨zfo, zfI, trivial⟩
theorem zam_k122 : (zam_p122).OK pg (zam_T) (zbu 38 (zam_P)) (zbh f_zam) 38 := ⟨by kernel_rfl, fun i x => by kernel_rfl⟩
theorem zam_go : zbt pg (zam_T) io_zam f_zam (zam_P) [.nilRow 4 800004 90 tV, .ren 4 700004, .ren 4 900004] (zam) := ⟨by kernel_rfl, by kernel_rfl, fun x => by kernel_rfl⟩
theorem ok_zam : io_zam.Okay pg (F_zam) := zbl zaZ (zam_To) (zam_go) ⟨zam_k122, trivial⟩
theorem shr32 (x : Nat) : shrI .u64 (x : Int) 32 = ((x / 4294967296 : Nat) : Int) := by
 unfold shrI
 rw [Int.fdiv_eq_ediv_of_nonneg _ (Int.pow_nonneg (by decide))]
 rfl
theorem zfR {xs : List Int} (h : wfd B32 xs = true) (i : Nat) : ∃ d : Nat, dig xs (i : Int) = (d : Int) ∧ d < 4294967296 := by
 rw [zes (by decide) h]
 exact ⟨_, rfl, Nat.mod_lt _ (by decide)⟩
theorem plus_l {a b : List Int} (ha : wfd B32 a = true) (hb : wfd B32 b = true) (m : Nat) (hm : m ≤ 2 ^ 40) : ∀ (r i o : Nat) (out : List Int), i + r = m → o ≤ 1 → out.length = i →
  lo zam_b122 (a, b, (m : Int)) ((o : Int), (i : Int), out) = some (out ++ plusN B32 a b r i o)
 | 0, i, o, out, h, _, _ => by
  rw [zbi, zam_b122]
  simp only [RT.run]
  rw [if_neg (by simp; omega)]
  simp [plusN]
 | r + 1, i, o, out, h, ho, hl => by
  rw [zbi, zam_b122]
  obtain ⟨x, hx, hx'⟩ := zfR ha i
  obtain ⟨y, hy, hy'⟩ := zfR hb i
  have w1 : zbr (x : Int) = x := zby (by omega)
  have w2 : zbr (y : Int) = y := zby (by omega)
  have w3 : zbr ((x : Int) + (y : Int)) = ((x + y : Nat) : Int) := by rw [zby] <;> omega
  have w4 : zbr ((o : Int) + ((x + y : Nat) : Int)) = ((o + (x + y) : Nat) : Int) := by rw [zby] <;> omega
  have w5 : w64 ((i : Int) + 1) = ((i + 1 : Nat) : Int) := by rw [zbg] <;> omega
  have w6 : zcr ((o + (x + y) : Nat) : Int) = (((o + (x + y)) % 4294967296 : Nat) : Int) := by rw [zfK]; omega
  have h2 : decide (0 ≤ (i : Int)) = true := by simp
  simp only [RT.run, hx, hy, w1, w2, w3, w4, w5, w6, shr32, h2, if_true]
  rw [if_pos (by simp; omega), if_pos (by rw [zds, maxLen_eq]; simp; omega)]
  rw [plus_l ha hb m hm r (i + 1) _ _ (by omega) (by omega) (by simp [hl])]
  rw [plusN, hx, hy, List.append_assoc]
  have e1 : ((o : Int) + ((x : Int) + (y : Int))) % ((B32 : Nat) : Int) = (((o + (x + y)) % 4294967296 : Nat) : Int) := by
   rw [show ((B32 : Nat) : Int) = 4294967296 from rfl]
   omega
  have e2 : ((o : Int) + ((x : Int) + (y : Int))) / ((B32 : Nat) : Int) = (((o + (x + y)) / 4294967296 : Nat) : Int) := by
   rw [show ((B32 : Nat) : Int) = 4294967296 from rfl]
   omega
  rw [e1, e2]
  rfl
def e_zam : zbj := io_zam.sp (fun (a, b) => okL 38 a && okL 38 b) (fun (a, b) => zbb B32 (val B32 a + val B32 b))
theorem sp_zam (h : ∀ (a : List Int) (b : List Int), WfT [.sl tV, .sl tV] (a, b) → (okL 38 a && okL 38 b) = true → (zam (a, b)).run (fun _ => none) = some (zbb B32 (val B32 a + val B32 b))) : e_zam.ok pg := zbo ok_zam fun (a, b) hw hc => h a b hw hc
theorem e_zam_ok : e_zam.ok pg := sp_zam fun a b hw hc => by
 have ha : wfd B32 a = true := zcn hw.1
 have hb : wfd B32 b = true := zcn hw.2
 simp only [Bool.and_eq_true, okL38] at hc
 unfold zam
 have hm : maxI (a.length : Int) (b.length : Int) = ((max a.length b.length : Nat) : Int) := by unfold maxI; split <;> omega
 have hw : w64 (((max a.length b.length : Nat) : Int) + 1) = ((max a.length b.length + 1 : Nat) : Int) := by rw [zbg] <;> omega
 have h := plus_l ha hb (max a.length b.length + 1) (by omega) (max a.length b.length + 1) 0 0 [] (by omega) (by omega) rfl
 simp only [RT.run, hm, hw]
 rw [show ((0 : Int), (0 : Int), ([] : List Int)) = (((0 : Nat) : Int), ((0 : Nat) : Int), []) from rfl, h]
 simp only [Option.bind_some, List.nil_append]
 have hlen : ∀ k i o, (plusN B32 a b k i o).length = k := fun k => by
  induction k with
  | zero => intro i o; rfl
  | succ k ih => intro i o; simp [plusN, ih]
 rw [if_pos (by rw [okL40, hlen]; omega)]
 have e := plusN_sum (b := B32) (k := max a.length b.length + 1) (by decide) ha hb (by omega) (by omega)
 rw [show ((0 : Nat) : Int) = 0 from rfl, e]
theorem len_val {xs : List Int} (h : wfd B32 xs = true) {n : Nat} (hv : val B32 xs < B32 ^ n) : (zbb B32 (val B32 xs)).length ≤ n := by
 by_cases h0 : val B32 xs = 0
 ·rw [h0, zdk]; exact Nat.zero_le _
 obtain ⟨m, h1, h2, h3⟩ := zdM (b := B32) (by decide) (Nat.pos_of_ne_zero h0)
 have := (Nat.pow_lt_pow_iff_right (by decide : 1 < B32)).1 (Nat.lt_of_le_of_lt h2 hv)
 omega
theorem digs_len {v n : Nat} (hv : v < B32 ^ n) : (zbb B32 v).length ≤ n := by
 have := len_val (xs := zbb B32 v) (zdw (by decide) v) (n := n) (by rw [zbS (by decide)]; exact hv)
 rwa [zbS (by decide)] at this
def zaC_b58 : ((List (List Int)) × Int) → (Int × (List Int)) → RT (Int × (List Int)) (List Int)
| (x6, x7), (x8, r3) =>
 .rq 1 (.ite (decide (x8 < x7))
 (.req (inB x6 x8) (.rq 4 (.req (okL 38 r3 && okL 38 (gI x6 x8)) (.rq 3 (.again (w64 (x8 + 1), zbb B32 (val B32 r3 + val B32 (gI x6 x8))))))))
 (.done r3))
def zaC_p58 : zaV := ⟨58, true, [.sl (.sl tV), tI], [tI, .sl tV], ⟨[.keep [3, 6, 7, 8], .gc, .nilRow 3 800003 90 tV, .ren 3 700003, .ren 3 900003, .gc], [3, 6, 7, 8], [.lf (qr 900003), .lf (qi 0), .lf (qi 1), .lf (qm 0)], [(900003, true, .arr 90 (qm 1))]⟩, [⟨2, ⟨[.keep [3], .gc, .nilRow 3 800003 90 tV, .ren 3 700003, .ren 3 900003, .gc], [3], [.lf (qr 900003)], [(900003, true, .arr 90 (qm 0))]⟩, [.sl tV]⟩], zaC_b58⟩
def zaC : (List (List Int)) → RT Unit (List Int)
| l =>
 .rq 5 (.call (lo zaC_b58 (l, (l.length : Int)) (0, [])) default fun v0 =>
 .rq 2 (.done v0))
def F_zaC (x : (List (List Int))) : Option (List Int) := (zaC x).run fun _ => none
def io_zaC : Io := ⟨n_zaC, [.sl (.sl tV)], [.lf (qm 0)], [], [[.sl (.sl tV)]], [.sl tV], .lf (qr 0), [], [(true, .arr 90 (qm 0))], false⟩
def zaC_P : List zaV := [zaC_p58]
def zaC_T : zbf := tab [e_zam]
theorem zaC_To : zbd pg zaC_T := zaX ⟨e_zam_ok, trivial⟩
theorem zaC_k58 : (zaC_p58).OK pg (zaC_T) (zbu 17 (zaC_P)) (zbh f_zaC) 17 := ⟨by kernel_rfl, fun i x => by kernel_rfl⟩
theorem zaC_go : zbt pg (zaC_T) io_zaC f_zaC (zaC_P) [.nilRow 2 800002 90 tV, .ren 2 700002, .ren 2 900002] (zaC) := ⟨by kernel_rfl, by kernel_rfl, fun x => by kernel_rfl⟩
theorem ok_zaC : io_zaC.Okay pg (F_zaC) := zbl zaZ (zaC_To) (zaC_go) ⟨zaC_k58, trivial⟩
def sumV (l : List (List Int)) : Nat := (l.map (val B32)).sum
theorem Add_l (l : List (List Int)) (hw : ∀ x ∈ l, wfd B32 x = true) (hl : l.length ≤ 1048576) {K : Nat} (hK : K ≤ 68719476736) (hs : ∀ x ∈ l, x.length ≤ K) : ∀ (r i v : Nat), i + r = l.length → v < B32 ^ (K + i) →
  lo zaC_b58 (l, (l.length : Int)) ((i : Int), zbb B32 v) = some (zbb B32 (v + sumV (l.drop i)))
 | 0, i, v, h, _ => by
  rw [zbi, zaC_b58]
  simp only [RT.run]
  rw [if_neg (by simp; omega), List.drop_of_length_le (by omega)]
  rfl
 | r + 1, i, v, h, hv => by
  rw [zbi, zaC_b58]
  have hi : i < l.length := by omega
  have w5 : w64 ((i : Int) + 1) = ((i + 1 : Nat) : Int) := by rw [zbg] <;> omega
  have hx := List.getElem_mem hi
  simp only [RT.run, w5, zbD hi]
  have hd := digs_len hv
  have hlx := hs _ hx
  rw [if_pos (by simp; omega), if_pos (by rw [zbU]; simp; omega), if_pos (by rw [Bool.and_eq_true, okL38, okL38]; omega), zbS (by decide)]
  have hv' : v + val B32 l[i] < B32 ^ (K + (i + 1)) := by
   have h1 := zcl (b := B32) (by decide) (hw _ hx)
   have h2 : B32 ^ l[i].length ≤ B32 ^ (K + i) := Nat.pow_le_pow_right (by decide) (by omega)
   have h3 : B32 ^ (K + (i + 1)) = B32 ^ (K + i) * B32 := Nat.pow_succ ..
   rw [h3]
   generalize B32 ^ (K + i) = z at *
   generalize val B32 l[i] = y at *
   rw [show B32 = 4294967296 from rfl]
   omega
  rw [Add_l l hw hl hK hs r (i + 1) _ (by omega) hv']
  rw [List.drop_eq_getElem_cons hi, sumV, sumV, List.map_cons, List.sum_cons, Nat.add_assoc]
def okLs (l : List (List Int)) : Bool := okL 20 l && l.all (okL 36)
theorem okLs_iff {l : List (List Int)} : okLs l = true ↔ l.length ≤ 1048576 ∧ ∀ x ∈ l, x.length ≤ 68719476736 := by
 simp only [okLs, Bool.and_eq_true, List.all_eq_true, okL36, okL20]
def e_zaC : zbj := io_zaC.sp (fun l => okLs l) (fun l => zbb B32 (sumV l))
theorem sp_zaC (h : ∀ (l : List (List Int)), WfT [.sl (.sl tV)] l → (okLs l) = true → (zaC l).run (fun _ => none) = some (zbb B32 (sumV l))) : e_zaC.ok pg := zbo ok_zaC fun l hw hc => h l hw hc
theorem e_zaC_ok : e_zaC.ok pg := sp_zaC fun l hw hc => by
 have hw' : Wf (.sl (.sl tV)) l := hw
 rw [okLs_iff] at hc
 unfold zaC
 obtain ⟨K, hK⟩ : ∃ K : Nat, K = 68719476736 := ⟨_, rfl⟩
 have h := Add_l l (fun x hx => zcn (hw'.2 x hx)) hc.1 (K := K) (by omega) (fun x hx => by rw [hK]; exact hc.2 x hx) l.length 0 0 (by omega) (Nat.pow_pos (by decide))
 simp only [RT.run]
 rw [show ((0 : Int), ([] : List Int)) = (((0 : Nat) : Int), zbb B32 0) from rfl, h]
 simp
end
end Go.Proofs.Ytlfdidaeachpoaa
namespace Go.Proofs.Ytlfdidaeachpoaa
open Go Go.RowKit
set_option maxRecDepth 100000
noncomputable section
def zeE : ByteArray := ⟨#[0, 1, 2, 2, 3, 3, 3, 3, 4, 4, 4, 4, 4, 4, 4, 4, 5, 5, 5, 5, 5, 5, 5, 5, 5, 5, 5, 5, 5, 5, 5, 5, 6, 6, 6, 6, 6, 6, 6, 6, 6, 6, 6, 6, 6, 6, 6, 6, 6, 6, 6, 6, 6, 6, 6, 6, 6, 6, 6, 6, 6, 6, 6, 6, 7, 7, 7, 7, 7, 7, 7, 7, 7, 7, 7, 7, 7, 7, 7, 7, 7, 7, 7, 7, 7, 7, 7, 7, 7, 7, 7, 7, 7, 7, 7, 7, 7, 7, 7, 7, 7, 7, 7, 7, 7, 7, 7, 7, 7, 7, 7, 7, 7, 7, 7, 7, 7, 7, 7, 7, 7, 7, 7, 7, 7, 7, 7, 7, 8, 8, 8, 8, 8, 8, 8, 8, 8, 8, 8, 8, 8, 8, 8, 8, 8, 8, 8, 8, 8, 8, 8, 8, 8, 8, 8, 8, 8, 8, 8, 8, 8, 8, 8, 8, 8, 8, 8, 8, 8, 8, 8, 8, 8, 8, 8, 8, 8, 8, 8, 8, 8, 8, 8, 8, 8, 8, 8, 8, 8, 8, 8, 8, 8, 8, 8, 8, 8, 8, 8, 8, 8, 8, 8, 8, 8, 8, 8, 8, 8, 8, 8, 8, 8, 8, 8, 8, 8, 8, 8, 8, 8, 8, 8, 8, 8, 8, 8, 8, 8, 8, 8, 8, 8, 8, 8, 8, 8, 8, 8, 8, 8, 8, 8, 8, 8, 8, 8, 8, 8, 8, 8, 8, 8, 8, 8, 8]⟩
def zy_b6 : (Int × Int) → RT Unit (Int × Int)
| (x, n) =>
 .rq 2 (.ite (decide (65536 ≤ x))
 (.rq 4 (.done (shrI .u32 x 16, 16)))
 (.done (x, n)))
def zy_p6 : zaV := ⟨6, false, [tV, tI], [], ⟨[.keep [0, 2], .gc], [0, 2], [.lf (qi 0), .lf (qi 1)], []⟩, [⟨0, ⟨[.keep [0, 2], .gc], [0, 2], [.lf (qm 0), .lf (qm 1)], []⟩, [tV, tI]⟩], (fun i _ => zy_b6 i)⟩
def zy : Int → RT Unit Int
| x =>
 .rq 1 (.call (on zy_b6 (x, 0)) default fun v0 =>
 .rq 2 (.ite (decide (256 ≤ v0.1))
 (.rq 9 (let t0 := wu8 (shrI .u32 v0.1 8);
 .req (inS zeE t0) (.rq 3 (.done (w64 ((w64 (v0.2 + 8)) + (w64 (byI zeE t0))))))))
 (.rq 3 (.req (inS zeE (wu8 v0.1)) (.rq 3 (.done (w64 (v0.2 + (w64 (byI zeE (wu8 v0.1)))))))))))
def F_zy (x : Int) : Option Int := (zy x).run fun _ => none
def io_zy : Io := ⟨n_zy, [tV], [.lf (qm 0)], [], [[tV]], [tI], .lf (qm 0), [], [], false⟩
def zy_P : List zaV := [zy_p6]
def zy_T : zbf := tab []
theorem zy_To : zbd pg zy_T := zaX trivial
theorem zy_k6 : (zy_p6).OK pg (zy_T) (zbu 19 (zy_P)) (zbh f_zy) 19 := ⟨by kernel_rfl, fun i x => by kernel_rfl⟩
theorem zy_go : zbt pg (zy_T) io_zy f_zy (zy_P) [] (zy) := ⟨by kernel_rfl, by kernel_rfl, fun x => by kernel_rfl⟩
theorem ok_zy : io_zy.Okay pg (F_zy) := zbl zaZ (zy_To) (zy_go) ⟨zy_k6, trivial⟩
theorem len8_all : ∀ i, i < 256 → byteAt zeE i = (bl i : Int) := by decide +kernel
theorem len8_size : zeE.size = 256 := by kernel_rfl
theorem shrN (x : Nat) (k : IntKind) (j : Nat) (h : j ≤ k.bits) : shrI k (x : Int) (j : Int) = ((x / 2 ^ j : Nat) : Int) := by
 unfold shrI
 rw [Int.toNat_natCast, Nat.min_eq_left h, Int.fdiv_eq_ediv_of_nonneg _ (Int.pow_nonneg (by decide)), Int.natCast_ediv, Int.natCast_pow]
 rfl
theorem wu8_eq (n : Int) : wu8 n = n % 256 := by
 unfold wu8 IntKind.wrap
 have h1 : (2 : Int) ^ IntKind.u8.bits = 256 := rfl
 have h2 : IntKind.u8.signed = false := rfl
 simp only [h1, h2]
 simp
def e_zy : zbj := io_zy.sp (fun x => true) (fun x => ((bl x.toNat : Nat) : Int))
theorem sp_zy (h : ∀ (x : Int), WfT [tV] x → (zy x).run (fun _ => none) = some ((bl x.toNat : Nat) : Int)) : e_zy.ok pg := zbo ok_zy fun x hw hc => h x hw
theorem e_zy_ok : e_zy.ok pg := sp_zy fun x hw => by
 have hw' : 0 ≤ x ∧ x < 4294967296 := hw
 obtain ⟨n, rfl⟩ := Int.eq_ofNat_of_zero_le hw'.1
 have hn : n < 4294967296 := by omega
 rw [Int.toNat_natCast]
 have e1 : shrI .u32 (n : Int) 16 = ((n / 65536 : Nat) : Int) := shrN n .u32 16 (by decide)
 have e2 : shrI .u32 ((n / 65536 : Nat) : Int) 8 = ((n / 65536 / 256 : Nat) : Int) := shrN _ .u32 8 (by decide)
 have e3 : shrI .u32 (n : Int) 8 = ((n / 256 : Nat) : Int) := shrN _ .u32 8 (by decide)
 have bb : ∀ m : Nat, m < 256 → bl m ≤ 8 := fun m hm => bl_le.2 (by omega)
 have key : ∀ (m : Nat) (c : Int), m < 256 → 0 ≤ c ∧ c ≤ 24 → inS zeE (wu8 (m : Int)) = true ∧ w64 (c + w64 (byI zeE (wu8 (m : Int)))) = c + (bl m : Int) := fun m c hm hc => by
  have := bb m hm
  have hm' : wu8 (m : Int) = (m : Int) := by rw [wu8_eq]; omega
  rw [hm']
  refine ⟨by simp [inS, len8_size]; omega, ?_⟩
  unfold byI
  rw [Int.toNat_natCast, len8_all m hm, zbg, zbg] <;> (try rw [zbg]) <;> omega
 have w24 : w64 (16 + 8) = 24 := by rw [zbg] <;> omega
 have w8 : w64 (0 + 8) = 8 := by rw [zbg] <;> omega
 rw [zy]
 simp only [RT.run, on, zy_b6, decide_eq_true_eq]
 by_cases h1 : (65536 : Int) ≤ (n : Int)
 ·rw [if_pos h1, Option.bind_some]
  simp only [e1, e2, w24]
  by_cases h2 : (256 : Int) ≤ ((n / 65536 : Nat) : Int)
  ·obtain ⟨k1, k2⟩ := key (n / 65536 / 256) 24 (by omega) (by omega)
   rw [if_pos h2, if_pos k1, k2, bl_shr_add (n := n) (j := 24) (by omega), show n / 65536 / 256 = n / 2 ^ 24 by omega]
   rfl
  ·obtain ⟨k1, k2⟩ := key (n / 65536) 16 (by omega) (by omega)
   rw [if_neg h2, if_pos k1, k2, bl_shr_add (n := n) (j := 16) (by omega)]
   rfl
 ·rw [if_neg h1, Option.bind_some]
  simp only [e3, w8]
  by_cases h2 : (256 : Int) ≤ (n : Int)
  ·obtain ⟨k1, k2⟩ := key (n / 256) 8 (by omega) (by omega)
   rw [if_pos h2, if_pos k1, k2, bl_shr_add (n := n) (j := 8) (by omega)]
   rfl
  ·obtain ⟨k1, k2⟩ := key n 0 (by omega) (by omega)
   rw [if_neg h2, if_pos k1, k2]
   simp
theorem ibit_or {x y : Nat} (hx : x < 2 ^ 64) (hy : y < 2 ^ 64) : ibit .or .u64 x y = ((x ||| y : Nat) : Int) := by
 unfold ibit
 have e : ∀ z : Nat, z < 2 ^ 64 → (BitVec.ofInt IntKind.u64.bits (z : Int)).toNat = z := fun z hz => by
  rw [BitVec.toNat_ofInt]
  have : (2 : Nat) ^ IntKind.u64.bits = 18446744073709551616 := rfl
  rw [this]
  omega
 simp only [BitVec.toNat_or, e x hx, e y hy]
 rw [u64_in]
 have := Nat.or_lt_two_pow hx hy
 omega
theorem shlN {x j : Nat} (hj : j ≤ 64) (h : x * 2 ^ j < 18446744073709551616) : shlI .u64 (x : Int) (j : Int) = ((x * 2 ^ j : Nat) : Int) := by
 unfold shlI
 rw [Int.toNat_natCast, show min j IntKind.u64.bits = j from Nat.min_eq_left hj]
 have e : (x : Int) * 2 ^ j = ((x * 2 ^ j : Nat) : Int) := by rw [Int.natCast_mul, Int.natCast_pow]; rfl
 rw [e]
 exact u64_in (by omega)
theorem zgv {x y : Nat} (hx : x < 4294967296) (hy : y < 4294967296) : ibit .or .u64 (shlI .u64 (x : Int) 32) (y : Int) = ((x * 4294967296 + y : Nat) : Int) := by
 have h := shlN (x := x) (j := 32) (by decide) (by omega)
 rw [show (32 : Int) = ((32 : Nat) : Int) from rfl, h, ibit_or (by omega) (by omega), or_add (by omega)]
def zgj : (Int × Int × (List Int) × Int) → (Int × Int × (List Int)) → RT (Int × Int × (List Int)) (Int × (List Int))
| (x6, L, p, e), (i, n, r5) =>
 .rq 1 (.ite (decide (n < e))
 (.rq 1 (.req (inB p n) (.rq 13 (let t0 := w64 (x6 + n);
 let t1 := inB r5 t0;
 .req t1 (.rq 11 (.req t1 (.rq 6 (let t2 := zbr (i + (zbr ((zbr ((zbr L) * (zbr (gI p n)))) + (zbr (gI r5 t0)))));
 .again (shrI .u64 t2 32, w64 (n + 1), sI r5 t0 (zcr t2))))))))))
 (.done (i, r5)))
def zI_p59802 : zaV := ⟨59802, true, [.sl tV, tI, tV, .sl tV, tI, tI, .sl tV, tI], [tU, tI, .sl tV], ⟨[.keep [1, 5, 6, 7, 8, 17, 18, 19, 24, 25, 26], .gc, .nilRow 5 800005 90 tV, .ren 5 700005, .ren 5 900005, .gc], [1, 5, 6, 7, 8, 17, 18, 19, 24, 25, 26], [.lf (qi 0), .lf (qr 900005), .lf (qi 1), .lf (qi 2), .lf (qm 0), .lf (qi 3), .lf (qi 4), .lf (qi 5), .lf (qi 6), .lf (qi 7), .lf (qm 1)], [(900005, true, .arr 90 (qm 2))]⟩, [⟨4, ⟨[.keep [1, 5, 6, 8, 17, 18, 19], .gc, .nilRow 5 800005 90 tV, .ren 5 700005, .ren 5 900005, .gc], [1, 5, 6, 8, 17, 18, 19], [.lf (qi 0), .lf (qr 900005), .lf (qi 1), .lf (qm 0), .lf (qi 3), .lf (qi 4), .lf (qi 5)], [(900005, true, .arr 90 (qm 1))]⟩, [tU, .sl tV]⟩], (fun i => zgj (i.2.1, i.2.2.1, i.2.2.2.2.2.2.1, i.2.2.2.2.2.2.2))⟩
def zI_b58 : ((List Int) × (List Int) × Int) → (Int × (List Int)) → RT (Int × (List Int)) (List Int)
| (l, L, i), (s, r5) =>
 .rq 1 (.ite (decide (s < i))
 (.rq 1 (.req (inB L s) (.rq 7 (.call (lo zgj (s, gI L s, l, (l.length : Int)) (0, 0, r5)) default fun v0 =>
 .rq 7 (let t0 := w64 (s + (l.length : Int));
 .req (inB v0.2 t0) (.rq 3 (.again (w64 (s + 1), sI v0.2 t0 (zcr v0.1)))))))))
 (.done r5))
def zI_p58 : zaV := ⟨58, true, [.sl tV, .sl tV, tI], [tI, .sl tV], ⟨[.keep [1, 5, 17, 18, 19], .gc, .nilRow 5 800005 90 tV, .ren 5 700005, .ren 5 900005, .gc], [1, 5, 17, 18, 19], [.lf (qi 0), .lf (qr 900005), .lf (qi 1), .lf (qi 2), .lf (qm 0)], [(900005, true, .arr 90 (qm 1))]⟩, [⟨2, ⟨[.keep [5], .gc, .nilRow 5 800005 90 tV, .ren 5 700005, .ren 5 900005, .gc], [5], [.lf (qr 900005)], [(900005, true, .arr 90 (qm 0))]⟩, [.sl tV]⟩], zI_b58⟩
def zI : ((List Int) × (List Int)) → RT Unit (List Int)
| (a0, l) =>
 .rq 6 (let t0 := w64 ((a0.length : Int) + (l.length : Int));
 .req (mkOK 4 t0) (.rq 4 (.call (lo zI_b58 (l, a0, (a0.length : Int)) (0, zbV t0 0)) default fun v1 =>
 .rq 1 (.req (okL 40 v1) (.rq 1 (.done (zbb B32 (val B32 v1))))))))
def F_zI (x : (List Int) × (List Int)) : Option (List Int) := (zI x).run fun _ => none
def io_zI : Io := ⟨n_zI, [.sl tV, .sl tV], [.lf (qm 0), .lf (qm 1)], [], [[.sl tV], [.sl tV]], [.sl tV], .lf (qr 0), [], [(true, .arr 90 (qm 0))], false⟩
def zI_P : List zaV := [zI_p59802, zI_p58]
def zI_T : zbf := tab [e_zad]
theorem zI_To : zbd pg zI_T := zaX ⟨zfo, trivial⟩
theorem zI_k59802 : (zI_p59802).OK pg (zI_T) (zbu 67 (zI_P)) (zbh f_zI) 67 := ⟨by kernel_rfl, fun i x => by kernel_rfl⟩
theorem zI_k58 : (zI_p58).OK pg (zI_T) (zbu 67 (zI_P)) (zbh f_zI) 67 := ⟨by kernel_rfl, fun i x => by kernel_rfl⟩
theorem zI_go : zbt pg (zI_T) io_zI f_zI (zI_P) [.nilRow 4 800004 90 tV, .ren 4 700004, .ren 4 900004] (zI) := ⟨by kernel_rfl, by kernel_rfl, fun x => by kernel_rfl⟩
theorem ok_zI : io_zI.Okay pg (F_zI) := zbl zaZ (zI_To) (zI_go) ⟨zI_k59802, zI_k58, trivial⟩
theorem zdr {xs : List Int} (h : wfd B32 xs = true) (i : Nat) : ∃ d : Nat, xs.getD i 0 = (d : Int) ∧ d < 4294967296 := by
 have := zfs (by decide : 0 < B32) h i
 rw [show ((B32 : Nat) : Int) = 4294967296 from rfl] at this
 exact ⟨(xs.getD i 0).toNat, by omega, by omega⟩
theorem gIn (xs : List Int) (i : Nat) : gI xs (i : Int) = xs.getD i 0 := zed xs i
theorem sIn (xs : List Int) (i : Nat) (y : Int) : sI xs (i : Int) y = xs.set i y := by simp [sI]
theorem row_l {ys : List Int} (hy : wfd B32 ys = true) {x i : Nat} (hx : x < 4294967296) (hyl : ys.length ≤ 2 ^ 40) (hi : i ≤ 2 ^ 40) : ∀ (r k o : Nat) (out : List Int), k + r = ys.length → i + ys.length ≤ out.length → out.length ≤ 2 ^ 41 → wfd B32 out = true → o < 4294967296 →
  lo zgj ((i : Int), (x : Int), ys, (ys.length : Int)) ((o : Int), (k : Int), out) = some ((rowN B32 x ys i r k out o).2, (rowN B32 x ys i r k out o).1)
 | 0, k, o, out, h, _, _, _, _ => by
  rw [zbi, zgj]
  simp only [RT.run]
  rw [if_neg (by simp; omega)]
  rfl
 | r + 1, k, o, out, h, h1, h2, hw, ho => by
  rw [zbi, zgj]
  obtain ⟨y, e1, hy'⟩ := zdr hy k
  obtain ⟨z, e2, hz⟩ := zdr hw (i + k)
  have hxy : x * y ≤ 4294967295 * 4294967295 := Nat.mul_le_mul (by omega) (by omega)
  have w1 : w64 ((i : Int) + (k : Int)) = ((i + k : Nat) : Int) := by rw [zbg] <;> omega
  have w2 : zbr (x : Int) = (x : Int) := zby (by omega)
  have w3 : zbr (y : Int) = (y : Int) := zby (by omega)
  have w4 : zbr (z : Int) = (z : Int) := zby (by omega)
  have w5 : zbr ((x : Int) * (y : Int)) = ((x * y : Nat) : Int) := by rw [← Int.natCast_mul, zby]; omega
  have w6 : zbr (((x * y : Nat) : Int) + (z : Int)) = ((x * y + z : Nat) : Int) := by rw [zby] <;> omega
  have w7 : zbr ((o : Int) + ((x * y + z : Nat) : Int)) = ((o + (x * y + z) : Nat) : Int) := by rw [zby] <;> omega
  have w8 : w64 ((k : Int) + 1) = ((k + 1 : Nat) : Int) := by rw [zbg] <;> omega
  have w9 : zcr ((o + (x * y + z) : Nat) : Int) = (((o + (x * y + z)) % 4294967296 : Nat) : Int) := by rw [zfK]; omega
  simp only [RT.run, gIn, sIn, w1, w2, w3, w4, w5, w6, w7, w8, w9, e1, e2, shr32]
  rw [if_pos (by simp; omega), if_pos (by rw [zbU]; simp; omega), if_pos (by rw [zbU]; simp; omega), if_pos (by rw [zbU]; simp; omega)]
  have q1 : (o : Int) + ((x : Int) * (y : Int) + (z : Int)) = ((o + (x * y + z) : Nat) : Int) := by simp only [Int.natCast_add, Int.natCast_mul]
  have e : rowN B32 x ys i (r + 1) k out o = rowN B32 x ys i r (k + 1) (out.set (i + k) (((o + (x * y + z)) % 4294967296 : Nat) : Int)) (((o + (x * y + z)) / 4294967296 : Nat) : Int) := by
   rw [rowN, e1, e2, q1]
   rfl
  rw [e]
  exact row_l hy hx hyl hi r (k + 1) _ _ (by omega) (by rw [List.length_set]; omega) (by rw [List.length_set]; omega) (zee hw ⟨Int.natCast_nonneg _, by rw [show ((B32 : Nat) : Int) = 4294967296 from rfl]; omega⟩) (by omega)
theorem times_l {xs ys : List Int} (hx : wfd B32 xs = true) (hy : wfd B32 ys = true) (hxl : xs.length ≤ 2 ^ 39) (hyl : ys.length ≤ 2 ^ 39) : ∀ (r i : Nat) (out : List Int), i + r = xs.length → out.length = xs.length + ys.length → wfd B32 out = true →
  lo zI_b58 (ys, xs, (xs.length : Int)) ((i : Int), out) = some (mulN B32 xs ys r i out)
 | 0, i, out, h, _, _ => by
  rw [zbi, zI_b58]
  simp only [RT.run]
  rw [if_neg (by simp; omega)]
  rfl
 | r + 1, i, out, h, h1, hw => by
  rw [zbi, zI_b58]
  obtain ⟨x, e1, hx'⟩ := zdr hx i
  have hr := row_l hy (x := x) (i := i) hx' (by omega) (by omega) ys.length 0 0 out (by omega) (by omega) (by omega) hw (by omega)
  have ho := rowN_ok (b := B32) (by decide) (x := (x : Int)) (by rw [show ((B32 : Nat) : Int) = 4294967296 from rfl]; omega) hy (i := i) ys.length 0 out 0 (by omega) (by omega) hw (by decide)
  have w1 : w64 ((i : Int) + (ys.length : Int)) = ((i + ys.length : Nat) : Int) := by rw [zbg] <;> omega
  have w8 : w64 ((i : Int) + 1) = ((i + 1 : Nat) : Int) := by rw [zbg] <;> omega
  simp only [RT.run, gIn, sIn, w1, w8, e1]
  rw [if_pos (by simp; omega), if_pos (by rw [zbU]; simp; omega)]
  rw [show ((0 : Int), (0 : Int), out) = (((0 : Nat) : Int), ((0 : Nat) : Int), out) from rfl, hr, Option.bind_some]
  rw [show ((0 : Nat) : Int) = 0 from rfl]
  obtain ⟨t1, t2, t3, _⟩ := ho
  rw [if_pos (by rw [zbU]; simp; omega)]
  have w9 : zcr (rowN B32 x ys i ys.length 0 out 0).2 = (rowN B32 x ys i ys.length 0 out 0).2 := zet (by rw [show ((B32 : Nat) : Int) = 4294967296 from rfl] at t3; exact t3)
  have e : mulN B32 xs ys (r + 1) i out = mulN B32 xs ys r (i + 1) ((rowN B32 x ys i ys.length 0 out 0).1.set (i + ys.length) (rowN B32 x ys i ys.length 0 out 0).2) := by
   rw [mulN, e1]
  rw [e, w9]
  exact times_l hx hy hxl hyl r (i + 1) _ (by omega) (by rw [List.length_set, t2]; omega) (zee t1 t3)
def e_zI : zbj := io_zI.sp (fun (a, b) => okL 38 a && okL 38 b) (fun (a, b) => zbb B32 (val B32 a * val B32 b))
theorem sp_zI (h : ∀ (a : List Int) (b : List Int), WfT [.sl tV, .sl tV] (a, b) → (okL 38 a && okL 38 b) = true → (zI (a, b)).run (fun _ => none) = some (zbb B32 (val B32 a * val B32 b))) : e_zI.ok pg := zbo ok_zI fun (a, b) hw hc => h a b hw hc
theorem e_zI_ok : e_zI.ok pg := sp_zI fun a b hw hc => by
 have ha : wfd B32 a = true := zcn hw.1
 have hb : wfd B32 b = true := zcn hw.2
 simp only [Bool.and_eq_true, okL38] at hc
 rw [zI]
 have hw : w64 ((a.length : Int) + (b.length : Int)) = ((a.length + b.length : Nat) : Int) := by rw [zbg] <;> omega
 have h := times_l ha hb (by omega) (by omega) a.length 0 (List.replicate (a.length + b.length) 0) (by omega) (by simp) (zep (by decide))
 obtain ⟨m1, m2, m3⟩ := mulN_val (b := B32) (by decide) ha hb
 simp only [RT.run, hw, zbV, Int.toNat_natCast]
 rw [if_pos (by rw [zcK]; omega), show ((0 : Int), List.replicate (a.length + b.length) (0 : Int)) = (((0 : Nat) : Int), List.replicate (a.length + b.length) 0) from rfl, h, Option.bind_some]
 rw [if_pos (by rw [okL40, m2]; omega), m3]
def zau_b58 : ((List (List Int)) × Int) → (Int × (List Int)) → RT (Int × (List Int)) (List Int)
| (x7, x8), (x9, r3) =>
 .rq 1 (.ite (decide (x9 < x8))
 (.req (inB x7 x9) (.rq 4 (.req (okL 38 r3 && okL 38 (gI x7 x9)) (.rq 3 (.again (w64 (x9 + 1), zbb B32 (val B32 r3 * val B32 (gI x7 x9))))))))
 (.done r3))
def zau_p58 : zaV := ⟨58, true, [.sl (.sl tV), tI], [tI, .sl tV], ⟨[.keep [3, 7, 8, 9], .gc, .nilRow 3 800003 90 tV, .ren 3 700003, .ren 3 900003, .gc], [3, 7, 8, 9], [.lf (qr 900003), .lf (qi 0), .lf (qi 1), .lf (qm 0)], [(900003, true, .arr 90 (qm 1))]⟩, [⟨2, ⟨[.keep [3], .gc, .nilRow 3 800003 90 tV, .ren 3 700003, .ren 3 900003, .gc], [3], [.lf (qr 900003)], [(900003, true, .arr 90 (qm 0))]⟩, [.sl tV]⟩], zau_b58⟩
def zau : (List (List Int)) → RT Unit (List Int)
| l =>
 .rq 6 (.call (lo zau_b58 (l, (l.length : Int)) (0, zbb B32 (1 : Int).toNat)) default fun v0 =>
 .rq 2 (.done v0))
def F_zau (x : (List (List Int))) : Option (List Int) := (zau x).run fun _ => none
def io_zau : Io := ⟨n_zau, [.sl (.sl tV)], [.lf (qm 0)], [], [[.sl (.sl tV)]], [.sl tV], .lf (qr 0), [], [(true, .arr 90 (qm 0))], false⟩
def zau_P : List zaV := [zau_p58]
def zau_T : zbf := tab [e_zI, e_zaR]
theorem zau_To : zbd pg zau_T := zaX ⟨e_zI_ok, e_zaR_ok, trivial⟩
theorem zau_k58 : (zau_p58).OK pg (zau_T) (zbu 18 (zau_P)) (zbh f_zau) 18 := ⟨by kernel_rfl, fun i x => by kernel_rfl⟩
theorem zau_go : zbt pg (zau_T) io_zau f_zau (zau_P) [.nilRow 2 800002 90 tV, .ren 2 700002, .ren 2 900002] (zau) := ⟨by kernel_rfl, by kernel_rfl, fun x => by kernel_rfl⟩
theorem ok_zau : io_zau.Okay pg (F_zau) := zbl zaZ (zau_To) (zau_go) ⟨zau_k58, trivial⟩
def zei (l : List (List Int)) : Nat := (l.map (val B32)).prod
def lenS (l : List (List Int)) : Nat := (l.map List.length).sum
theorem Mul_l (l : List (List Int)) (hw : ∀ x ∈ l, wfd B32 x = true) (hl : l.length ≤ 1048576) : ∀ (r i v : Nat) (K : Nat), i + r = l.length → v < B32 ^ K → K + lenS (l.drop i) ≤ 274877906944 →
  lo zau_b58 (l, (l.length : Int)) ((i : Int), zbb B32 v) = some (zbb B32 (v * zei (l.drop i)))
 | 0, i, v, K, h, _, _ => by
  rw [zbi, zau_b58]
  simp only [RT.run]
  rw [if_neg (by simp; omega), List.drop_of_length_le (by omega)]
  simp [zei]
 | r + 1, i, v, K, h, hv, hK => by
  rw [zbi, zau_b58]
  have hi : i < l.length := by omega
  have w5 : w64 ((i : Int) + 1) = ((i + 1 : Nat) : Int) := by rw [zbg] <;> omega
  have hx := List.getElem_mem hi
  simp only [RT.run, w5, zbD hi]
  have hd := digs_len hv
  rw [List.drop_eq_getElem_cons hi, lenS, List.map_cons, List.sum_cons] at hK
  rw [if_pos (by simp; omega), if_pos (by rw [zbU]; simp; omega), if_pos (by rw [Bool.and_eq_true, okL38, okL38]; omega), zbS (by decide)]
  have hv' : v * val B32 l[i] < B32 ^ (K + l[i].length) := by
   rw [Nat.pow_add]
   exact Nat.mul_lt_mul'' hv (zcl (by decide) (hw _ hx))
  rw [Mul_l l hw hl r (i + 1) _ (K + l[i].length) (by omega) hv' (by rw [lenS]; omega)]
  rw [List.drop_eq_getElem_cons hi, zei, zei, List.map_cons, List.prod_cons, Nat.mul_assoc]
def okMs (l : List (List Int)) : Bool := okL 20 l && decide (lenS l ≤ 137438953472)
theorem zey {l : List (List Int)} : okMs l = true ↔ l.length ≤ 1048576 ∧ lenS l ≤ 137438953472 := by simp only [okMs, Bool.and_eq_true, okL20, decide_eq_true_eq]
def e_zau : zbj := io_zau.sp (fun l => okMs l) (fun l => zbb B32 (zei l))
theorem sp_zau (h : ∀ (l : List (List Int)), WfT [.sl (.sl tV)] l → (okMs l) = true → (zau l).run (fun _ => none) = some (zbb B32 (zei l))) : e_zau.ok pg := zbo ok_zau fun l hw hc => h l hw hc
theorem e_zau_ok : e_zau.ok pg := sp_zau fun l hw hc => by
 have hw' : Wf (.sl (.sl tV)) l := hw
 rw [zey] at hc
 rw [zau]
 have h := Mul_l l (fun x hx => zcn (hw'.2 x hx)) hc.1 l.length 0 1 1 (by omega) (by decide) (by simpa using by omega)
 simp only [RT.run]
 rw [show ((0 : Int), zbb B32 ((1 : Int)).toNat) = (((0 : Nat) : Int), zbb B32 1) from rfl, h]
 simp
end
end Go.Proofs.Ytlfdidaeachpoaa
namespace Go.Proofs.Ytlfdidaeachpoaa
open Go Go.RowKit
theorem Win.top {p v1 v2 vr t u2 ur V W : Nat} (H : Win p v1 v2 vr t u2 ur V W) : t < B32 * v1 + B32 := by
 have k1 : t * (B32 * p) ≤ W := by
  rw [H.hW, Nat.add_mul, Nat.mul_assoc t]
  omega
 have k2 : V < (v1 + 1) * (B32 * p) := by
  rw [H.hV, Nat.add_mul, Nat.add_mul, Nat.mul_assoc, Nat.one_mul]
  have : (v2 + 1) * p ≤ B32 * p := Nat.mul_le_mul_right _ H.h2
  rw [Nat.add_mul, Nat.one_mul] at this
  have := H.hvr
  omega
 have k3 : t * (B32 * p) < B32 * ((v1 + 1) * (B32 * p)) := Nat.lt_of_le_of_lt k1 (Nat.lt_trans H.lt ((Nat.mul_lt_mul_left (by decide : 0 < B32)).2 k2))
 rw [← Nat.mul_assoc B32] at k3
 have k4 := Nat.lt_of_mul_lt_mul_right k3
 rw [Nat.mul_add, Nat.mul_one] at k4
 exact k4
theorem awN_drop (q : Nat) (vs : List Int) (j : Nat) : ∀ (r i o l : Nat) (us : List Int), (awN q vs j r i o l us).1.drop (j + i + r) = us.drop (j + i + r)
 | 0, _, _, _, _ => rfl
 | r + 1, i, o, l, us => by
  rw [awN]
  have := awN_drop q vs j r (i + 1) ((o + q * (dig vs i).toNat) / B32) (subD (us.getD (j + i) 0).toNat ((o + q * (dig vs i).toNat) % B32) l).2 (us.set (j + i) ((subD (us.getD (j + i) 0).toNat ((o + q * (dig vs i).toNat) % B32) l).1 : Int))
  rw [show j + (i + 1) + r = j + i + (r + 1) by omega] at this
  rw [this, List.drop_set_of_lt (by omega)]
theorem bkN_drop (vs : List Int) (j : Nat) : ∀ (r i o : Nat) (us : List Int), (bkN vs j r i o us).1.drop (j + i + r) = us.drop (j + i + r)
 | 0, _, _, _ => rfl
 | r + 1, i, o, us => by
  rw [bkN]
  have := bkN_drop vs j r (i + 1) ((o + ((us.getD (j + i) 0).toNat + (dig vs i).toNat)) / B32) (us.set (j + i) (((o + ((us.getD (j + i) 0).toNat + (dig vs i).toNat)) % B32 : Nat) : Int))
  rw [show j + (i + 1) + r = j + i + (r + 1) by omega] at this
  rw [this, List.drop_set_of_lt (by omega)]
theorem drop_zero {us : List Int} {k : Nat} (hk : k ≤ us.length) (h : val B32 us < B32 ^ k) : val B32 (us.drop k) = 0 := by
 rw [zgp B32 us k hk] at h
 apply Nat.eq_zero_of_not_pos
 intro hp
 have : B32 ^ k * 1 ≤ B32 ^ k * val B32 (us.drop k) := Nat.mul_le_mul_left _ hp
 omega
theorem val_low {us : List Int} (hw : wfd B32 us = true) {k : Nat} (hk : k ≤ us.length) (h : val B32 (us.drop k) = 0) : val B32 us < B32 ^ k := by
 rw [zgp B32 us k hk, h, Nat.mul_zero, Nat.add_zero]
 have := zcl (by decide : 0 < B32) (wfd_take (n := k) hw)
 rwa [List.length_take, Nat.min_eq_left hk] at this
theorem div_round {us vs : List Int} {j g Q : Nat} (hu : wfd B32 us = true) (hv : wfd B32 vs = true) (hj : j + (vs.length + 1) ≤ us.length) (hV : 0 < val B32 vs)
  (hU : val B32 us < B32 ^ j * (B32 * val B32 vs)) (hQ : Q * val B32 vs ≤ val B32 us / B32 ^ j) (hQ' : val B32 us / B32 ^ j < (Q + 1) * val B32 vs) (hg : Q ≤ g) (hg' : g ≤ Q + 1) :
  ((awN g vs j (vs.length + 1) 0 0 0 us).2 = 0 ∧ g = Q ∧ wfd B32 (awN g vs j (vs.length + 1) 0 0 0 us).1 = true ∧ (awN g vs j (vs.length + 1) 0 0 0 us).1.length = us.length ∧ val B32 (awN g vs j (vs.length + 1) 0 0 0 us).1 + B32 ^ j * (Q * val B32 vs) = val B32 us) ∨
  ((awN g vs j (vs.length + 1) 0 0 0 us).2 = 1 ∧ g = Q + 1 ∧ wfd B32 (awN g vs j (vs.length + 1) 0 0 0 us).1 = true ∧ (awN g vs j (vs.length + 1) 0 0 0 us).1.length = us.length ∧
   wfd B32 (bkN vs j (vs.length + 1) 0 0 (awN g vs j (vs.length + 1) 0 0 0 us).1).1 = true ∧ (bkN vs j (vs.length + 1) 0 0 (awN g vs j (vs.length + 1) 0 0 0 us).1).1.length = us.length ∧
   val B32 (bkN vs j (vs.length + 1) 0 0 (awN g vs j (vs.length + 1) 0 0 0 us).1).1 + B32 ^ j * (Q * val B32 vs) = val B32 us) := by
 have hVlt := zcl (by decide : 0 < B32) hv
 have pj : 0 < B32 ^ j := Nat.pow_pos (by decide)
 have hUj : val B32 us / B32 ^ j < B32 * val B32 vs := by
  rw [Nat.div_lt_iff_lt_mul pj, Nat.mul_comm]
  exact hU
 have hQB : Q < B32 := by
  apply Nat.lt_of_mul_lt_mul_right (a := val B32 vs)
  exact Nat.lt_of_le_of_lt hQ hUj
 have hgV : g * val B32 vs < B32 ^ (vs.length + 1) := by
  have h1 : g * val B32 vs ≤ B32 * val B32 vs := Nat.mul_le_mul_right _ (by omega)
  have h2 : B32 * val B32 vs < B32 * B32 ^ vs.length := (Nat.mul_lt_mul_left (by decide)).2 hVlt
  rw [Nat.pow_succ, Nat.mul_comm (B32 ^ vs.length)]
  omega
 obtain ⟨a1, a2, a3, a4⟩ := aw_val (q := g) hv hu hj hgV
 have ad := awN_drop g vs j (vs.length + 1) 0 0 0 us
 rw [Nat.add_zero] at ad
 have hUP : val B32 us < B32 ^ (j + (vs.length + 1)) := by
  refine Nat.lt_of_lt_of_le hU ?_
  rw [Nat.pow_add, Nat.pow_succ, Nat.mul_comm (B32 ^ vs.length)]
  exact Nat.mul_le_mul_left _ (Nat.mul_le_mul_left _ (Nat.le_of_lt hVlt))
 have hd0 := drop_zero hj hUP
 have aLow : val B32 (awN g vs j (vs.length + 1) 0 0 0 us).1 < B32 ^ (j + (vs.length + 1)) := val_low a1 (by rw [a2]; exact hj) (by rw [ad]; exact hd0)
 generalize hA : awN g vs j (vs.length + 1) 0 0 0 us = A at *
 obtain ⟨us1, l⟩ := A
 simp only at *
 have hmod : B32 ^ j * (val B32 us / B32 ^ j) ≤ val B32 us := Nat.mul_div_le _ _
 by_cases hgQ : g = Q
 ·left
  subst hgQ
  have h1 : B32 ^ j * (g * val B32 vs) ≤ val B32 us := Nat.le_trans (Nat.mul_le_mul_left _ hQ) hmod
  have hl : l = 0 := by
   apply Nat.eq_zero_of_not_pos
   intro hp
   have : B32 ^ (j + (vs.length + 1)) * 1 ≤ B32 ^ (j + (vs.length + 1)) * l := Nat.mul_le_mul_left _ hp
   omega
  subst hl
  rw [Nat.mul_zero, Nat.add_zero] at a4
  exact ⟨by first | rfl | trivial, by first | rfl | trivial, a1, a2, a4⟩
 ·right
  have hg1 : g = Q + 1 := by omega
  subst hg1
  have h1 : val B32 us < B32 ^ j * ((Q + 1) * val B32 vs) := by
   have := Nat.lt_mul_div_succ (val B32 us) pj
   exact Nat.lt_of_lt_of_le this (Nat.mul_le_mul_left _ hQ')
  have hl : l = 1 := by
   have : l ≠ 0 := by
    rintro rfl
    rw [Nat.mul_zero, Nat.add_zero] at a4
    omega
   omega
  subst hl
  rw [Nat.mul_one] at a4
  obtain ⟨b1, b2, b3, b4⟩ := bk_val hv (j := j) (us := us1) a1 (by rw [a2]; exact hj)
  have bd := bkN_drop vs j (vs.length + 1) 0 0 us1
  rw [Nat.add_zero] at bd
  have bLow : val B32 (bkN vs j (vs.length + 1) 0 0 us1).1 < B32 ^ (j + (vs.length + 1)) := val_low b1 (by rw [b2, a2]; exact hj) (by rw [bd, ad]; exact hd0)
  generalize hBk : bkN vs j (vs.length + 1) 0 0 us1 = Bk at *
  obtain ⟨us2, o⟩ := Bk
  simp only at *
  have e1 : B32 ^ j * ((Q + 1) * val B32 vs) = B32 ^ j * (Q * val B32 vs) + B32 ^ j * val B32 vs := by rw [Nat.add_mul, Nat.one_mul, Nat.mul_add]
  have h2 : B32 ^ j * (Q * val B32 vs) ≤ val B32 us := Nat.le_trans (Nat.mul_le_mul_left _ hQ) hmod
  have ho : o = 1 := by
   have : o ≠ 0 := by
    rintro rfl
    rw [Nat.mul_zero, Nat.add_zero] at b4
    omega
   omega
  subst ho
  rw [Nat.mul_one] at b4
  refine ⟨by first | rfl | trivial, by first | rfl | trivial, a1, a2, b1, b2.trans a2, ?_⟩
  omega
theorem zhd {xs : List Int} (h : wfd B32 xs = true) : (zbb B32 (val B32 xs)).length ≤ xs.length := by
 rw [← cut_eq (by decide) h]
 exact List.length_take_le' ..
theorem digs_len' {n m : Nat} (h1 : B32 ^ m ≤ n) (h2 : n < B32 ^ (m + 1)) : (zbb B32 n).length = m + 1 := by
 have hn : 0 < n := Nat.lt_of_lt_of_le (Nat.pow_pos (by decide)) h1
 obtain ⟨k, h3, h4, h5⟩ := zdM (b := B32) (by decide) hn
 rw [h3]
 have a := (Nat.pow_lt_pow_iff_right (by decide : 1 < B32)).1 (Nat.lt_of_le_of_lt h1 h5)
 have b := (Nat.pow_lt_pow_iff_right (by decide : 1 < B32)).1 (Nat.lt_of_le_of_lt h4 h2)
 omega
theorem norm_facts {vb : Nat} (h2 : 2 ≤ (zbb B32 vb).length) : ∃ s mb : Nat, (zbb B32 vb).length = mb + 2 ∧ (32 : Int) - (bl ((zbb B32 vb).getD (mb + 1) 0).toNat : Int) = (s : Int) ∧ s < 32 ∧ 0 ≤ (zbb B32 vb).getD (mb + 1) 0 ∧ (zbb B32 vb).getD (mb + 1) 0 < 4294967296 ∧
  B32 ^ (mb + 1) ≤ vb ∧ vb * 2 ^ s < B32 ^ (mb + 2) ∧ (zbb B32 (vb * 2 ^ s)).length = mb + 2 ∧ B32 ≤ 2 * ((zbb B32 (vb * 2 ^ s)).getD (mb + 1) 0).toNat := by
 have hv : 0 < vb := by
  apply Nat.pos_of_ne_zero
  rintro rfl
  rw [zdk] at h2
  simp at h2
 obtain ⟨m, h3, h4, h5⟩ := zdM (b := B32) (by decide) hv
 obtain ⟨mb, rfl⟩ : ∃ mb, m = mb + 1 := ⟨m - 1, by omega⟩
 have pm : 0 < B32 ^ (mb + 1) := Nat.pow_pos (by decide)
 have ht : vb / B32 ^ (mb + 1) < B32 := by
  rw [Nat.div_lt_iff_lt_mul pm, Nat.mul_comm, ← Nat.pow_succ]
  exact h5
 have hg : (zbb B32 vb).getD (mb + 1) 0 = ((vb / B32 ^ (mb + 1) : Nat) : Int) := by rw [digs_get (by decide), Nat.mod_eq_of_lt ht]
 have ht0 : 0 < vb / B32 ^ (mb + 1) := Nat.div_pos h4 pm
 have hdm := Nat.div_add_mod vb (B32 ^ (mb + 1))
 have hml := Nat.mod_lt vb pm
 generalize htp : vb / B32 ^ (mb + 1) = t at *
 have hbl : bl t ≤ 32 := bl_le.2 ht
 have hbl0 : 0 < bl t := by
  apply Nat.pos_of_ne_zero
  intro h
  have := bl_le.1 (Nat.le_of_eq h)
  simp at this
  omega
 have b1 : t < 2 ^ bl t := bl_le.1 (Nat.le_refl _)
 have b2 : 2 ^ (bl t - 1) ≤ t := by
  apply Nat.le_of_not_lt
  intro h
  have := bl_le.2 h
  omega
 have p1 : 2 ^ bl t * 2 ^ (32 - bl t) = B32 := by rw [← Nat.pow_add, show bl t + (32 - bl t) = 32 by omega]
 have p2 : 2 ^ (bl t - 1) * 2 ^ (32 - bl t) * 2 = B32 := by rw [← Nat.pow_add, show bl t - 1 + (32 - bl t) = 31 by omega]
 have p3 : 0 < 2 ^ (32 - bl t) := Nat.pow_pos (by decide)
 have q1 : (t + 1) * 2 ^ (32 - bl t) ≤ B32 := by rw [← p1]; exact Nat.mul_le_mul_right _ b1
 have q2 : B32 ≤ 2 * (t * 2 ^ (32 - bl t)) := by
  have := Nat.mul_le_mul_right (2 ^ (32 - bl t)) b2
  omega
 have hlo : B32 ^ (mb + 1) * (t * 2 ^ (32 - bl t)) ≤ vb * 2 ^ (32 - bl t) := by
  rw [← Nat.mul_assoc]
  exact Nat.mul_le_mul_right _ (Nat.le.intro hdm)
 have hhi : vb * 2 ^ (32 - bl t) < B32 ^ (mb + 2) := by
  have h6 : vb < B32 ^ (mb + 1) * (t + 1) := by rw [Nat.mul_add, Nat.mul_one]; omega
  have h7 := (Nat.mul_lt_mul_right p3).2 h6
  rw [Nat.mul_assoc] at h7
  refine Nat.lt_of_lt_of_le h7 ?_
  rw [Nat.pow_succ B32 (mb + 1)]
  exact Nat.mul_le_mul_left _ q1
 have hlen : (zbb B32 (vb * 2 ^ (32 - bl t))).length = mb + 2 := by
  refine digs_len' ?_ hhi
  refine Nat.le_trans ?_ hlo
  exact Nat.le_mul_of_pos_right _ (Nat.mul_pos ht0 p3)
 refine ⟨32 - bl t, mb, h3, ?_, by omega, ?_, ?_, h4, hhi, hlen, ?_⟩
 ·rw [hg, Int.toNat_natCast]; omega
 ·rw [hg]; exact Int.natCast_nonneg _
 ·rw [hg]; have hB : B32 = 4294967296 := rfl; omega
 ·have h8 : vb * 2 ^ (32 - bl t) / B32 ^ (mb + 1) < B32 := by
   rw [Nat.div_lt_iff_lt_mul pm, Nat.mul_comm B32, ← Nat.pow_succ]
   exact hhi
  rw [digs_get (by decide), Nat.mod_eq_of_lt h8, Int.toNat_natCast]
  have h9 : t * 2 ^ (32 - bl t) ≤ vb * 2 ^ (32 - bl t) / B32 ^ (mb + 1) := by
   rw [Nat.le_div_iff_mul_le pm, Nat.mul_comm]
   exact hlo
  omega
end Go.Proofs.Ytlfdidaeachpoaa
namespace Go.Proofs.Ytlfdidaeachpoaa
open Go Go.RowKit
set_option maxRecDepth 100000
noncomputable section
def zaa_b122 : ((List Int) × Int) → (Int × Int × (List Int)) → RT (Int × Int × (List Int)) (Int × (List Int))
| (a, d), (rest, i, r6) =>
 .rq 2 (.ite (decide (0 ≤ i))
 (.rq 4 (.req (inB a i) (.rq 9 (let t0 := (zbr d) != 0;
 .req t0 (.rq 1 (.req (inB r6 i) (.rq 4 (.req t0 (.rq 4 (let t1 := ibit .or .u64 (shlI .u64 rest 32) (zbr (gI a i));
 .again (Int.tmod t1 (zbr d), w64 (i - 1), sI r6 i (zcr (zbr (Int.tdiv t1 (zbr d)))))))))))))))
 (.done (rest, r6)))
def zaa_p122 : zaV := ⟨122, true, [.sl tV, tV], [tU, tI, .sl tV], ⟨[.keep [0, 1, 6, 7, 8], .gc, .nilRow 6 800006 90 tV, .ren 6 700006, .ren 6 900006, .gc], [0, 1, 6, 7, 8], [.lf (qi 0), .lf (qi 1), .lf (qr 900006), .lf (qm 0), .lf (qm 1)], [(900006, true, .arr 90 (qm 2))]⟩, [⟨2, ⟨[.keep [6, 7], .gc, .nilRow 6 800006 90 tV, .ren 6 700006, .ren 6 900006, .gc], [6, 7], [.lf (qr 900006), .lf (qm 0)], [(900006, true, .arr 90 (qm 1))]⟩, [tU, .sl tV]⟩], zaa_b122⟩
def zaa : ((List Int) × Int) → RT Unit (Int × (List Int))
| (a, d) =>
 .rq 4 (.req (mkOK 4 (a.length : Int)) (.rq 6 (.call (lo zaa_b122 (a, d) (0, w64 ((a.length : Int) - 1), zbV (a.length : Int) 0)) default fun v0 =>
 .rq 1 (.req (okL 40 v0.2) (.rq 4 (.done (zcr v0.1, zbb B32 (val B32 v0.2))))))))
def F_zaa (x : (List Int) × Int) : Option (Int × (List Int)) := (zaa x).run fun _ => none
def io_zaa : Io := ⟨n_zaa, [.sl tV, tV], [.lf (qm 0), .lf (qm 1)], [], [[.sl tV], [tV]], [tV, .sl tV], .tup [(false, [qr 0]), (false, [qm 0])], [], [(true, .arr 90 (qm 1))], false⟩
def zaa_P : List zaV := [zaa_p122]
def zaa_T : zbf := tab [e_zad]
theorem zaa_To : zbd pg zaa_T := zaX ⟨zfo, trivial⟩
theorem zaa_k122 : (zaa_p122).OK pg (zaa_T) (zbu 43 (zaa_P)) (zbh f_zaa) 43 := ⟨by kernel_rfl, fun i x => by kernel_rfl⟩
theorem zaa_go : zbt pg (zaa_T) io_zaa f_zaa (zaa_P) [.nilRow 4 800004 90 tV, .ren 4 700004, .ren 4 900004] (zaa) := ⟨by kernel_rfl, by kernel_rfl, fun x => by kernel_rfl⟩
theorem ok_zaa : io_zaa.Okay pg (F_zaa) := zbl zaZ (zaa_To) (zaa_go) ⟨zaa_k122, trivial⟩
theorem tdivN (x y : Nat) : Int.tdiv (x : Int) (y : Int) = ((x / y : Nat) : Int) := by rw [Int.tdiv_eq_ediv_of_nonneg (Int.natCast_nonneg _)]; exact (Int.natCast_ediv _ _).symm
theorem tmodN (x y : Nat) : Int.tmod (x : Int) (y : Int) = ((x % y : Nat) : Int) := by rw [Int.tmod_eq_emod_of_nonneg (Int.natCast_nonneg _)]; exact (Int.natCast_emod _ _).symm
theorem short_l {xs : List Int} (hx : wfd B32 xs = true) (hxl : xs.length ≤ 2 ^ 40) {d : Nat} (hd : 0 < d) (hd' : d < 4294967296) : ∀ (k r : Nat) (out : List Int), k ≤ xs.length → out.length = xs.length → r < d →
  lo zaa_b122 (xs, (d : Int)) ((r : Int), (k : Int) - 1, out) = some (((zcH B32 d xs k r out).2 : Int), (zcH B32 d xs k r out).1)
 | 0, r, out, _, _, _ => by
  rw [zbi, zaa_b122]
  simp only [RT.run]
  rw [if_neg (by simp)]
  rfl
 | k + 1, r, out, hk, hl, hr => by
  rw [zbi, zaa_b122]
  obtain ⟨x, e1, hx'⟩ := zdr hx k
  have ix : ((k + 1 : Nat) : Int) - 1 = (k : Int) := by omega
  have w1 : w64 ((k : Int) - 1) = (k : Int) - 1 := by rw [zbg]; omega
  have w2 : zbr (d : Int) = (d : Int) := zby (by omega)
  have w3 : zbr (x : Int) = (x : Int) := zby (by omega)
  have w4 := zgv (x := r) (y := x) (by omega) hx'
  have hq : (r * 4294967296 + x) / d < 4294967296 := by
   rw [Nat.div_lt_iff_lt_mul hd]
   have : (r + 1) * 4294967296 ≤ d * 4294967296 := Nat.mul_le_mul_right _ hr
   omega
  have w5 : zbr (((r * 4294967296 + x) / d : Nat) : Int) = (((r * 4294967296 + x) / d : Nat) : Int) := zby ⟨Int.natCast_nonneg _, Int.lt_of_lt_of_le (Int.ofNat_lt.2 hq) (by decide)⟩
  have w6 : zcr (((r * 4294967296 + x) / d : Nat) : Int) = (((r * 4294967296 + x) / d : Nat) : Int) := zet ⟨Int.natCast_nonneg _, Int.ofNat_lt.2 hq⟩
  have hne : ((d : Int) != 0) = true := by simp; omega
  simp only [RT.run, ix, gIn, sIn, w1, w2, w3, e1, w4, tdivN, tmodN, w5, w6, hne, if_true]
  rw [if_pos (by simp), if_pos (by rw [zbU]; simp; omega), if_pos (by rw [zbU]; simp; omega)]
  have e : zcH B32 d xs (k + 1) r out = zcH B32 d xs k ((r * 4294967296 + x) % d) (out.set k (((r * 4294967296 + x) / d : Nat) : Int)) := by
   rw [zcH, e1, Int.toNat_natCast]
  rw [e]
  exact short_l hx hxl hd hd' k _ _ (by omega) (by rw [List.length_set, hl]) (Nat.mod_lt _ hd)
def e_zaa : zbj := io_zaa.sp (fun (a, d) => okL 39 a && decide (0 < d)) (fun (a, d) => (((val B32 a % d.toNat : Nat) : Int), zbb B32 (val B32 a / d.toNat)))
theorem sp_zaa (h : ∀ (a : List Int) (d : Int), WfT [.sl tV, tV] (a, d) → (okL 39 a && decide (0 < d)) = true → (zaa (a, d)).run (fun _ => none) = some (((val B32 a % d.toNat : Nat) : Int), zbb B32 (val B32 a / d.toNat))) : e_zaa.ok pg := zbo ok_zaa fun (a, d) hw hc => h a d hw hc
theorem e_zaa_ok : e_zaa.ok pg := sp_zaa fun a d hw hc => by
 have ha : wfd B32 a = true := zcn hw.1
 have hd2 : 0 ≤ d ∧ d < 4294967296 := hw.2
 simp only [Bool.and_eq_true, okL39, decide_eq_true_eq] at hc
 obtain ⟨n, rfl⟩ := Int.eq_ofNat_of_zero_le hd2.1
 rw [zaa, Int.toNat_natCast]
 have hw1 : w64 ((a.length : Int) - 1) = (a.length : Int) - 1 := by rw [zbg]; omega
 have h := short_l ha (by omega) (d := n) (by omega) (by omega) a.length 0 (List.replicate a.length 0) (Nat.le_refl _) (by simp) (by omega)
 obtain ⟨s1, s2, s3, s4⟩ := short_val (b := B32) (d := n) (by decide) (by omega) ha
 simp only [RT.run, hw1, zbV, Int.toNat_natCast]
 rw [if_pos (by rw [zcK]; omega), show ((0 : Int), (a.length : Int) - 1, List.replicate a.length (0 : Int)) = (((0 : Nat) : Int), (a.length : Int) - 1, List.replicate a.length 0) from rfl, h, Option.bind_some]
 have hm : val B32 a % n < n := Nat.mod_lt _ (by omega)
 rw [if_pos (by rw [okL40, s2]; omega), s3, s4, zet (by omega)]
def zN_b122 : ((List Int) × Int × Int) → (Int × Int × (List Int)) → RT (Int × Int × (List Int)) (List Int)
| (a, n, x13), (over, x14, r5) =>
 .rq 1 (.ite (decide (x14 < x13))
 (.rq 5 (.req (decide (0 ≤ x14)) (.rq 2 (.req (decide (0 ≤ n)) (.rq 6 (.req (inB r5 x14) (.rq 6 (let t0 := ibit .or .u64 over (shlI .u64 (zbr (dig a x14)) n);
 .again (shrI .u64 t0 32, w64 (x14 + 1), sI r5 x14 (zcr t0))))))))))
 (.done r5))
def zN_p122 : zaV := ⟨122, true, [.sl tV, tI, tI], [tU, tI, .sl tV], ⟨[.keep [0, 1, 5, 6, 13, 14], .gc, .nilRow 5 800005 90 tV, .ren 5 700005, .ren 5 900005, .gc], [0, 1, 5, 6, 13, 14], [.lf (qi 0), .lf (qi 1), .lf (qr 900005), .lf (qm 0), .lf (qi 2), .lf (qm 1)], [(900005, true, .arr 90 (qm 2))]⟩, [⟨2, ⟨[.keep [5], .gc, .nilRow 5 800005 90 tV, .ren 5 700005, .ren 5 900005, .gc], [5], [.lf (qr 900005)], [(900005, true, .arr 90 (qm 0))]⟩, [.sl tV]⟩], zN_b122⟩
def zN : ((List Int) × Int) → RT Unit (List Int)
| (a, n) =>
 .rq 4 (let t0 := w64 ((a.length : Int) + 1);
 .req (mkOK 4 t0) (.rq 5 (let t1 := zbV t0 0;
 .call (lo zN_b122 (a, n, (t1.length : Int)) (0, 0, t1)) default fun v0 =>
 .rq 2 (.done v0))))
def F_zN (x : (List Int) × Int) : Option (List Int) := (zN x).run fun _ => none
def io_zN : Io := ⟨n_zN, [.sl tV, tI], [.lf (qm 0), .lf (qm 1)], [], [[.sl tV], [tI]], [.sl tV], .lf (qr 0), [], [(true, .arr 90 (qm 0))], false⟩
def zN_P : List zaV := [zN_p122]
def zN_T : zbf := tab [e_zaP]
theorem zN_To : zbd pg zN_T := zaX ⟨zfI, trivial⟩
theorem zN_k122 : (zN_p122).OK pg (zN_T) (zbu 34 (zN_P)) (zbh f_zN) 34 := ⟨by kernel_rfl, fun i x => by kernel_rfl⟩
theorem zN_go : zbt pg (zN_T) io_zN f_zN (zN_P) [.nilRow 4 800004 90 tV, .ren 4 700004, .ren 4 900004] (zN) := ⟨by kernel_rfl, by kernel_rfl, fun x => by kernel_rfl⟩
theorem ok_zN : io_zN.Okay pg (F_zN) := zbl zaZ (zN_To) (zN_go) ⟨zN_k122, trivial⟩
theorem shifted_l {xs : List Int} (hx : wfd B32 xs = true) {n : Nat} (hn : n ≤ 31) (m : Nat) (hm : m ≤ 2 ^ 40) : ∀ (r i o : Nat) (out : List Int), i + r = m → out.length = m → o < 2 ^ n →
  lo zN_b122 (xs, (n : Int), (m : Int)) ((o : Int), (i : Int), out) = some (sftN B32 (2 ^ n) xs r i o out)
 | 0, i, o, out, h, _, _ => by
  rw [zbi, zN_b122]
  simp only [RT.run]
  rw [if_neg (by simp; omega)]
  rfl
 | r + 1, i, o, out, h, hl, ho => by
  rw [zbi, zN_b122]
  obtain ⟨x, e1, hx'⟩ := zfR hx i
  have hp : 2 ^ n ≤ 2 ^ 31 := Nat.pow_le_pow_right (by decide) hn
  rw [show (2 : Nat) ^ 31 = 2147483648 from rfl] at hp
  have hp0 : 0 < 2 ^ n := Nat.pow_pos (by decide)
  have hxp : x * 2 ^ n ≤ 4294967295 * 2147483648 := Nat.mul_le_mul (by omega) hp
  have w1 : w64 ((i : Int) + 1) = ((i + 1 : Nat) : Int) := by rw [zbg] <;> omega
  have w2 : zbr (x : Int) = (x : Int) := zby (by omega)
  have w3 := shlN (x := x) (j := n) (by omega) (by omega)
  have w4 : ibit .or .u64 (o : Int) ((x * 2 ^ n : Nat) : Int) = ((o + x * 2 ^ n : Nat) : Int) := by
   rw [ibit_or (by omega) (by omega), Nat.or_comm]
   rw [Nat.mul_comm x, ← Nat.two_pow_add_eq_or_of_lt ho, Nat.add_comm]
  have w5 : zcr ((o + x * 2 ^ n : Nat) : Int) = (((o + x * 2 ^ n) % 4294967296 : Nat) : Int) := by rw [zfK]; omega
  have hd0 : decide (0 ≤ (i : Int)) = true := by simp
  have hn0 : decide (0 ≤ (n : Int)) = true := by simp
  simp only [RT.run, sIn, w1, w2, w3, e1, w4, w5, shr32, hd0, hn0, if_true]
  rw [if_pos (by simp; omega), if_pos (by rw [zbU]; simp; omega)]
  have e : sftN B32 (2 ^ n) xs (r + 1) i o out = sftN B32 (2 ^ n) xs r (i + 1) ((o + x * 2 ^ n) / 4294967296) (out.set i (((o + x * 2 ^ n) % 4294967296 : Nat) : Int)) := by
   rw [sftN, e1, Int.toNat_natCast]
  rw [e]
  refine shifted_l hx hn m hm r (i + 1) _ _ (by omega) (by rw [List.length_set, hl]) ?_
  rw [Nat.div_lt_iff_lt_mul (by decide)]
  have h1 : (x + 1) * 2 ^ n ≤ 4294967296 * 2 ^ n := Nat.mul_le_mul_right _ hx'
  rw [Nat.add_mul, Nat.one_mul] at h1
  omega
def e_zN : zbj := io_zN.sp (fun (a, n) => okL 39 a && (decide (0 ≤ n) && decide (n ≤ 31))) (fun (a, n) => fixd B32 (a.length + 1) (val B32 a * 2 ^ n.toNat))
theorem sp_zN (h : ∀ (a : List Int) (n : Int), WfT [.sl tV, tI] (a, n) → (okL 39 a && (decide (0 ≤ n) && decide (n ≤ 31))) = true → (zN (a, n)).run (fun _ => none) = some (fixd B32 (a.length + 1) (val B32 a * 2 ^ n.toNat))) : e_zN.ok pg := zbo ok_zN fun (a, n) hw hc => h a n hw hc
theorem e_zN_ok : e_zN.ok pg := sp_zN fun a n hw hc => by
 have ha : wfd B32 a = true := zcn hw.1
 simp only [Bool.and_eq_true, okL39, decide_eq_true_eq] at hc
 obtain ⟨n, rfl⟩ := Int.eq_ofNat_of_zero_le hc.2.1
 rw [zN, Int.toNat_natCast]
 have hw1 : w64 ((a.length : Int) + 1) = ((a.length + 1 : Nat) : Int) := by rw [zbg] <;> omega
 have h := shifted_l ha (n := n) (by omega) (a.length + 1) (by omega) (a.length + 1) 0 0 (List.replicate (a.length + 1) 0) (by omega) (by simp) (Nat.pow_pos (by decide))
 simp only [RT.run, hw1, zbV, Int.toNat_natCast, List.length_replicate]
 rw [if_pos (by rw [zcK]; omega), show ((0 : Int), (0 : Int), List.replicate (a.length + 1) (0 : Int)) = (((0 : Nat) : Int), ((0 : Nat) : Int), List.replicate (a.length + 1) 0) from rfl, h, Option.bind_some]
 rw [sft_val ha (Nat.le_trans (Nat.pow_le_pow_right (by decide) (by omega : n ≤ 32)) (by decide))]
def zaq_b58 : ((List Int) × Int × Int) → (Int × (List Int)) → RT (Int × (List Int)) (List Int)
| (a, n, x11), (x12, r5) =>
 .rq 1 (.ite (decide (x12 < x11))
 (.rq 7 (let t0 := w64 (x12 + 1);
 .req (decide (0 ≤ t0)) (.rq 4 (.req (inB a x12) (.rq 4 (.req (decide (0 ≤ n)) (.rq 1 (.req (inB r5 x12) (.rq 3 (.again (t0, sI r5 x12 (zcr (shrI .u64 (ibit .or .u64 (shlI .u64 (zbr (dig a t0)) 32) (zbr (gI a x12))) n)))))))))))))
 (.done r5))
def zaq_p58 : zaV := ⟨58, true, [.sl tV, tI, tI], [tI, .sl tV], ⟨[.keep [0, 1, 5, 11, 12], .gc, .nilRow 5 800005 90 tV, .ren 5 700005, .ren 5 900005, .gc], [0, 1, 5, 11, 12], [.lf (qi 0), .lf (qi 1), .lf (qr 900005), .lf (qi 2), .lf (qm 0)], [(900005, true, .arr 90 (qm 1))]⟩, [⟨2, ⟨[.keep [5], .gc, .nilRow 5 800005 90 tV, .ren 5 700005, .ren 5 900005, .gc], [5], [.lf (qr 900005)], [(900005, true, .arr 90 (qm 0))]⟩, [.sl tV]⟩], zaq_b58⟩
def zaq : ((List Int) × Int) → RT Unit (List Int)
| (a, n) =>
 .rq 3 (.req (mkOK 4 (a.length : Int)) (.rq 4 (.call (lo zaq_b58 (a, n, (a.length : Int)) (0, zbV (a.length : Int) 0)) default fun v0 =>
 .rq 1 (.req (okL 40 v0) (.rq 1 (.done (zbb B32 (val B32 v0))))))))
def F_zaq (x : (List Int) × Int) : Option (List Int) := (zaq x).run fun _ => none
def io_zaq : Io := ⟨n_zaq, [.sl tV, tI], [.lf (qm 0), .lf (qm 1)], [], [[.sl tV], [tI]], [.sl tV], .lf (qr 0), [], [(true, .arr 90 (qm 0))], false⟩
def zaq_P : List zaV := [zaq_p58]
def zaq_T : zbf := tab [e_zad, e_zaP]
theorem zaq_To : zbd pg zaq_T := zaX ⟨zfo, zfI, trivial⟩
theorem zaq_k58 : (zaq_p58).OK pg (zaq_T) (zbu 36 (zaq_P)) (zbh f_zaq) 36 := ⟨by kernel_rfl, fun i x => by kernel_rfl⟩
theorem zaq_go : zbt pg (zaq_T) io_zaq f_zaq (zaq_P) [.nilRow 4 800004 90 tV, .ren 4 700004, .ren 4 900004] (zaq) := ⟨by kernel_rfl, by kernel_rfl, fun x => by kernel_rfl⟩
theorem ok_zaq : io_zaq.Okay pg (F_zaq) := zbl zaZ (zaq_To) (zaq_go) ⟨zaq_k58, trivial⟩
theorem down_l {xs : List Int} (hx : wfd B32 xs = true) (hxl : xs.length ≤ 2 ^ 40) {n : Nat} (hn : n ≤ 32) : ∀ (r i : Nat) (out : List Int), i + r = xs.length → out.length = xs.length →
  lo zaq_b58 (xs, (n : Int), (xs.length : Int)) ((i : Int), out) = some (fillN (downF B32 n xs) r i out)
 | 0, i, out, h, _ => by
  rw [zbi, zaq_b58]
  simp only [RT.run]
  rw [if_neg (by simp; omega)]
  rfl
 | r + 1, i, out, h, hl => by
  rw [zbi, zaq_b58]
  obtain ⟨x, e1, hx'⟩ := zfR hx (i + 1)
  obtain ⟨y, e2, hy'⟩ := zdr hx i
  have w1 : w64 ((i : Int) + 1) = ((i + 1 : Nat) : Int) := by rw [zbg] <;> omega
  have w2 : zbr (x : Int) = (x : Int) := zby (by omega)
  have w3 : zbr (y : Int) = (y : Int) := zby (by omega)
  have w4 := zgv hx' hy'
  have w5 := shrN (x * 4294967296 + y) .u64 n (by show n ≤ 64; omega)
  have w6 : zcr (((x * 4294967296 + y) / 2 ^ n : Nat) : Int) = (((x * 4294967296 + y) / 2 ^ n % 4294967296 : Nat) : Int) := by rw [zfK]; exact (Int.natCast_emod _ _).symm
  have hd0 : decide (0 ≤ ((i + 1 : Nat) : Int)) = true := decide_eq_true (by omega)
  have hn0 : decide (0 ≤ (n : Int)) = true := by simp
  simp only [RT.run, gIn, sIn, w1, w2, w3, e1, e2, w4, w5, w6, hd0, hn0, if_true]
  rw [if_pos (by simp; omega), if_pos (by rw [zbU]; simp; omega), if_pos (by rw [zbU]; simp; omega)]
  have hdy : dig xs (i : Int) = (y : Int) := by rw [dig_nat, e2]
  have e : fillN (downF B32 n xs) (r + 1) i out = fillN (downF B32 n xs) r (i + 1) (out.set i (((x * 4294967296 + y) / 2 ^ n % 4294967296 : Nat) : Int)) := by
   rw [fillN, downF, e1, hdy, Int.toNat_natCast, Int.toNat_natCast]
  rw [e]
  exact down_l hx hxl hn r (i + 1) _ (by omega) (by rw [List.length_set, hl])
def e_zaq : zbj := io_zaq.sp (fun (a, n) => okL 39 a && (decide (0 ≤ n) && decide (n ≤ 31))) (fun (a, n) => zbb B32 (val B32 a / 2 ^ n.toNat))
theorem sp_zaq (h : ∀ (a : List Int) (n : Int), WfT [.sl tV, tI] (a, n) → (okL 39 a && (decide (0 ≤ n) && decide (n ≤ 31))) = true → (zaq (a, n)).run (fun _ => none) = some (zbb B32 (val B32 a / 2 ^ n.toNat))) : e_zaq.ok pg := zbo ok_zaq fun (a, n) hw hc => h a n hw hc
theorem e_zaq_ok : e_zaq.ok pg := sp_zaq fun a n hw hc => by
 have ha : wfd B32 a = true := zcn hw.1
 simp only [Bool.and_eq_true, okL39, decide_eq_true_eq] at hc
 obtain ⟨n, rfl⟩ := Int.eq_ofNat_of_zero_le hc.2.1
 rw [zaq, Int.toNat_natCast]
 have h := down_l ha (by omega) (n := n) (by omega) a.length 0 (List.replicate a.length 0) (by omega) (by simp)
 simp only [RT.run, zbV, Int.toNat_natCast]
 rw [if_pos (by rw [zcK]; omega), show ((0 : Int), List.replicate a.length (0 : Int)) = (((0 : Nat) : Int), List.replicate a.length 0) from rfl, h, Option.bind_some]
 rw [down_val (by omega) ha, if_pos (by rw [okL40, zfq]; omega), fixd_val, Nat.mod_eq_of_lt]
 exact Nat.lt_of_le_of_lt (Nat.div_le_self _ _) (zcl (by decide) ha)
def zo : Int → RT Unit Int
| x =>
 .rq 5 (.done (w64 (32 - (((bl x.toNat : Nat) : Int)))))
def F_zo (x : Int) : Option Int := (zo x).run fun _ => none
def io_zo : Io := ⟨n_zo, [tV], [.lf (qm 0)], [], [[tV]], [tI], .lf (qm 0), [], [], false⟩
def zo_P : List zaV := []
def zo_T : zbf := tab [e_zy]
theorem zo_To : zbd pg zo_T := zaX ⟨e_zy_ok, trivial⟩
theorem zo_go : zbt pg (zo_T) io_zo f_zo (zo_P) [] (zo) := ⟨by kernel_rfl, by kernel_rfl, fun x => by kernel_rfl⟩
theorem ok_zo : io_zo.Okay pg (F_zo) := zbl zaZ (zo_To) (zo_go) trivial
def e_zo : zbj := io_zo.sp (fun x => true) (fun x => 32 - ((bl x.toNat : Nat) : Int))
theorem sp_zo (h : ∀ (x : Int), WfT [tV] x → (zo x).run (fun _ => none) = some (32 - ((bl x.toNat : Nat) : Int))) : e_zo.ok pg := zbo ok_zo fun x hw hc => h x hw
theorem e_zo_ok : e_zo.ok pg := sp_zo fun x hw => by
 have hw' : 0 ≤ x ∧ x < 4294967296 := hw
 rw [zo]
 have : bl x.toNat ≤ 32 := bl_le.2 (by omega)
 simp only [RT.run]
 rw [zbg (by omega)]
theorem ibit_low {x : Nat} (hx : x < 2 ^ 64) : ibit .and .u64 (x : Int) 4294967295 = ((x % 4294967296 : Nat) : Int) := by
 unfold ibit
 have e : ∀ z : Nat, z < 2 ^ 64 → (BitVec.ofInt IntKind.u64.bits (z : Int)).toNat = z := fun z hz => by
  rw [BitVec.toNat_ofInt]
  have : (2 : Nat) ^ IntKind.u64.bits = 18446744073709551616 := rfl
  rw [this]
  omega
 have e2 : (BitVec.ofInt IntKind.u64.bits (4294967295 : Int)).toNat = 4294967295 := e 4294967295 (by decide)
 simp only [BitVec.toNat_and, e x hx, e2]
 have h := Nat.and_two_pow_sub_one_eq_mod x 32
 rw [show (2 : Nat) ^ 32 - 1 = 4294967295 from rfl, show (2 : Nat) ^ 32 = 4294967296 from rfl] at h
 rw [h, u64_in]
 omega
theorem shr63 (x : Int) : shrI .u64 x 63 = x / 9223372036854775808 := by
 unfold shrI
 rw [Int.fdiv_eq_ediv_of_nonneg _ (Int.pow_nonneg (by decide))]
 rfl
theorem sub_step {U y l : Nat} (hU : U < B32) (hy : y < B32) (hl : l ≤ 1) :
  shrI .u64 (zbr (zbr ((U : Int) - (y : Int)) - (l : Int))) 63 = ((subD U y l).2 : Int) ∧ zcr (zbr (zbr ((U : Int) - (y : Int)) - (l : Int))) = ((subD U y l).1 : Int) := by
 have hB : B32 = 4294967296 := rfl
 rw [hB] at hU hy
 rw [shr63, wu64_eq, wu64_eq, zfK]
 unfold subD
 rw [hB]
 split
 ·simp only; omega
 ·simp only; omega
def zK_b992 : ((List Int) × (List Int) × Int × Int × Int × Int) → RT Unit Bool
| (x0, l, i, L, s, t) =>
 .rq 3 (.ite (decide (4294967296 ≤ s))
 (.rq 1 (.done true))
 (.rq 4 (let t0 := w64 (L - 2);
 .req (inB l t0) (.rq 10 (let t1 := w64 ((w64 (i + L)) - 2);
 .req (inB x0 t1) (.rq 5 (.done (decide ((ibit .or .u64 (shlI .u64 t 32) (zbr (gI x0 t1))) < (zbr (s * (zbr (gI l t0)))))))))))))
def zK_p992 : zaV := ⟨992, false, [.sl tV, .sl tV, tI, tI, tU, tU], [], ⟨[.keep [0, 1, 2, 7, 9, 10], .gc], [0, 1, 2, 7, 9, 10], [.lf (qi 0), .lf (qi 1), .lf (qi 2), .lf (qi 3), .lf (qi 4), .lf (qi 5)], []⟩, [⟨0, ⟨[.keep [0, 1, 2, 7, 9, 10, 69], .gc], [0, 1, 2, 7, 9, 10, 69], [.lf (qi 0), .lf (qi 1), .lf (qi 2), .lf (qi 3), .lf (qi 4), .lf (qi 5), .lf (qm 0)], []⟩, [tB]⟩], (fun i _ => zK_b992 i)⟩
def zK_b124 : ((List Int) × (List Int) × Int × Int) → (Int × Int) → RT (Int × Int) Int
| (x0, l, i, L), (s, t) =>
 .call (on zK_b992 (x0, l, i, L, s, t)) default fun v0 =>
 .ite v0
 (.rq 7 (let t0 := w64 (L - 1);
 .req (inB l t0) (.rq 6 (let t1 := zbr (s - 1);
 let t2 := zbr (t + (zbr (gI l t0)));
 .ite (decide (4294967296 ≤ t2))
 (.done t1)
 (.again (t1, t2))))))
 (.done s)
def zK_p124 : zaV := ⟨124, true, [.sl tV, .sl tV, tI, tI], [tU, tU], ⟨[.keep [0, 1, 2, 7, 9, 10], .gc], [0, 1, 2, 7, 9, 10], [.lf (qi 0), .lf (qi 1), .lf (qi 2), .lf (qi 3), .lf (qm 0), .lf (qm 1)], []⟩, [⟨2, ⟨[.keep [9], .gc], [9], [.lf (qm 0)], []⟩, [tU]⟩], zK_b124⟩
def zK : ((List Int) × (List Int) × Int) → RT Unit Int
| (a0, l, i) =>
 .rq 8 (let t0 := w64 (i + (l.length : Int));
 .req (inB a0 t0) (.rq 8 (let t1 := w64 (t0 - 1);
 .req (inB a0 t1) (.rq 8 (let t2 := w64 ((l.length : Int) - 1);
 let t3 := inB l t2;
 .req t3 (.rq 2 (let t4 := zbr (gI l t2);
 let t5 := t4 != 0;
 .req t5 (.rq 4 (.req t3 (.rq 2 (.req t5 (.rq 2 (let t6 := ibit .or .u64 (shlI .u64 (zbr (gI a0 t0)) 32) (zbr (gI a0 t1));
 .call (lo zK_b124 (a0, l, i, (l.length : Int)) (zbr (Int.tdiv t6 t4), Int.tmod t6 t4)) default fun v1 =>
 .rq 2 (.done v1))))))))))))))
def F_zK (x : (List Int) × (List Int) × Int) : Option Int := (zK x).run fun _ => none
def io_zK : Io := ⟨n_zK, [.sl tV, .sl tV, tI], [.lf (qm 0), .lf (qm 1), .lf (qm 2)], [], [[.sl tV], [.sl tV], [tI]], [tU], .lf (qm 0), [], [], false⟩
def zK_P : List zaV := [zK_p992, zK_p124]
def zK_T : zbf := tab []
theorem zK_To : zbd pg zK_T := zaX trivial
theorem zK_k992 : (zK_p992).OK pg (zK_T) (zbu 83 (zK_P)) (zbh f_zK) 83 := ⟨by kernel_rfl, fun i x => by kernel_rfl⟩
theorem zK_k124 : (zK_p124).OK pg (zK_T) (zbu 83 (zK_P)) (zbh f_zK) 83 := ⟨by kernel_rfl, fun i x => by kernel_rfl⟩
theorem zK_go : zbt pg (zK_T) io_zK f_zK (zK_P) [] (zK) := ⟨by kernel_rfl, by kernel_rfl, fun x => by kernel_rfl⟩
theorem ok_zK : io_zK.Okay pg (F_zK) := zbl zaZ (zK_To) (zK_go) ⟨zK_k992, zK_k124, trivial⟩
def e_zK : zbj := io_zK.en F_zK
theorem e_zK_ok : e_zK.ok pg := en_ok ok_zK
theorem guess_l {us vs : List Int} {j v1 v2 u2 : Nat} (h2 : 2 ≤ vs.length) (hl : j + vs.length < us.length) (hl2 : us.length ≤ 2 ^ 41)
  (hv1 : vs.getD (vs.length - 1) 0 = (v1 : Int)) (hv2 : vs.getD (vs.length - 2) 0 = (v2 : Int)) (hu2 : us.getD (j + vs.length - 2) 0 = (u2 : Int)) (b1 : v1 < 4294967296) (b2 : v2 < 4294967296) (b3 : u2 < 4294967296) :
  ∀ (f g r : Nat), 0 < f → g ≤ 4294967297 → r < 4294967296 → 4294967296 ≤ r + f * v1 →
   lo zK_b124 (us, vs, (j : Int), (vs.length : Int)) ((g : Int), (r : Int)) = some (gsN v1 v2 u2 f g r : Int)
 | f + 1, g, r, _, hg, hr, hm => by
  rw [zbi, zK_b124]
  have hB : B32 = 4294967296 := rfl
  have w1 : w64 ((vs.length : Int) - 1) = ((vs.length - 1 : Nat) : Int) := by rw [zbg] <;> omega
  have w2 : w64 ((vs.length : Int) - 2) = ((vs.length - 2 : Nat) : Int) := by rw [zbg] <;> omega
  have w3 : w64 ((j : Int) + (vs.length : Int)) = ((j + vs.length : Nat) : Int) := by rw [zbg] <;> omega
  have w4 : w64 (((j + vs.length : Nat) : Int) - 2) = ((j + vs.length - 2 : Nat) : Int) := by rw [zbg] <;> omega
  have x1 : zbr (v1 : Int) = (v1 : Int) := zby (by omega)
  have x2 : zbr (v2 : Int) = (v2 : Int) := zby (by omega)
  have x3 : zbr (u2 : Int) = (u2 : Int) := zby (by omega)
  have x4 : zbr ((r : Int) + (v1 : Int)) = ((r + v1 : Nat) : Int) := by rw [zby] <;> omega
  have x6 : ibit .or .u64 (shlI .u64 (r : Int) 32) (u2 : Int) = ((r * B32 + u2 : Nat) : Int) := zgv hr b3
  have q1 : inB vs ((vs.length - 1 : Nat) : Int) = true := by rw [zbU]; simp; omega
  have q2 : inB vs ((vs.length - 2 : Nat) : Int) = true := by rw [zbU]; simp; omega
  have q3 : inB us ((j + vs.length - 2 : Nat) : Int) = true := by rw [zbU]; simp; omega
  have hon : on zK_b992 (us, vs, (j : Int), (vs.length : Int), (g : Int), (r : Int)) = some (decide (B32 ≤ g ∨ r * B32 + u2 < g * v2)) := by
   rw [on, zK_b992]
   simp only [RT.run, w2, w3, w4, gIn, hv2, hu2, x2, x3, x6, q2, q3, if_true]
   by_cases hg1 : B32 ≤ g
   ·rw [if_pos (decide_eq_true (by omega))]
    simp [hg1]
   ·rw [if_neg (by simpa using (by omega : (g : Int) < 4294967296))]
    have hgm : g * v2 ≤ 4294967295 * 4294967295 := Nat.mul_le_mul (by omega) (by omega)
    have wm : zbr ((g : Int) * (v2 : Int)) = ((g * v2 : Nat) : Int) := by rw [← Int.natCast_mul, zby]; omega
    rw [wm]
    congr 1
    rw [Bool.eq_iff_iff, decide_eq_true_eq, decide_eq_true_eq, Int.ofNat_lt]
    exact ⟨fun h => .inr h, fun h => h.resolve_left hg1⟩
  rw [RT.run, hon, Option.bind_some]
  simp only [RT.run, w1, gIn, hv1, x1, x4, q1, if_true]
  have less : (B32 ≤ g ∨ r * B32 + u2 < g * v2) → (if decide ((4294967296 : Int) ≤ ((r + v1 : Nat) : Int)) = true then some (zbr ((g : Int) - 1)) else
    lo zK_b124 (us, vs, (j : Int), (vs.length : Int)) (zbr ((g : Int) - 1), ((r + v1 : Nat) : Int))) = some (gsN v1 v2 u2 (f + 1) g r : Int) := by
   intro hc
   have hg0 : 0 < g := by
    rcases hc with hc | hc
    ·exact Nat.lt_of_lt_of_le (by decide) hc
    ·apply Nat.pos_of_ne_zero
     rintro rfl
     omega
   have wg : zbr ((g : Int) - 1) = ((g - 1 : Nat) : Int) := by rw [zby] <;> omega
   rw [wg]
   unfold gsN
   rw [if_pos hc]
   by_cases hb : B32 ≤ r + v1
   ·rw [if_pos (decide_eq_true (by omega)), if_pos hb]
   ·rw [if_neg (by simpa using (by omega : ((r + v1 : Nat) : Int) < 4294967296)), if_neg hb]
    rw [Nat.add_mul, Nat.one_mul] at hm
    have hf : 0 < f := by
     apply Nat.pos_of_ne_zero
     rintro rfl
     omega
    exact guess_l h2 hl hl2 hv1 hv2 hu2 b1 b2 b3 f (g - 1) (r + v1) hf (by omega) (by omega) (by omega)
  by_cases hc : B32 ≤ g ∨ r * B32 + u2 < g * v2
  ·rw [if_pos (decide_eq_true hc)]
   exact less hc
  ·rw [if_neg (by simpa using hc)]
   unfold gsN
   rw [if_neg hc]
theorem guess_F {us vs : List Int} {j q : Nat} (hu : wfd B32 us = true) (hv : wfd B32 vs = true) (h2 : 2 ≤ vs.length) (hl : j + vs.length < us.length) (hl2 : us.length ≤ 2 ^ 41)
  (hnorm : B32 ≤ 2 * (vs.getD (vs.length - 1) 0).toNat) (hlt : val B32 us / B32 ^ j % B32 ^ (vs.length + 1) < B32 * val B32 vs)
  (hq : q * val B32 vs ≤ val B32 us / B32 ^ j % B32 ^ (vs.length + 1)) (hq' : val B32 us / B32 ^ j % B32 ^ (vs.length + 1) < (q + 1) * val B32 vs) :
  ∃ g : Nat, F_zK (us, vs, (j : Int)) = some (g : Int) ∧ q ≤ g ∧ g ≤ q + 1 := by
 have hB : B32 = 4294967296 := rfl
 obtain ⟨v1, hv1, b1⟩ := zdr hv (vs.length - 1)
 obtain ⟨v2, hv2, b2⟩ := zdr hv (vs.length - 2)
 obtain ⟨u0, hu0, c0⟩ := zdr hu (j + vs.length)
 obtain ⟨u1, hu1, c1⟩ := zdr hu (j + vs.length - 1)
 obtain ⟨u2, hu2, c2⟩ := zdr hu (j + vs.length - 2)
 rw [hv1, Int.toNat_natCast] at hnorm
 obtain ⟨m, hm⟩ : ∃ m, vs.length = m + 2 := ⟨vs.length - 2, by omega⟩
 have dv1 : val B32 vs / B32 ^ (m + 1) % B32 = v1 := by
  have := zdL (by decide : 0 < B32) (m + 1) hv
  rw [show m + 1 = vs.length - 1 by omega] at this ⊢
  rw [hv1] at this; exact Int.ofNat_inj.1 this
 have dv2 : val B32 vs / B32 ^ m % B32 = v2 := by
  have := zdL (by decide : 0 < B32) m hv
  rw [show m = vs.length - 2 by omega] at this ⊢
  rw [hv2] at this; exact Int.ofNat_inj.1 this
 have du : ∀ i u, us.getD i 0 = ((u : Nat) : Int) → val B32 us / B32 ^ i % B32 = u := fun i u h => by
  have := zdL (by decide : 0 < B32) i hu
  rw [h] at this; exact Int.ofNat_inj.1 this
 have du0 := du _ _ hu0
 have du1 := du _ _ hu1
 have du2 := du _ _ hu2
 generalize hV : val B32 vs = V at *
 generalize hU : val B32 us = U at *
 have hVlt : V < B32 ^ (m + 2) := by rw [← hV, ← hm]; exact zcl (by decide) hv
 have pm : 0 < B32 ^ m := Nat.pow_pos (by decide)
 have e1 : V = (v1 * B32 + v2) * B32 ^ m + V % B32 ^ m := by
  have t1 := Nat.mod_add_div V (B32 ^ m)
  have t2 := Nat.mod_add_div (V / B32 ^ m) B32
  have t3 : V / B32 ^ m / B32 = v1 := by
   rw [Nat.div_div_eq_div_mul, ← Nat.pow_succ, ← dv1, Nat.mod_eq_of_lt]
   rw [Nat.div_lt_iff_lt_mul (Nat.pow_pos (by decide)), ← Nat.pow_succ']
   exact hVlt
  rw [dv2, t3] at t2
  rw [Nat.mul_comm v1 B32, Nat.add_comm (B32 * v1) v2, t2, Nat.mul_comm (V / B32 ^ m)]
  omega
 have e2 : U / B32 ^ j % B32 ^ (vs.length + 1) = ((u0 * B32 + u1) * B32 + u2) * B32 ^ m + U / B32 ^ j % B32 ^ m := by
  rw [hm]
  have f : ∀ k, U / B32 ^ j / B32 ^ k % B32 = U / B32 ^ (j + k) % B32 := fun k => by rw [Nat.div_div_eq_div_mul, ← Nat.pow_add]
  have s : ∀ k, U / B32 ^ j % B32 ^ (k + 1) = U / B32 ^ j / B32 ^ k % B32 * B32 ^ k + U / B32 ^ j % B32 ^ k := fun k => by
   rw [Nat.pow_succ, Nat.mod_mul]
   rw [Nat.mul_comm (B32 ^ k)]
   omega
  have g0 := f (m + 2)
  have g1 := f (m + 1)
  have g2 := f m
  rw [show j + (m + 2) = j + vs.length by omega, du0] at g0
  rw [show j + (m + 1) = j + vs.length - 1 by omega, du1] at g1
  rw [show j + m = j + vs.length - 2 by omega, du2] at g2
  have s0 := s (m + 2)
  have s1 := s (m + 1)
  have s2 := s m
  rw [g0] at s0
  rw [g1] at s1
  rw [g2] at s2
  rw [show m + 2 + 1 = m + 3 by omega] at s0 ⊢
  rw [show m + 1 + 1 = m + 2 by omega] at s1
  rw [s0, s1, s2]
  rw [Nat.pow_succ B32 (m + 1), Nat.pow_succ B32 m]
  simp only [Nat.add_mul, Nat.mul_assoc, Nat.mul_comm B32, Nat.mul_left_comm B32]
  omega
 generalize hW : U / B32 ^ j % B32 ^ (vs.length + 1) = W at *
 have H : Win (B32 ^ m) v1 v2 (V % B32 ^ m) (u0 * B32 + u1) u2 (U / B32 ^ j % B32 ^ m) V W := ⟨e1, e2, Nat.mod_lt _ pm, Nat.mod_lt _ pm, b2, c2, hnorm, hlt⟩
 have hv1p : 0 < v1 := by omega
 have hqB : q < B32 := by
  apply Nat.lt_of_mul_lt_mul_right (a := V)
  exact Nat.lt_of_le_of_lt hq hlt
 have hstart := H.start hq
 have htop := H.top
 have htB : (u0 * B32 + u1) < (B32 + 1) * v1 + v1 := by
  rw [Nat.add_mul, Nat.one_mul]
  omega
 have hg0 : (u0 * B32 + u1) / v1 ≤ B32 + 1 := by
  rw [← Nat.lt_succ_iff, Nat.div_lt_iff_lt_mul hv1p, Nat.succ_mul]
  exact htB
 have hdm := Nat.div_add_mod (u0 * B32 + u1) v1
 have hrlt := Nat.mod_lt (u0 * B32 + u1) hv1p
 have gs := gsN_ok H hq hq' hqB 3 ((u0 * B32 + u1) / v1) ((u0 * B32 + u1) % v1) (by rw [Nat.mul_comm]; exact hdm) ((Nat.le_div_iff_mul_le hv1p).2 hstart) hg0 (fun h => by
  rw [h] at hdm
  have : v1 * (B32 + 1) = v1 * B32 + v1 := by rw [Nat.mul_add, Nat.mul_one]
  have k4 : u0 * B32 + u1 < B32 * v1 + B32 := htop
  rw [Nat.mul_comm B32 v1] at k4
  omega) (by omega) (by omega)
 refine ⟨gsN v1 v2 u2 3 ((u0 * B32 + u1) / v1) ((u0 * B32 + u1) % v1), ?_, gs.1, gs.2⟩
 have hl := guess_l (us := us) (vs := vs) (j := j) (v1 := v1) (v2 := v2) (u2 := u2) h2 hl hl2 hv1 hv2 hu2 b1 b2 c2 3 ((u0 * B32 + u1) / v1) ((u0 * B32 + u1) % v1) (by omega) (by omega) (by omega) (by omega)
 unfold F_zK
 rw [zK]
 have w1 : w64 ((vs.length : Int) - 1) = ((vs.length - 1 : Nat) : Int) := by rw [zbg] <;> omega
 have w3 : w64 ((j : Int) + (vs.length : Int)) = ((j + vs.length : Nat) : Int) := by rw [zbg] <;> omega
 have w4 : w64 (((j + vs.length : Nat) : Int) - 1) = ((j + vs.length - 1 : Nat) : Int) := by rw [zbg] <;> omega
 have x1 : zbr (v1 : Int) = (v1 : Int) := zby (by omega)
 have x2 : zbr (u1 : Int) = (u1 : Int) := zby (by omega)
 have x3 : zbr (u0 : Int) = (u0 : Int) := zby (by omega)
 have x6 : ibit .or .u64 (shlI .u64 (u0 : Int) 32) (u1 : Int) = ((u0 * B32 + u1 : Nat) : Int) := zgv c0 c1
 have x7 : zbr ((((u0 * B32 + u1) / v1 : Nat) : Int)) = (((u0 * B32 + u1) / v1 : Nat) : Int) := by
  have h9 := hg0
  rw [hB] at h9
  refine zby ⟨Int.natCast_nonneg _, ?_⟩
  have h10 : (((u0 * B32 + u1) / v1 : Nat) : Int) ≤ ((4294967296 + 1 : Nat) : Int) := Int.ofNat_le.2 (by rw [hB]; exact h9)
  exact Int.lt_of_le_of_lt h10 (by decide)
 have y0 : ((v1 : Int) != 0) = true := by simp; omega
 have y1 : inB vs ((vs.length - 1 : Nat) : Int) = true := by rw [zbU]; simp; omega
 have y2 : inB us ((j + vs.length : Nat) : Int) = true := by rw [zbU]; simp; omega
 have y3 : inB us ((j + vs.length - 1 : Nat) : Int) = true := by rw [zbU]; simp; omega
 simp only [RT.run, w1, w3, w4, gIn, hv1, hu0, hu1, x1, x2, x3, x6, tdivN, tmodN, x7, y0, y1, y2, y3, if_true, hl, Option.bind_some]
def zap_b58 : ((List Int) × Int × Int × Int) → (Int × Int × Int × (List Int)) → RT (Int × Int × Int × (List Int)) (Int × (List Int))
| (v, j, q, x15), (over, less, x16, p0) =>
 .rq 1 (.ite (decide (x16 < x15))
 (.rq 6 (.req (decide (0 ≤ x16)) (.rq 8 (let t0 := w64 (j + x16);
 let t1 := inB p0 t0;
 .req t1 (.rq 14 (.req t1 (.rq 9 (let t2 := zbr (over + (zbr (q * (zbr (dig v x16)))));
 let t3 := zbr ((zbr ((zbr (gI p0 t0)) - (ibit .and .u64 t2 4294967295))) - less);
 .again (shrI .u64 t2 32, shrI .u64 t3 63, w64 (x16 + 1), sI p0 t0 (zcr t3))))))))))
 (.done (less, p0)))
def zap_p58 : zaV := ⟨58, true, [.sl tV, tI, tU, tI], [tU, tU, tI, .sl tV], ⟨[.keep [0, 1, 2, 3, 9, 10, 15, 16], .gc], [0, 1, 2, 3, 9, 10, 15, 16], [.lf (qr 1048576), .lf (qi 0), .lf (qi 1), .lf (qi 2), .lf (qm 0), .lf (qm 1), .lf (qi 3), .lf (qm 2)], [(1048576, true, .arr 90 (qm 3))]⟩, [⟨2, ⟨[.keep [10], .gc], [10], [.lf (qm 0)], [(1048576, true, .arr 90 (qm 1))]⟩, [tU, .sl tV]⟩], zap_b58⟩
def zap : ((List Int) × Int × Int × (List Int)) → RT Unit (Bool × (List Int))
| (v, j, q, u) =>
 .rq 7 (.call (lo zap_b58 (v, j, q, w64 ((v.length : Int) + 1)) (0, 0, 0, u)) default fun v0 =>
 .rq 3 (.done (decide (0 < v0.1), v0.2)))
def F_zap (x : (List Int) × Int × Int × (List Int)) : Option (Bool × (List Int)) := (zap x).run fun _ => none
def io_zap : Io := ⟨n_zap, [.sl tV, tI, tU, .sl tV], [.lf (qr 0), .lf (qm 0), .lf (qm 1), .lf (qm 2)], [.arr 90 (qm 3)], [[], [.sl tV], [tI], [tU]], [tB, .sl tV], .lf (qm 0), [(true, .arr 90 (qm 1))], [], false⟩
def zap_P : List zaV := [zap_p58]
def zap_T : zbf := tab [e_zaP]
theorem zap_To : zbd pg zap_T := zaX ⟨zfI, trivial⟩
theorem zap_k58 : (zap_p58).OK pg (zap_T) (zbu 53 (zap_P)) (zbh f_zap) 53 := ⟨by kernel_rfl, fun i x => by kernel_rfl⟩
theorem zap_go : zbt pg (zap_T) io_zap f_zap (zap_P) [] (zap) := ⟨by kernel_rfl, by kernel_rfl, fun x => by kernel_rfl⟩
theorem ok_zap : io_zap.Okay pg (F_zap) := zbl zaZ (zap_To) (zap_go) ⟨zap_k58, trivial⟩
def e_zap : zbj := io_zap.en F_zap
theorem e_zap_ok : e_zap.ok pg := en_ok ok_zap
def zal_b14 : ((List Int) × Int × Int) → (Int × Int × (List Int)) → RT (Int × Int × (List Int)) (List Int)
| (v, j, x10), (over, x11, p0) =>
 .rq 1 (.ite (decide (x11 < x10))
 (.rq 7 (let t0 := w64 (j + x11);
 let t1 := inB p0 t0;
 .req t1 (.rq 4 (.req (decide (0 ≤ x11)) (.rq 10 (.req t1 (.rq 6 (let t2 := zbr (over + (zbr ((zbr (gI p0 t0)) + (zbr (dig v x11)))));
 .again (shrI .u64 t2 32, w64 (x11 + 1), sI p0 t0 (zcr t2))))))))))
 (.done p0))
def zal_p14 : zaV := ⟨14, true, [.sl tV, tI, tI], [tU, tI, .sl tV], ⟨[.keep [0, 1, 2, 6, 10, 11], .gc], [0, 1, 2, 6, 10, 11], [.lf (qr 1048576), .lf (qi 0), .lf (qi 1), .lf (qm 0), .lf (qi 2), .lf (qm 1)], [(1048576, true, .arr 90 (qm 2))]⟩, [⟨2, ⟨[.keep [], .gc], [], [], [(1048576, true, .arr 90 (qm 0))]⟩, [.sl tV]⟩], zal_b14⟩
def zal : ((List Int) × Int × (List Int)) → RT Unit (List Int)
| (v, j, u) =>
 .rq 5 (.call (lo zal_b14 (v, j, w64 ((v.length : Int) + 1)) (0, 0, u)) default fun v0 =>
 .done v0)
def F_zal (x : (List Int) × Int × (List Int)) : Option (List Int) := (zal x).run fun _ => none
def io_zal : Io := ⟨n_zal, [.sl tV, tI, .sl tV], [.lf (qr 0), .lf (qm 0), .lf (qm 1)], [.arr 90 (qm 2)], [[], [.sl tV], [tI]], [.sl tV], .tup [], [(true, .arr 90 (qm 0))], [], false⟩
def zal_P : List zaV := [zal_p14]
def zal_T : zbf := tab [e_zaP]
theorem zal_To : zbd pg zal_T := zaX ⟨zfI, trivial⟩
theorem zal_k14 : (zal_p14).OK pg (zal_T) (zbu 38 (zal_P)) (zbh f_zal) 38 := ⟨by kernel_rfl, fun i x => by kernel_rfl⟩
theorem zal_go : zbt pg (zal_T) io_zal f_zal (zal_P) [] (zal) := ⟨by kernel_rfl, by kernel_rfl, fun x => by kernel_rfl⟩
theorem ok_zal : io_zal.Okay pg (F_zal) := zbl zaZ (zal_To) (zal_go) ⟨zal_k14, trivial⟩
def e_zal : zbj := io_zal.en F_zal
theorem e_zal_ok : e_zal.ok pg := en_ok ok_zal
theorem away_l {q j : Nat} {vs : List Int} (hv : wfd B32 vs = true) (hq : q ≤ B32) (m : Nat) (hm : m ≤ 2 ^ 41) : ∀ (r i o l : Nat) (us : List Int), o < B32 → l ≤ 1 → j + i + r ≤ us.length → wfd B32 us = true → us.length ≤ 2 ^ 41 → i + r = m →
  lo zap_b58 (vs, (j : Int), (q : Int), (m : Int)) ((o : Int), (l : Int), (i : Int), us) = some (((awN q vs j r i o l us).2 : Int), (awN q vs j r i o l us).1)
 | 0, i, o, l, us, _, _, _, _, _, h => by
  rw [zbi, zap_b58]
  simp only [RT.run]
  rw [if_neg (by simp; omega)]
  rfl
 | r + 1, i, o, l, us, ho, hl, hlen, hw, hl2, h => by
  rw [zbi, zap_b58]
  obtain ⟨d, hd, hd'⟩ := zfR hv i
  obtain ⟨u, hu, hu'⟩ := zdr hw (j + i)
  have hB : B32 = 4294967296 := rfl
  have hqd : q * d ≤ 4294967296 * 4294967295 := Nat.mul_le_mul (by omega) (by omega)
  have w1 : w64 ((j : Int) + (i : Int)) = ((j + i : Nat) : Int) := by rw [zbg] <;> omega
  have w2 : zbr (d : Int) = (d : Int) := zby (by omega)
  have w3 : zbr ((q : Int) * (d : Int)) = ((q * d : Nat) : Int) := by rw [← Int.natCast_mul, zby]; omega
  have w4 : zbr ((o : Int) + ((q * d : Nat) : Int)) = ((o + q * d : Nat) : Int) := by rw [← Int.natCast_add, zby]; omega
  have w5 : zbr (u : Int) = (u : Int) := zby (by omega)
  have w6 : w64 ((i : Int) + 1) = ((i + 1 : Nat) : Int) := by rw [zbg] <;> omega
  have hy : (o + q * d) % 4294967296 < B32 := by omega
  obtain ⟨s1, s2⟩ := sub_step (U := u) (by omega) hy hl
  have hin : inB us ((j + i : Nat) : Int) = true := by rw [zbU]; simp; omega
  have hd0 : decide (0 ≤ (i : Int)) = true := by simp
  simp only [RT.run, gIn, sIn, w1, w2, w3, w4, w5, w6, hd, hu, ibit_low (x := o + q * d) (by omega), shr32, s1, s2, hin, hd0, if_true]
  rw [if_pos (by simp; omega)]
  have e : awN q vs j (r + 1) i o l us = awN q vs j r (i + 1) ((o + q * d) / 4294967296) (subD u ((o + q * d) % 4294967296) l).2 (us.set (j + i) ((subD u ((o + q * d) % 4294967296) l).1 : Int)) := by
   show awN q vs j r (i + 1) ((o + q * (dig vs i).toNat) / B32) _ _ = _
   rw [hd, hu]
   rfl
  rw [e]
  obtain ⟨t1, t2, _⟩ := subD_spec (x := u) (y := (o + q * d) % 4294967296) (by omega) hy hl
  exact away_l hv hq m hm r (i + 1) _ _ _ (by rw [hB]; omega) t2 (by rw [List.length_set]; omega) (zee hw ⟨Int.natCast_nonneg _, Int.ofNat_lt.2 t1⟩) (by rw [List.length_set]; exact hl2) (by omega)
theorem away_F {us vs : List Int} {j q : Nat} (hu : wfd B32 us = true) (hv : wfd B32 vs = true) (hq : q ≤ B32) (hl : j + (vs.length + 1) ≤ us.length) (hl2 : us.length ≤ 2 ^ 41) :
  F_zap (vs, (j : Int), (q : Int), us) = some (decide (0 < (awN q vs j (vs.length + 1) 0 0 0 us).2), (awN q vs j (vs.length + 1) 0 0 0 us).1) := by
 unfold F_zap
 rw [zap]
 have w : w64 ((vs.length : Int) + 1) = ((vs.length + 1 : Nat) : Int) := by rw [zbg] <;> omega
 have h := away_l (j := j) hv hq (vs.length + 1) (by omega) (vs.length + 1) 0 0 0 us (by decide) (by omega) (by omega) hu hl2 (by omega)
 simp only [RT.run, w]
 rw [show ((0 : Int), (0 : Int), (0 : Int), us) = (((0 : Nat) : Int), ((0 : Nat) : Int), ((0 : Nat) : Int), us) from rfl, h]
 simp
theorem back_l {j : Nat} {vs : List Int} (hv : wfd B32 vs = true) (m : Nat) (hm : m ≤ 2 ^ 41) : ∀ (r i o : Nat) (us : List Int), o ≤ 1 → j + i + r ≤ us.length → wfd B32 us = true → us.length ≤ 2 ^ 41 → i + r = m →
  lo zal_b14 (vs, (j : Int), (m : Int)) ((o : Int), (i : Int), us) = some (bkN vs j r i o us).1
 | 0, i, o, us, _, _, _, _, h => by
  rw [zbi, zal_b14]
  simp only [RT.run]
  rw [if_neg (by simp; omega)]
  rfl
 | r + 1, i, o, us, ho, hlen, hw, hl2, h => by
  rw [zbi, zal_b14]
  obtain ⟨d, hd, hd'⟩ := zfR hv i
  obtain ⟨u, hu, hu'⟩ := zdr hw (j + i)
  have hB : B32 = 4294967296 := rfl
  have w1 : w64 ((j : Int) + (i : Int)) = ((j + i : Nat) : Int) := by rw [zbg] <;> omega
  have w2 : zbr (d : Int) = (d : Int) := zby (by omega)
  have w3 : zbr ((u : Int) + (d : Int)) = ((u + d : Nat) : Int) := by rw [← Int.natCast_add, zby]; omega
  have w4 : zbr ((o : Int) + ((u + d : Nat) : Int)) = ((o + (u + d) : Nat) : Int) := by rw [← Int.natCast_add, zby]; omega
  have w5 : zbr (u : Int) = (u : Int) := zby (by omega)
  have w6 : w64 ((i : Int) + 1) = ((i + 1 : Nat) : Int) := by rw [zbg] <;> omega
  have w7 : zcr ((o + (u + d) : Nat) : Int) = (((o + (u + d)) % 4294967296 : Nat) : Int) := by rw [zfK]; omega
  have hin : inB us ((j + i : Nat) : Int) = true := by rw [zbU]; simp; omega
  have hd0 : decide (0 ≤ (i : Int)) = true := by simp
  simp only [RT.run, gIn, sIn, w1, w2, w3, w4, w5, w6, w7, hd, hu, shr32, hin, hd0, if_true]
  rw [if_pos (by simp; omega)]
  have e : bkN vs j (r + 1) i o us = bkN vs j r (i + 1) ((o + (u + d)) / 4294967296) (us.set (j + i) (((o + (u + d)) % 4294967296 : Nat) : Int)) := by
   show bkN vs j r (i + 1) ((o + ((us.getD (j + i) 0).toNat + (dig vs i).toNat)) / B32) _ = _
   rw [hd, hu]
   rfl
  rw [e]
  exact back_l hv m hm r (i + 1) _ _ (by omega) (by rw [List.length_set]; omega) (zee hw ⟨Int.natCast_nonneg _, by rw [hB]; omega⟩) (by rw [List.length_set]; exact hl2) (by omega)
theorem back_F {us vs : List Int} {j : Nat} (hu : wfd B32 us = true) (hv : wfd B32 vs = true) (hl : j + (vs.length + 1) ≤ us.length) (hl2 : us.length ≤ 2 ^ 41) :
  F_zal (vs, (j : Int), us) = some (bkN vs j (vs.length + 1) 0 0 us).1 := by
 unfold F_zal
 rw [zal]
 have w : w64 ((vs.length : Int) + 1) = ((vs.length + 1 : Nat) : Int) := by rw [zbg] <;> omega
 have h := back_l (j := j) hv (vs.length + 1) (by omega) (vs.length + 1) 0 0 us (by omega) (by omega) hu hl2 (by omega)
 simp only [RT.run, w]
 rw [show ((0 : Int), (0 : Int), us) = (((0 : Nat) : Int), ((0 : Nat) : Int), us) from rfl, h]
 simp
end
end Go.Proofs.Ytlfdidaeachpoaa
namespace Go.Proofs.Ytlfdidaeachpoaa
open Go Go.RowKit
set_option maxRecDepth 100000
noncomputable section
def zfw : (List Int) → (Int × (List Int) × (List Int)) → RT (Int × (List Int) × (List Int)) ((List Int) × (List Int))
| x11, (e, r10, r12) =>
 .rq 2 (.ite (decide (0 ≤ e))
 (.rq 3 (.call (F_zK (r10, x11, e)) default fun v0 =>
 .rq 5 (.call (F_zap (x11, e, v0, r10)) default fun v1 =>
 let t0 := w64 (e - 1);
 .ite v1.1
 (.rq 6 (.call (F_zal (x11, e, v1.2)) default fun v2 =>
 .rq 4 (.req (inB r12 e) (.rq 4 (.again (t0, v2, sI r12 e (zcr (zbr (v0 - 1)))))))))
 (.rq 4 (.req (inB r12 e) (.rq 4 (.again (t0, v1.2, sI r12 e (zcr v0)))))))))
 (.done (r10, r12)))
def zav_p1018 : zaV := ⟨1018, true, [tI, .sl tV], [tI, .sl tV, .sl tV], ⟨[.keep [9, 10, 11, 12, 13], .gc, .toDat 11, .den 11 [.sl tV], .nilRow 10 800010 90 tV, .nilRow 12 800012 90 tV, .ren 10 700010, .ren 12 700012, .ren 10 900010, .ren 12 900012, .gc], [9, 10, 11, 12, 13], [.lf (qi 0), .lf (qr 900010), .lf (qi 1), .lf (qr 900012), .lf (qm 0)], [(900010, true, .arr 90 (qm 1)), (900012, true, .arr 90 (qm 2))]⟩, [⟨3, ⟨[.keep [9, 10, 12], .gc, .nilRow 10 800010 90 tV, .nilRow 12 800012 90 tV, .ren 10 700010, .ren 12 700012, .ren 10 900010, .ren 12 900012, .gc], [9, 10, 12], [.lf (qi 0), .lf (qr 900010), .lf (qr 900012)], [(900010, true, .arr 90 (qm 0)), (900012, true, .arr 90 (qm 1))]⟩, [.sl tV, .sl tV]⟩], (fun i => zfw i.2)⟩
def zav : ((List Int) × (List Int)) → RT Unit (Bool × (List Int) × (List Int))
| (a0, l) =>
 .rq 4 (.req (okL 40 a0) (.rq 1 (.req (okL 40 l) (.rq 6 (let t0 := ((zbb B32 (val B32 l)).length : Int);
 .ite (t0 == 0)
 (.rq 3 (.done (false, [], [])))
 (.rq 5 (.ite (decide ((cmpI (val B32 (zbb B32 (val B32 a0))) (val B32 (zbb B32 (val B32 l)))) < 0))
 (.rq 4 (.done (true, [], zbb B32 (val B32 a0))))
 (.rq 4 (.ite (t0 == 1)
 (.rq 2 (.req (inB (zbb B32 (val B32 l)) 0) (.rq 1 (let t1 := gI (zbb B32 (val B32 l)) 0;
 .req (okL 39 (zbb B32 (val B32 a0)) && decide (0 < t1)) (.rq 12 (.done (true, zbb B32 (val B32 (zbb B32 (val B32 a0)) / t1.toNat), zbb B32 (zbr (((val B32 (zbb B32 (val B32 a0)) % t1.toNat : Nat) : Int))).toNat)))))))
 (.rq 4 (let t2 := w64 (t0 - 1);
 .req (inB (zbb B32 (val B32 l)) t2) (.rq 5 (let t3 := 32 - ((bl (gI (zbb B32 (val B32 l)) t2).toNat : Nat) : Int);
 .req (okL 39 (zbb B32 (val B32 a0)) && (decide (0 ≤ t3) && decide (t3 ≤ 31))) (.rq 2 (.req (okL 39 (zbb B32 (val B32 l)) && (decide (0 ≤ t3) && decide (t3 ≤ 31))) (let t4 := fixd B32 ((zbb B32 (val B32 l)).length + 1) (val B32 (zbb B32 (val B32 l)) * 2 ^ t3.toNat);
 .req (okL 40 t4) (.rq 8 (let t5 := w64 ((w64 (((zbb B32 (val B32 a0)).length : Int) - t0)) + 1);
 .req (mkOK 4 t5) (.rq 5 (let t6 := zbV t5 0;
 .call (lo zfw (zbb B32 (val B32 t4)) (w64 ((t6.length : Int) - 1), fixd B32 ((zbb B32 (val B32 a0)).length + 1) (val B32 (zbb B32 (val B32 a0)) * 2 ^ t3.toNat), t6)) default fun v3 =>
 .rq 1 (.req (okL 40 v3.2) (.rq 2 (.req (okL 39 v3.1 && (decide (0 ≤ t3) && decide (t3 ≤ 31))) (.rq 3 (.done (true, zbb B32 (val B32 v3.2), zbb B32 (val B32 v3.1 / 2 ^ t3.toNat)))))))))))))))))))))))))))
def F_zav (x : (List Int) × (List Int)) : Option (Bool × (List Int) × (List Int)) := (zav x).run fun _ => none
def io_zav : Io := ⟨n_zav, [.sl tV, .sl tV], [.lf (qm 0), .lf (qm 1)], [], [[.sl tV], [.sl tV]], [tB, .sl tV, .sl tV], .tup [(false, [qr 0]), (false, [qr 1]), (false, [qm 0])], [], [(true, .arr 90 (qm 1)), (true, .arr 90 (qm 2))], false⟩
def zav_P : List zaV := [zav_p1018]
def zav_T : zbf := tab [e_zal, e_zap, e_zK, e_zo, e_zaq, e_zN, e_zaa, e_zax, e_zaR, e_zad]
theorem zav_To : zbd pg zav_T := zaX ⟨e_zal_ok, e_zap_ok, e_zK_ok, e_zo_ok, e_zaq_ok, e_zN_ok, e_zaa_ok, e_zax_ok, e_zaR_ok, zfo, trivial⟩
theorem zav_k1018 : (zav_p1018).OK pg (zav_T) (zbu 98 (zav_P)) (zbh f_zav) 98 := ⟨by kernel_rfl, fun i x => by kernel_rfl⟩
theorem zav_go : zbt pg (zav_T) io_zav f_zav (zav_P) [.nilRow 4 800004 90 tV, .nilRow 5 800005 90 tV, .ren 4 700004, .ren 5 700005, .ren 4 900004, .ren 5 900005] (zav) := ⟨by kernel_rfl, by kernel_rfl, fun x => by kernel_rfl⟩
theorem ok_zav : io_zav.Okay pg (F_zav) := zbl zaZ (zav_To) (zav_go) ⟨zav_k1018, trivial⟩
theorem div_l {vs : List Int} (hv : wfd B32 vs = true) (h2 : 2 ≤ vs.length) (hnorm : B32 ≤ 2 * (vs.getD (vs.length - 1) 0).toNat) :
  ∀ (jj : Nat) (us qs : List Int), wfd B32 us = true → jj + vs.length ≤ us.length → us.length ≤ 2 ^ 41 → val B32 us < B32 ^ jj * val B32 vs → wfd B32 qs = true → jj ≤ qs.length → (∀ i, i < jj → qs.getD i 0 = 0) → qs.length ≤ 2 ^ 41 →
   ∃ us' qs', lo zfw vs ((jj : Int) - 1, us, qs) = some (us', qs') ∧ wfd B32 us' = true ∧ us'.length = us.length ∧ wfd B32 qs' = true ∧ qs'.length = qs.length ∧ val B32 us' < val B32 vs ∧
    ∃ D, val B32 us = val B32 us' + D * val B32 vs ∧ val B32 qs' = val B32 qs + D
 | 0, us, qs, hu, _, _, hU, hq, _, _, _ => by
  refine ⟨us, qs, ?_, hu, rfl, hq, rfl, by simpa using hU, 0, by simp, by simp⟩
  rw [zbi, zfw]
  simp only [RT.run]
  rw [if_neg (by simp)]
 | jj + 1, us, qs, hu, hl, hl2, hU, hq, hql, hqz, hql2 => by
  have hV : 0 < val B32 vs := by
   apply Nat.pos_of_ne_zero
   intro h
   rw [h, Nat.mul_zero] at hU
   exact Nat.not_lt_zero _ hU
  have pj : 0 < B32 ^ jj := Nat.pow_pos (by decide)
  have hVlt := zcl (by decide : 0 < B32) hv
  have hU' : val B32 us < B32 ^ jj * (B32 * val B32 vs) := by rw [← Nat.mul_assoc, ← Nat.pow_succ]; exact hU
  have hUj : val B32 us / B32 ^ jj < B32 * val B32 vs := by rw [Nat.div_lt_iff_lt_mul pj, Nat.mul_comm]; exact hU'
  have hwin : val B32 us / B32 ^ jj % B32 ^ (vs.length + 1) = val B32 us / B32 ^ jj := by
   rw [Nat.mod_eq_of_lt]
   refine Nat.lt_trans hUj ?_
   rw [Nat.pow_succ, Nat.mul_comm (B32 ^ vs.length)]
   exact (Nat.mul_lt_mul_left (by decide)).2 hVlt
  have hQ := Nat.div_mul_le_self (val B32 us / B32 ^ jj) (val B32 vs)
  have hQ' : val B32 us / B32 ^ jj < (val B32 us / B32 ^ jj / val B32 vs + 1) * val B32 vs := by
   rw [Nat.mul_comm]
   exact Nat.lt_mul_div_succ _ hV
  have hQB : val B32 us / B32 ^ jj / val B32 vs < B32 := by rw [Nat.div_lt_iff_lt_mul hV]; exact hUj
  obtain ⟨g, hg, hg1, hg2⟩ := guess_F (j := jj) hu hv h2 (by omega) hl2 hnorm (by rw [hwin]; exact hUj) (by rw [hwin]; exact hQ) (by rw [hwin]; exact hQ')
  generalize hQd : val B32 us / B32 ^ jj / val B32 vs = Q at *
  have hB : B32 = 4294967296 := rfl
  have ix : (((jj + 1 : Nat) : Int) - 1) = (jj : Int) := by omega
  have wj : w64 ((jj : Int) - 1) = (jj : Int) - 1 := by rw [zbg]; omega
  have rd := div_round hu hv (j := jj) (by omega) hV hU' hQ hQ' hg1 hg2
  have hq1 : wfd B32 (qs.set jj (Q : Int)) = true := zee hq ⟨Int.natCast_nonneg _, Int.ofNat_lt.2 hQB⟩
  have hqv := val_set (b := B32) (xs := qs) (i := jj) (d := (Q : Int)) (by omega)
  rw [hqz jj (by omega)] at hqv
  simp only [Int.toNat_natCast, Int.toNat_zero, Nat.mul_zero, Nat.add_zero] at hqv
  have step : ∀ us1 : List Int, wfd B32 us1 = true → us1.length = us.length → val B32 us1 + B32 ^ jj * (Q * val B32 vs) = val B32 us →
    ∃ us' qs', lo zfw vs ((jj : Int) - 1, us1, qs.set jj (Q : Int)) = some (us', qs') ∧ wfd B32 us' = true ∧ us'.length = us.length ∧ wfd B32 qs' = true ∧ qs'.length = qs.length ∧ val B32 us' < val B32 vs ∧
     ∃ D, val B32 us = val B32 us' + D * val B32 vs ∧ val B32 qs' = val B32 qs + D := by
   intro us1 hw1 hl1 hv1
   have hlt : val B32 us1 < B32 ^ jj * val B32 vs := by
    have h3 : val B32 us < B32 ^ jj * ((Q + 1) * val B32 vs) := Nat.lt_of_lt_of_le (Nat.lt_mul_div_succ (val B32 us) pj) (Nat.mul_le_mul_left _ hQ')
    rw [Nat.add_mul, Nat.one_mul, Nat.mul_add] at h3
    omega
   obtain ⟨us', qs', h4, h5, h6, h7, h8, h9, D, h10, h11⟩ := div_l hv h2 hnorm jj us1 (qs.set jj (Q : Int)) hw1 (by omega) (by omega) hlt hq1 (by rw [List.length_set]; omega)
    (fun i hi => by rw [List.getD, List.getElem?_set]; rw [if_neg (by omega)]; exact hqz i (by omega)) (by rw [List.length_set]; omega)
   refine ⟨us', qs', h4, h5, by omega, h7, by rw [h8, List.length_set], h9, D + B32 ^ jj * Q, ?_, ?_⟩
   ·rw [Nat.add_mul, Nat.mul_assoc]; omega
   ·rw [h11]; omega
  rw [zbi, zfw, ix]
  simp only [RT.run, hg, Option.bind_some]
  rw [if_pos (by simp)]
  have hqs : inB qs (jj : Int) = true := by rw [zbU]; simp; omega
  rw [away_F (q := g) hu hv (by omega) (by omega) hl2]
  simp only [Option.bind_some, wj, sIn]
  rcases rd with ⟨r1, r2, r3, r4, r5⟩ | ⟨r1, r2, r3, r4, r5, r6, r7⟩
  ·rw [r1, if_neg (by simp), if_pos hqs, r2]
   have wq : zcr (Q : Int) = (Q : Int) := zet ⟨Int.natCast_nonneg _, by omega⟩
   rw [r2] at r3 r4 r5
   rw [wq]
   exact step _ r3 r4 r5
  ·rw [r1, if_pos (by simp), back_F r3 hv (by omega) (by omega)]
   simp only [Option.bind_some]
   rw [if_pos hqs, r2]
   have wq : zcr (zbr (((Q + 1 : Nat) : Int) - 1)) = (Q : Int) := by
    rw [show ((Q + 1 : Nat) : Int) - 1 = (Q : Int) by omega, zby (by omega), zet (by omega)]
   rw [r2] at r5 r6 r7
   rw [wq]
   exact step _ r5 r6 r7
def zfa (va vb : Nat) : Bool × List Int × List Int := if vb = 0 then (false, [], []) else (true, zbb B32 (va / vb), zbb B32 (va % vb))
def e_zav : zbj := io_zav.sp (fun (a, b) => okL 38 a && okL 38 b) (fun (a, b) => zfa (val B32 a) (val B32 b))
theorem sp_zav (h : ∀ (a : List Int) (b : List Int), WfT [.sl tV, .sl tV] (a, b) → (okL 38 a && okL 38 b) = true → (zav (a, b)).run (fun _ => none) = some (zfa (val B32 a) (val B32 b))) : e_zav.ok pg := zbo ok_zav fun (a, b) hw hc => h a b hw hc
theorem e_zav_ok : e_zav.ok pg := sp_zav fun a b hw hc => by
 have ha : wfd B32 a = true := zcn hw.1
 have hb : wfd B32 b = true := zcn hw.2
 simp only [Bool.and_eq_true, okL38] at hc
 obtain ⟨la, lb⟩ := hc
 have la' := zhd ha
 have lb' := zhd hb
 have wa := zdw (b := B32) (by decide) (val B32 a)
 have wb := zdw (b := B32) (by decide) (val B32 b)
 have va := zbS (b := B32) (by decide) (val B32 a)
 have vb := zbS (b := B32) (by decide) (val B32 b)
 rw [zav]
 simp only [RT.run]
 rw [if_pos (by rw [okL40]; omega), if_pos (by rw [okL40]; omega)]
 generalize hA : val B32 a = A at *
 generalize hBv : val B32 b = V at *
 by_cases hV : V = 0
 ·subst hV
  rw [if_pos (by rw [zdk]; rfl)]
  rfl
 have hV0 : 0 < V := Nat.pos_of_ne_zero hV
 have hlV : 0 < (zbb B32 V).length := by rw [zfO (by decide) hV0]; simp
 rw [if_neg (by simp only [beq_iff_eq]; omega)]
 have hdr : zfa A V = (true, zbb B32 (A / V), zbb B32 (A % V)) := if_neg hV
 rw [hdr]
 simp only [va, vb]
 by_cases hlt : A < V
 ·rw [if_pos (by
   have : cmpI (A : Int) (V : Int) = -1 := by unfold cmpI; rw [if_pos (Int.ofNat_lt.2 hlt)]
   rw [this]; rfl), Nat.div_eq_of_lt hlt, Nat.mod_eq_of_lt hlt, zdk]
 rw [if_neg (by
  have : ¬ cmpI (A : Int) (V : Int) < 0 := by
   unfold cmpI
   rw [if_neg (by omega)]
   split <;> omega
  simpa using this)]
 by_cases h1 : (zbb B32 V).length = 1
 ·-- one digit
  have hVB : V < B32 := by
   have h3 := zcl (b := B32) (by decide) wb
   rw [vb, h1, Nat.pow_one] at h3
   exact h3
  have hd : gI (zbb B32 V) 0 = (V : Int) := by
   have : gI (zbb B32 V) ((0 : Nat) : Int) = (V : Int) := by rw [gIn, digs_get (by decide), Nat.pow_zero, Nat.div_one, Nat.mod_eq_of_lt hVB]
   exact this
  have hB : B32 = 4294967296 := rfl
  have hm : A % V < V := Nat.mod_lt _ hV0
  rw [if_pos (by rw [h1]; rfl)]
  have w : zbr ((A % V : Nat) : Int) = ((A % V : Nat) : Int) := zby ⟨Int.natCast_nonneg _, by omega⟩
  simp only [hd, Int.toNat_natCast, w]
  rw [if_pos (by rw [zbc]; omega), if_pos (by rw [Bool.and_eq_true, okL39, decide_eq_true_eq]; omega)]
 rw [if_neg (by simp only [beq_iff_eq]; omega)]
 obtain ⟨s, mb, f1, f2, f3, f4, f5, f6, f7, f8, f9⟩ := norm_facts (vb := V) (by omega)
 have hAV : V ≤ A := Nat.le_of_not_lt hlt
 obtain ⟨ma, g1, g2, g3⟩ := zdM (b := B32) (by decide) (Nat.lt_of_lt_of_le hV0 hAV)
 have hml : mb + 1 ≤ ma := by
  have := (Nat.pow_lt_pow_iff_right (by decide : 1 < B32)).1 (Nat.lt_of_le_of_lt (Nat.le_trans f6 hAV) g3)
  omega
 have w1 : w64 (((mb + 2 : Nat) : Int) - 1) = ((mb + 1 : Nat) : Int) := by rw [zbg] <;> omega
 have w2 : w64 (((ma + 1 : Nat) : Int) - ((mb + 2 : Nat) : Int)) = ((ma + 1 : Nat) : Int) - ((mb + 2 : Nat) : Int) := by rw [zbg]; omega
 have w3 : w64 (((ma + 1 : Nat) : Int) - ((mb + 2 : Nat) : Int) + 1) = ((ma - mb : Nat) : Int) := by rw [zbg] <;> omega
 have w4 : w64 (((ma - mb : Nat) : Int) - 1) = ((ma - mb : Nat) : Int) - 1 := by rw [zbg]; omega
 have hs32 : 2 ^ s ≤ B32 := by
  have : (2 : Nat) ^ s ≤ 2 ^ 32 := Nat.pow_le_pow_right (by decide) (by omega)
  exact this
 have hps : 0 < 2 ^ s := Nat.pow_pos (by decide)
 have hAs : A * 2 ^ s < B32 ^ (ma + 2) := by
  rw [Nat.pow_succ B32 (ma + 1)]
  exact Nat.lt_of_lt_of_le ((Nat.mul_lt_mul_right hps).2 g3) (Nat.mul_le_mul_left _ hs32)
 have hVs : V * 2 ^ s < B32 ^ (mb + 3) := Nat.lt_of_lt_of_le f7 (Nat.pow_le_pow_right (by decide) (by omega))
 have fv : val B32 (fixd B32 (mb + 2 + 1) (V * 2 ^ s)) = V * 2 ^ s := by rw [fixd_val, Nat.mod_eq_of_lt hVs]
 have fu : val B32 (fixd B32 (ma + 1 + 1) (A * 2 ^ s)) = A * 2 ^ s := by rw [fixd_val, Nat.mod_eq_of_lt hAs]
 have fvv : val B32 (zbb B32 (V * 2 ^ s)) = V * 2 ^ s := zbS (by decide) _
 have hdiv := div_l (vs := zbb B32 (V * 2 ^ s)) (zdw (by decide) _) (by rw [f8]; omega) (by rw [f8]; exact f9) (ma - mb) (fixd B32 (ma + 1 + 1) (A * 2 ^ s)) (List.replicate (ma - mb) 0)
  (fixd_wf (by decide) _ _) (by rw [f8, zfq]; omega) (by rw [zfq]; omega) (by
   rw [fu, fvv, ← Nat.mul_assoc]
   refine (Nat.mul_lt_mul_right hps).2 ?_
   refine Nat.lt_of_lt_of_le g3 ?_
   rw [show ma + 1 = (ma - mb) + (mb + 1) by omega, Nat.pow_add]
   exact Nat.mul_le_mul_left _ f6) (zep (by decide)) (by simp) (fun i hi => by simp [List.getD, hi]) (by simp; omega)
 obtain ⟨us', qs', d1, d2, d3, d4, d5, d6, D, d7, d8⟩ := hdiv
 rw [fu, fvv] at d7
 rw [fvv] at d6
 rw [zfj, Nat.zero_add] at d8
 rw [zfq] at d3
 rw [List.length_replicate] at d5
 have hD : D = A / V := by
  have h3 : (A * 2 ^ s) / (V * 2 ^ s) = D := by
   rw [d7, Nat.add_mul_div_right _ _ (Nat.mul_pos hV0 hps), Nat.div_eq_of_lt d6, Nat.zero_add]
  rw [← h3, Nat.mul_div_mul_right _ _ hps]
 have hR : val B32 us' = A % V * 2 ^ s := by
  have h3 : (A * 2 ^ s) % (V * 2 ^ s) = val B32 us' := by
   rw [d7, Nat.add_mul_mod_self_right, Nat.mod_eq_of_lt d6]
  rw [← h3, Nat.mul_mod_mul_right]
 have hgi : gI (zbb B32 V) ((mb + 1 : Nat) : Int) = (zbb B32 V).getD (mb + 1) 0 := gIn _ _
 rw [f1, g1]
 simp only [w1, w2, w3, w4, hgi, f2, Int.toNat_natCast, List.length_replicate, fv, zbV]
 rw [if_pos (by rw [zbU, f1]; simp), if_pos (by simp only [Bool.and_eq_true, okL39, decide_eq_true_eq]; omega), if_pos (by simp only [Bool.and_eq_true, okL39, decide_eq_true_eq]; omega),
  if_pos (by rw [okL40, zfq]; omega), if_pos (by rw [zcK]; omega), d1]
 simp only [Option.bind_some]
 rw [if_pos (by rw [okL40]; omega), if_pos (by simp only [Bool.and_eq_true, okL39, decide_eq_true_eq]; omega), d8, hD, hR, Nat.mul_div_cancel _ hps]
def zaD_b28 : Unit → ((List Int) × (List Int)) → RT ((List Int) × (List Int)) (List Int)
| _, (r0, r1) =>
 .rq 3 (.ite (decide (0 < (r1.length : Int)))
 (.rq 2 (.req (okL 38 r0 && okL 38 r1) (.rq 11 (.again (r1, (zfa (val B32 r0) (val B32 r1)).2.2)))))
 (.done r0))
def zaD_p28 : zaV := ⟨28, true, [], [.sl tV, .sl tV], ⟨[.keep [0, 1], .gc, .nilRow 0 800000 90 tV, .nilRow 1 800001 90 tV, .ren 0 700000, .ren 1 700001, .ren 0 900000, .ren 1 900001, .gc], [0, 1], [.lf (qr 900000), .lf (qr 900001)], [(900000, true, .arr 90 (qm 0)), (900001, true, .arr 90 (qm 1))]⟩, [⟨2, ⟨[.keep [0], .gc, .nilRow 0 800000 90 tV, .ren 0 700000, .ren 0 900000, .gc], [0], [.lf (qr 900000)], [(900000, true, .arr 90 (qm 0))]⟩, [.sl tV]⟩], zaD_b28⟩
def zaD : ((List Int) × (List Int)) → RT Unit (List Int)
| (a, b) =>
 .rq 2 (.req (okL 40 a) (.rq 1 (.req (okL 40 b) (.rq 2 (.call (lo zaD_b28 () (zbb B32 (val B32 a), zbb B32 (val B32 b))) default fun v0 =>
 .rq 2 (.done v0))))))
def F_zaD (x : (List Int) × (List Int)) : Option (List Int) := (zaD x).run fun _ => none
def io_zaD : Io := ⟨n_zaD, [.sl tV, .sl tV], [.lf (qm 0), .lf (qm 1)], [], [[.sl tV], [.sl tV]], [.sl tV], .lf (qr 0), [], [(true, .arr 90 (qm 0))], false⟩
def zaD_P : List zaV := [zaD_p28]
def zaD_T : zbf := tab [e_zav, e_zad]
theorem zaD_To : zbd pg zaD_T := zaX ⟨e_zav_ok, zfo, trivial⟩
theorem zaD_k28 : (zaD_p28).OK pg (zaD_T) (zbu 25 (zaD_P)) (zbh f_zaD) 25 := ⟨by kernel_rfl, fun i x => by kernel_rfl⟩
theorem zaD_go : zbt pg (zaD_T) io_zaD f_zaD (zaD_P) [.nilRow 4 800004 90 tV, .ren 4 700004, .ren 4 900004] (zaD) := ⟨by kernel_rfl, by kernel_rfl, fun x => by kernel_rfl⟩
theorem ok_zaD : io_zaD.Okay pg (F_zaD) := zbl zaZ (zaD_To) (zaD_go) ⟨zaD_k28, trivial⟩
theorem digs_len_mono {m n : Nat} (h : m ≤ n) : (zbb B32 m).length ≤ (zbb B32 n).length := by
 by_cases hm : m = 0
 ·subst hm
  rw [zdk]
  exact Nat.zero_le _
 obtain ⟨a, h1, h2, h3⟩ := zdM (b := B32) (by decide) (Nat.pos_of_ne_zero hm)
 obtain ⟨b, h4, h5, h6⟩ := zdM (b := B32) (by decide) (Nat.lt_of_lt_of_le (Nat.pos_of_ne_zero hm) h)
 have := (Nat.pow_lt_pow_iff_right (by decide : 1 < B32)).1 (Nat.lt_of_le_of_lt (Nat.le_trans h2 h) h6)
 omega
theorem okL_digs {k : Nat} {xs : List Int} (hw : wfd B32 xs = true) (h : okL k xs = true) : okL k (zbb B32 (val B32 xs)) = true := by
 rw [zeW] at *
 exact Nat.le_trans (zhd hw) h
theorem okL_le {k m n : Nat} (h : m ≤ n) (h' : okL k (zbb B32 n) = true) : okL k (zbb B32 m) = true := by
 rw [zeW] at *
 exact Nat.le_trans (digs_len_mono h) h'
theorem gcd_l : ∀ (V A : Nat), okL 38 (zbb B32 A) = true → okL 38 (zbb B32 V) = true → lo zaD_b28 () (zbb B32 A, zbb B32 V) = some (zbb B32 (Nat.gcd A V)) := by
 intro V
 induction V using Nat.strongRecOn with
 | ind V ih =>
  intro A hA hV
  rw [zbi, zaD_b28]
  simp only [RT.run]
  by_cases h : V = 0
  ·subst h
   rw [if_neg (by simp [zdk]), Nat.gcd_zero_right]
  ·have hV0 := Nat.pos_of_ne_zero h
   have hl : 0 < (zbb B32 V).length := by rw [zfO (by decide) hV0]; simp
   have hm := Nat.mod_lt A hV0
   rw [if_pos (by simp only [decide_eq_true_eq]; omega), if_pos (by rw [hA, hV]; rfl), zbS (by decide), zbS (by decide), zfa, if_neg h]
   rw [ih (A % V) hm V hV (okL_le (Nat.le_of_lt hm) hV), Nat.gcd_comm A V, Nat.gcd_rec V A, Nat.gcd_comm]
def e_zaD : zbj := io_zaD.sp (fun (a, b) => okL 38 a && okL 38 b) (fun (a, b) => zbb B32 (Nat.gcd (val B32 a) (val B32 b)))
theorem sp_zaD (h : ∀ (a : List Int) (b : List Int), WfT [.sl tV, .sl tV] (a, b) → (okL 38 a && okL 38 b) = true → (zaD (a, b)).run (fun _ => none) = some (zbb B32 (Nat.gcd (val B32 a) (val B32 b)))) : e_zaD.ok pg := zbo ok_zaD fun (a, b) hw hc => h a b hw hc
theorem e_zaD_ok : e_zaD.ok pg := sp_zaD fun a b hw hc => by
 have ha : wfd B32 a = true := zcn hw.1
 have hb : wfd B32 b = true := zcn hw.2
 rw [Bool.and_eq_true] at hc
 rw [zaD]
 simp only [RT.run]
 rw [if_pos (okL_mono (by decide) hc.1), if_pos (okL_mono (by decide) hc.2), gcd_l _ _ (okL_digs ha hc.1) (okL_digs hb hc.2)]
 rfl
end
end Go.Proofs.Ytlfdidaeachpoaa
namespace Go.Proofs.Ytlfdidaeachpoaa
open Go Go.RowKit
set_option maxRecDepth 100000
noncomputable section
abbrev B16 : Nat := 65536
theorem getD16 {xs : List Int} (h : wfd B16 xs = true) (i : Nat) : ∃ d : Nat, xs.getD i 0 = (d : Int) ∧ d < 65536 := by
 have := zfs (by decide : 0 < B16) h i
 have hB : (B16 : Int) = 65536 := rfl
 exact ⟨(xs.getD i 0).toNat, by omega, by omega⟩
theorem tdiv16 (x : Nat) : Int.tdiv (x : Int) 65536 = ((x / 65536 : Nat) : Int) := tdivN x 65536
theorem tmod16 (x : Nat) : Int.tmod (x : Int) 65536 = ((x % 65536 : Nat) : Int) := tmodN x 65536
theorem apOK_small {b : Nat} {xs ys : List Int} (hb : b ≤ 64) (h : xs.length + ys.length ≤ 2199023255552) : apOK b xs ys = true := by
 rw [zds, maxLen_eq]
 have : (xs.length + ys.length) * b ≤ 2199023255552 * 64 := Nat.mul_le_mul h hb
 omega
theorem inB_t {xs : List Int} {i : Nat} (h : i < xs.length) : inB xs (i : Int) = true := by rw [zbU]; exact decide_eq_true h
def zaK_b28 : Unit → (Int × (List Int)) → RT (Int × (List Int)) (List Int)
| _, (n, r3) =>
 .rq 2 (.ite (decide (0 < n))
 (.rq 5 (let t0 := [w64 (Int.tmod n 65536)];
 .req (apOK 8 r3 t0) (.rq 4 (.again (zbr (Int.tdiv n 65536), r3 ++ t0)))))
 (.done r3))
def zaK_p28 : zaV := ⟨28, true, [], [tU, .sl tI], ⟨[.keep [0, 2, 3], .gc, .nilRow 3 800003 3 tI, .ren 3 700003, .ren 3 900003, .gc], [0, 2, 3], [.lf (qm 0), .lf (qp 32), .lf (qr 900003)], [(32, true, .cells [.fix (.nil)]), (900003, true, .arr 3 (qm 1))]⟩, [⟨2, ⟨[.keep [2, 3], .gc, .nilRow 3 800003 3 tI, .ren 3 700003, .ren 3 900003, .gc], [2, 3], [.lf (qp 32), .lf (qr 900003)], [(32, true, .cells [.fix (.nil)]), (900003, true, .arr 3 (qm 0))]⟩, [.sl tI]⟩], zaK_b28⟩
def zaK : Int → RT Unit (List Int)
| n =>
 .rq 2 (.call (lo zaK_b28 () (n, [])) default fun v0 =>
 .rq 3 (.done v0))
def F_zaK (x : Int) : Option (List Int) := (zaK x).run fun _ => none
def io_zaK : Io := ⟨n_zaK, [tU], [.lf (qm 0)], [], [[tU]], [.sl tI], .agg [qr 0], [], [(true, .arr 3 (qm 0))], false⟩
def zaK_P : List zaV := [zaK_p28]
def zaK_T : zbf := tab []
theorem zaK_To : zbd pg zaK_T := zaX trivial
theorem zaK_k28 : (zaK_p28).OK pg (zaK_T) (zbu 16 (zaK_P)) (zbh f_zaK) 16 := ⟨by kernel_rfl, fun i x => by kernel_rfl⟩
theorem zaK_go : zbt pg (zaK_T) io_zaK f_zaK (zaK_P) [.cellRow 32 0 600032 3 tI, .cellRen 32 0 600032] (zaK) := ⟨by kernel_rfl, by kernel_rfl, fun x => by kernel_rfl⟩
theorem ok_zaK : io_zaK.Okay pg (F_zaK) := zbl zaZ (zaK_To) (zaK_go) ⟨zaK_k28, trivial⟩
theorem of16_l : ∀ (x : Nat) (out : List Int), x < 2 ^ 64 → out.length + x < 2 ^ 64 + 10 → out.length ≤ 10000 → (x < 65536 ^ (10000 - out.length)) → lo zaK_b28 () ((x : Int), out) = some (out ++ zbb B16 x) := by
 intro x
 induction x using Nat.strongRecOn with
 | ind x ih =>
  intro out hx ho hl hp
  rw [zbi, zaK_b28]
  by_cases h : x = 0
  ·subst h
   simp [RT.run, zdk]
  ·have hx0 := Nat.pos_of_ne_zero h
   have hl' : out.length < 10000 := by
    apply Nat.lt_of_le_of_ne hl
    intro e
    rw [e, Nat.sub_self, Nat.pow_zero] at hp
    omega
   have w1 : zbr ((x / 65536 : Nat) : Int) = ((x / 65536 : Nat) : Int) := zby ⟨Int.natCast_nonneg _, by omega⟩
   have w2 : w64 ((x % 65536 : Nat) : Int) = ((x % 65536 : Nat) : Int) := zbg (by omega)
   simp only [RT.run, tdiv16, tmod16, w1, w2]
   rw [if_pos (by simp; omega), if_pos (apOK_small (by decide) (by simp; omega))]
   rw [ih (x / 65536) (by omega) _ (by omega) (by simp; omega) (by simp; omega) (by
    rw [List.length_append, List.length_singleton, Nat.div_lt_iff_lt_mul (by decide), ← Nat.pow_succ, show (10000 - (out.length + 1)).succ = 10000 - out.length by omega]
    exact hp), zfO (by decide) hx0, List.append_assoc]
   rfl
def e_zaK : zbj := io_zaK.sp (fun n => true) (fun n => zbb B16 n.toNat)
theorem sp_zaK (h : ∀ (n : Int), WfT [tU] n → (zaK n).run (fun _ => none) = some (zbb B16 n.toNat)) : e_zaK.ok pg := zbo ok_zaK fun n hw hc => h n hw
theorem e_zaK_ok : e_zaK.ok pg := sp_zaK fun n hw => by
 have hw' : 0 ≤ n ∧ n < 18446744073709551616 := hw
 obtain ⟨m, rfl⟩ := Int.eq_ofNat_of_zero_le hw'.1
 rw [zaK, Int.toNat_natCast]
 simp only [RT.run]
 rw [of16_l m [] (by omega) (by simp; omega) (by simp) (by
  refine Nat.lt_of_lt_of_le (show m < 65536 ^ 4 by omega) (Nat.pow_le_pow_right (by decide) (by simp)))]
 rfl
theorem zgD {xs : List Int} (h : wfd B16 xs = true) {i : Nat} (hi : xs.length ≤ i) : val B16 xs / B16 ^ i = 0 :=
 Nat.div_eq_of_lt (Nat.lt_of_lt_of_le (zcl (by decide) h) (Nat.pow_le_pow_right (by decide) hi))
theorem div_step (x i : Nat) : x / B16 ^ i = x / B16 ^ i % B16 + B16 * (x / B16 ^ (i + 1)) := by
 rw [Nat.pow_succ, ← Nat.div_div_eq_div_mul]
 exact (Nat.mod_add_div _ _).symm
end
end Go.Proofs.Ytlfdidaeachpoaa
namespace Go.Proofs.Ytlfdidaeachpoaa
open Go Go.RowKit
set_option maxRecDepth 100000
noncomputable section
end
end Go.Proofs.Ytlfdidaeachpoaa
namespace Go.Proofs.Ytlfdidaeachpoaa
open Go Go.RowKit
def rq (q : Rat) : List Int × List Int := (zbb B32 q.num.toNat, zbb B32 q.den)
def rQ (q : Rat) : List Int × List Int := (zbb 65536 q.num.toNat, zbb 65536 q.den)
def toQ (n d : List Int) : Rat := mkRat (val B32 n : Nat) (val B32 d)
theorem mkRat_num {n d : Nat} (hd : d ≠ 0) : (mkRat (n : Int) d).num = ((n / Nat.gcd n d : Nat) : Int) ∧ (mkRat (n : Int) d).den = d / Nat.gcd n d := by
 rw [mkRat, dif_neg hd, Rat.normalize_eq]
 simp
theorem zgG (n d : Nat) : 0 ≤ mkRat (n : Int) d := by
 by_cases hd : d = 0
 ·subst hd; simp [mkRat]
 ·rw [← Rat.num_nonneg, (mkRat_num hd).1]; exact Int.natCast_nonneg _
theorem rq_mkRat {n d : Nat} (hd : d ≠ 0) : rq (mkRat (n : Int) d) = (zbb B32 (n / Nat.gcd n d), zbb B32 (d / Nat.gcd n d)) := by
 unfold rq
 rw [(mkRat_num hd).1, (mkRat_num hd).2, Int.toNat_natCast]
theorem mkRat_self {q : Rat} (h : 0 ≤ q) : mkRat ((q.num.toNat : Nat) : Int) q.den = q := by
 rw [Int.toNat_of_nonneg (Rat.num_nonneg.2 h)]
 exact Rat.mkRat_self q
theorem toQ_rq {q : Rat} (h : 0 ≤ q) : toQ (rq q).1 (rq q).2 = q := by
 unfold toQ rq
 simp only [zbS (show 2 ≤ B32 by decide)]
 exact mkRat_self h
theorem rq_den {q : Rat} : val B32 (rq q).2 = q.den := zbS (by decide) _
theorem rq_num {q : Rat} : val B32 (rq q).1 = q.num.toNat := zbS (by decide) _
theorem rQ_den {q : Rat} : val 65536 (rQ q).2 = q.den := zbS (by decide) _
theorem rQ_num {q : Rat} : val 65536 (rQ q).1 = q.num.toNat := zbS (by decide) _
def sm (n : Nat) (q : Rat) : Prop := q.num.toNat < 2 ^ n ∧ q.den < 2 ^ n
theorem zea {n m : Nat} {q : Rat} (h : n ≤ m) (hq : sm n q) : sm m q :=
 ⟨Nat.lt_of_lt_of_le hq.1 (Nat.pow_le_pow_right (by decide) h), Nat.lt_of_lt_of_le hq.2 (Nat.pow_le_pow_right (by decide) h)⟩
theorem sm_mkRat {n d k : Nat} (hd : d ≠ 0) (h1 : n < 2 ^ k) (h2 : d < 2 ^ k) : sm k (mkRat (n : Int) d) := by
 obtain ⟨e1, e2⟩ := mkRat_num (n := n) hd
 refine ⟨?_, ?_⟩
 ·rw [e1, Int.toNat_natCast]; exact Nat.lt_of_le_of_lt (Nat.div_le_self _ _) h1
 ·rw [e2]; exact Nat.lt_of_le_of_lt (Nat.div_le_self _ _) h2
theorem add_mk {p q : Rat} (hp : 0 ≤ p) (hq : 0 ≤ q) : p + q = mkRat ((p.num.toNat * q.den + q.num.toNat * p.den : Nat) : Int) (p.den * q.den) := by
 have h := Rat.mkRat_add_mkRat (p.num.toNat : Int) (q.num.toNat : Int) p.den_nz q.den_nz
 rw [mkRat_self hp, mkRat_self hq] at h
 rw [h]
 simp only [Int.natCast_add, Int.natCast_mul]
theorem mul_mk {p q : Rat} (hp : 0 ≤ p) (hq : 0 ≤ q) : p * q = mkRat ((p.num.toNat * q.num.toNat : Nat) : Int) (p.den * q.den) := by
 have h := Rat.mkRat_mul_mkRat (p.num.toNat : Int) (q.num.toNat : Int) p.den q.den
 rw [mkRat_self hp, mkRat_self hq] at h
 rw [h, Int.natCast_mul]
theorem sm_mul {n m : Nat} {p q : Rat} (hp : 0 ≤ p) (hq : 0 ≤ q) (h1 : sm n p) (h2 : sm m q) : sm (n + m) (p * q) := by
 rw [mul_mk hp hq]
 refine sm_mkRat (Nat.mul_ne_zero p.den_nz q.den_nz) ?_ ?_
 ·rw [Nat.pow_add]; exact Nat.mul_lt_mul'' h1.1 h2.1
 ·rw [Nat.pow_add]; exact Nat.mul_lt_mul'' h1.2 h2.2
theorem sm_add {n m : Nat} {p q : Rat} (hp : 0 ≤ p) (hq : 0 ≤ q) (h1 : sm n p) (h2 : sm m q) : sm (n + m + 1) (p + q) := by
 rw [add_mk hp hq]
 have a := Nat.mul_lt_mul'' h1.1 h2.2
 have b := Nat.mul_lt_mul'' h2.1 h1.2
 have c := Nat.mul_lt_mul'' h1.2 h2.2
 rw [Nat.mul_comm (2 ^ m)] at b
 rw [← Nat.pow_add] at a b c
 have e : 2 ^ (n + m + 1) = 2 ^ (n + m) * 2 := Nat.pow_succ ..
 exact sm_mkRat (Nat.mul_ne_zero p.den_nz q.den_nz) (by omega) (by omega)
theorem zfu {b v n : Nat} (hb : 2 ≤ b) (hv : v < 2 ^ n) : (zbb b v).length ≤ n := by
 by_cases h0 : v = 0
 ·rw [h0, zdk]; exact Nat.zero_le _
 obtain ⟨m, h1, h2, h3⟩ := zdM hb (Nat.pos_of_ne_zero h0)
 have h4 : 2 ^ m ≤ b ^ m := Nat.pow_le_pow_left hb m
 have := (Nat.pow_lt_pow_iff_right (by decide : 1 < 2)).1 (Nat.lt_of_le_of_lt (Nat.le_trans h4 h2) hv)
 omega
end Go.Proofs.Ytlfdidaeachpoaa
namespace Go.Proofs.Ytlfdidaeachpoaa
open Go Go.RowKit
set_option maxRecDepth 100000
noncomputable section
def zfL : (List Int) → (Int × (List Int)) → RT (Int × (List Int)) (List Int)
| a, (i, r3) =>
 .rq 5 (.ite (decide (i < (a.length : Int)))
 (.rq 3 (.req (inB a i) (.rq 9 (let t0 := w64 (i + 1);
 let t1 := zcr (gI a i);
 let t2 := w64 (i + 2);
 .ite (decide (t0 < (a.length : Int)))
 (.rq 5 (.req (inB a t0) (.rq 8 (let t3 := [zcr (t1 + (zcr ((zcr (gI a t0)) * 65536)))];
 .req (apOK 4 r3 t3) (.rq 4 (.again (t2, r3 ++ t3)))))))
 (.rq 3 (let t4 := [t1];
 .req (apOK 4 r3 t4) (.rq 4 (.again (t2, r3 ++ t4)))))))))
 (.done r3))
def zaw_p58 : zaV := ⟨58, true, [.sl tI], [tI, .sl tV], ⟨[.keep [1, 3, 4], .gc, .nilRow 3 800003 90 tV, .ren 3 700003, .ren 3 900003, .gc], [1, 3, 4], [.lf (qp 16), .lf (qr 900003), .lf (qm 0)], [(16, true, .cells [qi 0]), (900003, true, .arr 90 (qm 1))]⟩, [⟨2, ⟨[.keep [3], .gc, .nilRow 3 800003 90 tV, .ren 3 700003, .ren 3 900003, .gc], [3], [.lf (qr 900003)], [(900003, true, .arr 90 (qm 0))]⟩, [.sl tV]⟩], zfL⟩
def zaw : (List Int) → RT Unit (List Int)
| a_0 =>
 .rq 4 (.call (lo zfL a_0 (0, [])) default fun v0 =>
 .rq 2 (.done v0))
def F_zaw (x : (List Int)) : Option (List Int) := (zaw x).run fun _ => none
def io_zaw : Io := ⟨n_zaw, [.sl tI], [.agg [qm 0]], [], [[.sl tI]], [.sl tV], .lf (qr 0), [], [(true, .arr 90 (qm 0))], false⟩
def zaw_P : List zaV := [zaw_p58]
def zaw_T : zbf := tab []
theorem zaw_To : zbd pg zaw_T := zaX trivial
theorem zaw_k58 : (zaw_p58).OK pg (zaw_T) (zbu 40 (zaw_P)) (zbh f_zaw) 40 := ⟨by kernel_rfl, fun i x => by kernel_rfl⟩
theorem zaw_go : zbt pg (zaw_T) io_zaw f_zaw (zaw_P) [.nilRow 2 800002 90 tV, .ren 2 700002, .ren 2 900002] (zaw) := ⟨by kernel_rfl, by kernel_rfl, fun x => by kernel_rfl⟩
theorem ok_zaw : io_zaw.Okay pg (F_zaw) := zbl zaZ (zaw_To) (zaw_go) ⟨zaw_k58, trivial⟩
theorem out32_l {a : List Int} (ha : wfd B16 a = true) (la : a.length ≤ 2 ^ 38) : ∀ (r i : Nat) (out : List Int), a.length ≤ i + 2 * r → i + 2 * r ≤ a.length + 1 → out.length ≤ i →
  ∃ D, lo zfL a ((i : Int), out) = some (out ++ D) ∧ wfd B32 D = true ∧ D.length = r ∧ val B32 D = val B16 a / B16 ^ i := by
 intro r
 induction r with
 | zero =>
  intro i out hi hi' _
  refine ⟨[], ?_, rfl, rfl, by rw [zgD ha (by omega)]; rfl⟩
  rw [zbi, zfL]
  simp only [RT.run]
  rw [if_neg (by simp; omega)]
  simp
 | succ r ih =>
  intro i out hi hi' ho
  obtain ⟨d0, h0, b0⟩ := getD16 ha i
  obtain ⟨d1, h1, b1⟩ := getD16 ha (i + 1)
  have v0 : val B16 a / B16 ^ i % B16 = d0 := by
   have := zdL (by decide : 0 < B16) i ha
   rw [h0] at this; exact Int.ofNat_inj.1 this
  have v1 : val B16 a / B16 ^ (i + 1) % B16 = d1 := by
   have := zdL (by decide : 0 < B16) (i + 1) ha
   rw [h1] at this; exact Int.ofNat_inj.1 this
  have w0 : w64 ((i : Int) + 1) = ((i + 1 : Nat) : Int) := by rw [zbg] <;> omega
  have w1 : w64 ((i : Int) + 2) = ((i + 2 : Nat) : Int) := by rw [zbg] <;> omega
  have w2 : zcr (d0 : Int) = (d0 : Int) := zet (by omega)
  have w3 : zcr (d1 : Int) = (d1 : Int) := zet (by omega)
  have w4 : zcr ((d1 : Int) * 65536) = ((d1 * 65536 : Nat) : Int) := by rw [zet] <;> omega
  have w5 : zcr ((d0 : Int) + ((d1 * 65536 : Nat) : Int)) = ((d0 + d1 * 65536 : Nat) : Int) := by rw [zet] <;> omega
  have g0 : gI a (i : Int) = (d0 : Int) := by rw [gIn, h0]
  have g1 : gI a ((i + 1 : Nat) : Int) = (d1 : Int) := by rw [gIn, h1]
  have s0 := div_step (val B16 a) i
  have s1 := div_step (val B16 a) (i + 1)
  rw [v0] at s0
  rw [v1] at s1
  have hB : B16 = 65536 := rfl
  have hB2 : B32 = 4294967296 := rfl
  have step : ∀ x : Nat, x < 4294967296 → x + 4294967296 * (val B16 a / B16 ^ (i + 2)) = val B16 a / B16 ^ i → ∃ D, lo zfL a (((i + 2 : Nat) : Int), out ++ [(x : Int)]) = some (out ++ D) ∧ wfd B32 D = true ∧ D.length = r + 1 ∧ val B32 D = val B16 a / B16 ^ i := by
   intro x hx hxe
   obtain ⟨D, g1, g2, g3, g4⟩ := ih (i + 2) (out ++ [(x : Int)]) (by omega) (by omega) (by simp; omega)
   refine ⟨(x : Int) :: D, by rw [g1, List.append_assoc]; rfl, zeC.2 ⟨⟨Int.natCast_nonneg _, by omega⟩, g2⟩, by simp [g3], ?_⟩
   rw [val, Int.toNat_natCast, g4, hB2]
   exact hxe
  rw [zbi, zfL]
  simp only [RT.run, w0, w1, g0, g1, w2, w3, w4, w5]
  rw [if_pos (by simp; omega), if_pos (inB_t (by omega))]
  by_cases hlast : i + 1 < a.length
  ·rw [if_pos (by simp; omega), if_pos (inB_t hlast), if_pos (apOK_small (by decide) (by simp; omega))]
   refine step _ (by omega) ?_
   have t0 : val B16 a / B16 ^ i = d0 + 65536 * (val B16 a / B16 ^ (i + 1)) := s0
   have t1 : val B16 a / B16 ^ (i + 1) = d1 + 65536 * (val B16 a / B16 ^ (i + 2)) := s1
   rw [t0, t1]
   omega
  ·rw [if_neg (by simp; omega), if_pos (apOK_small (by decide) (by simp; omega))]
   refine step _ (by omega) ?_
   have z := zgD ha (i := i + 1) (by omega)
   have z2 := zgD ha (i := i + 2) (by omega)
   have t0 : val B16 a / B16 ^ i = d0 + 65536 * (val B16 a / B16 ^ (i + 1)) := s0
   rw [t0, z, z2]
theorem pow_B32 (k : Nat) : B32 ^ k = B16 ^ (2 * k) := by rw [Nat.pow_mul, show B16 ^ 2 = B32 by decide]
theorem digs_half (v : Nat) : (zbb B32 v).length = ((zbb B16 v).length + 1) / 2 := by
 by_cases hv : v = 0
 ·subst hv; rfl
 obtain ⟨m, h1, h2, h3⟩ := zdM (b := B16) (by decide) (Nat.pos_of_ne_zero hv)
 obtain ⟨k, h4, h5, h6⟩ := zdM (b := B32) (by decide) (Nat.pos_of_ne_zero hv)
 rw [pow_B32] at h5 h6
 have a := (Nat.pow_lt_pow_iff_right (by decide : 1 < B16)).1 (Nat.lt_of_le_of_lt h5 h3)
 have b := (Nat.pow_lt_pow_iff_right (by decide : 1 < B16)).1 (Nat.lt_of_le_of_lt h2 h6)
 omega
def isM (k : Nat) (x : List Int) : Bool := decide (x.length ≤ 2 ^ k) && decide (zbb B16 (val B16 x) = x)
theorem isM_iff {k : Nat} {x : List Int} : isM k x = true ↔ x.length ≤ 2 ^ k ∧ zbb B16 (val B16 x) = x := by simp [isM]
theorem isM_digs {k v : Nat} (h : (zbb B16 v).length ≤ 2 ^ k) : isM k (zbb B16 v) = true := isM_iff.2 ⟨h, by rw [zbS (by decide)]⟩
theorem isM_wfd {k : Nat} {x : List Int} (h : isM k x = true) : wfd B16 x = true := by
 rw [isM_iff] at h
 rw [← h.2]
 exact zdw (by decide) _
def e_zaw : zbj := io_zaw.sp (fun a => isM 38 a) (fun a => zbb B32 (val B16 a))
theorem sp_zaw (h : ∀ (a : List Int), WfT [.sl tI] a → (isM 38 a) = true → (zaw a).run (fun _ => none) = some (zbb B32 (val B16 a))) : e_zaw.ok pg := zbo ok_zaw fun a hw hc => h a hw hc
theorem e_zaw_ok : e_zaw.ok pg := sp_zaw fun a _ hc => by
 have hw := isM_wfd hc
 rw [isM_iff] at hc
 rw [zaw]
 simp only [RT.run]
 obtain ⟨D, h1, h2, h3, h4⟩ := out32_l hw hc.1 ((a.length + 1) / 2) 0 [] (by omega) (by omega) (by simp)
 have h1' : lo zfL a ((0 : Int), []) = some D := h1
 rw [h1']
 simp only [Option.bind_some]
 rw [Nat.pow_zero, Nat.div_one] at h4
 have e1 := fixd_eq (b := B32) (by decide) h2
 have e2 := fixd_eq (b := B32) (by decide) (zdw (b := B32) (by decide) (val B16 a))
 rw [zbS (by decide), digs_half, hc.2] at e2
 rw [h4, h3] at e1
 rw [← e1, e2]
def zai_b58 : ((List Int) × (List Int)) → Int → RT Int (LR Unit Unit)
| (a, b), i =>
 .rq 4 (.ite (decide (i < (a.length : Int)))
 (.rq 2 (.req (inB a i) (.rq 3 (.req (inB b i) (.rq 2 (.ite ((gI a i) != (gI b i))
 (.rq 1 (.done (.ex ())))
 (.rq 3 (.again (w64 (i + 1))))))))))
 (.done (.rt ())))
def zai_p58 : zaV := ⟨58, true, [.sl tV, .sl tV], [tI], ⟨[.keep [0, 1, 5], .gc], [0, 1, 5], [.lf (qi 0), .lf (qi 1), .lf (qm 0)], []⟩, [⟨1, ⟨[.keep [4], .gc], [4], [.lf (.fix (.bool false))], []⟩, []⟩, ⟨2, ⟨[.keep [], .gc], [], [], []⟩, []⟩], zai_b58⟩
def zai : ((List Int) × (List Int)) → RT Unit Bool
| (a, b) =>
 .rq 6 (.ite ((a.length : Int) != (b.length : Int))
 (.rq 1 (.done false))
 (.rq 1 (.call (lo zai_b58 (a, b) 0) default fun v0 =>
 .ite v0.isRt
 (.rq 1 (.done true))
 (.done false))))
def F_zai (x : (List Int) × (List Int)) : Option Bool := (zai x).run fun _ => none
def io_zai : Io := ⟨n_zai, [.sl tV, .sl tV], [.lf (qm 0), .lf (qm 1)], [], [[.sl tV], [.sl tV]], [tB], .lf (qm 0), [], [], false⟩
def zai_P : List zaV := [zai_p58]
def zai_T : zbf := tab []
theorem zai_To : zbd pg zai_T := zaX trivial
theorem zai_k58 : (zai_p58).OK pg (zai_T) (zbu 26 (zai_P)) (zbh f_zai) 26 := ⟨by kernel_rfl, fun i x => by kernel_rfl⟩
theorem zai_go : zbt pg (zai_T) io_zai f_zai (zai_P) [] (zai) := ⟨by kernel_rfl, by kernel_rfl, fun x => by kernel_rfl⟩
theorem ok_zai : io_zai.Okay pg (F_zai) := zbl zaZ (zai_To) (zai_go) ⟨zai_k58, trivial⟩
theorem same_l {a b : List Int} (hl : a.length = b.length) (la : a.length ≤ 2 ^ 63 - 1) : ∀ (r i : Nat), i + r = a.length → lo zai_b58 (a, b) (i : Int) = some (if a.drop i = b.drop i then .rt () else .ex ()) := by
 intro r
 induction r with
 | zero =>
  intro i hi
  rw [zbi, zai_b58]
  simp only [RT.run]
  rw [if_neg (by simp; omega), if_pos (by rw [List.drop_of_length_le (by omega), List.drop_of_length_le (by omega)])]
 | succ r ih =>
  intro i hi
  have w : w64 ((i : Int) + 1) = ((i + 1 : Nat) : Int) := by rw [zbg] <;> omega
  have ha : a.drop i = a.getD i 0 :: a.drop (i + 1) := by rw [List.drop_eq_getElem_cons (by omega)]; simp [List.getD, show i < a.length by omega]
  have hb : b.drop i = b.getD i 0 :: b.drop (i + 1) := by rw [List.drop_eq_getElem_cons (by omega)]; simp [List.getD, show i < b.length by omega]
  rw [zbi, ha, hb, zai_b58]
  simp only [RT.run, gIn, w]
  rw [if_pos (by simp; omega), if_pos (inB_t (by omega)), if_pos (inB_t (by omega))]
  by_cases h : a.getD i 0 = b.getD i 0
  ·rw [h]
   simp only [bne_self_eq_false, Bool.false_eq_true, if_false, List.cons.injEq, true_and]
   exact ih (i + 1) (by omega)
  ·rw [if_pos (by simpa using h), if_neg (fun e => h (List.cons.inj e).1)]
def e_zai : zbj := io_zai.sp (fun (a, b) => true) (fun (a, b) => decide (a = b))
theorem sp_zai (h : ∀ (a : List Int) (b : List Int), WfT [.sl tV, .sl tV] (a, b) → (zai (a, b)).run (fun _ => none) = some (decide (a = b))) : e_zai.ok pg := zbo ok_zai fun (a, b) hw hc => h a b hw
theorem e_zai_ok : e_zai.ok pg := sp_zai fun a b hw => by
 have ha : Wf (.sl tV) a := hw.1
 have la := ha.1
 rw [zai]
 simp only [RT.run]
 by_cases hl : a.length = b.length
 ·rw [if_neg (by simp; omega)]
  have h' : lo zai_b58 (a, b) (0 : Int) = _ := same_l hl (by omega) a.length 0 (by omega)
  rw [h']
  simp only [List.drop_zero]
  by_cases h : a = b
  ·rw [if_pos h]; simp [h, LR.isRt]
  ·rw [if_neg h]; simp [h, LR.isRt]
 ·rw [if_pos (by simp; omega)]
  have : a ≠ b := fun e => hl (by rw [e])
  simp [this]
theorem isM_up {k m : Nat} {a : List Int} (h : k ≤ m) (ha : isM k a = true) : isM m a = true := by
 rw [isM_iff] at *
 exact ⟨Nat.le_trans ha.1 (Nat.pow_le_pow_right (by decide) h), ha.2⟩
def zaQ : Int → RT Unit ((List Int) × (List Int))
| n =>
 .rq 6 (.done (zbb B16 n.toNat, zbb B16 (1 : Int).toNat))
def F_zaQ (x : Int) : Option ((List Int) × (List Int)) := (zaQ x).run fun _ => none
def io_zaQ : Io := ⟨n_zaQ, [tU], [.lf (qm 0)], [], [[tU]], [.sl tI, .sl tI], .agg [qr 0, qr 1], [], [(true, .arr 3 (qm 0)), (true, .arr 3 (qm 1))], false⟩
def zaQ_P : List zaV := []
def zaQ_T : zbf := tab [e_zaK]
theorem zaQ_To : zbd pg zaQ_T := zaX ⟨e_zaK_ok, trivial⟩
theorem zaQ_go : zbt pg (zaQ_T) io_zaQ f_zaQ (zaQ_P) [.cellRow 32 0 600032 3 tI, .cellRow 32 1 600033 3 tI, .cellRen 32 0 600032, .cellRen 32 1 600033] (zaQ) := ⟨by kernel_rfl, by kernel_rfl, fun x => by kernel_rfl⟩
theorem ok_zaQ : io_zaQ.Okay pg (F_zaQ) := zbl zaZ (zaQ_To) (zaQ_go) trivial
theorem rQ_nat (n : Nat) : rQ (n : Rat) = (zbb B16 n, zbb B16 1) := by
 unfold rQ
 simp
def e_zaQ : zbj := io_zaQ.sp (fun n => true) (fun n => rQ ((n.toNat : Nat) : Rat))
theorem sp_zaQ (h : ∀ (n : Int), WfT [tU] n → (zaQ n).run (fun _ => none) = some (rQ ((n.toNat : Nat) : Rat))) : e_zaQ.ok pg := zbo ok_zaQ fun n hw hc => h n hw
theorem e_zaQ_ok : e_zaQ.ok pg := sp_zaQ fun n _ => by
 rw [zaQ, rQ_nat]
 rfl
def okq (n d : List Int) : Bool := isM 30 n && (isM 30 d && decide (val B16 d ≠ 0))
theorem okq_iff {n d : List Int} : okq n d = true ↔ isM 30 n = true ∧ isM 30 d = true ∧ val B16 d ≠ 0 := by simp [okq]
def zao_b6 : ((List Int) × (List Int) × (List Int) × (List Int)) → RT Unit Bool
| (a_0, a_1, q_0, q_1) =>
 .rq 4 (.req (isM 38 q_0) (.rq 2 (.ite (decide (a_0 = (zbb B32 (val B16 q_0))))
 (.rq 4 (.req (isM 38 q_1) (.rq 3 (.done (decide (a_1 = (zbb B32 (val B16 q_1))))))))
 (.rq 2 (.done false)))))
def zao_p6 : zaV := ⟨6, false, [.sl tV, .sl tV, .sl tI, .sl tI], [], ⟨[.keep [2, 3], .gc], [2, 3], [.lf (qp 32), .lf (qp 48)], [(32, true, .cells [qi 0, qi 1]), (48, true, .cells [qi 2, qi 3])]⟩, [⟨0, ⟨[.keep [4], .gc], [4], [.lf (qm 0)], []⟩, [tB]⟩], (fun i _ => zao_b6 i)⟩
def zao : ((List Int) × (List Int) × (List Int) × (List Int)) → RT Unit Bool
| (a_0, a_1, q_0, q_1) =>
 .rq 3 (.call (on zao_b6 (a_0, a_1, q_0, q_1)) default fun v0 =>
 .done v0)
def F_zao (x : (List Int) × (List Int) × (List Int) × (List Int)) : Option Bool := (zao x).run fun _ => none
def io_zao : Io := ⟨n_zao, [.sl tV, .sl tV, .sl tI, .sl tI], [.agg [qm 0, qm 1], .agg [qm 2, qm 3]], [], [[.sl tV, .sl tV], [.sl tI, .sl tI]], [tB], .lf (qm 0), [], [], false⟩
def zao_P : List zaV := [zao_p6]
def zao_T : zbf := tab [e_zai, e_zaw]
theorem zao_To : zbd pg zao_T := zaX ⟨e_zai_ok, e_zaw_ok, trivial⟩
theorem zao_k6 : (zao_p6).OK pg (zao_T) (zbu 19 (zao_P)) (zbh f_zao) 19 := ⟨by kernel_rfl, fun i x => by kernel_rfl⟩
theorem zao_go : zbt pg (zao_T) io_zao f_zao (zao_P) [] (zao) := ⟨by kernel_rfl, by kernel_rfl, fun x => by kernel_rfl⟩
theorem ok_zao : io_zao.Okay pg (F_zao) := zbl zaZ (zao_To) (zao_go) ⟨zao_k6, trivial⟩
def e_zao : zbj := io_zao.sp (fun (a0, a1, q0, q1) => isM 38 q0 && isM 38 q1) (fun (a0, a1, q0, q1) => decide (a0 = zbb B32 (val B16 q0)) && decide (a1 = zbb B32 (val B16 q1)))
theorem sp_zao (h : ∀ (a0 : List Int) (a1 : List Int) (q0 : List Int) (q1 : List Int), WfT [.sl tV, .sl tV, .sl tI, .sl tI] (a0, a1, q0, q1) → (isM 38 q0 && isM 38 q1) = true → (zao (a0, a1, q0, q1)).run (fun _ => none) = some (decide (a0 = zbb B32 (val B16 q0)) && decide (a1 = zbb B32 (val B16 q1)))) : e_zao.ok pg := zbo ok_zao fun (a0, a1, q0, q1) hw hc => h a0 a1 q0 q1 hw hc
theorem e_zao_ok : e_zao.ok pg := sp_zao fun a0 a1 q0 q1 _ h => by
 rw [Bool.and_eq_true] at h
 rw [zao]
 simp only [RT.run, on, zao_b6, h.1, h.2, if_true]
 by_cases h1 : a0 = zbb B32 (val B16 q0)
 ·simp [h1]
 ·simp [h1]
end
end Go.Proofs.Ytlfdidaeachpoaa
namespace Go.Proofs.Ytlfdidaeachpoaa
open Go Go.RowKit
set_option maxRecDepth 100000
noncomputable section
theorem gcd_okL {a b : List Int} {k : Nat} (ha : wfd B32 a = true) (hb : wfd B32 b = true) (h1 : okL k a = true) (h2 : okL k b = true) : okL k (zbb B32 (Nat.gcd (val B32 a) (val B32 b))) = true := by
 by_cases h0 : val B32 a = 0
 ·rw [h0, Nat.gcd_zero_left]; exact okL_digs hb h2
 ·exact okL_le (Nat.gcd_le_left _ (Nat.pos_of_ne_zero h0)) (okL_digs ha h1)
theorem digs_nil {b n : Nat} (hb : 2 ≤ b) : (zbb b n).length = 0 ↔ n = 0 := by
 constructor
 ·intro h
  apply Nat.eq_zero_of_not_pos
  intro hp
  rw [zfO hb hp] at h
  simp at h
 ·rintro rfl; rfl
def zar : ((List Int) × (List Int)) → RT Unit (Bool × (List Int) × (List Int))
| (num, den) =>
 .rq 4 (.req (okL 38 num && okL 38 den) (.rq 3 (.req (okL 38 den && okL 38 (zbb B32 (Nat.gcd (val B32 num) (val B32 den)))) (.rq 14 (let t0 := zfa (val B32 den) (val B32 (zbb B32 (Nat.gcd (val B32 num) (val B32 den))));
 .ite ((!t0.1) || ((t0.2.1.length : Int) == 0))
 (.rq 3 (.done (false, [], [])))
 (.rq 2 (.req (okL 38 num && okL 38 (zbb B32 (Nat.gcd (val B32 num) (val B32 den)))) (.rq 12 (.done (true, (zfa (val B32 num) (val B32 (zbb B32 (Nat.gcd (val B32 num) (val B32 den))))).2.1, t0.2.1))))))))))
def F_zar (x : (List Int) × (List Int)) : Option (Bool × (List Int) × (List Int)) := (zar x).run fun _ => none
def io_zar : Io := ⟨n_zar, [.sl tV, .sl tV], [.lf (qm 0), .lf (qm 1)], [], [[.sl tV], [.sl tV]], [tB, .sl tV, .sl tV], .tup [(true, [qr 0, qr 1]), (false, [qm 0])], [], [(true, .arr 90 (qm 1)), (true, .arr 90 (qm 2))], false⟩
def zar_P : List zaV := []
def zar_T : zbf := tab [e_zaD, e_zav]
theorem zar_To : zbd pg zar_T := zaX ⟨e_zaD_ok, e_zav_ok, trivial⟩
theorem zar_go : zbt pg (zar_T) io_zar f_zar (zar_P) [.cellRow 64 0 600064 90 tV, .cellRow 64 1 600065 90 tV, .cellRen 64 0 600064, .cellRen 64 1 600065] (zar) := ⟨by kernel_rfl, by kernel_rfl, fun x => by kernel_rfl⟩
theorem ok_zar : io_zar.Okay pg (F_zar) := zbl zaZ (zar_To) (zar_go) trivial
def mkR (n d : Nat) : Bool × List Int × List Int := if d = 0 then (false, [], []) else (true, rq (mkRat (n : Int) d))
def e_zar : zbj := io_zar.sp (fun (n, d) => okL 36 n && okL 36 d) (fun (n, d) => mkR (val B32 n) (val B32 d))
theorem sp_zar (h : ∀ (n : List Int) (d : List Int), WfT [.sl tV, .sl tV] (n, d) → (okL 36 n && okL 36 d) = true → (zar (n, d)).run (fun _ => none) = some (mkR (val B32 n) (val B32 d))) : e_zar.ok pg := zbo ok_zar fun (n, d) hw hc => h n d hw hc
theorem e_zar_ok : e_zar.ok pg := sp_zar fun n d hw hc => by
 have hn : wfd B32 n = true := zcn hw.1
 have hd : wfd B32 d = true := zcn hw.2
 rw [Bool.and_eq_true] at hc
 have l1 := okL_mono (m := 38) (by decide) hc.1
 have l2 := okL_mono (m := 38) (by decide) hc.2
 have hg := gcd_okL hn hd l1 l2
 rw [zar]
 simp only [RT.run, l1, l2, hg, Bool.and_self, if_true, zbS (show 2 ≤ B32 by decide)]
 generalize val B32 n = N at *
 generalize val B32 d = D at *
 unfold mkR
 by_cases h0 : D = 0
 ·subst h0
  rw [if_pos rfl]
  by_cases hn0 : N = 0
  ·subst hn0; rfl
  ·simp [zfa, hn0, zdk]
 ·rw [if_neg h0]
  have hgp : Nat.gcd N D ≠ 0 := Nat.ne_of_gt (Nat.gcd_pos_of_pos_right _ (Nat.pos_of_ne_zero h0))
  have hq : D / Nat.gcd N D ≠ 0 := Nat.ne_of_gt (Nat.div_pos (Nat.gcd_le_right _ (Nat.pos_of_ne_zero h0)) (Nat.pos_of_ne_zero hgp))
  rw [zfa, if_neg hgp, zfa, if_neg hgp, rq_mkRat h0]
  simp only [Bool.not_true, Bool.false_or]
  rw [if_neg (by
   simp only [beq_iff_eq]
   intro e
   exact hq ((digs_nil (b := B32) (by decide)).1 (by omega)))]
def zY : Unit → RT Unit (List Int)
| _ =>
 .rq 4 (.done (zbb B32 (1 : Int).toNat))
def F_zY (x : Unit) : Option (List Int) := (zY x).run fun _ => none
def io_zY : Io := ⟨n_zY, [], [], [], [], [.sl tV], .agg [.fix (.nil), qr 0], [], [(true, .arr 90 (qm 0))], false⟩
def zY_P : List zaV := []
def zY_T : zbf := tab [e_zaR]
theorem zY_To : zbd pg zY_T := zaX ⟨e_zaR_ok, trivial⟩
theorem zY_go : zbt pg (zY_T) io_zY f_zY (zY_P) [.cellRow 0 1 600001 90 tV, .cellRen 0 1 600001] (zY) := ⟨by kernel_rfl, by kernel_rfl, fun x => by kernel_rfl⟩
theorem ok_zY : io_zY.Okay pg (F_zY) := zbl zaZ (zY_To) (zY_go) trivial
def e_zY : zbj := io_zY.sp (fun _ => true) (fun _ => zbb B32 1)
theorem sp_zY (h : (zY ()).run (fun _ => none) = some (zbb B32 1)) : e_zY.ok pg := zbo ok_zY fun _ _ hc => h
theorem e_zY_ok : e_zY.ok pg := sp_zY (by
 rw [zY]; rfl)
theorem rq_zero : rq 0 = ([], zbb B32 1) := rfl
theorem rq_one : rq 1 = (zbb B32 1, zbb B32 1) := rfl
def zaF : Unit → RT Unit ((List Int) × (List Int))
| _ =>
 .rq 5 (.done (zbb B32 (1 : Int).toNat, zbb B32 (1 : Int).toNat))
def F_zaF (x : Unit) : Option ((List Int) × (List Int)) := (zaF x).run fun _ => none
def io_zaF : Io := ⟨n_zaF, [], [], [], [], [.sl tV, .sl tV], .agg [qr 0, qr 1], [], [(true, .arr 90 (qm 0)), (true, .arr 90 (qm 1))], false⟩
def zaF_P : List zaV := []
def zaF_T : zbf := tab [e_zaR]
theorem zaF_To : zbd pg zaF_T := zaX ⟨e_zaR_ok, trivial⟩
theorem zaF_go : zbt pg (zaF_T) io_zaF f_zaF (zaF_P) [.cellRow 0 0 600000 90 tV, .cellRow 0 1 600001 90 tV, .cellRen 0 0 600000, .cellRen 0 1 600001] (zaF) := ⟨by kernel_rfl, by kernel_rfl, fun x => by kernel_rfl⟩
theorem ok_zaF : io_zaF.Okay pg (F_zaF) := zbl zaZ (zaF_To) (zaF_go) trivial
def e_zaF : zbj := io_zaF.sp (fun _ => true) (fun _ => rq 1)
theorem sp_zaF (h : (zaF ()).run (fun _ => none) = some (rq 1)) : e_zaF.ok pg := zbo ok_zaF fun _ _ hc => h
theorem e_zaF_ok : e_zaF.ok pg := sp_zaF (by
 rw [zaF, rq_one]; rfl)
def zaO : (Int × Int) → RT Unit (Bool × (List Int) × (List Int))
| (n, d) =>
 .rq 6 (.req (okL 36 (zbb B32 n.toNat) && okL 36 (zbb B32 d.toNat)) (.rq 4 (let t0 := mkR (val B32 (zbb B32 n.toNat)) (val B32 (zbb B32 d.toNat));
 .done (t0.1, t0.2.1, t0.2.2))))
def F_zaO (x : Int × Int) : Option (Bool × (List Int) × (List Int)) := (zaO x).run fun _ => none
def io_zaO : Io := ⟨n_zaO, [tU, tU], [.lf (qm 0), .lf (qm 1)], [], [[tU], [tU]], [tB, .sl tV, .sl tV], .tup [(true, [qr 0, qr 1]), (false, [qm 0])], [], [(true, .arr 90 (qm 1)), (true, .arr 90 (qm 2))], false⟩
def zaO_P : List zaV := []
def zaO_T : zbf := tab [e_zar, e_zaR]
theorem zaO_To : zbd pg zaO_T := zaX ⟨e_zar_ok, e_zaR_ok, trivial⟩
theorem zaO_go : zbt pg (zaO_T) io_zaO f_zaO (zaO_P) [.cellRow 64 0 600064 90 tV, .cellRow 64 1 600065 90 tV, .cellRen 64 0 600064, .cellRen 64 1 600065] (zaO) := ⟨by kernel_rfl, by kernel_rfl, fun x => by kernel_rfl⟩
theorem ok_zaO : io_zaO.Okay pg (F_zaO) := zbl zaZ (zaO_To) (zaO_go) trivial
theorem okL_word {n : Int} (h : 0 ≤ n ∧ n < 18446744073709551616) : okL 36 (zbb B32 n.toNat) = true := by
 have : n.toNat < B32 ^ 2 := by rw [show B32 ^ 2 = 18446744073709551616 from rfl]; omega
 have := digs_len this
 rw [okL36]
 omega
def e_zaO : zbj := io_zaO.sp (fun (n, d) => true) (fun (n, d) => mkR n.toNat d.toNat)
theorem sp_zaO (h : ∀ (n : Int) (d : Int), WfT [tU, tU] (n, d) → (zaO (n, d)).run (fun _ => none) = some (mkR n.toNat d.toNat)) : e_zaO.ok pg := zbo ok_zaO fun (n, d) hw hc => h n d hw
theorem e_zaO_ok : e_zaO.ok pg := sp_zaO fun n d hw => by
 rw [zaO]
 simp only [RT.run, okL_word hw.1, okL_word hw.2, Bool.and_self, if_true, zbS (show 2 ≤ B32 by decide)]
def okr (n d : List Int) : Bool := okL 30 n && (okL 30 d && decide (val B32 d ≠ 0))
theorem okr_iff {n d : List Int} : okr n d = true ↔ n.length ≤ 2 ^ 30 ∧ d.length ≤ 2 ^ 30 ∧ val B32 d ≠ 0 := by simp [okr, zeW]
theorem toQ_add {a0 a1 b0 b1 : List Int} (h1 : val B32 a1 ≠ 0) (h2 : val B32 b1 ≠ 0) : mkRat ((val B32 a0 * val B32 b1 + val B32 b0 * val B32 a1 : Nat) : Int) (val B32 a1 * val B32 b1) = toQ a0 a1 + toQ b0 b1 := by
 unfold toQ
 rw [Rat.mkRat_add_mkRat _ _ h1 h2]
 simp only [Int.natCast_add, Int.natCast_mul]
theorem toQ_mul {a0 a1 b0 b1 : List Int} : mkRat ((val B32 a0 * val B32 b0 : Nat) : Int) (val B32 a1 * val B32 b1) = toQ a0 a1 * toQ b0 b1 := by
 unfold toQ
 rw [Rat.mkRat_mul_mkRat, Int.natCast_mul]
theorem prod2 (a b : List Int) : zei [a, b] = val B32 a * val B32 b := by simp [zei]
theorem mul_len {a b : List Int} (ha : wfd B32 a = true) (hb : wfd B32 b = true) : (zbb B32 (val B32 a * val B32 b)).length ≤ a.length + b.length := by
 refine digs_len ?_
 rw [Nat.pow_add]
 exact Nat.mul_lt_mul'' (zcl (by decide) ha) (zcl (by decide) hb)
theorem add_len {m n k : Nat} (h1 : (zbb B32 m).length ≤ k) (h2 : (zbb B32 n).length ≤ k) : (zbb B32 (m + n)).length ≤ k + 1 := by
 have lt1 := zcl (b := B32) (by decide) (zdw (by decide) m)
 have lt2 := zcl (b := B32) (by decide) (zdw (by decide) n)
 rw [zbS (by decide)] at lt1 lt2
 have l1 : m < B32 ^ k := Nat.lt_of_lt_of_le lt1 (Nat.pow_le_pow_right (by decide) h1)
 have l2 : n < B32 ^ k := Nat.lt_of_lt_of_le lt2 (Nat.pow_le_pow_right (by decide) h2)
 refine digs_len ?_
 rw [Nat.pow_succ]
 generalize B32 ^ k = z at *
 rw [show B32 = 4294967296 from rfl]
 omega
def zaz : ((List Int) × (List Int) × (List Int) × (List Int)) → RT Unit ((List Int) × (List Int))
| (a_0, a_1, b_0, b_1) =>
 .rq 8 (.req (okMs [a_0, b_1]) (.rq 5 (.req (okMs [b_0, a_1]) (.rq 1 (let t0 := [zbb B32 (zei [a_0, b_1]), zbb B32 (zei [b_0, a_1])];
 .req (okLs t0) (.rq 5 (.req (okMs [a_1, b_1]) (let t1 := zbb B32 (zei [a_1, b_1]);
 let t2 := zbb B32 (sumV t0);
 .req (okL 36 t2 && okL 36 t1) (.rq 8 (let t3 := mkR (val B32 t2) (val B32 t1);
 .done (t3.2.1, t3.2.2)))))))))))
def F_zaz (x : (List Int) × (List Int) × (List Int) × (List Int)) : Option ((List Int) × (List Int)) := (zaz x).run fun _ => none
def io_zaz : Io := ⟨n_zaz, [.sl tV, .sl tV, .sl tV, .sl tV], [.agg [qm 0, qm 1], .agg [qm 2, qm 3]], [], [[.sl tV, .sl tV], [.sl tV, .sl tV]], [.sl tV, .sl tV], .agg [qr 0, qr 1], [], [(true, .arr 90 (qm 0)), (true, .arr 90 (qm 1))], false⟩
def zaz_P : List zaV := []
def zaz_T : zbf := tab [e_zar, e_zau, e_zaC]
theorem zaz_To : zbd pg zaz_T := zaX ⟨e_zar_ok, e_zau_ok, e_zaC_ok, trivial⟩
theorem zaz_go : zbt pg (zaz_T) io_zaz f_zaz (zaz_P) [.cellRow 64 0 600064 90 tV, .cellRow 64 1 600065 90 tV, .cellRen 64 0 600064, .cellRen 64 1 600065] (zaz) := ⟨by kernel_rfl, by kernel_rfl, fun x => by kernel_rfl⟩
theorem ok_zaz : io_zaz.Okay pg (F_zaz) := zbl zaZ (zaz_To) (zaz_go) trivial
def e_zaz : zbj := io_zaz.sp (fun (a0, a1, b0, b1) => okr a0 a1 && okr b0 b1) (fun (a0, a1, b0, b1) => rq (toQ a0 a1 + toQ b0 b1))
theorem sp_zaz (h : ∀ (a0 : List Int) (a1 : List Int) (b0 : List Int) (b1 : List Int), WfT [.sl tV, .sl tV, .sl tV, .sl tV] (a0, a1, b0, b1) → (okr a0 a1 && okr b0 b1) = true → (zaz (a0, a1, b0, b1)).run (fun _ => none) = some (rq (toQ a0 a1 + toQ b0 b1))) : e_zaz.ok pg := zbo ok_zaz fun (a0, a1, b0, b1) hw hc => h a0 a1 b0 b1 hw hc
theorem e_zaz_ok : e_zaz.ok pg := sp_zaz fun a0 a1 b0 b1 hw h => by
 have w0 : wfd B32 a0 = true := zcn hw.1
 have w1 : wfd B32 a1 = true := zcn hw.2.1
 have w2 : wfd B32 b0 = true := zcn hw.2.2.1
 have w3 : wfd B32 b1 = true := zcn hw.2.2.2
 simp only [Bool.and_eq_true, okr_iff] at h
 obtain ⟨⟨p1, p2, p3⟩, q1, q2, q3⟩ := h
 have m1 := mul_len w0 w3
 have m2 := mul_len w2 w1
 have m3 := mul_len w1 w3
 have s := add_len (k := 2147483648) (Nat.le_trans m1 (by omega)) (Nat.le_trans m2 (by omega))
 rw [zaz]
 simp only [RT.run, prod2, zbS (show 2 ≤ B32 by decide), sumV, List.map_cons, List.map_nil, List.sum_cons, List.sum_nil, Nat.add_zero]
 rw [if_pos (by rw [zey]; simp [lenS]; omega), if_pos (by rw [zey]; simp [lenS]; omega), if_pos (by rw [okLs_iff]; simp; omega), if_pos (by rw [zey]; simp [lenS]; omega),
  if_pos (by rw [Bool.and_eq_true, okL36, okL36]; omega)]
 rw [mkR, if_neg (Nat.mul_ne_zero p3 q3), ← toQ_add p3 q3]
def sumQ (l : List (List Int × List Int)) : Rat := l.foldl (fun q x => q + toQ x.1 x.2) 0
def prodQ (l : List (List Int × List Int)) : Rat := l.foldl (fun q x => q * toQ x.1 x.2) 1
def szS (l : List (List Int × List Int)) : Nat := (l.map fun x => 32 * (x.1.length + x.2.length) + 1).sum
theorem sm_toQ {n d : List Int} (hn : wfd B32 n = true) (hd : wfd B32 d = true) (h0 : val B32 d ≠ 0) : sm (32 * (n.length + d.length)) (toQ n d) := by
 have l1 := zcl (by decide) hn
 have l2 := zcl (by decide) hd
 rw [pow32] at l1 l2
 exact sm_mkRat h0 (Nat.lt_of_lt_of_le l1 (Nat.pow_le_pow_right (by decide) (by omega))) (Nat.lt_of_lt_of_le l2 (Nat.pow_le_pow_right (by decide) (by omega)))
theorem toQ_nonneg (n d : List Int) : 0 ≤ toQ n d := zgG _ _
theorem okr_rq {q : Rat} {k : Nat} (h : sm k q) (hk : k ≤ 1073741824) : okr (rq q).1 (rq q).2 = true := by
 rw [okr_iff, rq_den]
 have a := zfu (b := B32) (by decide) h.1
 have b := zfu (b := B32) (by decide) h.2
 exact ⟨Nat.le_trans a hk, Nat.le_trans b hk, q.den_nz⟩
def zP_b58 : ((List ((List Int) × List Int)) × Int) → (Int × (List Int) × (List Int)) → RT (Int × (List Int) × (List Int)) ((List Int) × (List Int))
| (x7, x8), (x9, r48, r49) =>
 .rq 1 (.ite (decide (x9 < x8))
 (.req (inB x7 x9) (.rq 5 (.req (okr r48 r49 && okr (gI x7 x9).1 (gI x7 x9).2) (.rq 3 (let t0 := rq (toQ r48 r49 + toQ (gI x7 x9).1 (gI x7 x9).2);
 .again (w64 (x9 + 1), t0.1, t0.2))))))
 (.done (r48, r49)))
def zP_p58 : zaV := ⟨58, true, [.sl (.pair (.sl tV) (.sl tV)), tI], [tI, .sl tV, .sl tV], ⟨[.keep [2, 3, 7, 8, 9], .gc, .cellRow 48 0 600048 90 tV, .cellRow 48 1 600049 90 tV, .cellRen 48 0 600048, .cellRen 48 1 600049, .gc], [2, 3, 7, 8, 9], [.lf (qp 32), .lf (qp 48), .lf (qi 0), .lf (qi 1), .lf (qm 0)], [(32, true, .cells [.fix (.nil), .fix (.nil)]), (48, true, .cells [qr 600048, qr 600049]), (600048, true, .arr 90 (qm 1)), (600049, true, .arr 90 (qm 2))]⟩, [⟨2, ⟨[.keep [2, 3], .gc, .cellRow 48 0 600048 90 tV, .cellRow 48 1 600049 90 tV, .cellRen 48 0 600048, .cellRen 48 1 600049, .gc], [2, 3], [.lf (qp 32), .lf (qp 48)], [(32, true, .cells [.fix (.nil), .fix (.nil)]), (48, true, .cells [qr 600048, qr 600049]), (600048, true, .arr 90 (qm 0)), (600049, true, .arr 90 (qm 1))]⟩, [.sl tV, .sl tV]⟩], zP_b58⟩
def zP : (List ((List Int) × List Int)) → RT Unit ((List Int) × (List Int))
| l =>
 .rq 7 (.call (lo zP_b58 (l, (l.length : Int)) (0, [], zbb B32 1)) default fun v0 =>
 .rq 2 (.done (v0.1, v0.2)))
def F_zP (x : (List ((List Int) × List Int))) : Option ((List Int) × (List Int)) := (zP x).run fun _ => none
def io_zP : Io := ⟨n_zP, [.sl (.pair (.sl tV) (.sl tV))], [.lf (qm 0)], [], [[.sl (.pair (.sl tV) (.sl tV))]], [.sl tV, .sl tV], .agg [qr 0, qr 1], [], [(true, .arr 90 (qm 0)), (true, .arr 90 (qm 1))], false⟩
def zP_P : List zaV := [zP_p58]
def zP_T : zbf := tab [e_zaz, e_zY]
theorem zP_To : zbd pg zP_T := zaX ⟨e_zaz_ok, e_zY_ok, trivial⟩
theorem zP_k58 : (zP_p58).OK pg (zP_T) (zbu 18 (zP_P)) (zbh f_zP) 18 := ⟨by kernel_rfl, fun i x => by kernel_rfl⟩
theorem zP_go : zbt pg (zP_T) io_zP f_zP (zP_P) [.cellRow 32 0 600032 90 tV, .cellRow 32 1 600033 90 tV, .cellRen 32 0 600032, .cellRen 32 1 600033] (zP) := ⟨by kernel_rfl, by kernel_rfl, fun x => by kernel_rfl⟩
theorem ok_zP : io_zP.Okay pg (F_zP) := zbl zaZ (zP_To) (zP_go) ⟨zP_k58, trivial⟩
theorem addQ_l (l : List (List Int × List Int)) (hw : ∀ x ∈ l, wfd B32 x.1 = true ∧ wfd B32 x.2 = true) (hl : l.length ≤ 1048576) (hd : ∀ x ∈ l, okr x.1 x.2 = true) : ∀ (r i : Nat) (q : Rat) (k : Nat), i + r = l.length → 0 ≤ q → sm k q → k + szS (l.drop i) ≤ 1073741824 →
  lo zP_b58 (l, (l.length : Int)) ((i : Int), rq q) = some (rq ((l.drop i).foldl (fun q x => q + toQ x.1 x.2) q))
 | 0, i, q, k, h, _, _, _ => by
  show lo zP_b58 (l, (l.length : Int)) ((i : Int), (rq q).1, (rq q).2) = _
  rw [zbi, zP_b58]
  simp only [RT.run]
  rw [if_neg (by simp; omega), List.drop_of_length_le (by omega)]
  rfl
 | r + 1, i, q, k, h, hq, hs, hk => by
  show lo zP_b58 (l, (l.length : Int)) ((i : Int), (rq q).1, (rq q).2) = _
  rw [zbi, zP_b58]
  have hi : i < l.length := by omega
  have w5 : w64 ((i : Int) + 1) = ((i + 1 : Nat) : Int) := by rw [zbg] <;> omega
  have hx := List.getElem_mem hi
  rw [List.drop_eq_getElem_cons hi, szS, List.map_cons, List.sum_cons] at hk
  simp only [RT.run, w5, zbD hi]
  rw [if_pos (by simp; omega), if_pos (by rw [zbU]; simp; omega), if_pos (by rw [okr_rq hs (by omega), hd _ hx]; rfl), toQ_rq hq]
  have hn := toQ_nonneg l[i].1 l[i].2
  have hs' := sm_add hq hn hs (sm_toQ (hw _ hx).1 (hw _ hx).2 (okr_iff.1 (hd _ hx)).2.2)
  have := addQ_l l hw hl hd r (i + 1) (q + toQ l[i].1 l[i].2) _ (by omega) (Rat.add_nonneg hq hn) hs' (by rw [szS]; omega)
  rw [List.drop_eq_getElem_cons hi, List.foldl_cons, ← this]
def okS (l : List (List Int × List Int)) : Bool := okL 20 l && (l.all (fun x => okr x.1 x.2) && decide (szS l ≤ 1073741823))
theorem okS_iff {l : List (List Int × List Int)} : okS l = true ↔ l.length ≤ 1048576 ∧ (∀ x ∈ l, okr x.1 x.2 = true) ∧ szS l ≤ 1073741823 := by simp [okS, okL20]
theorem wfr {l : List (List Int × List Int)} (h : Wf (.sl (.pair (.sl tV) (.sl tV))) l) : ∀ x ∈ l, wfd B32 x.1 = true ∧ wfd B32 x.2 = true := fun x hx => ⟨zcn (h.2 x hx).1, zcn (h.2 x hx).2⟩
def e_zP : zbj := io_zP.sp (fun l => okS l) (fun l => rq (sumQ l))
theorem sp_zP (h : ∀ (l : List ((List Int) × List Int)), WfT [.sl (.pair (.sl tV) (.sl tV))] l → (okS l) = true → (zP l).run (fun _ => none) = some (rq (sumQ l))) : e_zP.ok pg := zbo ok_zP fun l hw hc => h l hw hc
theorem e_zP_ok : e_zP.ok pg := sp_zP fun l hw hc => by
 rw [okS_iff] at hc
 rw [zP]
 have h : lo zP_b58 (l, (l.length : Int)) (0, [], zbb B32 1) = _ := addQ_l l (wfr hw) hc.1 hc.2.1 l.length 0 0 1 (by omega) (by decide) (by unfold sm; decide) (by rw [List.drop_zero]; omega)
 simp only [RT.run]
 rw [h]
 rfl
def zV_b58 : ((List ((List Int) × List Int)) × Int) → (Int × (List Int) × (List Int)) → RT (Int × (List Int) × (List Int)) ((List Int) × (List Int))
| (x7, x8), (x9, r48, r49) =>
 .rq 1 (.ite (decide (x9 < x8))
 (.req (inB x7 x9) (.rq 8 (let t0 := [r48, (gI x7 x9).1];
 .req (okMs t0) (.rq 5 (let t1 := [r49, (gI x7 x9).2];
 .req (okMs t1) (let t2 := zbb B32 (zei t0);
 let t3 := zbb B32 (zei t1);
 .req (okL 36 t2 && okL 36 t3) (.rq 6 (let t4 := mkR (val B32 t2) (val B32 t3);
 .again (w64 (x9 + 1), t4.2.1, t4.2.2)))))))))
 (.done (r48, r49)))
def zV_p58 : zaV := ⟨58, true, [.sl (.pair (.sl tV) (.sl tV)), tI], [tI, .sl tV, .sl tV], ⟨[.keep [2, 3, 7, 8, 9], .gc, .cellRow 48 0 600048 90 tV, .cellRow 48 1 600049 90 tV, .cellRen 48 0 600048, .cellRen 48 1 600049, .gc], [2, 3, 7, 8, 9], [.lf (qp 32), .lf (qp 48), .lf (qi 0), .lf (qi 1), .lf (qm 0)], [(32, true, .cells [.fix (.nil), .fix (.nil)]), (48, true, .cells [qr 600048, qr 600049]), (600048, true, .arr 90 (qm 1)), (600049, true, .arr 90 (qm 2))]⟩, [⟨2, ⟨[.keep [2, 3], .gc, .cellRow 48 0 600048 90 tV, .cellRow 48 1 600049 90 tV, .cellRen 48 0 600048, .cellRen 48 1 600049, .gc], [2, 3], [.lf (qp 32), .lf (qp 48)], [(32, true, .cells [.fix (.nil), .fix (.nil)]), (48, true, .cells [qr 600048, qr 600049]), (600048, true, .arr 90 (qm 0)), (600049, true, .arr 90 (qm 1))]⟩, [.sl tV, .sl tV]⟩], zV_b58⟩
def zV : (List ((List Int) × List Int)) → RT Unit ((List Int) × (List Int))
| l =>
 .rq 7 (.call (lo zV_b58 (l, (l.length : Int)) (0, (rq 1).1, (rq 1).2)) default fun v0 =>
 .rq 2 (.done (v0.1, v0.2)))
def F_zV (x : (List ((List Int) × List Int))) : Option ((List Int) × (List Int)) := (zV x).run fun _ => none
def io_zV : Io := ⟨n_zV, [.sl (.pair (.sl tV) (.sl tV))], [.lf (qm 0)], [], [[.sl (.pair (.sl tV) (.sl tV))]], [.sl tV, .sl tV], .agg [qr 0, qr 1], [], [(true, .arr 90 (qm 0)), (true, .arr 90 (qm 1))], false⟩
def zV_P : List zaV := [zV_p58]
def zV_T : zbf := tab [e_zaF, e_zar, e_zau]
theorem zV_To : zbd pg zV_T := zaX ⟨e_zaF_ok, e_zar_ok, e_zau_ok, trivial⟩
theorem zV_k58 : (zV_p58).OK pg (zV_T) (zbu 31 (zV_P)) (zbh f_zV) 31 := ⟨by kernel_rfl, fun i x => by kernel_rfl⟩
theorem zV_go : zbt pg (zV_T) io_zV f_zV (zV_P) [.cellRow 32 0 600032 90 tV, .cellRow 32 1 600033 90 tV, .cellRen 32 0 600032, .cellRen 32 1 600033] (zV) := ⟨by kernel_rfl, by kernel_rfl, fun x => by kernel_rfl⟩
theorem ok_zV : io_zV.Okay pg (F_zV) := zbl zaZ (zV_To) (zV_go) ⟨zV_k58, trivial⟩
theorem mulQ_l (l : List (List Int × List Int)) (hw : ∀ x ∈ l, wfd B32 x.1 = true ∧ wfd B32 x.2 = true) (hl : l.length ≤ 1048576) (hd : ∀ x ∈ l, okr x.1 x.2 = true) : ∀ (r i : Nat) (q : Rat) (k : Nat), i + r = l.length → 0 ≤ q → sm k q → k + szS (l.drop i) ≤ 1073741824 →
  lo zV_b58 (l, (l.length : Int)) ((i : Int), rq q) = some (rq ((l.drop i).foldl (fun q x => q * toQ x.1 x.2) q))
 | 0, i, q, k, h, _, _, _ => by
  show lo zV_b58 (l, (l.length : Int)) ((i : Int), (rq q).1, (rq q).2) = _
  rw [zbi, zV_b58]
  simp only [RT.run]
  rw [if_neg (by simp; omega), List.drop_of_length_le (by omega)]
  rfl
 | r + 1, i, q, k, h, hq, hs, hk => by
  show lo zV_b58 (l, (l.length : Int)) ((i : Int), (rq q).1, (rq q).2) = _
  rw [zbi, zV_b58]
  have hi : i < l.length := by omega
  have w5 : w64 ((i : Int) + 1) = ((i + 1 : Nat) : Int) := by rw [zbg] <;> omega
  have hx := List.getElem_mem hi
  rw [List.drop_eq_getElem_cons hi, szS, List.map_cons, List.sum_cons] at hk
  have ho := okr_iff.1 (okr_rq hs (by omega))
  have hox := okr_iff.1 (hd _ hx)
  have l1 := mul_len (a := (rq q).1) (zdw (by decide) _) (hw _ hx).1
  have l2 := mul_len (a := (rq q).2) (zdw (by decide) _) (hw _ hx).2
  simp only [RT.run, w5, zbD hi, prod2, zbS (show 2 ≤ B32 by decide)]
  rw [if_pos (by simp; omega), if_pos (by rw [zbU]; simp; omega), if_pos (by rw [zey]; simp [lenS]; omega), if_pos (by rw [zey]; simp [lenS]; omega), if_pos (by rw [Bool.and_eq_true, okL36, okL36]; omega)]
  have hn := toQ_nonneg l[i].1 l[i].2
  have hs' := sm_mul hq hn hs (sm_toQ (hw _ hx).1 (hw _ hx).2 hox.2.2)
  have e := toQ_mul (a0 := (rq q).1) (a1 := (rq q).2) (b0 := l[i].1) (b1 := l[i].2)
  rw [toQ_rq hq] at e
  rw [mkR, if_neg (Nat.mul_ne_zero ho.2.2 hox.2.2), e]
  have := mulQ_l l hw hl hd r (i + 1) (q * toQ l[i].1 l[i].2) _ (by omega) (Rat.mul_nonneg hq hn) hs' (by rw [szS]; omega)
  rw [List.drop_eq_getElem_cons hi, List.foldl_cons, ← this]
def e_zV : zbj := io_zV.sp (fun l => okS l) (fun l => rq (prodQ l))
theorem sp_zV (h : ∀ (l : List ((List Int) × List Int)), WfT [.sl (.pair (.sl tV) (.sl tV))] l → (okS l) = true → (zV l).run (fun _ => none) = some (rq (prodQ l))) : e_zV.ok pg := zbo ok_zV fun l hw hc => h l hw hc
theorem e_zV_ok : e_zV.ok pg := sp_zV fun l hw hc => by
 rw [okS_iff] at hc
 rw [zV]
 have h : lo zV_b58 (l, (l.length : Int)) (0, (rq 1).1, (rq 1).2) = _ := mulQ_l l (wfr hw) hc.1 hc.2.1 l.length 0 1 1 (by omega) (by decide) (by unfold sm; decide) (by rw [List.drop_zero]; omega)
 simp only [RT.run]
 rw [h]
 rfl
def zaI : ((List Int) × (List Int) × (List Int) × (List Int)) → RT Unit Int
| (a_0, a_1, b_0, b_1) =>
 .rq 8 (.req (okMs [a_0, b_1]) (.rq 5 (.req (okMs [b_0, a_1]) (.rq 2 (.done (cmpI (val B32 (zbb B32 (zei [a_0, b_1]))) (val B32 (zbb B32 (zei [b_0, a_1])))))))))
def F_zaI (x : (List Int) × (List Int) × (List Int) × (List Int)) : Option Int := (zaI x).run fun _ => none
def io_zaI : Io := ⟨n_zaI, [.sl tV, .sl tV, .sl tV, .sl tV], [.agg [qm 0, qm 1], .agg [qm 2, qm 3]], [], [[.sl tV, .sl tV], [.sl tV, .sl tV]], [tI], .lf (qm 0), [], [], false⟩
def zaI_P : List zaV := []
def zaI_T : zbf := tab [e_zau, e_zax]
theorem zaI_To : zbd pg zaI_T := zaX ⟨e_zau_ok, e_zax_ok, trivial⟩
theorem zaI_go : zbt pg (zaI_T) io_zaI f_zaI (zaI_P) [] (zaI) := ⟨by kernel_rfl, by kernel_rfl, fun x => by kernel_rfl⟩
theorem ok_zaI : io_zaI.Okay pg (F_zaI) := zbl zaZ (zaI_To) (zaI_go) trivial
def e_zaI : zbj := io_zaI.sp (fun (a0, a1, b0, b1) => okr a0 a1 && okr b0 b1) (fun (a0, a1, b0, b1) => cmpI ((val B32 a0 * val B32 b1 : Nat) : Int) ((val B32 b0 * val B32 a1 : Nat) : Int))
theorem sp_zaI (h : ∀ (a0 : List Int) (a1 : List Int) (b0 : List Int) (b1 : List Int), WfT [.sl tV, .sl tV, .sl tV, .sl tV] (a0, a1, b0, b1) → (okr a0 a1 && okr b0 b1) = true → (zaI (a0, a1, b0, b1)).run (fun _ => none) = some (cmpI ((val B32 a0 * val B32 b1 : Nat) : Int) ((val B32 b0 * val B32 a1 : Nat) : Int))) : e_zaI.ok pg := zbo ok_zaI fun (a0, a1, b0, b1) hw hc => h a0 a1 b0 b1 hw hc
theorem e_zaI_ok : e_zaI.ok pg := sp_zaI fun a0 a1 b0 b1 hw h => by
 simp only [Bool.and_eq_true, okr_iff] at h
 rw [zaI]
 simp only [RT.run, prod2, zbS (show 2 ≤ B32 by decide)]
 rw [if_pos (by rw [zey]; simp [lenS]; omega), if_pos (by rw [zey]; simp [lenS]; omega)]
end
end Go.Proofs.Ytlfdidaeachpoaa
namespace Go.Proofs.Ytlfdidaeachpoaa
open Go Go.RowKit
set_option maxRecDepth 100000
noncomputable section
def clrI {α : Type} (xs : List α) (l : Int) (z : α) : List α := xs.take l.toNat ++ List.replicate (xs.length - l.toNat) z
abbrev tI64 : Ty := .int .i64
abbrev tA : Ty := .pair tI64 tI64
abbrev nilv : Value := .slice none 0 0
abbrev hsVs (l : List (Int × Int)) (k : Int) : List TV := [.lf (.ref 176), .lf (.dat tA l), .lf (.int .i64 (l.length : Int)), .lf (.int .i64 k)]
def hsSt (us : List Value) (o : Option (Nat × zaY)) (hp : List (Nat × Ent)) (l : List (Int × Int)) (k : Int) : St :=
 spSt 55 [5, 12, 13, 14] (hsVs l k) ((176, ⟨true, .raw 45 us o⟩) :: hp)
def hsBody : Code := match zbR 80 (zbh f_zah) 58 with
 | some (.loop b) => b
 | _ => .skip
def hsT : zbf := tab []
theorem hsTo : zbd pg hsT := zaX trivial
def hsSee : Ev → Option PE
 | .norm σ => (zeo [.keep [5, 12, 13, 14], .gc] [5, 12, 13, 14] 55 σ).map fun x => .norm x.1 x.2
 | .exit i σ => (zeo [.keep [5, 12, 13, 14], .gc] [5, 12, 13, 14] 55 σ).map fun x => .exit i x.1 x.2
 | .ret _ => none
def hsPT (us : List Value) (o : Option (Nat × zaY)) (hp : List (Nat × Ent)) (l : List (Int × Int)) (k : Int) : PT := (evI pg hsT (fun _ _ => none) 116 hsBody (hsSt us o hp l k)).pt hsSee
abbrev hsB (us : List Value) (l : List (Int × Int)) (k : Int) : Bool :=
 ((decide (0 ≤ (l.getD k.toNat (0, 0)).1) && decide ((l.getD k.toNat (0, 0)).1 < (us.length : Int))) && decide (0 ≤ (l.getD k.toNat (0, 0)).2)) && decide ((l.getD k.toNat (0, 0)).2 < (us.length : Int))
abbrev hsI (us : List Value) (l : List (Int × Int)) (k : Int) : Bool := decide (0 ≤ (l.getD k.toNat (0, 0)).1) && decide ((l.getD k.toNat (0, 0)).1 < (us.length : Int))
theorem hs_1 (us : List Value) (l : List (Int × Int)) (k : Int) : hsPT us none [] l k =
  .rq 1 (.ite (decide (k < (l.length : Int))) (.req (decide (0 ≤ k) && decide (k < (l.length : Int))) (.rq 25 (.ite (hsB us l k) (.rq 6 (.req (hsI us l k) .fail)) (.rq 2 (.leaf (.norm (hsVs l (IntKind.i64.wrap (k + 1))) [(176, ⟨true, .raw 45 us none⟩)]))))))
   (.leaf (.exit 0 (hsVs l k) [(176, ⟨true, .raw 45 us none⟩)]))) := by kernel_rfl
theorem hs_2 (us : List Value) (j : Nat) (x : List Int) (l : List (Int × Int)) (k : Int) : hsPT us (some (j, .ref 1000)) [(1000, ⟨true, .arr 3 tI64 x⟩)] l k =
  .rq 1 (.ite (decide (k < (l.length : Int))) (.req (decide (0 ≤ k) && decide (k < (l.length : Int))) (.rq 25 (.ite (hsB us l k)
    (.rq 6 (.req (hsI us l k) (.req (decide ((l.getD k.toNat (0, 0)).1.toNat = j)) (.rq 3 (.req (decide ((x.length + 1) * 8 ≤ 140737488355328) && decide (x.length + 1 ≤ maxLen)) (.req (hsI us l k) (.req (decide ((l.getD k.toNat (0, 0)).1.toNat = j))
     (.rq 2 (.leaf (.norm (hsVs l (IntKind.i64.wrap (k + 1))) [(176, ⟨true, .raw 45 us (some (j, .ref 816))⟩), (816, ⟨true, .arr 3 tI64 (x ++ [(l.getD k.toNat (0, 0)).2])⟩)]))))))))))
    (.rq 2 (.leaf (.norm (hsVs l (IntKind.i64.wrap (k + 1))) [(176, ⟨true, .raw 45 us (some (j, .ref 1000))⟩), (1000, ⟨true, .arr 3 tI64 x⟩)]))))))
   (.leaf (.exit 0 (hsVs l k) [(176, ⟨true, .raw 45 us (some (j, .ref 1000))⟩), (1000, ⟨true, .arr 3 tI64 x⟩)]))) := by kernel_rfl
theorem hs_tv {us : List Value} {o : Option (Nat × zaY)} {hp : List (Nat × Ent)} {l : List (Int × Int)} {k : Int} (t : Nat) :
  (hsSt us o hp l k).tv t = if t = 5 then .lf (.ref 176) else if t = 12 then .lf (.dat tA l) else if t = 13 then .lf (.int .i64 (l.length : Int)) else if t = 14 then .lf (.int .i64 k) else .lf .undef := by
 have h := zcV [5, 12, 13, 14] (hsVs l k) 55 0 t
 show (zeN [5, 12, 13, 14] (hsVs l k) 55 0).getD t (.lf .undef) = _
 rw [h, Nat.zero_add]
 simp only [zcC, hsVs]
 by_cases h5 : t = 5
 ·subst h5; rfl
 by_cases h12 : t = 12
 ·subst h12; rfl
 by_cases h13 : t = 13
 ·subst h13; rfl
 by_cases h14 : t = 14
 ·subst h14; rfl
 rw [if_neg h5, if_neg h12, if_neg h13, if_neg h14]
 split
 ·rw [if_neg (fun e => h5 e.symm), if_neg (fun e => h12 e.symm), if_neg (fun e => h13 e.symm), if_neg (fun e => h14 e.symm)]
 ·rfl
theorem row_slice {w : World} {e : TypeId} {v : Value} {n : Nat} {us : List Value} (h : w.ownsRow 0 e 1 v n us) : ∃ A c, v = .slice A n c := by
 rcases h.2 with ⟨rfl, rfl⟩ | ⟨g, cap, cur, rfl, _⟩
 ·exact ⟨_, _, rfl⟩
 ·exact ⟨_, _, rfl⟩
theorem row_lt {w : World} {e : TypeId} {v : Value} {n : Nat} {us : List Value} (h : w.ownsRow 0 e 1 v n us) {g : Nat} (hg : blk v = some g) : g < w.heap.size := by
 rw [zfe h] at hg
 exact (h.lt g hg).2
theorem reps_int {w w' : World} {ok ok' : Nat → Prop} {vs : List Value} {x : List Int} (h : zbH w ok tI64 vs x) : zbH w' ok' tI64 vs x := fun i hi => h i hi
structure Gh (w0 : World) (own : Nat → Prop) (π : Pin) (l : List (Int × Int)) (us : List Value) (LL : List (List Int)) (k : Int) (a : Act) (w : World) (v : Value) (ok : Nat → Prop) : Prop where
 fr : Fr w0 own w
 okLt : ∀ b, ok b → b < w.heap.size
 okB : ∀ b, ok b → π.ok b ∨ own b ∨ w0.heap.size ≤ b
 size : a.tmps.size = 55
 def0 : a.defers = π.df
 t5 : a.tmps.getD 5 undef = v
 t12 : zbB w ok (.sl tA) [a.tmps.getD 12 undef] l
 t13 : zbO w ok (fun _ => none) (a.tmps.getD 13 undef) (.int .i64 (l.length : Int))
 t14 : zbO w ok (fun _ => none) (a.tmps.getD 14 undef) (.int .i64 k)
 row : w.ownsRow 0 45 1 v us.length us
 vok : ∀ g, blk v = some g → ¬ ok g ∧ (own g ∨ w0.heap.size ≤ g)
 len : LL.length = us.length
 inn : ∀ (j : Nat) (u : Value) (x : List Int), us[j]? = some u → LL[j]? = some x → ∃ vs, w.ownsRow 0 3 1 u x.length vs ∧ zbH w ok tI64 vs x
 iok : ∀ (j : Nat) (u : Value) (g : Nat), us[j]? = some u → blk u = some g → ¬ ok g ∧ (own g ∨ w0.heap.size ≤ g) ∧ blk v ≠ some g
 sep : ∀ (i j : Nat) (u u' : Value) (g : Nat), i ≠ j → us[i]? = some u → us[j]? = some u' → blk u = some g → blk u' ≠ some g
section
variable {w0 : World} {own : Nat → Prop} {π : Pin} {l : List (Int × Int)} {us : List Value} {LL : List (List Int)} {k : Int} {a : Act} {w : World} {v : Value} {ok : Nat → Prop}
def hsβ (v : Value) (u : Option Value) : Nat → Option Value := fun j => if j = 176 then some v else if j = 1000 then u else none
theorem Gh.tmps (G : Gh w0 own π l us LL k a w v ok) {β : Nat → Option Value} (hβ : β 176 = some v) {o : Option (Nat × zaY)} {hp : List (Nat × Ent)} (t : Nat) :
  zbm w ok β (a.tmps.getD t undef) ((hsSt us o hp l k).tv t) := by
 rw [hs_tv]
 split
 ·rename_i h; subst h; rw [G.t5]; obtain ⟨A, c, h⟩ := row_slice G.row; exact ⟨hβ, A, _, c, h⟩
 split
 ·rename_i h; subst h; exact G.t12
 split
 ·rename_i h; subst h; exact G.t13
 split
 ·rename_i h; subst h; exact G.t14
 ·trivial
theorem Gh.sim1 (G : Gh w0 own π l us LL k a w v ok) : Sim ⟨hsβ v none, ok, π.rd, π.df⟩ w (fun b => blk v = some b) w a (hsSt us none [] l k) (hsβ v none) ok := by
 have hone : ∀ id e, zba (hsSt us none [] l k).heap id = some e → id = 176 ∧ e = ⟨true, .raw 45 us none⟩ := fun id e h => by
  show _ = _ ∧ _
  change zba [(176, (⟨true, .raw 45 us none⟩ : Ent))] id = some e at h
  unfold zba at h
  split at h
  ·rename_i h1; cases h; exact ⟨h1.symm, rfl⟩
  ·cases h
 have hv : ∀ id u, hsβ v none id = some u → id = 176 ∧ u = v := fun id u h => by
  unfold hsβ at h
  split at h
  ·rename_i h1; cases h; exact ⟨h1, rfl⟩
  ·split at h <;> cases h
 refine ⟨⟨Fr.refl _ _, G.okLt, fun id u h => ?_, fun id e h => ?_, fun id e h _ => ?_, fun id e u g h _ hu hg => ?_, fun id e u g h hw => ?_, fun i e u j e' u' g hij h h' => ?_⟩, G.tmps rfl, by rw [G.size]; exact (zbJ ..).symm, G.def0, fun _ _ _ h => h, fun _ h => .inl h⟩
 ·obtain ⟨rfl, _⟩ := hv id u h; exact ⟨_, rfl⟩
 ·obtain ⟨rfl, rfl⟩ := hone id e h; exact ⟨v, us, rfl, G.row, rfl⟩
 ·obtain ⟨rfl, rfl⟩ := hone id e h; rfl
 ·obtain ⟨rfl, rfl⟩ := hv id u hu; exact ⟨(G.vok g hg).1, .inl hg⟩
 ·obtain ⟨rfl, rfl⟩ := hone id e h; cases hw
 ·obtain ⟨rfl, _⟩ := hone _ _ h; obtain ⟨rfl, _⟩ := hone _ _ h'; exact absurd rfl hij
theorem Gh.sim2 (G : Gh w0 own π l us LL k a w v ok) {j : Nat} {u : Value} {x : List Int} (hu : us[j]? = some u) (hx : LL[j]? = some x) :
  Sim ⟨hsβ v (some u), ok, π.rd, π.df⟩ w (fun b => blk v = some b ∨ blk u = some b) w a (hsSt us (some (j, .ref 1000)) [(1000, ⟨true, .arr 3 tI64 x⟩)] l k) (hsβ v (some u)) ok := by
 have hone : ∀ id e, zba (hsSt us (some (j, .ref 1000)) [(1000, ⟨true, .arr 3 tI64 x⟩)] l k).heap id = some e →
   (id = 176 ∧ e = ⟨true, .raw 45 us (some (j, .ref 1000))⟩) ∨ (id = 1000 ∧ e = ⟨true, .arr 3 tI64 x⟩) := fun id e h => by
  change zba [(176, (⟨true, .raw 45 us (some (j, .ref 1000))⟩ : Ent)), (1000, ⟨true, .arr 3 tI64 x⟩)] id = some e at h
  unfold zba at h
  split at h
  ·rename_i h1; cases h; exact .inl ⟨h1.symm, rfl⟩
  ·unfold zba at h
   split at h
   ·rename_i h1; cases h; exact .inr ⟨h1.symm, rfl⟩
   ·cases h
 have hv : ∀ id y, hsβ v (some u) id = some y → (id = 176 ∧ y = v) ∨ (id = 1000 ∧ y = u) := fun id y h => by
  unfold hsβ at h
  split at h
  ·rename_i h1; cases h; exact .inl ⟨h1, rfl⟩
  ·split at h
   ·rename_i h1; cases h; exact .inr ⟨h1, rfl⟩
   ·cases h
 obtain ⟨vs, hr, he⟩ := G.inn j u x hu hx
 have hj : j < us.length := (List.getElem?_eq_some_iff.1 hu).1
 refine ⟨⟨Fr.refl _ _, G.okLt, fun id y h => ?_, fun id e h => ?_, fun id e h _ => ?_, fun id e y g h _ hy hg => ?_, fun id e y g h hw => ?_, fun i e y j' e' y' g hij h h' _ _ hy hy' hg hg' => ?_⟩, G.tmps rfl, by rw [G.size]; exact (zbJ ..).symm, G.def0, fun _ _ _ h => h, fun _ h => .inl h⟩
 ·rcases hv id y h with ⟨rfl, _⟩ | ⟨rfl, _⟩
  ·exact ⟨_, rfl⟩
  ·exact ⟨_, rfl⟩
 ·rcases hone id e h with ⟨rfl, rfl⟩ | ⟨rfl, rfl⟩
  ·refine ⟨v, us, rfl, G.row, u, hj, ?_, rfl, ?_⟩
   ·apply List.ext_getElem?
    intro i
    by_cases hi : i = j
    ·subst hi; rw [List.getElem?_set_self hj, hu]
    ·rw [List.getElem?_set_ne (fun e => hi e.symm)]
   ·obtain ⟨A, c, h⟩ := row_slice hr
    exact ⟨A, _, c, h⟩
  ·exact ⟨u, vs, rfl, hr, he⟩
 ·rcases hone id e h with ⟨rfl, rfl⟩ | ⟨rfl, rfl⟩ <;> rfl
 ·rcases hv id y hy with ⟨_, rfl⟩ | ⟨_, rfl⟩
  ·exact ⟨(G.vok g hg).1, .inl (.inl hg)⟩
  ·exact ⟨(G.iok j _ g hu hg).1, .inl (.inr hg)⟩
 ·rcases hone id e h with ⟨rfl, rfl⟩ | ⟨rfl, rfl⟩ <;> cases hw
 ·rcases hv i y hy with ⟨h1, rfl⟩ | ⟨h1, rfl⟩ <;> rcases hv j' y' hy' with ⟨h2, rfl⟩ | ⟨h2, rfl⟩
  ·exact hij (h1.trans h2.symm)
  ·exact (G.iok j _ g hu hg').2.2 hg
  ·exact (G.iok j _ g hu hg).2.2 hg'
  ·exact hij (h1.trans h2.symm)
theorem Gh.next (G : Gh w0 own π l us LL k a w v ok) {own1 : Nat → Prop} {j : Nat} {us' : List Value} {LL' : List (List Int)} {k' : Int} {a' : Act} {w' : World} {v' : Value} {ok' : Nat → Prop}
  (hown : ∀ b, own1 b → blk v = some b ∨ ∃ u, us[j]? = some u ∧ blk u = some b)
  (F : Fr w own1 w') (hlt : ∀ b, ok' b → b < w'.heap.size) (hB : ∀ b, ok' b → ok b ∨ own1 b ∨ w.heap.size ≤ b)
  (hsz : a'.tmps.size = 55) (hd : a'.defers = π.df) (h5 : a'.tmps.getD 5 undef = v') (h12 : zbB w' ok' (.sl tA) [a'.tmps.getD 12 undef] l)
  (h13 : zbO w' ok' (fun _ => none) (a'.tmps.getD 13 undef) (.int .i64 (l.length : Int))) (h14 : zbO w' ok' (fun _ => none) (a'.tmps.getD 14 undef) (.int .i64 k'))
  (hrow : w'.ownsRow 0 45 1 v' us'.length us') (hvw : ∀ g, blk v' = some g → ¬ ok' g ∧ (own1 g ∨ w.heap.size ≤ g))
  (hl1 : us'.length = us.length) (hl2 : LL'.length = LL.length) (hus : ∀ i, i ≠ j → us'[i]? = us[i]?) (hLL : ∀ i, i ≠ j → LL'[i]? = LL[i]?)
  (hj : ∀ u x, us'[j]? = some u → LL'[j]? = some x → (∃ vs, w'.ownsRow 0 3 1 u x.length vs ∧ zbH w' ok' tI64 vs x))
  (hjw : ∀ u g, us'[j]? = some u → blk u = some g → ¬ ok' g ∧ ((∃ u0, us[j]? = some u0 ∧ blk u0 = some g) ∨ blk v = some g ∨ w.heap.size ≤ g) ∧ blk v' ≠ some g)
  (hother : ∀ i u g, i ≠ j → us[i]? = some u → blk u = some g → ¬ own1 g) :
  Gh w0 own π l us' LL' k' a' w' v' ok' := by
 have hown0 : ∀ b, own1 b → own b ∨ w0.heap.size ≤ b := fun b hb => by
  rcases hown b hb with h | ⟨u, h1, h2⟩
  ·exact (G.vok b h).2
  ·exact (G.iok j u b h1 h2).2.1
 have hrowlt : ∀ i u g, us[i]? = some u → blk u = some g → g < w.heap.size := fun i u g hu hg => by
  have hi : i < LL.length := by rw [G.len]; exact (List.getElem?_eq_some_iff.1 hu).1
  obtain ⟨vs, hr, _⟩ := G.inn i u LL[i] hu (by simp [hi])
  exact row_lt hr hg
 have hvlt : ∀ g, blk v = some g → g < w.heap.size := fun g hg => row_lt G.row hg
 have hothok : ∀ i u g, i ≠ j → us[i]? = some u → blk u = some g → ¬ ok' g := fun i u g hi hu hg h => by
  rcases hB g h with h1 | h1 | h1
  ·exact (G.iok i u g hu hg).1 h1
  ·exact hother i u g hi hu hg h1
  ·have := hrowlt i u g hu hg; omega
 refine ⟨⟨F.os.trans G.fr.os, F.tape.trans G.fr.tape, F.output.trans G.fr.output, Nat.le_trans G.fr.size F.size, fun b hb hn => ?_⟩, hlt, fun b hb => ?_, hsz, hd, h5, h12, h13, h14, hrow, fun g hg => ?_, by rw [hl2, hl1, G.len], fun i u x hu hx => ?_, fun i u g hu hg => ?_, fun i i' u u' g hii hu hu' hg hg' => ?_⟩
 ·rw [F.block b (Nat.lt_of_lt_of_le hb G.fr.size) fun h => ?_]
  ·exact G.fr.block b hb hn
  ·rcases hown0 b h with h1 | h1
   ·exact hn h1
   ·omega
 ·rcases hB b hb with h1 | h1 | h1
  ·exact G.okB b h1
  ·exact .inr (hown0 b h1)
  ·exact .inr (.inr (Nat.le_trans G.fr.size h1))
 ·refine ⟨(hvw g hg).1, ?_⟩
  rcases (hvw g hg).2 with h1 | h1
  ·exact hown0 g h1
  ·exact .inr (Nat.le_trans G.fr.size h1)
 ·by_cases hi : i = j
  ·subst hi; exact hj u x hu hx
  ·rw [hus i hi] at hu
   rw [hLL i hi] at hx
   obtain ⟨vs, hr, he⟩ := G.inn i u x hu hx
   exact ⟨vs, zgI hr fun g hg => F.block g (row_lt hr hg) (hother i u g hi hu hg), reps_int he⟩
 ·by_cases hi : i = j
  ·subst hi
   obtain ⟨h1, h2, h3⟩ := hjw u g hu hg
   refine ⟨h1, ?_, h3⟩
   rcases h2 with ⟨u0, h4, h5⟩ | h2 | h2
   ·exact (G.iok i u0 g h4 h5).2.1
   ·exact (G.vok g h2).2
   ·exact .inr (Nat.le_trans G.fr.size h2)
  ·rw [hus i hi] at hu
   have h0 := G.iok i u g hu hg
   refine ⟨hothok i u g hi hu hg, h0.2.1, fun h => ?_⟩
   rcases (hvw g h).2 with h1 | h1
   ·exact hother i u g hi hu hg h1
   ·have := hrowlt i u g hu hg; omega
 ·by_cases hi : i = j
  ·subst hi
   rw [hus i' (fun e => hii e.symm)] at hu'
   rcases (hjw u g hu hg).2.1 with ⟨u0, h4, h5⟩ | h2 | h2
   ·exact G.sep i i' u0 u' g hii h4 hu' h5 hg'
   ·exact (G.iok i' u' g hu' hg').2.2 h2
   ·have := hrowlt i' u' g hu' hg'; omega
  ·rw [hus i hi] at hu
   by_cases hi' : i' = j
   ·subst hi'
    rcases (hjw u' g hu' hg').2.1 with ⟨u0, h4, h5⟩ | h2 | h2
    ·exact G.sep i i' u u0 g hii hu h4 hg h5
    ·exact (G.iok i u g hu hg).2.2 h2
    ·have := hrowlt i u g hu hg; omega
   ·rw [hus i' hi'] at hu'
    exact G.sep i i' u u' g hii hu hu' hg hg'
theorem Gh.of1 (G : Gh w0 own π l us LL k a w v ok) {ρ : Pin} (hπ : ρ.ok = ok) (hρ : ρ.df = π.df) {k' : Int} {a' : Act} {w' : World} {β' : Nat → Option Value} {ok' : Nat → Prop} (hlen : us.length ≤ 4096)
  (S : Sim ρ w (fun b => blk v = some b) w' a' (hsSt us none [] l k') β' ok') : ∃ v', Gh w0 own π l us LL k' a' w' v' ok' := by
 obtain ⟨v', vs, h1, h2, h3⟩ := S.inv.ent 176 ⟨true, .raw 45 us none⟩ rfl
 cases (show vs = us from h3)
 have t := S.tmps
 have t5 := t 5
 have t12 := t 12
 have t13 := t 13
 have t14 := t 14
 rw [hs_tv] at t5 t12 t13 t14
 have e5 : a'.tmps.getD 5 undef = v' := by
  have := (show β' 176 = some (a'.tmps.getD 5 undef) ∧ _ from t5).1
  rw [h1] at this
  exact (Option.some.inj this).symm
 refine ⟨v', G.next (j := us.length) (fun b hb => .inl hb) S.inv.fr S.inv.okLt (fun b hb => by have := S.okB b hb; rw [hπ] at this; exact this) (by rw [S.size]; exact zbJ ..) (S.def0.trans hρ) e5 t12 t13 t14 h2
  (fun g hg => S.inv.wr 176 ⟨true, .raw 45 us none⟩ v' g rfl rfl h1 hg) rfl rfl (fun _ _ => rfl) (fun _ _ => rfl) (fun u x hu => ?_) (fun u g hu => ?_) (fun i u g _ hu hg h => (G.iok i u g hu hg).2.2 h)⟩
 ·rw [List.getElem?_eq_none (Nat.le_refl _)] at hu; cases hu
 ·rw [List.getElem?_eq_none (Nat.le_refl _)] at hu; cases hu
theorem Gh.of2 (G : Gh w0 own π l us LL k a w v ok) {ρ : Pin} (hπ : ρ.ok = ok) (hρ : ρ.df = π.df) {j : Nat} {u : Value} {x x' : List Int} (hu : us[j]? = some u) (hx : LL[j]? = some x) {k' : Int} {a' : Act} {w' : World} {β' : Nat → Option Value}
  {ok' : Nat → Prop} (S : Sim ρ w (fun b => blk v = some b ∨ blk u = some b) w' a' (hsSt us (some (j, .ref 816)) [(816, ⟨true, .arr 3 tI64 x'⟩)] l k') β' ok') :
  ∃ v' u', Gh w0 own π l (us.set j u') (LL.set j x') k' a' w' v' ok' := by
 obtain ⟨v', vs, h1, h2, u', hj, h3, h4, _⟩ := S.inv.ent 176 ⟨true, .raw 45 us (some (j, .ref 816))⟩ rfl
 subst h3
 obtain ⟨u2, vs2, h5, h6, h7⟩ := S.inv.ent 816 ⟨true, .arr 3 tI64 x'⟩ rfl
 rw [h4] at h5
 cases h5
 have t := S.tmps
 have t5 := t 5
 have t12 := t 12
 have t13 := t 13
 have t14 := t 14
 rw [hs_tv] at t5 t12 t13 t14
 have e5 : a'.tmps.getD 5 undef = v' := by
  have := (show β' 176 = some (a'.tmps.getD 5 undef) ∧ _ from t5).1
  rw [h1] at this
  exact (Option.some.inj this).symm
 have hjl : j < LL.length := by rw [G.len]; exact hj
 have hsep := fun g hg hg' => S.inv.sep 176 ⟨true, .raw 45 us (some (j, .ref 816))⟩ v' 816 ⟨true, .arr 3 tI64 x'⟩ u' g (by decide) rfl rfl rfl rfl h1 h4 hg hg'
 have hwr := fun g hg => S.inv.wr 816 ⟨true, .arr 3 tI64 x'⟩ u' g rfl rfl h4 hg
 have hwv := fun g hg => S.inv.wr 176 ⟨true, .raw 45 us (some (j, .ref 816))⟩ v' g rfl rfl h1 hg
 refine ⟨v', u', G.next (j := j) (own1 := fun b => blk v = some b ∨ blk u = some b) (fun b hb => hb.elim .inl fun h => .inr ⟨u, hu, h⟩) S.inv.fr S.inv.okLt (fun b hb => by have := S.okB b hb; rw [hπ] at this; exact this)
  (by rw [S.size]; exact zbJ ..) (S.def0.trans hρ) e5 t12 t13 t14 (by rw [List.length_set]; exact h2) hwv (List.length_set ..) (List.length_set ..) (fun i hi => List.getElem?_set_ne (fun e => hi e.symm))
  (fun i hi => List.getElem?_set_ne (fun e => hi e.symm)) (fun y z hy hz => ?_) (fun y g hy hg => ?_) (fun i y g hi hy hg h => ?_)⟩
 ·rw [List.getElem?_set_self hj] at hy
  rw [List.getElem?_set_self hjl] at hz
  cases hy
  cases hz
  exact ⟨vs2, h6, h7⟩
 ·rw [List.getElem?_set_self hj] at hy
  cases hy
  refine ⟨(hwr g hg).1, ?_, fun h => hsep g h hg⟩
  rcases (hwr g hg).2 with (h | h) | h
  ·exact .inr (.inl h)
  ·exact .inl ⟨u, hu, h⟩
  ·exact .inr (.inr h)
 ·rcases h with h | h
  ·exact (G.iok i y g hy hg).2.2 h
  ·exact G.sep i j y u g hi hy hu hg h
end
def zbK (m : Nat) (a : Int × Int) : Bool := decide (0 ≤ a.1) && decide (a.1 < (m : Int)) && decide (0 ≤ a.2) && decide (a.2 < (m : Int))
def zef (m : Nat) (LL : List (List Int)) (a : Int × Int) : List (List Int) := if zbK m a then LL.set a.1.toNat (LL.getD a.1.toNat [] ++ [a.2]) else LL
def zcY (m : Nat) (l : List (Int × Int)) (k : Nat) : List (List Int) := (l.take k).foldl (zef m) (List.replicate m [])
theorem zgS {m : Nat} {l : List (Int × Int)} {k : Nat} (h : k < l.length) : zcY m l (k + 1) = zef m (zcY m l k) (l.getD k (0, 0)) := by
 unfold zcY
 rw [List.take_add_one, List.foldl_append]
 simp [List.getElem?_eq_getElem h]
theorem zgn {m : Nat} {LL : List (List Int)} {a : Int × Int} : (zef m LL a).length = LL.length := by
 unfold zef; split <;> simp
theorem hsUpto_len {m : Nat} {l : List (Int × Int)} : ∀ {k : Nat}, k ≤ l.length → ∀ x ∈ zcY m l k, x.length ≤ k
 | 0, _, x, hx => by
  have : x ∈ List.replicate m ([] : List Int) := hx
  rw [(List.mem_replicate.1 this).2]; exact Nat.le_refl 0
 | k + 1, hk, x, hx => by
  have ih := hsUpto_len (m := m) (l := l) (k := k) (by omega)
  rw [zgS hk] at hx
  unfold zef at hx
  split at hx
  ·rcases List.mem_or_eq_of_mem_set hx with h | rfl
   ·exact Nat.le_succ_of_le (ih x h)
   ·simp only [List.length_append, List.length_singleton]
    have : ((zcY m l k).getD (l.getD k (0, 0)).1.toNat []).length ≤ k := by
     rw [List.getD_eq_getElem?_getD]
     cases h : (zcY m l k)[(l.getD k (0, 0)).1.toNat]? with
     | none => simp
     | some y => exact ih y (List.mem_of_getElem? h)
    omega
  ·exact Nat.le_succ_of_le (ih x hx)
theorem noCuts (root : Code) (m : Nat) : CutsOK pg (fun _ _ => none) root m := fun _ _ _ _ _ _ _ _ _ _ _ _ _ _ _ h => by cases h
theorem hs_at : zbR 80 (zbh f_zah) 116 = some hsBody := by kernel_rfl
theorem hs_end {e : Ev} {vs : List TV} {hp : List (Nat × Ent)} (h : hsSee e = some (.norm vs hp)) : ∃ σ, e = .norm σ ∧ Weak σ (spSt 55 [5, 12, 13, 14] vs hp) := by
 cases e with
 | norm σ =>
  obtain ⟨x, h1, h2⟩ := Option.map_eq_some_iff.1 (show (zeo _ _ _ σ).map _ = _ from h)
  cases h2
  exact ⟨σ, rfl, zdO h1⟩
 | exit i σ => obtain ⟨x, _, h2⟩ := Option.map_eq_some_iff.1 (show (zeo _ _ _ σ).map _ = _ from h); cases h2
 | ret σ => cases h
theorem hs_endx {e : Ev} {i : Nat} {vs : List TV} {hp : List (Nat × Ent)} (h : hsSee e = some (.exit i vs hp)) : ∃ σ, e = .exit i σ ∧ Weak σ (spSt 55 [5, 12, 13, 14] vs hp) := by
 cases e with
 | exit i σ =>
  obtain ⟨x, h1, h2⟩ := Option.map_eq_some_iff.1 (show (zeo _ _ _ σ).map _ = _ from h)
  cases h2
  exact ⟨σ, rfl, zdO h1⟩
 | norm σ => obtain ⟨x, _, h2⟩ := Option.map_eq_some_iff.1 (show (zeo _ _ _ σ).map _ = _ from h); cases h2
 | ret σ => cases h
theorem wrap64 {k : Nat} (h : k < 2 ^ 62) : IntKind.i64.wrap ((k : Int) + 1) = ((k + 1 : Nat) : Int) := by
 rw [wrap_i64]
 omega
def HsI (w0 : World) (own : Nat → Prop) (π : Pin) (l : List (Int × Int)) (m kn : Nat) (a : Act) (w : World) : Prop :=
 kn ≤ l.length ∧ ∃ us v ok, us.length = m ∧ Gh w0 own π l us (zcY m l kn) (kn : Int) a w v ok
def HsQ (w0 : World) (own : Nat → Prop) (π : Pin) (l : List (Int × Int)) (m kn : Nat) : Exit → Act → World → Prop
 | .normal, a, w => kn < l.length ∧ HsI w0 own π l m (kn + 1) a w
 | .exit 0, a, w => kn = l.length ∧ HsI w0 own π l m kn a w
 | _, _, _ => False
theorem PT.rq_sat {K : PE → Prop} {t : PT} : ∀ n, t.sat K → (PT.rq n t).sat K
 | 0, h => h
 | n + 1, h => ⟨rfl, PT.rq_sat n h⟩
theorem hs_run1 {w0 : World} {own : Nat → Prop} {π : Pin} {l : List (Int × Int)} {us : List Value} {LL : List (List Int)} {k : Int} {a : Act} {w : World} {v : Value} {ok : Nat → Prop} (G : Gh w0 own π l us LL k a w v ok)
  (hlen : us.length ≤ 4096) (h0 : 0 ≤ k) (hB : k < l.length → hsB us l k = false) : hsBody.wpIn (Fw π.rd) 0 pg (fun e a' w' => match e with
   | .normal => k < l.length ∧ ∃ v' ok', Gh w0 own π l us LL (IntKind.i64.wrap (k + 1)) a' w' v' ok'
   | .exit 0 => ¬ k < l.length ∧ ∃ v' ok', Gh w0 own π l us LL k a' w' v' ok'
   | _ => False) a w := by
 let Kp : PE → Prop := fun p => (k < l.length ∧ p = .norm (hsVs l (IntKind.i64.wrap (k + 1))) [(176, ⟨true, .raw 45 us none⟩)]) ∨ (¬ k < l.length ∧ p = .exit 0 (hsVs l k) [(176, ⟨true, .raw 45 us none⟩)])
 have hsat : (hsPT us none [] l k).sat Kp := by
  rw [hs_1]
  refine PT.rq_sat 1 ⟨fun h => ?_, fun h => .inr ⟨of_decide_eq_false h, rfl⟩⟩
  have hk := of_decide_eq_true h
  refine ⟨by simp [h0, hk], PT.rq_sat 25 ⟨fun hb => ?_, fun _ => PT.rq_sat 2 (.inl ⟨hk, rfl⟩)⟩⟩
  rw [hB hk] at hb; cases hb
 refine wpIn_mono (zcF (π := ⟨hsβ v none, ok, π.rd, π.df⟩) (root := zbh f_zah) (L := fun _ _ => none) zaZ hsTo hsBody 116 80 _ (fun e => ∃ p, hsSee e = some p ∧ Kp p) a w _ ok (by decide) hs_at (noCuts _ _) G.sim1
  (zbA.sat_pt (fun e p h1 h2 => ⟨p, h1, h2⟩) hsat)) ?_
 rintro e a' w' ⟨ev, β', ok', ⟨p, hp, hK⟩, hev⟩
 rcases hK with ⟨hk, rfl⟩ | ⟨hk, rfl⟩
 ·obtain ⟨σ, rfl, hw⟩ := hs_end hp
  obtain ⟨rfl, S⟩ := hev
  obtain ⟨β2, ok2, S2⟩ := hw _ _ _ _ _ _ _ S
  obtain ⟨v', G'⟩ := G.of1 (ρ := ⟨hsβ v none, ok, π.rd, π.df⟩) rfl rfl hlen S2
  exact ⟨hk, v', ok2, G'⟩
 ·obtain ⟨σ, rfl, hw⟩ := hs_endx hp
  obtain ⟨rfl, S⟩ := hev
  obtain ⟨β2, ok2, S2⟩ := hw _ _ _ _ _ _ _ S
  obtain ⟨v', G'⟩ := G.of1 (ρ := ⟨hsβ v none, ok, π.rd, π.df⟩) rfl rfl hlen S2
  exact ⟨hk, v', ok2, G'⟩
theorem hs_run2 {w0 : World} {own : Nat → Prop} {π : Pin} {l : List (Int × Int)} {us : List Value} {LL : List (List Int)} {k : Int} {a : Act} {w : World} {v : Value} {ok : Nat → Prop} (G : Gh w0 own π l us LL k a w v ok)
  (h0 : 0 ≤ k) (hk : k < l.length) (hB : hsB us l k = true) {x : List Int} (hx : LL[(l.getD k.toNat (0, 0)).1.toNat]? = some x) (hxl : x.length ≤ 1000000) : hsBody.wpIn (Fw π.rd) 0 pg (fun e a' w' => match e with
   | .normal => ∃ v' u' ok', Gh w0 own π l (us.set (l.getD k.toNat (0, 0)).1.toNat u') (LL.set (l.getD k.toNat (0, 0)).1.toNat (x ++ [(l.getD k.toNat (0, 0)).2])) (IntKind.i64.wrap (k + 1)) a' w' v' ok'
   | _ => False) a w := by
 obtain ⟨j, hj⟩ : ∃ j, j = (l.getD k.toNat (0, 0)).1.toNat := ⟨_, rfl⟩
 rw [← hj] at hx ⊢
 have hjl : j < us.length := by rw [← G.len]; exact (List.getElem?_eq_some_iff.1 hx).1
 have hu : us[j]? = some us[j] := List.getElem?_eq_getElem hjl
 let Kp : PE → Prop := fun p => p = .norm (hsVs l (IntKind.i64.wrap (k + 1))) [(176, ⟨true, .raw 45 us (some (j, .ref 816))⟩), (816, ⟨true, .arr 3 tI64 (x ++ [(l.getD k.toNat (0, 0)).2])⟩)]
 have hI : hsI us l k = true := by
  simp only [hsB, Bool.and_eq_true] at hB
  simp only [hsI, Bool.and_eq_true]
  exact hB.1.1
 have hsat : (hsPT us (some (j, .ref 1000)) [(1000, ⟨true, .arr 3 tI64 x⟩)] l k).sat Kp := by
  rw [hs_2]
  refine PT.rq_sat 1 ⟨fun h => ?_, fun h => absurd hk (of_decide_eq_false h)⟩
  refine ⟨by simp [h0, hk], PT.rq_sat 25 ⟨fun hb => ?_, fun hb => by rw [hB] at hb; cases hb⟩⟩
  have hap : (decide ((x.length + 1) * 8 ≤ 140737488355328) && decide (x.length + 1 ≤ maxLen)) = true := by
   have : maxLen = 9223372036854775807 := by decide
   rw [decide_eq_true (by omega : (x.length + 1) * 8 ≤ 140737488355328), decide_eq_true (by omega : x.length + 1 ≤ maxLen)]
   rfl
  exact PT.rq_sat 6 ⟨hI, decide_eq_true hj.symm, PT.rq_sat 3 ⟨hap, hI, decide_eq_true hj.symm, PT.rq_sat 2 rfl⟩⟩
 refine wpIn_mono (zcF (π := ⟨hsβ v (some us[j]), ok, π.rd, π.df⟩) (root := zbh f_zah) (L := fun _ _ => none) zaZ hsTo hsBody 116 80 _ (fun e => ∃ p, hsSee e = some p ∧ Kp p) a w _ ok (by decide) hs_at (noCuts _ _) (G.sim2 hu hx)
  (zbA.sat_pt (fun e p h1 h2 => ⟨p, h1, h2⟩) hsat)) ?_
 rintro e a' w' ⟨ev, β', ok', ⟨p, hp, hK⟩, hev⟩
 cases (show p = _ from hK)
 obtain ⟨σ, rfl, hw⟩ := hs_end hp
 obtain ⟨rfl, S⟩ := hev
 obtain ⟨β2, ok2, S2⟩ := hw _ _ _ _ _ _ _ S
 obtain ⟨v', u', G'⟩ := G.of2 (ρ := ⟨hsβ v (some us[j]), ok, π.rd, π.df⟩) rfl rfl hu hx S2
 exact ⟨v', u', ok2, G'⟩
theorem hs_round {w0 : World} {own : Nat → Prop} {π : Pin} {l : List (Int × Int)} {m kn : Nat} {a : Act} {w : World} (hl : l.length ≤ 1000000) (hm : m ≤ 4096) (H : HsI w0 own π l m kn a w) :
  hsBody.wpIn (Fw π.rd) 0 pg (HsQ w0 own π l m kn) a w := by
 obtain ⟨hkn, us, v, ok, hus, G⟩ := H
 have hB : hsB us l (kn : Int) = zbK m (l.getD kn (0, 0)) := by
  simp only [hsB, zbK, hus, Int.toNat_natCast]
 have hw : kn < l.length → IntKind.i64.wrap ((kn : Int) + 1) = ((kn + 1 : Nat) : Int) := fun h => wrap64 (by omega)
 by_cases hk : kn < l.length
 ·cases hv : zbK m (l.getD kn (0, 0)) with
  | false =>
   refine wpIn_mono (hs_run1 G (by omega) (by omega) fun _ => hB.trans hv) ?_
   rintro e a' w' h
   cases e with
   | normal =>
    obtain ⟨_, v', ok', G'⟩ := h
    refine ⟨hk, hk, us, v', ok', hus, ?_⟩
    rw [zgS hk, zef, hv, if_neg (by decide), ← hw hk]
    exact G'
   | exit i =>
    cases i with
    | zero => exact absurd (by omega : (kn : Int) < l.length) h.1
    | succ i => exact h.elim
   | _ => exact h.elim
  | true =>
   have hv' := hv
   simp only [zbK, Bool.and_eq_true, decide_eq_true_eq] at hv'
   have hjl : (l.getD kn (0, 0)).1.toNat < (zcY m l kn).length := by rw [G.len, hus]; omega
   have hx : (zcY m l kn)[(l.getD (kn : Int).toNat (0, 0)).1.toNat]? = some ((zcY m l kn)[(l.getD kn (0, 0)).1.toNat]) := by
    rw [Int.toNat_natCast]; exact List.getElem?_eq_getElem hjl
   have hxl := hsUpto_len (m := m) hkn _ (List.getElem_mem hjl)
   refine wpIn_mono (hs_run2 G (by omega) (by omega) (hB.trans hv) hx (by omega)) ?_
   rintro e a' w' h
   cases e with
   | normal =>
    obtain ⟨v', u', ok', G'⟩ := h
    refine ⟨hk, hk, us.set (l.getD kn (0, 0)).1.toNat u', v', ok', by rw [List.length_set]; exact hus, ?_⟩
    rw [zgS hk, zef, hv, if_pos rfl, ← hw hk]
    have e1 : (zcY m l kn).getD (l.getD kn (0, 0)).1.toNat [] = (zcY m l kn)[(l.getD kn (0, 0)).1.toNat] := by
     rw [List.getD_eq_getElem?_getD, List.getElem?_eq_getElem hjl]; rfl
    rw [e1]
    exact G'
   | _ => exact h.elim
 ·refine wpIn_mono (hs_run1 G (by omega) (by omega) fun h => absurd h (by omega)) ?_
  rintro e a' w' h
  cases e with
  | normal => exact absurd h.1 (by omega)
  | exit i =>
   cases i with
   | zero =>
    obtain ⟨_, v', ok', G'⟩ := h
    exact ⟨by omega, hkn, us, v', ok', hus, G'⟩
   | succ i => exact h.elim
  | _ => exact h.elim
theorem row_dat {w : World} {ok : Nat → Prop} {e : TypeId} {t : Ty} {xs : List t.den} {v : Value} {us : List Value} (h2 : w.ownsRow 0 e t.size v xs.length us) (h3 : zbH w ok t us xs) (hok : ∀ g, blk v = some g → ok g) :
  zbB w ok (.sl t) [v] xs := by
 rcases h2.2 with ⟨rfl, hn⟩ | ⟨g, cap, cur, rfl, _, hg, hnc, hcm, hcs, htake⟩
 ·exact ⟨none, 0, by rw [hn], by omega, Nat.zero_le _, fun _ => rfl, fun i hi => by omega⟩
 ·refine ⟨some ⟨g, 0, none⟩, cap, rfl, hnc, hcm, (fun e => by cases e), fun i hi => ⟨g, 0, (us.drop (i * t.size)).take t.size, rfl, hok g rfl, ?_, ?_, h3 i hi⟩⟩
  ·have hl := h2.1
   have : (i + 1) * t.size ≤ xs.length * t.size := Nat.mul_le_mul_right _ hi
   rw [Nat.add_mul] at this
   simp only [List.length_take, List.length_drop]
   omega
  ·have hm : Mem w g 0 us := by
    intro j u hu
    rw [cell_of_row w g (0 + j) cur e (0, 0) hg, Nat.zero_add]
    rw [← htake, List.getElem?_take] at hu
    split at hu
    ·simpa using hu
    ·cases hu
   exact hm.sub (i * t.size) t.size
def hsOut (LL : List (List Int)) : St := spSt 55 [5] [.lf (.ref 176)] [(176, ⟨true, .arr 45 (.sl tI64) LL⟩)]
theorem Gh.out {w0 : World} {own : Nat → Prop} {π : Pin} {l : List (Int × Int)} {us : List Value} {LL : List (List Int)} {k : Int} {a : Act} {w : World} {v : Value} {ok : Nat → Prop} (G : Gh w0 own π l us LL k a w v ok)  :
  ∃ β' ok', Sim π w0 own w a (hsOut LL) β' ok' := by
 let ok2 : Nat → Prop := fun b => ok b ∨ ∃ (j : Nat) (u : Value), us[j]? = some u ∧ blk u = some b
 have hlt : ∀ (j : Nat) (u : Value) (g : Nat), us[j]? = some u → blk u = some g → g < w.heap.size := fun j u g hu hg => by
  have hi : j < LL.length := by rw [G.len]; exact (List.getElem?_eq_some_iff.1 hu).1
  obtain ⟨vs, hr, _⟩ := G.inn j u LL[j] hu (by simp [hi])
  exact row_lt hr hg
 have hone : ∀ id e, zba (hsOut LL).heap id = some e → id = 176 ∧ e = ⟨true, .arr 45 (.sl tI64) LL⟩ := fun id e h => by
  change zba [(176, (⟨true, .arr 45 (.sl tI64) LL⟩ : Ent))] id = some e at h
  unfold zba at h
  split at h
  ·rename_i h1; cases h; exact ⟨h1.symm, rfl⟩
  ·cases h
 have hv : ∀ id u, hsβ v none id = some u → id = 176 ∧ u = v := fun id u h => by
  unfold hsβ at h
  split at h
  ·rename_i h1; cases h; exact ⟨h1, rfl⟩
  ·split at h <;> cases h
 refine ⟨hsβ v none, ok2, ⟨⟨G.fr, fun b hb => ?_, fun id u h => ?_, fun id e h => ?_, fun id e h _ => ?_, fun id e u g h _ hu hg => ?_, fun id e u g h hw => ?_, fun i e u j e' u' g hij h h' => ?_⟩, fun t => ?_, by rw [G.size]; exact (zbJ ..).symm, G.def0, fun id u hid h => ?_, fun b hb => ?_⟩⟩
 ·rcases hb with h | ⟨j, u, h1, h2⟩
  ·exact G.okLt b h
  ·exact hlt j u b h1 h2
 ·obtain ⟨rfl, _⟩ := hv id u h; exact ⟨_, rfl⟩
 ·obtain ⟨rfl, rfl⟩ := hone id e h
  refine ⟨v, us, rfl, by rw [G.len]; exact G.row, fun i hi => ?_⟩
  have hiu : i < us.length := by rw [← G.len]; exact hi
  obtain ⟨vs, hr, he⟩ := G.inn i us[i] LL[i] (by simp [hiu]) (by simp [hi])
  have e1 : (us.drop (i * (Ty.sl tI64).size)).take (Ty.sl tI64).size = [us[i]] := by
   show (us.drop (i * 1)).take 1 = _
   rw [Nat.mul_one, List.drop_eq_getElem_cons hiu]; rfl
  rw [e1]
  exact row_dat (t := tI64) hr (reps_int he) fun g hg => .inr ⟨i, us[i], by simp [hiu], hg⟩
 ·obtain ⟨rfl, rfl⟩ := hone id e h; rfl
 ·obtain ⟨rfl, rfl⟩ := hv id u hu
  refine ⟨?_, (G.vok g hg).2⟩
  rintro (h1 | ⟨j, y, h1, h2⟩)
  ·exact (G.vok g hg).1 h1
  ·exact (G.iok j y g h1 h2).2.2 hg
 ·obtain ⟨rfl, rfl⟩ := hone id e h; cases hw
 ·obtain ⟨rfl, _⟩ := hone _ _ h; obtain ⟨rfl, _⟩ := hone _ _ h'; exact absurd rfl hij
 ·have h := zcV [5] [.lf (.ref 176)] 55 0 t
  show zbm w ok2 _ _ ((zeN [5] [.lf (.ref 176)] 55 0).getD t (.lf .undef))
  rw [h, Nat.zero_add]
  split
  ·simp only [zcC]
   split
   ·rename_i h5; subst h5; rw [G.t5]; obtain ⟨A, c, h⟩ := row_slice G.row; exact ⟨rfl, A, _, c, h⟩
   ·trivial
  ·trivial
 ·obtain ⟨rfl, _⟩ := hv id u h
  exact absurd hid (by decide)
 ·rcases hb with h | ⟨j, u, h1, h2⟩
  ·exact G.okB b h
  ·exact .inr (G.iok j u b h1 h2).2.1
def hsC (us : List Value) (l : List (Int × Int)) (n k : Int) : Bool :=
 open Classical in decide (us = List.replicate us.length nilv) && decide (us.length ≤ 4096) && decide (n = l.length) && decide (k = 0) && decide (l.length ≤ 1000000)
def hsTree (us : List Value) (l : List (Int × Int)) (n k : Int) : zbA := .req (hsC us l n k) (.leaf (.norm (hsOut (zcY us.length l l.length))))
def hsTell (σ : St) : Option zbA := match σ.heap, σ.tv 5, σ.tv 12, σ.tv 13, σ.tv 14 with
 | [(id, ⟨true, .raw e us none⟩)], .lf (.ref id'), .lf (.dat t l), .lf (.int .i64 n), .lf (.int .i64 k) =>
  if h : t = tA then if id = 176 ∧ id' = 176 ∧ e = 45 ∧ σ.tmps.length = 55 then some (hsTree us (h ▸ l : List tA.den) n k) else none else none
 | _, _, _, _, _ => none
def hsL : Cuts := fun q σ => if q = 29 then hsTell σ else none
theorem hs_29 : zbR 80 (zbh f_zah) 29 = some (.block 0 (.loop hsBody)) := by kernel_rfl
theorem hs_cuts : CutsOK pg hsL (zbh f_zah) 2 := by
 intro d q c hq hc π w0 own σ t K a w β ok ht hs S
 unfold hsL at ht
 split at ht
 case isFalse => cases ht
 rename_i hq29
 subst hq29
 cases codeAt_fun hc hs_29
 unfold hsTell at ht
 split at ht
 case h_2 => cases ht
 rename_i id e us id' t' l n k hheap h5 h12 h13 h14
 split at ht
 case isFalse => cases ht
 rename_i hty
 subst hty
 split at ht
 case isFalse => cases ht
 rename_i hids
 obtain ⟨rfl, rfl, rfl, hlen⟩ := hids
 cases ht
 obtain ⟨hC, hK⟩ := hs
 change List (Int × Int) at l
 change hsC us l n k = true at hC
 change K (.norm (hsOut (zcY us.length l l.length))) at hK
 simp only [hsC, Bool.and_eq_true, decide_eq_true_eq] at hC
 obtain ⟨⟨⟨⟨hus, hm⟩, rfl⟩, rfl⟩, hl⟩ := hC
 have hget176 : zba σ.heap 176 = some ⟨true, .raw 45 us none⟩ := by rw [hheap]; rfl
 obtain ⟨v, vs, h1, h2, h3⟩ := S.inv.ent 176 _ hget176
 cases (show vs = us from h3)
 have t5 := S.tmps 5
 have t12 := S.tmps 12
 have t13 := S.tmps 13
 have t14 := S.tmps 14
 rw [h5] at t5
 rw [h12] at t12
 rw [h13] at t13
 rw [h14] at t14
 have e5 : a.tmps.getD 5 undef = v := by
  have := (show β 176 = some (a.tmps.getD 5 undef) ∧ _ from t5).1
  rw [h1] at this
  exact (Option.some.inj this).symm
 have hnil : ∀ (j : Nat) (u : Value), us[j]? = some u → u = nilv := fun j u hu => by
  have := List.mem_of_getElem? hu
  rw [hus] at this
  exact (List.mem_replicate.1 this).2
 have G0 : Gh w0 own π l us (zcY us.length l 0) ((0 : Nat) : Int) a w v ok := by
  refine ⟨S.inv.fr, S.inv.okLt, S.okB, by rw [S.size]; exact hlen, S.def0, e5, t12, t13, t14, h2, fun g hg => S.inv.wr 176 _ v g hget176 rfl h1 hg, by simp [zcY], fun j u x hu hx => ?_, fun j u g hu hg => ?_, fun i j u u' g _ hu _ hg => ?_⟩
  ·have hx0 : x = [] := (List.mem_replicate.1 (show x ∈ List.replicate us.length ([] : List Int) from List.mem_of_getElem? hx)).2
   subst hx0
   rw [hnil j u hu]
   exact ⟨[], ⟨rfl, .inl ⟨rfl, rfl⟩⟩, fun i hi => absurd hi (Nat.not_lt_zero i)⟩
  ·rw [hnil j u hu] at hg; cases hg
  ·rw [hnil i u hu] at hg; cases hg
 refine wpIn_block (wpIn_loop_ghost (fun n a w => ∃ kn, n = l.length - kn ∧ HsI w0 own π l us.length kn a w) l.length ⟨0, by omega, by omega, us, v, ok, rfl, G0⟩ ?_)
 rintro n a1 w1 ⟨kn, rfl, HI⟩
 refine wpIn_mono (hs_round hl hm HI) ?_
 rintro e a2 w2 h
 cases e with
 | normal =>
  obtain ⟨hk, HI'⟩ := h
  exact ⟨l.length - (kn + 1), by omega, kn + 1, rfl, HI'⟩
 | exit i =>
  cases i with
  | zero =>
   obtain ⟨rfl, _, us2, v2, ok2, hu2, G2⟩ := h
   obtain ⟨β3, ok3, S3⟩ := G2.out
   exact ⟨.norm _, β3, ok3, hK, rfl, S3⟩
  | succ i => exact h.elim
 | _ => exact h.elim
theorem fn_okL {P : Program} {T : zbf} (hm : P.follows .mixedOrders = true) (hT : zbd P T) {o : Io} {fn : Func} {L : Cuts} {plan : List WOp} {t : Tup o.A → RT Unit (Tup o.R)}
  (has : (fn.body.isSome && !(fn.name == "runtime.NumGoroutine")) = true) (hf : P.funcs[o.f]? = some fn) (hcuts : CutsOK P L (zbh fn) 2)
  (go : ∀ x, (evI P T L 1 (zbh fn) (zfg (o.as x) (o.es x) fn.ntmps)).pt (outEv P fn (o.ents.length) plan o.sh) = (t x).pt (fun _ => .norm [] []) (fun y => .out (o.res y))) : o.Okay P fun x => (t x).run fun _ => none := by
 simp only [Bool.and_eq_true, Bool.not_eq_true'] at has
 obtain ⟨hb, hn⟩ := has
 refine ⟨⟨fn, hf, hb, hn⟩, fun x y hy => ?_⟩
 have hbody : fn.body = some (zbh fn) := by
  unfold zbh
  cases h : fn.body with
  | none => rw [h] at hb; cases hb
  | some c => rfl
 have hlen : (o.es x).length = o.ents.length := by simp [Io.es]
 refine fnSoundW hf hbody plan fun π w0 own a w β ok _ S => ?_
 refine zcF hm hT (zbh fn) 1 0 _ _ a w β ok (by decide) rfl hcuts S (out_sat ?_)
 have hgo := go x
 rw [← hlen] at hgo
 rw [show (o.res y).shares = o.sh from rfl, hgo]
 exact RT.sat (r := y) (again := fun _ => none) (fun _ h => by cases h) ⟨rfl, rfl, rfl⟩ hy
def zeZ : Io := ⟨n_zah, [tI, .sl (.pair tI tI)], [.lf (qm 0), .lf (qm 1)], [], [[tI], [.sl (.pair tI tI)]], [.sl (.sl tI)], .lf (qm 0), [], [], true⟩
def zah : Int × List (Int × Int) → RT Unit (List (List Int))
| (n, l) =>
 .rq 4 (.req (mkOK 24 (minI (maxI n 0) 4096)) (.rq 4 (.req (hsC (List.replicate (minI (maxI n 0) 4096).toNat nilv) l l.length 0) (.rq 2 (.done (zcY (List.replicate (minI (maxI n 0) 4096).toNat nilv).length l l.length))))))
def F_zah (x : Int × List (Int × Int)) : Option (List (List Int)) := (zah x).run fun _ => none
theorem zah_go (x : Tup zeZ.A) : (evI pg hsT hsL 1 (zbh f_zah) (zfg (zeZ.as x) (zeZ.es x) f_zah.ntmps)).pt (outEv pg f_zah zeZ.ents.length [.toDat 4] zeZ.sh) =
  RT.pt (α := Unit) (R := Tup zeZ.R) (fun _ => PE.norm [] []) (fun y => .out (zeZ.res y)) (zah x) := by kernel_rfl
theorem ok_zah : zeZ.Okay pg F_zah := fn_okL (o := zeZ) (fn := f_zah) (plan := [.toDat 4]) (t := zah) zaZ hsTo (by kernel_rfl) (by kernel_rfl) hs_cuts zah_go
def dm (n : Int) : Nat := (minI (maxI n 0) 4096).toNat
theorem dm_le (n : Int) : dm n ≤ 4096 := by
 unfold dm minI; split <;> omega
theorem dm_eq {n : Int} (h0 : 0 ≤ n) (h : n ≤ 4096) : dm n = n.toNat := by
 unfold dm minI maxI
 rw [show (if n < 0 then 0 else n) = n from by split <;> omega] <;> first | (split <;> omega) | skip
def hds (m : Nat) (l : List (Int × Int)) : List (List Int) := l.foldl (zef m) (List.replicate m [])
theorem hds_upto (m : Nat) (l : List (Int × Int)) : zcY m l l.length = hds m l := by
 unfold zcY hds; rw [List.take_length]
def e_zah : zbj := zeZ.sp (fun (n, l) => (decide (l.length ≤ 1000000))) (fun (n, l) => (hds (dm n) l))
theorem sp_zah (h : ∀ (n : Int) (l : List (Int × Int)), WfT [tI, .sl (.pair tI tI)] (n, l) → ((decide (l.length ≤ 1000000))) = true → (zah (n, l)).run (fun _ => none) = some (hds (dm n) l)) : e_zah.ok pg := zbo ok_zah fun (n, l) hw hc => h n l hw hc
theorem e_zah_ok : e_zah.ok pg := sp_zah fun n l _ hc => by
 have hm := dm_le n
 have h0 : 0 ≤ minI (maxI n 0) 4096 := by unfold minI maxI; split <;> split <;> omega
 have h1 : minI (maxI n 0) 4096 ≤ 4096 := by unfold minI; split <;> omega
 rw [zah]
 simp only [RT.run, List.length_replicate]
 rw [if_pos (zcK.2 ⟨h0, by omega, by omega⟩), if_pos, hds_upto]
 ·rfl
 ·simp only [hsC, List.length_replicate, Bool.and_eq_true, decide_eq_true_eq]
  exact ⟨⟨⟨⟨trivial, hm⟩, trivial⟩, trivial⟩, of_decide_eq_true hc⟩
end
end Go.Proofs.Ytlfdidaeachpoaa
namespace Go.Proofs.Ytlfdidaeachpoaa
open Go Go.RowKit
def bump (d : Int) (r : List Int) (k : Int) : List Int := sI r k (gI r k + d)
theorem zdQ {d : Int} {r : List Int} {k : Int} : (bump d r k).length = r.length := by simp [bump, sI]
theorem zeg {d : Int} : ∀ {l r : List Int}, (l.foldl (bump d) r).length = r.length
 | [], _ => rfl
 | k :: l, r => by rw [List.foldl_cons, zeg, zdQ]
def inR (m : Nat) (l : List Int) : Prop := ∀ k ∈ l, 0 ≤ k ∧ k < (m : Int)
theorem gI_bump {d : Int} {r : List Int} {k j : Int} (hk : 0 ≤ k ∧ k < (r.length : Int)) (hj : 0 ≤ j ∧ j < (r.length : Int)) : gI (bump d r k) j = gI r j + (if k = j then d else 0) := by
 obtain ⟨k, rfl⟩ := Int.eq_ofNat_of_zero_le hk.1
 obtain ⟨j, rfl⟩ := Int.eq_ofNat_of_zero_le hj.1
 have h1 : k < r.length := by omega
 have h2 : j < r.length := by omega
 simp only [gI, bump, sI, Int.toNat_natCast, List.getD_eq_getElem?_getD]
 by_cases h : k = j
 ·subst h
  rw [List.getElem?_set_self h1, if_pos rfl]
  simp
 ·rw [List.getElem?_set_ne h, if_neg (by omega)]
  simp
theorem gI_bumps {d : Int} {j : Int} : ∀ {l r : List Int}, inR r.length l → (0 ≤ j ∧ j < (r.length : Int)) → gI (l.foldl (bump d) r) j = gI r j + d * (l.count j : Int)
 | [], r, _, _ => by simp
 | k :: l, r, hl, hj => by
  have hk := hl k (List.mem_cons_self ..)
  rw [List.foldl_cons, gI_bumps (by rw [zdQ]; exact fun x hx => hl x (List.mem_cons_of_mem _ hx)) (by rw [zdQ]; exact hj), gI_bump hk hj, List.count_cons]
  by_cases h : k = j
  ·subst h
   simp only [if_pos, beq_self_eq_true]
   rw [Int.natCast_add, Int.mul_add]
   simp
   omega
  ·rw [if_neg h]
   have : (k == j) = false := by simpa using h
   simp [this]
theorem zcJ {m : Nat} (l : List (Int × Int)) : (hds m l).length = m := by
 have : ∀ (l : List (Int × Int)) (LL : List (List Int)), (l.foldl (zef m) LL).length = LL.length := by
  intro l
  induction l with
  | nil => intro LL; rfl
  | cons a l ih => intro LL; rw [List.foldl_cons, ih, zgn]
 rw [hds, this, List.length_replicate]
theorem hds_get {m : Nat} (l : List (Int × Int)) {i : Nat} (hi : i < m) : (hds m l).getD i [] = (l.filter fun a => zbK m a && a.1 == (i : Int)).map (·.2) := by
 have : ∀ (l : List (Int × Int)) (LL : List (List Int)), LL.length = m → (l.foldl (zef m) LL).getD i [] = LL.getD i [] ++ (l.filter fun a => zbK m a && a.1 == (i : Int)).map (·.2) := by
  intro l
  induction l with
  | nil => intro LL _; simp
  | cons a l ih =>
   intro LL hLL
   rw [List.foldl_cons, ih _ (zgn.trans hLL), List.filter_cons]
   unfold zef
   cases hok : zbK m a with
   | false => simp
   | true =>
    have hv := hok
    simp only [zbK, Bool.and_eq_true, decide_eq_true_eq] at hv
    simp only [if_true, Bool.true_and]
    by_cases h : a.1 = (i : Int)
    ·have h2 : (a.1 == (i : Int)) = true := by simpa using h
     rw [if_pos h2, h]
     simp only [Int.toNat_natCast, List.getD_eq_getElem?_getD, List.getElem?_set_self (by omega : i < LL.length)]
     simp
    ·have h2 : ¬ (a.1 == (i : Int)) = true := by simpa using h
     rw [if_neg h2]
     have h3 : a.1.toNat ≠ i := by omega
     simp only [List.getD_eq_getElem?_getD, List.getElem?_set_ne h3]
 rw [hds, this l _ (by simp)]
 simp [List.getD_eq_getElem?_getD, List.getElem?_replicate, hi]
theorem hds_inR {m : Nat} (l : List (Int × Int)) : ∀ to ∈ hds m l, inR m to := by
 intro to hto k hk
 obtain ⟨i, hi, rfl⟩ := List.mem_iff_getElem.1 hto
 rw [zcJ] at hi
 have h := hds_get l hi
 rw [List.getD_eq_getElem?_getD, List.getElem?_eq_getElem (by rw [zcJ]; exact hi)] at h
 simp only [Option.getD_some] at h
 rw [h, List.mem_map] at hk
 obtain ⟨a, ha, rfl⟩ := hk
 have := (List.mem_filter.1 ha).2
 simp only [zbK, Bool.and_eq_true, decide_eq_true_eq] at this
 omega
theorem flatten_nils (m : Nat) : (List.replicate m ([] : List Int)).flatten = [] := by
 induction m with
 | zero => rfl
 | succ m ih => rw [List.replicate_succ, List.flatten_cons, ih]; rfl
theorem hds_count {m : Nat} (l : List (Int × Int)) (j : Int) : (hds m l).flatten.count j = (l.filter fun a => zbK m a && a.2 == j).length := by
 have : ∀ (l : List (Int × Int)) (LL : List (List Int)), LL.length = m → (l.foldl (zef m) LL).flatten.count j = LL.flatten.count j + (l.filter fun a => zbK m a && a.2 == j).length := by
  intro l
  induction l with
  | nil => intro LL _; simp
  | cons a l ih =>
   intro LL hLL
   rw [List.foldl_cons, ih _ (zgn.trans hLL), List.filter_cons]
   unfold zef
   cases hok : zbK m a with
   | false => simp
   | true =>
    have hv := hok
    simp only [zbK, Bool.and_eq_true, decide_eq_true_eq] at hv
    have hlt : a.1.toNat < LL.length := by omega
    simp only [if_true, Bool.true_and]
    have hset : ∀ (LL : List (List Int)) (i : Nat) (h : i < LL.length) (y : Int), (LL.set i (LL.getD i [] ++ [y])).flatten.count j = LL.flatten.count j + (if y = j then 1 else 0) := by
     intro LL
     induction LL with
     | nil => intro i h; exact absurd h (Nat.not_lt_zero i)
     | cons x LL ih2 =>
      intro i h y
      cases i with
      | zero => simp [List.count_append, List.count_cons]; omega
      | succ i =>
       have := ih2 i (by simpa using h) y
       simp only [List.set_cons_succ, List.getD_cons_succ, List.flatten_cons, List.count_append, this]
       omega
    rw [hset LL _ hlt]
    by_cases h : a.2 = j
    ·have h2 : (a.2 == j) = true := by simpa using h
     rw [if_pos h, if_pos h2, List.length_cons]; omega
    ·have h2 : ¬ (a.2 == j) = true := by simpa using h
     rw [if_neg h, if_neg h2]
     omega
 rw [hds, this l _ (by simp), flatten_nils]; simp
def zdW (m : Nat) (l : List (Int × Int)) (out : List Int) (j : Int) : Nat := (l.filter fun a => zbK m a && a.2 == j && !(out.contains a.1)).length
def nxt (m : Nat) (l : List (Int × Int)) (out : List Int) : Option Nat := (List.range m).findIdx? fun (k : Nat) => !(out.contains (k : Int)) && zdW m l out (k : Int) == 0
def kahn (m : Nat) (l : List (Int × Int)) : Nat → List Int → Option (List Int)
 | 0, out => some out
 | n + 1, out => match nxt m l out with
  | none => none
  | some k => kahn m l n (out ++ [(k : Int)])
def zcj (m : Nat) (l : List (Int × Int)) : Bool × List Int := match kahn m l m [] with
 | some o => (true, o)
 | none => (false, [])
structure zej (m : Nat) (l : List (Int × Int)) (out : List Int) : Prop where
 nodup : out.Nodup
 inr : inR m out
 closed : ∀ a ∈ l, zbK m a = true → a.2 ∈ out → a.1 ∈ out
theorem nxt_spec {m : Nat} {l : List (Int × Int)} {out : List Int} {k : Nat} (h : nxt m l out = some k) : k < m ∧ (k : Int) ∉ out ∧ zdW m l out (k : Int) = 0 := by
 obtain ⟨h1, h2, _⟩ := List.findIdx?_eq_some_iff_getElem.1 h
 simp only [List.getElem_range, Bool.and_eq_true, Bool.not_eq_true', beq_iff_eq] at h2
 refine ⟨by simpa using h1, fun hc => ?_, h2.2⟩
 have := h2.1
 rw [List.contains_iff_mem.2 hc] at this
 cases this
theorem zej.step {m : Nat} {l : List (Int × Int)} {out : List Int} {k : Nat} (H : zej m l out) (h : nxt m l out = some k) : zej m l (out ++ [(k : Int)]) := by
 obtain ⟨h1, h2, h3⟩ := nxt_spec h
 refine ⟨?_, ?_, ?_⟩
 ·rw [List.nodup_append]
  refine ⟨H.nodup, by simp, fun x hx y hy => ?_⟩
  rw [List.mem_singleton] at hy
  subst hy
  exact fun e => h2 (e ▸ hx)
 ·intro x hx
  rcases List.mem_append.1 hx with h | h
  ·exact H.inr x h
  ·rw [List.mem_singleton] at h; subst h; omega
 ·intro a ha hok hx
  rcases List.mem_append.1 hx with h | h
  ·exact List.mem_append_left _ (H.closed a ha hok h)
  ·rw [List.mem_singleton] at h
   refine List.mem_append_left _ (Classical.byContradiction fun hn => ?_)
   have : a ∈ l.filter fun a => zbK m a && a.2 == (k : Int) && !(out.contains a.1) := by
    rw [List.mem_filter]
    refine ⟨ha, ?_⟩
    have hc : out.contains a.1 = false := by
     cases hc : out.contains a.1 with
     | false => rfl
     | true => exact absurd (List.contains_iff_mem.1 hc) hn
    simp [hok, h, hc]
    exact fun hm => hn hm
   have hpos := List.length_pos_of_mem this
   unfold zdW at h3
   omega
theorem indeg_out {m : Nat} {l : List (Int × Int)} {out : List Int} {k j : Int} (hk : k ∉ out) : zdW m l out j = zdW m l (out ++ [k]) j + (l.filter fun a => zbK m a && a.2 == j && a.1 == k).length := by
 unfold zdW
 induction l with
 | nil => rfl
 | cons a l ih =>
  simp only [List.filter_cons]
  by_cases h1 : (zbK m a && a.2 == j) = true
  ·rw [h1]
   simp only [Bool.true_and]
   by_cases h2 : a.1 = k
   ·have hc : out.contains a.1 = false := by
     cases hc : out.contains a.1 with
     | false => rfl
     | true => exact absurd (h2 ▸ List.contains_iff_mem.1 hc) hk
    have hc2 : (out ++ [k]).contains a.1 = true := List.contains_iff_mem.2 (by simp [h2])
    have h3 : (a.1 == k) = true := by simpa using h2
    rw [hc, hc2, h3]
    simp only [Bool.not_false, Bool.not_true, if_true, Bool.false_eq_true, if_false, List.length_cons, ih]
    omega
   ·have h3 : (a.1 == k) = false := by simpa using h2
    have hc : (out ++ [k]).contains a.1 = out.contains a.1 := by
     cases hc : out.contains a.1 with
     | true => exact List.contains_iff_mem.2 (List.mem_append_left _ (List.contains_iff_mem.1 hc))
     | false =>
      cases hc2 : (out ++ [k]).contains a.1 with
      | false => rfl
      | true =>
       rcases List.mem_append.1 (List.contains_iff_mem.1 hc2) with h | h
       ·rw [List.contains_iff_mem.2 h] at hc; cases hc
       ·exact absurd (List.mem_singleton.1 h) h2
    rw [hc, h3]
    cases out.contains a.1 with
    | true => simp only [Bool.not_true, Bool.false_eq_true, if_false]; exact ih
    | false => simp only [Bool.not_false, Bool.false_eq_true, if_false, if_true, List.length_cons]; omega
  ·have h1' : (zbK m a && a.2 == j) = false := by simpa using h1
   rw [h1']
   simpa using ih
def degs (m : Nat) (l : List (Int × Int)) (out : List Int) : List Int := (List.range m).map fun (k : Nat) => if out.contains (k : Int) then -1 else (zdW m l out (k : Int) : Int)
theorem zcR (m : Nat) (l : List (Int × Int)) (out : List Int) : (degs m l out).length = m := by simp [degs]
theorem degs_get (m : Nat) (l : List (Int × Int)) (out : List Int) {k : Nat} (h : k < m) : gI (degs m l out) (k : Int) = if out.contains (k : Int) then -1 else (zdW m l out (k : Int) : Int) := by
 rw [zbD (by rw [zcR]; exact h)]
 simp [degs]
theorem indeg_le (m : Nat) (l : List (Int × Int)) (out : List Int) (j : Int) : zdW m l out j ≤ l.length := List.length_filter_le ..
theorem row_ext {r r' : List Int} (hl : r.length = r'.length) (h : ∀ k : Nat, k < r.length → gI r (k : Int) = gI r' (k : Int)) : r = r' := by
 apply List.ext_getElem hl
 intro i h1 h2
 have := h i h1
 rwa [zbD h1, zbD h2] at this
theorem degs_start (m : Nat) (l : List (Int × Int)) : ((hds m l).flatten.foldl (bump 1) (List.replicate m 0)) = degs m l [] := by
 refine row_ext (by rw [zeg, List.length_replicate, zcR]) fun k hk => ?_
 rw [zeg, List.length_replicate] at hk
 rw [gI_bumps (fun x hx => ?_) (by rw [List.length_replicate]; omega), degs_get _ _ _ hk, hds_count]
 ·have h0 : gI (List.replicate m (0 : Int)) (k : Int) = 0 := by rw [zbD (by simpa using hk)]; simp
  rw [h0]
  simp [zdW]
 ·rw [List.length_replicate]
  obtain ⟨to, h1, h2⟩ := List.mem_flatten.1 hx
  exact hds_inR l to h1 x h2
theorem degs_step {m : Nat} {l : List (Int × Int)} {out : List Int} {k : Nat} (H : zej m l out) (h : nxt m l out = some k) :
  ((hds m l).getD k []).foldl (bump (-1)) (sI (degs m l out) (k : Int) (-1)) = degs m l (out ++ [(k : Int)]) := by
 obtain ⟨h1, h2, h3⟩ := nxt_spec h
 have hsl : (sI (degs m l out) (k : Int) (-1)).length = m := by simp [sI, zcR]
 have hin : inR m ((hds m l).getD k []) := by
  rw [List.getD_eq_getElem?_getD, List.getElem?_eq_getElem (by rw [zcJ]; exact h1)]
  exact hds_inR l _ (List.getElem_mem _)
 refine row_ext (by rw [zeg, hsl, zcR]) fun j hj => ?_
 rw [zeg, hsl] at hj
 rw [gI_bumps (by rw [hsl]; exact hin) (by rw [hsl]; omega), degs_get _ _ _ hj]
 have hset : gI (sI (degs m l out) (k : Int) (-1)) (j : Int) = if k = j then -1 else gI (degs m l out) (j : Int) := by
  rw [zbD (by rw [hsl]; exact hj)]
  by_cases hkj : k = j
  ·subst hkj; rw [if_pos rfl]; simp [sI]
  ·rw [if_neg hkj, zbD (by rw [zcR]; exact hj)]
   simp [sI, List.getElem_set_ne hkj]
 have hcnt : ((hds m l).getD k []).count (j : Int) = (l.filter fun a => zbK m a && a.2 == (j : Int) && a.1 == (k : Int)).length := by
  rw [hds_get l h1, List.count_eq_countP, List.countP_map, List.countP_eq_length_filter, List.filter_filter]
  congr 1
  apply List.filter_congr
  intro a _
  simp only [Function.comp]
  cases zbK m a <;> cases (a.1 == (k : Int)) <;> cases (a.2 == (j : Int)) <;> rfl
 rw [hset, hcnt]
 have hdec := indeg_out (m := m) (l := l) (j := (j : Int)) h2
 by_cases hkj : k = j
 ·subst hkj
  rw [if_pos rfl, if_pos (List.contains_iff_mem.2 (by simp))]
  have : zdW m l (out ++ [(k : Int)]) (k : Int) + (l.filter fun a => zbK m a && a.2 == (k : Int) && a.1 == (k : Int)).length = 0 := by omega
  omega
 ·rw [if_neg hkj, degs_get _ _ _ hj]
  by_cases hjo : (j : Int) ∈ out
  ·rw [if_pos (List.contains_iff_mem.2 hjo), if_pos (List.contains_iff_mem.2 (List.mem_append_left _ hjo))]
   have : (l.filter fun a => zbK m a && a.2 == (j : Int) && a.1 == (k : Int)).length = 0 := by
    rw [List.length_eq_zero_iff, List.filter_eq_nil_iff]
    intro a ha hc
    simp only [Bool.and_eq_true, beq_iff_eq] at hc
    obtain ⟨⟨hok, e1⟩, e2⟩ := hc
    exact h2 (e2 ▸ H.closed a ha hok (e1 ▸ hjo))
   omega
  ·have hc1 : out.contains (j : Int) = false := by
    cases hc : out.contains (j : Int) with
    | false => rfl
    | true => exact absurd (List.contains_iff_mem.1 hc) hjo
   have hc2 : (out ++ [(k : Int)]).contains (j : Int) = false := by
    cases hc : (out ++ [(k : Int)]).contains (j : Int) with
    | false => rfl
    | true =>
     rcases List.mem_append.1 (List.contains_iff_mem.1 hc) with h | h
     ·exact absurd h hjo
     ·have := List.mem_singleton.1 h; omega
   rw [hc1, hc2]
   simp only [Bool.false_eq_true, if_false]
   omega
def idxI (v : Int) (s : List Int) : Int := match s.findIdx? (· == v) with
 | some j => (j : Int)
 | none => -1
theorem idx_degs (m : Nat) (l : List (Int × Int)) (out : List Int) : idxI 0 (degs m l out) = match nxt m l out with | some k => (k : Int) | none => -1 := by
 unfold idxI degs nxt
 rw [List.findIdx?_map]
 have : ((fun x => x == (0 : Int)) ∘ fun (k : Nat) => if out.contains (k : Int) then (-1 : Int) else (zdW m l out (k : Int) : Int)) = fun (k : Nat) => !(out.contains (k : Int)) && zdW m l out (k : Int) == 0 := by
  funext k
  simp only [Function.comp]
  cases out.contains (k : Int) with
  | true => rfl
  | false =>
   simp only [Bool.false_eq_true, if_false, Bool.not_false, Bool.true_and]
   cases h : zdW m l out (k : Int) with
   | zero => rfl
   | succ n => simp; omega
 rw [this]
theorem zgb {m : Nat} {l : List (Int × Int)} : ∀ {n : Nat} {out o : List Int}, kahn m l n out = some o → o.length = out.length + n
 | 0, _, _, h => by cases h; rfl
 | n + 1, out, o, h => by
  unfold kahn at h
  split at h
  ·cases h
  ·have := zgb h
   simp at this
   omega
theorem kahn_out {m : Nat} {l : List (Int × Int)} : ∀ {n : Nat} {out o : List Int}, zej m l out → kahn m l n out = some o → zej m l o
 | 0, _, _, H, h => by cases h; exact H
 | n + 1, out, o, H, h => by
  unfold kahn at h
  split at h
  ·cases h
  ·rename_i k hk
   exact kahn_out (H.step hk) h
theorem zej.nil (m : Nat) (l : List (Int × Int)) : zej m l [] := ⟨by simp, fun x hx => (by cases hx), fun a _ _ h => (by cases h)⟩
theorem zfM (m : Nat) (l : List (Int × Int)) : zej m l (zcj m l).2 := by
 unfold zcj
 cases h : kahn m l m [] with
 | none => exact zej.nil m l
 | some o => exact kahn_out (zej.nil m l) h
def zfi (c : Nat) (r : List Int) : Prop := ∀ j : Int, 0 ≤ j ∧ j < (r.length : Int) → -(c : Int) ≤ gI r j ∧ gI r j ≤ (c : Int)
theorem zgW {c : Nat} {r : List Int} {k d : Int} (h : zfi c r) (hk : 0 ≤ k ∧ k < (r.length : Int)) (hd : d = 1 ∨ d = -1) : zfi (c + 1) (bump d r k) := fun j hj => by
 rw [zdQ] at hj
 rw [gI_bump hk hj]
 have := h j hj
 rcases hd with rfl | rfl <;> split <;> omega
theorem within_bumps {d : Int} (hd : d = 1 ∨ d = -1) : ∀ {l r : List Int} {c : Nat}, zfi c r → inR r.length l → zfi (c + l.length) (l.foldl (bump d) r)
 | [], _, _, h, _ => h
 | k :: l, r, c, h, hl => by
  have := within_bumps hd (l := l) (zgW h (hl k (List.mem_cons_self ..)) hd) (by rw [zdQ]; exact fun x hx => hl x (List.mem_cons_of_mem _ hx))
  rw [List.foldl_cons, List.length_cons]
  rwa [show c + (l.length + 1) = c + 1 + l.length by omega]
theorem within_degs (m : Nat) (l : List (Int × Int)) (out : List Int) : zfi (l.length + 1) (degs m l out) := fun j hj => by
 rw [zcR] at hj
 obtain ⟨k, rfl⟩ := Int.eq_ofNat_of_zero_le hj.1
 rw [degs_get _ _ _ (by omega)]
 have := indeg_le m l out (k : Int)
 split <;> omega
end Go.Proofs.Ytlfdidaeachpoaa
namespace Go.Proofs.Ytlfdidaeachpoaa
open Go Go.RowKit
set_option maxRecDepth 100000
noncomputable section
def zi_b26 : (Int × Int × (List Int)) → Int → RT Int (LR Int Unit)
| (v, x7, p0), x8 =>
 .rq 1 (.ite (decide (x8 < x7))
 (.rq 5 (.req (inB p0 x8) (.rq 2 (.ite (v == (gI p0 x8))
 (.rq 2 (.done (.ex x8)))
 (.rq 2 (.again (w64 (x8 + 1))))))))
 (.done (.rt ())))
def zi_p26 : zaV := ⟨26, true, [tI, tI, .sl tI], [tI], ⟨[.keep [0, 1, 7, 8], .gc], [0, 1, 7, 8], [.lf (qr 1048576), .lf (qi 0), .lf (qi 1), .lf (qm 0)], [(1048576, true, .arr 3 (qi 2))]⟩, [⟨1, ⟨[.keep [4], .gc], [4], [.lf (qm 0)], [(1048576, true, .arr 3 (qi 2))]⟩, [tI]⟩, ⟨2, ⟨[.keep [], .gc], [], [], [(1048576, true, .arr 3 (qi 2))]⟩, []⟩], zi_b26⟩
def zi : (Int × (List Int)) → RT Unit (Int × (List Int))
| (v, s) =>
 .rq 4 (.call (lo zi_b26 (v, (s.length : Int), s) 0) default fun v0 =>
 .ite v0.isRt
 (.rq 1 (.done ((-1), s)))
 (.done (v0.getX, s)))
def F_zi (x : Int × (List Int)) : Option (Int × (List Int)) := (zi x).run fun _ => none
def io_zi : Io := ⟨n_zi, [tI, .sl tI], [.lf (qr 0), .lf (qm 0)], [.arr 3 (qm 1)], [[], [tI]], [tI, .sl tI], .lf (qm 0), [(true, .arr 3 (qm 1))], [], false⟩
def zi_P : List zaV := [zi_p26]
def zi_T : zbf := tab []
theorem zi_To : zbd pg zi_T := zaX trivial
theorem zi_k26 : (zi_p26).OK pg (zi_T) (zbu 19 (zi_P)) (zbh f_zi) 19 := ⟨by kernel_rfl, fun i x => by kernel_rfl⟩
theorem zi_go : zbt pg (zi_T) io_zi f_zi (zi_P) [] (zi) := ⟨by kernel_rfl, by kernel_rfl, fun x => by kernel_rfl⟩
theorem ok_zi : io_zi.Okay pg (F_zi) := zbl zaZ (zi_To) (zi_go) ⟨zi_k26, trivial⟩
theorem idx_loop (v : Int) (p0 : List Int) (hl : p0.length ≤ 9223372036854775807) : ∀ d i : Nat, i + d = p0.length →
  lo zi_b26 (v, (p0.length : Int), p0) (i : Int) = some (match (p0.drop i).findIdx? (· == v) with | some j => .ex ((i + j : Nat) : Int) | none => .rt ())
 | 0, i, h => by
  rw [zbi, zi_b26]
  simp only [RT.run]
  rw [if_neg (by simp; omega), List.drop_eq_nil_of_le (by omega)]
  rfl
 | d + 1, i, h => by
  have hi : i < p0.length := by omega
  rw [zbi, zi_b26]
  simp only [RT.run]
  rw [if_pos (by simp; omega), if_pos (zbc.2 ⟨by omega, by omega⟩), List.drop_eq_getElem_cons hi, List.findIdx?_cons, zbD hi]
  by_cases hv : v = p0[i]
  ·rw [if_pos (by simpa using hv), if_pos (by simpa using hv.symm)]
   rfl
  ·rw [if_neg (by simpa using hv), if_neg (by simpa using fun e => hv e.symm), zbg (by omega), show (i : Int) + 1 = ((i + 1 : Nat) : Int) by omega, idx_loop v p0 hl d (i + 1) (by omega)]
   cases (p0.drop (i + 1)).findIdx? (· == v) with
   | none => rfl
   | some j => simp only [Option.map_some]; congr 3; omega
def e_zi : zbj := io_zi.sp (fun (v, s) => true) (fun (v, s) => (idxI v s, s))
theorem sp_zi (h : ∀ (v : Int) (s : List Int), WfT [tI, .sl tI] (v, s) → (zi (v, s)).run (fun _ => none) = some (idxI v s, s)) : e_zi.ok pg := zbo ok_zi fun (v, s) hw hc => h v s hw
theorem e_zi_ok : e_zi.ok pg := sp_zi fun v s hw => by
 have hl : s.length ≤ 9223372036854775807 := hw.2.1
 rw [zi]
 simp only [RT.run]
 have := idx_loop v s hl s.length 0 (by omega)
 rw [show ((0 : Nat) : Int) = 0 from rfl] at this
 rw [this, List.drop_zero]
 unfold idxI
 cases s.findIdx? (· == v) with
 | none => rfl
 | some j => simp [LR.isRt, LR.getX]
def zgg : ((List Int) × Int) → (Int × (List Int)) → RT (Int × (List Int)) (List Int)
| (x28, x29), (f, r7) =>
 .rq 1 (.ite (decide (f < x29))
 (.req (inB x28 f) (.rq 4 (let t0 := inB r7 (gI x28 f);
 .req t0 (.rq 2 (.req t0 (.rq 3 (.again (w64 (f + 1), sI r7 (gI x28 f) (w64 ((gI r7 (gI x28 f)) + 1))))))))))
 (.done r7))
def zp_p31334 : zaV := ⟨31334, true, [.sl (.sl tI), .sl (.sl tI), tI, tI, .sl tI, tI], [tI, .sl tI], ⟨[.keep [6, 7, 22, 23, 24, 28, 29, 30], .gc, .nilRow 7 800007 3 tI, .ren 7 700007, .ren 7 900007, .gc], [6, 7, 22, 23, 24, 28, 29, 30], [.lf (qi 0), .lf (qr 900007), .lf (qi 1), .lf (qi 2), .lf (qi 3), .lf (qi 4), .lf (qi 5), .lf (qm 0)], [(900007, true, .arr 3 (qm 1))]⟩, [⟨4, ⟨[.keep [6, 7, 22, 23, 24], .gc, .nilRow 7 800007 3 tI, .ren 7 700007, .ren 7 900007, .gc], [6, 7, 22, 23, 24], [.lf (qi 0), .lf (qr 900007), .lf (qi 1), .lf (qi 2), .lf (qi 3)], [(900007, true, .arr 3 (qm 0))]⟩, [.sl tI]⟩], (fun i => zgg (i.2.2.2.2.1, i.2.2.2.2.2))⟩
def zp_b122 : ((List (List Int)) × Int) → (Int × (List Int)) → RT (Int × (List Int)) (List Int)
| (a, p), (p_2, r7) =>
 .rq 1 (.ite (decide (p_2 < p))
 (.req (inB a p_2) (.rq 5 (.call (lo zgg (gI a p_2, ((gI a p_2).length : Int)) (0, r7)) default fun v0 =>
 .rq 2 (.again (w64 (p_2 + 1), v0)))))
 (.done r7))
def zp_p122 : zaV := ⟨122, true, [.sl (.sl tI), .sl (.sl tI), tI], [tI, .sl tI], ⟨[.keep [6, 7, 22, 23, 24], .gc, .nilRow 7 800007 3 tI, .ren 7 700007, .ren 7 900007, .gc], [6, 7, 22, 23, 24], [.lf (qi 0), .lf (qr 900007), .lf (qi 1), .lf (qi 2), .lf (qm 0)], [(900007, true, .arr 3 (qm 1))]⟩, [⟨2, ⟨[.keep [6, 7], .gc, .nilRow 7 800007 3 tI, .ren 7 700007, .ren 7 900007, .gc], [6, 7], [.lf (qi 0), .lf (qr 900007)], [(900007, true, .arr 3 (qm 0))]⟩, [.sl tI]⟩], (fun i => zp_b122 (i.2.1, i.2.2))⟩
def zfB : ((List Int) × Int) → (Int × (List Int)) → RT (Int × (List Int)) (List Int)
| (x61, x62), (x63, r7) =>
 .rq 1 (.ite (decide (x63 < x62))
 (.req (inB x61 x63) (.rq 4 (let t0 := inB r7 (gI x61 x63);
 .req t0 (.rq 2 (.req t0 (.rq 3 (.again (w64 (x63 + 1), sI r7 (gI x61 x63) (w64 ((gI r7 (gI x61 x63)) - 1))))))))))
 (.done r7))
def zp_p129214 : zaV := ⟨129214, true, [.sl (.sl tI), .sl tI, tI, .sl tI], [tI, .sl tI], ⟨[.keep [6, 7, 12, 61, 62, 63], .gc, .nilRow 7 800007 3 tI, .nilRow 12 800012 3 tI, .ren 7 700007, .ren 12 700012, .ren 7 900007, .ren 12 900012, .gc], [6, 7, 12, 61, 62, 63], [.lf (qi 0), .lf (qr 900007), .lf (qr 900012), .lf (qi 1), .lf (qi 2), .lf (qm 0)], [(900007, true, .arr 3 (qm 1)), (900012, true, .arr 3 (qi 3))]⟩, [⟨8, ⟨[.keep [6, 7, 12], .gc, .nilRow 7 800007 3 tI, .nilRow 12 800012 3 tI, .ren 7 700007, .ren 12 700012, .ren 7 900007, .ren 12 900012, .gc], [6, 7, 12], [.lf (qi 0), .lf (qr 900007), .lf (qr 900012)], [(900007, true, .arr 3 (qm 0)), (900012, true, .arr 3 (qi 3))]⟩, [.sl tI]⟩], (fun i => zfB (i.2.1, i.2.2.1))⟩
def zp_b252 : (List (List Int)) → ((List Int) × (List Int)) → RT ((List Int) × (List Int)) (LR Unit (List Int))
| x6, (r7, r12) =>
 .rq 5 (.ite (decide ((r12.length : Int) < (x6.length : Int)))
 (.rq 5 (.ite (decide ((idxI (0 : Int) r7) < 0))
 (.rq 2 (.done (.ex ())))
 (.rq 2 (.req (inB r7 (idxI (0 : Int) r7)) (.rq 4 (let t0 := [idxI (0 : Int) r7];
 .req (apOK 8 r12 t0) (.rq 3 (.req (inB x6 (idxI (0 : Int) r7)) (.rq 3 (let t1 := gI x6 (idxI (0 : Int) r7);
 .call (lo zfB (t1, (t1.length : Int)) (0, sI r7 (idxI (0 : Int) r7) (-1))) default fun v3 =>
 .again (v3, r12 ++ t0)))))))))))
 (.done (.rt r12)))
def zp_p252 : zaV := ⟨252, true, [.sl (.sl tI)], [.sl tI, .sl tI], ⟨[.keep [6, 7, 12], .gc, .nilRow 7 800007 3 tI, .nilRow 12 800012 3 tI, .ren 7 700007, .ren 12 700012, .ren 7 900007, .ren 12 900012, .gc], [6, 7, 12], [.lf (qi 0), .lf (qr 900007), .lf (qr 900012)], [(900007, true, .arr 3 (qm 0)), (900012, true, .arr 3 (qm 1))]⟩, [⟨1, ⟨[.keep [4, 5], .gc], [4, 5], [.lf (.fix (.nil)), .lf (.fix (.bool false))], []⟩, []⟩, ⟨6, ⟨[.keep [12], .gc, .nilRow 12 800012 3 tI, .ren 12 700012, .ren 12 900012, .gc], [12], [.lf (qr 900012)], [(900012, true, .arr 3 (qm 0))]⟩, [.sl tI]⟩], zp_b252⟩
def zp : (Int × (List (Int × Int))) → RT Unit (Bool × (List Int))
| (a0, l) =>
 .rq 4 (.req ((decide (l.length ≤ 1000000))) (.rq 3 (let t0 := (((hds (dm a0) l)).length : Int);
 .req (mkOK 8 t0) (.rq 4 (.call (lo zp_b122 ((hds (dm a0) l), t0) (0, zbV t0 0)) default fun v1 =>
 .rq 1 (.call (lo zp_b252 ((hds (dm a0) l)) (v1, [])) default fun v4 =>
 .ite v4.isRt
 (.rq 3 (.done (true, v4.getR)))
 (.done (false, []))))))))
def F_zp (x : Int × (List (Int × Int))) : Option (Bool × (List Int)) := (zp x).run fun _ => none
def io_zp : Io := ⟨n_zp, [tI, .sl (.pair tI tI)], [.lf (qm 0), .lf (qm 1)], [], [[tI], [.sl (.pair tI tI)]], [tB, .sl tI], .tup [(false, [qr 0]), (false, [qm 0])], [], [(true, .arr 3 (qm 1))], false⟩
def zp_P : List zaV := [zp_p31334, zp_p122, zp_p129214, zp_p252]
def zp_T : zbf := tab [e_zi, e_zah]
theorem zp_To : zbd pg zp_T := zaX ⟨e_zi_ok, e_zah_ok, trivial⟩
theorem zp_k31334 : (zp_p31334).OK pg (zp_T) (zbu 75 (zp_P)) (zbh f_zp) 75 := ⟨by kernel_rfl, fun i x => by kernel_rfl⟩
theorem zp_k122 : (zp_p122).OK pg (zp_T) (zbu 75 (zp_P)) (zbh f_zp) 75 := ⟨by kernel_rfl, fun i x => by kernel_rfl⟩
theorem zp_k129214 : (zp_p129214).OK pg (zp_T) (zbu 75 (zp_P)) (zbh f_zp) 75 := ⟨by kernel_rfl, fun i x => by kernel_rfl⟩
theorem zp_k252 : (zp_p252).OK pg (zp_T) (zbu 75 (zp_P)) (zbh f_zp) 75 := ⟨by kernel_rfl, fun i x => by kernel_rfl⟩
theorem zp_go : zbt pg (zp_T) io_zp f_zp (zp_P) [.nilRow 4 800004 3 tI, .ren 4 700004, .ren 4 900004] (zp) := ⟨by kernel_rfl, by kernel_rfl, fun x => by kernel_rfl⟩
theorem ok_zp : io_zp.Okay pg (F_zp) := zbl zaZ (zp_To) (zp_go) ⟨zp_k31334, zp_k122, zp_k129214, zp_k252, trivial⟩
theorem inc_loop (to : List Int) : ∀ (d i : Nat) (r : List Int) (c : Nat), i + d = to.length → inR r.length to → zfi c r → c + d ≤ 4611686018427387904 → to.length ≤ 4611686018427387904 →
  lo zgg (to, (to.length : Int)) ((i : Int), r) = some ((to.drop i).foldl (bump 1) r)
 | 0, i, r, c, h, _, _, _, _ => by
  rw [zbi, zgg]
  simp only [RT.run]
  rw [if_neg (by simp; omega), List.drop_eq_nil_of_le (by omega)]
  rfl
 | d + 1, i, r, c, h, hr, hw, hc, hl => by
  have hi : i < to.length := by omega
  have hk := hr _ (List.getElem_mem hi)
  have hv := hw _ hk
  rw [zbi, zgg]
  simp only [RT.run]
  rw [if_pos (by simp; omega), if_pos (zbc.2 ⟨by omega, by omega⟩), zbD hi, if_pos (zbc.2 hk), if_pos (zbc.2 hk), zbg (by omega), zbg (by omega), show (i : Int) + 1 = ((i + 1 : Nat) : Int) by omega]
  have := inc_loop to d (i + 1) (bump 1 r to[i]) (c + 1) (by omega) (by rw [zdQ]; exact hr) (zgW hw hk (.inl rfl)) (by omega) hl
  unfold bump at this
  rw [this, List.drop_eq_getElem_cons hi, List.foldl_cons]
  rfl
theorem dec_loop (to : List Int) : ∀ (d i : Nat) (r : List Int) (c : Nat), i + d = to.length → inR r.length to → zfi c r → c + d ≤ 4611686018427387904 → to.length ≤ 4611686018427387904 →
  lo zfB (to, (to.length : Int)) ((i : Int), r) = some ((to.drop i).foldl (bump (-1)) r)
 | 0, i, r, c, h, _, _, _, _ => by
  rw [zbi, zfB]
  simp only [RT.run]
  rw [if_neg (by simp; omega), List.drop_eq_nil_of_le (by omega)]
  rfl
 | d + 1, i, r, c, h, hr, hw, hc, hl => by
  have hi : i < to.length := by omega
  have hk := hr _ (List.getElem_mem hi)
  have hv := hw _ hk
  rw [zbi, zfB]
  simp only [RT.run]
  rw [if_pos (by simp; omega), if_pos (zbc.2 ⟨by omega, by omega⟩), zbD hi, if_pos (zbc.2 hk), if_pos (zbc.2 hk), zbg (by omega), zbg (by omega), show (i : Int) + 1 = ((i + 1 : Nat) : Int) by omega, show gI r to[i] - 1 = gI r to[i] + -1 by omega]
  have := dec_loop to d (i + 1) (bump (-1) r to[i]) (c + 1) (by omega) (by rw [zdQ]; exact hr) (zgW hw hk (.inr rfl)) (by omega) hl
  unfold bump at this
  rw [this, List.drop_eq_getElem_cons hi, List.foldl_cons]
  rfl
theorem incs_loop (h : List (List Int)) (m : Nat) (hm : ∀ to ∈ h, inR m to) (hlen : h.length ≤ 4096) : ∀ (d i : Nat) (r : List Int) (c : Nat), i + d = h.length → r.length = m → zfi c r → c + (h.drop i).flatten.length ≤ 4611686018427387904 →
  lo zp_b122 (h, (h.length : Int)) ((i : Int), r) = some ((h.drop i).flatten.foldl (bump 1) r)
 | 0, i, r, c, hd, _, _, _ => by
  rw [zbi, zp_b122]
  simp only [RT.run]
  rw [if_neg (by simp; omega), List.drop_eq_nil_of_le (by omega)]
  rfl
 | d + 1, i, r, c, hd, hr, hw, hc => by
  have hi : i < h.length := by omega
  have hto := hm _ (List.getElem_mem hi)
  rw [List.drop_eq_getElem_cons hi, List.flatten_cons, List.length_append] at hc
  rw [zbi, zp_b122]
  simp only [RT.run]
  rw [if_pos (by simp; omega), if_pos (zbc.2 ⟨by omega, by omega⟩), zbD hi]
  have h1 := inc_loop h[i] h[i].length 0 r c (by omega) (by rw [hr]; exact hto) hw (by omega) (by omega)
  rw [show ((0 : Nat) : Int) = 0 from rfl] at h1
  rw [h1, List.drop_zero, Option.bind_some, zbg (by omega), show (i : Int) + 1 = ((i + 1 : Nat) : Int) by omega,
   incs_loop h m hm hlen d (i + 1) _ (c + h[i].length) (by omega) (by rw [zeg, hr]) (within_bumps (.inl rfl) hw (by rw [hr]; exact hto)) (by omega), List.drop_eq_getElem_cons hi, List.flatten_cons, List.foldl_append]
theorem order_loop (m : Nat) (l : List (Int × Int)) (hm : m ≤ 4096) (hl : l.length ≤ 1000000) : ∀ (n : Nat) (out : List Int), out.length + n = m → zej m l out →
  lo zp_b252 (hds m l) (degs m l out, out) = some (match kahn m l n out with | some o => .rt o | none => .ex ())
 | 0, out, h, _ => by
  rw [zbi, zp_b252]
  simp only [RT.run]
  rw [if_neg (by simp [zcJ]; omega)]
  rfl
 | n + 1, out, h, H => by
  rw [zbi, zp_b252]
  simp only [RT.run]
  rw [if_pos (by simp [zcJ]; omega), idx_degs]
  unfold kahn
  cases hn : nxt m l out with
  | none => rw [if_pos (by decide)]
  | some k =>
   obtain ⟨h1, h2, h3⟩ := nxt_spec hn
   have hmax : maxLen = 9223372036854775807 := by decide
   simp only
   rw [if_neg (by simp), if_pos (zbc.2 ⟨by omega, by rw [zcR]; omega⟩), if_pos (zds.2 ⟨by simp; omega, by simp; omega⟩), if_pos (zbc.2 ⟨by omega, by rw [zcJ]; omega⟩)]
   have zba : gI (hds m l) (k : Int) = (hds m l).getD k [] := zed _ _
   rw [zba]
   have hmem : (hds m l).getD k [] ∈ hds m l := by
    rw [List.getD_eq_getElem?_getD, List.getElem?_eq_getElem (by rw [zcJ]; exact h1)]
    exact List.getElem_mem _
   have hlen : ((hds m l).getD k []).length ≤ l.length := by
    rw [hds_get l h1, List.length_map]; exact List.length_filter_le ..
   have hsl : (sI (degs m l out) (k : Int) (-1)).length = m := by simp [sI, zcR]
   have hws : zfi (l.length + 1) (sI (degs m l out) (k : Int) (-1)) := fun j hj => by
    rw [hsl] at hj
    obtain ⟨j, rfl⟩ := Int.eq_ofNat_of_zero_le hj.1
    have hb := within_degs m l out (j : Int) (by rw [zcR]; omega)
    have : gI (sI (degs m l out) (k : Int) (-1)) (j : Int) = if k = j then -1 else gI (degs m l out) (j : Int) := by
     rw [zbD (by rw [hsl]; omega)]
     by_cases hkj : k = j
     ·subst hkj; rw [if_pos rfl]; simp [sI]
     ·rw [if_neg hkj, zbD (by rw [zcR]; omega)]
      simp [sI, List.getElem_set_ne hkj]
    rw [this]
    split <;> omega
   have hd := dec_loop ((hds m l).getD k []) _ 0 (sI (degs m l out) (k : Int) (-1)) (l.length + 1) (Nat.zero_add _) (by rw [hsl]; exact hds_inR l _ hmem) hws (by omega) (by omega)
   rw [show ((0 : Nat) : Int) = 0 from rfl] at hd
   rw [hd, List.drop_zero, degs_step H hn, Option.bind_some]
   exact order_loop m l hm hl n (out ++ [(k : Int)]) (by simp; omega) (H.step hn)
def e_zp : zbj := io_zp.sp (fun (n, l) => (decide (l.length ≤ 1000000))) (fun (n, l) => (zcj (dm n) l))
theorem sp_zp (h : ∀ (n : Int) (l : List (Int × Int)), WfT [tI, .sl (.pair tI tI)] (n, l) → ((decide (l.length ≤ 1000000))) = true → (zp (n, l)).run (fun _ => none) = some (zcj (dm n) l)) : e_zp.ok pg := zbo ok_zp fun (n, l) hw hc => h n l hw hc
theorem e_zp_ok : e_zp.ok pg := sp_zp fun n l hw hc => by
 have hl := of_decide_eq_true hc
 have hm := dm_le n
 generalize hme : dm n = m at *
 rw [zp]
 simp only [RT.run]
 rw [hme, if_pos hc, zcJ, if_pos (zcK.2 ⟨by omega, by omega, by omega⟩)]
 have hw0 : zfi 0 (List.replicate m (0 : Int)) := fun j hj => by
  rw [List.length_replicate] at hj
  obtain ⟨j, rfl⟩ := Int.eq_ofNat_of_zero_le hj.1
  have h0 : gI (List.replicate m (0 : Int)) (j : Int) = 0 := by rw [zbD (by simpa using hj.2)]; simp
  rw [h0]; simp
 have hfl : (hds m l).flatten.length ≤ 4096 * 1000000 := by
  have hb : ∀ (LL : List (List Int)) (b : Nat), (∀ x ∈ LL, x.length ≤ b) → LL.flatten.length ≤ LL.length * b := by
   intro LL b
   induction LL with
   | nil => simp
   | cons x LL ih =>
    intro h
    have h1 := h x (List.mem_cons_self ..)
    have h2 := ih fun y hy => h y (List.mem_cons_of_mem _ hy)
    rw [List.flatten_cons, List.length_append, List.length_cons, Nat.succ_mul]
    omega
  have := hb (hds m l) 1000000 fun x hx => by
   rw [← hds_upto] at hx
   exact Nat.le_trans (hsUpto_len (Nat.le_refl _) x hx) hl
  rw [zcJ] at this
  exact Nat.le_trans this (Nat.mul_le_mul_right _ hm)
 have h1 := incs_loop (hds m l) m (hds_inR l) (by rw [zcJ]; exact hm) m 0 (List.replicate m 0) 0 (by rw [zcJ]; omega) (by simp) hw0 (by rw [List.drop_zero]; omega)
 rw [zcJ, show ((0 : Nat) : Int) = 0 from rfl, List.drop_zero, degs_start] at h1
 rw [zbV, Int.toNat_natCast, h1, Option.bind_some, order_loop m l hm hl m [] (by simp) ⟨by simp, fun x hx => (by cases hx), fun a _ _ h => (by cases h)⟩, Option.bind_some]
 unfold zcj
 cases kahn m l m [] with
 | none => rfl
 | some o => rfl
def zZ : (Int × (List Bool) × (List Tk) × (List Th) × (List Lk) × (List Int) × Int) → RT Unit (Bool × (List Bool) × (List Tk) × (List Th) × (List Lk) × (List Int) × Int)
| (c, a1_0, a1_1, a1_2, a1_3, a1_4, a1_5) =>
 .rq 4 (.req (inB a1_0 c) (.rq 3 (.done (!(gI a1_0 c), a1_0, a1_1, a1_2, a1_3, a1_4, a1_5))))
def F_zZ (x : Int × (List Bool) × (List Tk) × (List Th) × (List Lk) × (List Int) × Int) : Option (Bool × (List Bool) × (List Tk) × (List Th) × (List Lk) × (List Int) × Int) := (zZ x).run fun _ => none
def io_zZ : Io := ⟨n_zZ, [tI, .sl tB, .sl yK, .sl yH, .sl yL, .sl tI, tI], [.lf (qm 0), .lf (qp 0)], [.cells [qm 1, qm 2, qm 3, qm 4, qm 5, qm 6]], [[tI], []], [tB, .sl tB, .sl yK, .sl yH, .sl yL, .sl tI, tI], .lf (qm 0), [(true, .cells [qm 1, qm 2, qm 3, qm 4, qm 5, qm 6])], [], true⟩
def zZ_P : List zaV := []
def zZ_T : zbf := tab []
theorem zZ_To : zbd pg zZ_T := zaX trivial
theorem zZ_go : zbt pg (zZ_T) io_zZ f_zZ (zZ_P) [] (zZ) := ⟨by kernel_rfl, by kernel_rfl, fun x => by kernel_rfl⟩
theorem ok_zZ : io_zZ.Okay pg (F_zZ) := zbl zaZ (zZ_To) (zZ_go) trivial
def e_zZ : zbj := io_zZ.sp (fun (c, coins, tickets, threads, locks, queue, quantum) => (inB coins c)) (fun (c, coins, tickets, threads, locks, queue, quantum) => (!(gI coins c), coins, tickets, threads, locks, queue, quantum))
theorem sp_zZ (h : ∀ (c : Int) (coins : List Bool) (tickets : List Tk) (threads : List Th) (locks : List Lk) (queue : List Int) (quantum : Int), WfT [tI, .sl tB, .sl yK, .sl yH, .sl yL, .sl tI, tI] (c, coins, tickets, threads, locks, queue, quantum) → ((inB coins c)) = true → (zZ (c, coins, tickets, threads, locks, queue, quantum)).run (fun _ => none) = some (!(gI coins c), coins, tickets, threads, locks, queue, quantum)) : e_zZ.ok pg := zbo ok_zZ fun (c, coins, tickets, threads, locks, queue, quantum) hw hc => h c coins tickets threads locks queue quantum hw hc
theorem e_zZ_ok : e_zZ.ok pg := sp_zZ fun c coins tickets threads locks queue quantum _ hc => by
 rw [zZ]
 simp only [RT.run]
 rw [if_pos hc]
def zf_b26 : (Int × (List Int) × (List Bool) × (List Tk) × (List Th) × (List Lk) × (List Int) × Int) → Int → RT Int (LR Int Unit)
| (x7, p0, p1_0, p1_1, p1_2, p1_3, p1_4, p1_5), x8 =>
 .rq 1 (.ite (decide (x8 < x7))
 (.rq 5 (.req (inB p0 x8) (.rq 1 (.req ((inB p1_0 (gI p0 x8))) (.ite (!(gI p1_0 (gI p0 x8)))
 (.rq 2 (.done (.ex x8)))
 (.rq 2 (.again (w64 (x8 + 1)))))))))
 (.done (.rt ())))
def zf_p26 : zaV := ⟨26, true, [tI, .sl tI, .sl tB, .sl yK, .sl yH, .sl yL, .sl tI, tI], [tI], ⟨[.keep [0, 1, 7, 8], .gc], [0, 1, 7, 8], [.lf (qr 1048576), .lf (.fix (.fn 134 [1048577])), .lf (qi 0), .lf (qm 0)], [(1048576, true, .arr 3 (qi 1)), (1048577, true, .cells [qi 2, qi 3, qi 4, qi 5, qi 6, qi 7])]⟩, [⟨1, ⟨[.keep [4], .gc], [4], [.lf (qm 0)], [(1048576, true, .arr 3 (qi 1)), (1048577, true, .cells [qi 2, qi 3, qi 4, qi 5, qi 6, qi 7])]⟩, [tI]⟩, ⟨2, ⟨[.keep [], .gc], [], [], [(1048576, true, .arr 3 (qi 1)), (1048577, true, .cells [qi 2, qi 3, qi 4, qi 5, qi 6, qi 7])]⟩, []⟩], zf_b26⟩
def zf : ((List Int) × (List Bool) × (List Tk) × (List Th) × (List Lk) × (List Int) × Int) → RT Unit (Int × (List Int) × (List Bool) × (List Tk) × (List Th) × (List Lk) × (List Int) × Int)
| (s, f_1, f_2, f_3, f_4, f_5, f_6) =>
 .rq 4 (.call (lo zf_b26 ((s.length : Int), s, f_1, f_2, f_3, f_4, f_5, f_6) 0) default fun v0 =>
 .ite v0.isRt
 (.rq 1 (.done ((-1), s, f_1, f_2, f_3, f_4, f_5, f_6)))
 (.done (v0.getX, s, f_1, f_2, f_3, f_4, f_5, f_6)))
def F_zf (x : (List Int) × (List Bool) × (List Tk) × (List Th) × (List Lk) × (List Int) × Int) : Option (Int × (List Int) × (List Bool) × (List Tk) × (List Th) × (List Lk) × (List Int) × Int) := (zf x).run fun _ => none
def io_zf : Io := ⟨n_zf, [.sl tI, .sl tB, .sl yK, .sl yH, .sl yL, .sl tI, tI], [.lf (qr 0), .lf (.fix (.fn 134 [1]))], [.arr 3 (qm 0), .cells [qm 1, qm 2, qm 3, qm 4, qm 5, qm 6]], [[], []], [tI, .sl tI, .sl tB, .sl yK, .sl yH, .sl yL, .sl tI, tI], .lf (qm 0), [(true, .arr 3 (qm 1)), (true, .cells [qm 2, qm 3, qm 4, qm 5, qm 6, qm 7])], [], true⟩
def zf_P : List zaV := [zf_p26]
def zf_T : zbf := tab [e_zZ]
theorem zf_To : zbd pg zf_T := zaX ⟨e_zZ_ok, trivial⟩
theorem zf_k26 : (zf_p26).OK pg (zf_T) (zbu 19 (zf_P)) (zbh f_zf) 19 := ⟨by kernel_rfl, fun i x => by kernel_rfl⟩
theorem zf_go : zbt pg (zf_T) io_zf f_zf (zf_P) [] (zf) := ⟨by kernel_rfl, by kernel_rfl, fun x => by kernel_rfl⟩
theorem ok_zf : io_zf.Okay pg (F_zf) := zbl zaZ (zf_To) (zf_go) ⟨zf_k26, trivial⟩
def idxF (p : Int → Bool) (s : List Int) : Int := match s.findIdx? p with
 | some j => (j : Int)
 | none => -1
theorem allIn_get {coins : List Bool} {s : List Int} (h : s.all (inB coins) = true) {i : Nat} (hi : i < s.length) : inB coins s[i] = true := List.all_eq_true.1 h _ (List.getElem_mem hi)
theorem idxF_loop (s : List Int) (coins : List Bool) (t : List Tk) (th : List Th) (lk : List Lk) (q : List Int) (u : Int) (hl : s.length ≤ 9223372036854775807) (hc : s.all (inB coins) = true) : ∀ d i : Nat, i + d = s.length →
  lo zf_b26 ((s.length : Int), s, coins, t, th, lk, q, u) (i : Int) = some (match (s.drop i).findIdx? (fun c => !(gI coins c)) with | some j => .ex ((i + j : Nat) : Int) | none => .rt ())
 | 0, i, h => by
  rw [zbi, zf_b26]
  simp only [RT.run]
  rw [if_neg (by simp; omega), List.drop_eq_nil_of_le (by omega)]
  rfl
 | d + 1, i, h => by
  have hi : i < s.length := by omega
  rw [zbi, zf_b26]
  simp only [RT.run]
  rw [if_pos (by simp; omega), if_pos (zbc.2 ⟨by omega, by omega⟩), List.drop_eq_getElem_cons hi, List.findIdx?_cons, zbD hi, if_pos (allIn_get hc hi)]
  by_cases hv : (!(gI coins s[i])) = true
  ·rw [if_pos hv, if_pos hv]
   rfl
  ·rw [if_neg hv, if_neg hv, zbg (by omega), show (i : Int) + 1 = ((i + 1 : Nat) : Int) by omega, idxF_loop s coins t th lk q u hl hc d (i + 1) (by omega)]
   cases (s.drop (i + 1)).findIdx? (fun c => !(gI coins c)) with
   | none => rfl
   | some j => simp only [Option.map_some]; congr 3; omega
def e_zf : zbj := io_zf.sp (fun (s, coins, tickets, threads, locks, queue, quantum) => (s.all (inB coins))) (fun (s, coins, tickets, threads, locks, queue, quantum) => (idxF (fun c => !(gI coins c)) s, s, coins, tickets, threads, locks, queue, quantum))
theorem sp_zf (h : ∀ (s : List Int) (coins : List Bool) (tickets : List Tk) (threads : List Th) (locks : List Lk) (queue : List Int) (quantum : Int), WfT [.sl tI, .sl tB, .sl yK, .sl yH, .sl yL, .sl tI, tI] (s, coins, tickets, threads, locks, queue, quantum) → ((s.all (inB coins))) = true → (zf (s, coins, tickets, threads, locks, queue, quantum)).run (fun _ => none) = some (idxF (fun c => !(gI coins c)) s, s, coins, tickets, threads, locks, queue, quantum)) : e_zf.ok pg := zbo ok_zf fun (s, coins, tickets, threads, locks, queue, quantum) hw hc => h s coins tickets threads locks queue quantum hw hc
theorem e_zf_ok : e_zf.ok pg := sp_zf fun s coins tickets threads locks queue quantum hw hc => by
 have hl : s.length ≤ 9223372036854775807 := hw.1.1
 rw [zf]
 simp only [RT.run]
 have := idxF_loop s coins tickets threads locks queue quantum hl hc s.length 0 (by omega)
 rw [show ((0 : Nat) : Int) = 0 from rfl] at this
 rw [this, List.drop_zero]
 unfold idxF
 cases s.findIdx? (fun c => !(gI coins c)) with
 | none => rfl
 | some j => simp [LR.isRt, LR.getX]
def ze_b122 : ((List Bool) × (List Tk) × (List Th) × (List Lk) × (List Int) × Int) → (Int × Int × (List Int)) → RT (Int × Int × (List Int)) (Int × (List Int))
| (p1_0, p1_1, p1_2, p1_3, p1_4, p1_5), (i, j, p0) =>
 .rq 4 (.ite (decide (j < (p0.length : Int)))
 (.rq 2 (.req (inB p0 j) (.rq 4 (.req ((inB p1_0 (gI p0 j))) (.rq 1 (let t0 := w64 (j + 1);
 .ite (!(!(gI p1_0 (gI p0 j))))
 (.rq 3 (.req (inB p0 i) (.rq 7 (.again (w64 (i + 1), t0, sI p0 i (gI p0 j))))))
 (.rq 3 (.again (i, t0, p0)))))))))
 (.done (i, p0)))
def ze_p122 : zaV := ⟨122, true, [.sl tB, .sl yK, .sl yH, .sl yL, .sl tI, tI], [tI, tI, .sl tI], ⟨[.keep [0, 1, 5, 6], .gc], [0, 1, 5, 6], [.lf (qr 1048576), .lf (.fix (.fn 134 [1048577])), .lf (qm 0), .lf (qm 1)], [(1048576, true, .arr 3 (qm 2)), (1048577, true, .cells [qi 0, qi 1, qi 2, qi 3, qi 4, qi 5])]⟩, [⟨2, ⟨[.keep [0, 5], .gc], [0, 5], [.lf (qr 1048576), .lf (qm 0)], [(1048576, true, .arr 3 (qm 1)), (1048577, true, .cells [qi 0, qi 1, qi 2, qi 3, qi 4, qi 5])]⟩, [tI, .sl tI]⟩], ze_b122⟩
def ze : ((List Int) × (List Bool) × (List Tk) × (List Th) × (List Lk) × (List Int) × Int) → RT Unit ((List Int) × (List Bool) × (List Tk) × (List Th) × (List Lk) × (List Int) × Int)
| (s, del_1, del_2, del_3, del_4, del_5, del_6) =>
 .rq 3 (.req ((s.all (inB del_1))) (.rq 3 (let t0 := idxF (fun c => !(gI del_1 c)) s;
 .ite (t0 == (-1))
 (.rq 2 (.done (s, del_1, del_2, del_3, del_4, del_5, del_6)))
 (.rq 3 (.call (lo ze_b122 (del_1, del_2, del_3, del_4, del_5, del_6) (t0, w64 (t0 + 1), s)) default fun v0 =>
 .rq 2 (.req (dropOK v0.2 v0.1) (.rq 2 (let t1 := clrI v0.2 v0.1 0;
 .req (takeOK t1 v0.1) (.rq 1 (.done (takeI t1 v0.1, del_1, del_2, del_3, del_4, del_5, del_6)))))))))))
def F_ze (x : (List Int) × (List Bool) × (List Tk) × (List Th) × (List Lk) × (List Int) × Int) : Option ((List Int) × (List Bool) × (List Tk) × (List Th) × (List Lk) × (List Int) × Int) := (ze x).run fun _ => none
def io_ze : Io := ⟨n_ze, [.sl tI, .sl tB, .sl yK, .sl yH, .sl yL, .sl tI, tI], [.lf (qr 0), .lf (.fix (.fn 134 [1]))], [.arr 3 (qm 0), .cells [qm 1, qm 2, qm 3, qm 4, qm 5, qm 6]], [[], []], [.sl tI, .sl tB, .sl yK, .sl yH, .sl yL, .sl tI, tI], .lf (qm 0), [(false, .dead), (true, .cells [qm 1, qm 2, qm 3, qm 4, qm 5, qm 6])], [], true⟩
def ze_P : List zaV := [ze_p122]
def ze_T : zbf := tab [e_zf, e_zZ]
theorem ze_To : zbd pg ze_T := zaX ⟨e_zf_ok, e_zZ_ok, trivial⟩
theorem ze_k122 : (ze_p122).OK pg (ze_T) (zbu 42 (ze_P)) (zbh f_ze) 42 := ⟨by kernel_rfl, fun i x => by kernel_rfl⟩
theorem ze_go : zbt pg (ze_T) io_ze f_ze (ze_P) [.toDat 4, .den 4 [.sl tI]] (ze) := ⟨by kernel_rfl, by kernel_rfl, fun x => by kernel_rfl⟩
theorem ok_ze : io_ze.Okay pg (F_ze) := zbl zaZ (ze_To) (ze_go) ⟨ze_k122, trivial⟩
theorem del_loop (s : List Int) (coins : List Bool) (t : List Tk) (th : List Th) (lk : List Lk) (q : List Int) (u : Int) (hl : s.length ≤ 9223372036854775807) (hc : s.all (inB coins) = true) : ∀ (d i j : Nat) (p0 : List Int), j + d = s.length → i ≤ j → p0.length = s.length →
  p0.take i = (s.take j).filter (gI coins) → p0.drop j = s.drop j → ∃ (i' : Nat) (p1 : List Int), lo ze_b122 (coins, t, th, lk, q, u) ((i : Int), (j : Int), p0) = some ((i' : Int), p1) ∧ i' ≤ p1.length ∧ p1.length = s.length ∧ p1.take i' = s.filter (gI coins)
 | 0, i, j, p0, h, hij, hp, h1, _ => by
  refine ⟨i, p0, ?_, by omega, hp, by rw [h1, List.take_of_length_le (by omega)]⟩
  rw [zbi, ze_b122]
  simp only [RT.run]
  rw [if_neg (by simp; omega)]
 | d + 1, i, j, p0, h, hij, hp, h1, h2 => by
  have hj : j < s.length := by omega
  have hj0 : j < p0.length := by omega
  have he : p0[j] = s[j] := by
   have := congrArg (fun l => l[0]?) h2
   simp only [List.getElem?_drop, Nat.add_zero, List.getElem?_eq_getElem hj0, List.getElem?_eq_getElem hj] at this
   exact Option.some.inj this
  have htk : (s.take (j + 1)).filter (gI coins) = (s.take j).filter (gI coins) ++ (if gI coins s[j] = true then [s[j]] else []) := by
   rw [List.take_add_one, List.getElem?_eq_getElem hj, List.filter_append]
   simp [List.filter_cons]
  rw [zbi, ze_b122]
  simp only [RT.run]
  rw [if_pos (by simp; omega), if_pos (zbc.2 ⟨by omega, by omega⟩), zbD hj0, he, if_pos (allIn_get hc hj), zbg (by omega), Bool.not_not]
  by_cases hk : gI coins s[j] = true
  ·rw [if_pos hk, if_pos (zbc.2 ⟨by omega, by omega⟩), zbg (by omega), show (i : Int) + 1 = ((i + 1 : Nat) : Int) by omega, show (j : Int) + 1 = ((j + 1 : Nat) : Int) by omega]
   refine del_loop s coins t th lk q u hl hc d (i + 1) (j + 1) _ (by omega) (by omega) (by simp [sI, hp]) ?_ ?_
   ·rw [htk, if_pos hk, ← h1, sI, Int.toNat_natCast]
    rw [List.take_add_one, List.getElem?_set_self (by omega), List.take_set_of_le (Nat.le_refl _)]
    rfl
   ·rw [sI, Int.toNat_natCast, List.drop_set_of_lt (by omega)]
    have := congrArg (List.drop 1) h2
    simpa [List.drop_drop] using this
  ·rw [if_neg hk, zbg (by omega), show (j : Int) + 1 = ((j + 1 : Nat) : Int) by omega]
   refine del_loop s coins t th lk q u hl hc d i (j + 1) p0 (by omega) (by omega) hp ?_ ?_
   ·rw [htk, if_neg hk, List.append_nil, h1]
   ·have := congrArg (List.drop 1) h2
    simpa [List.drop_drop] using this
def e_ze : zbj := io_ze.sp (fun (s, coins, tickets, threads, locks, queue, quantum) => (s.all (inB coins))) (fun (s, coins, tickets, threads, locks, queue, quantum) => (s.filter (gI coins), coins, tickets, threads, locks, queue, quantum))
theorem sp_ze (h : ∀ (s : List Int) (coins : List Bool) (tickets : List Tk) (threads : List Th) (locks : List Lk) (queue : List Int) (quantum : Int), WfT [.sl tI, .sl tB, .sl yK, .sl yH, .sl yL, .sl tI, tI] (s, coins, tickets, threads, locks, queue, quantum) → ((s.all (inB coins))) = true → (ze (s, coins, tickets, threads, locks, queue, quantum)).run (fun _ => none) = some (s.filter (gI coins), coins, tickets, threads, locks, queue, quantum)) : e_ze.ok pg := zbo ok_ze fun (s, coins, tickets, threads, locks, queue, quantum) hw hc => h s coins tickets threads locks queue quantum hw hc
theorem e_ze_ok : e_ze.ok pg := sp_ze fun s coins tickets threads locks queue quantum hw hc => by
 have hl : s.length ≤ 9223372036854775807 := hw.1.1
 rw [ze]
 simp only [RT.run]
 rw [if_pos hc]
 unfold idxF
 cases hi : s.findIdx? (fun c => !(gI coins c)) with
 | none =>
  rw [if_pos (by rfl)]
  have := List.findIdx?_eq_none_iff.1 hi
  rw [List.filter_eq_self.2 fun x hx => by simpa using this x hx]
 | some j =>
  obtain ⟨hj, hk, hbef⟩ := List.findIdx?_eq_some_iff_getElem.1 hi
  have hne : ¬ (((j : Int) == -1) = true) := by simp
  simp only
  rw [if_neg hne, zbg (by omega), show (j : Int) + 1 = ((j + 1 : Nat) : Int) by omega]
  have hbf : (s.take (j + 1)).filter (gI coins) = s.take j := by
   rw [List.take_add_one, List.getElem?_eq_getElem hj, List.filter_append]
   have h1 : (s.take j).filter (gI coins) = s.take j := List.filter_eq_self.2 fun x hx => by
    obtain ⟨k, hk1, rfl⟩ := List.mem_iff_getElem.1 hx
    have hkj : k < j := by simp at hk1; omega
    have := hbef k hkj
    simp only [List.getElem_take]
    simpa using this
   have h2 : gI coins s[j] = false := by simpa using hk
   rw [h1]
   simp [h2]
  obtain ⟨i', p1, h1, h2, h3, h4⟩ := del_loop s coins tickets threads locks queue quantum hl hc (s.length - (j + 1)) j (j + 1) s (by omega) (by omega) rfl hbf.symm rfl
  rw [h1, Option.bind_some]
  have hd : dropOK p1 (i' : Int) = true := by simp [dropOK]; omega
  have hcl : (clrI p1 (i' : Int) 0).length = p1.length := by simp [clrI]; omega
  have ht : takeOK (clrI p1 (i' : Int) 0) (i' : Int) = true := by simp [takeOK, hcl]; omega
  simp only
  rw [if_pos hd, if_pos ht]
  have he : takeI (clrI p1 (i' : Int) 0) (i' : Int) = s.filter (gI coins) := by
   rw [← h4]
   simp only [takeI, clrI, Int.toNat_natCast]
   rw [List.take_append_of_le_length (by simp; omega), List.take_take, Nat.min_self]
  rw [he]
end
end Go.Proofs.Ytlfdidaeachpoaa
namespace Go.Proofs.Ytlfdidaeachpoaa
open Go Go.RowKit
theorem wpR_n {rd : Option Nat} {n m : Nat} {P : Program} {c : Code} {Q : Exit → Act → World → Prop} {a : Act} {w : World} (h : c.wpIn (Fw rd) n P Q a w) : c.wpIn (Fw rd) m P Q a w :=
 fun b k cs h1 h2 _ => h b k cs h1 h2 fun _ h => (by cases h)
def zcp (w : World) (b : Nat) : Prop := ∃ o : Obj, w.heap[b]? = some o ∧ o.isCells = true
theorem cellsAt_row {w : World} {e : TypeId} {size n : Nat} {v : Value} {us : List Value} (h : w.ownsRow 0 e size v n us) {g : Nat} (hg : blk v = some g) : zcp w g := by
 rcases h.2 with ⟨rfl, _⟩ | ⟨g', cap, cur, rfl, _, h1, _⟩
 ·cases hg
 ·cases hg; exact ⟨_, h1, rfl⟩
section
variable {w w' : World} {ok : Nat → Prop} {β : Nat → Option Value}
theorem zbB.norm : (t : Ty) → {vs : List Value} → {x : t.den} → zbB w ok t vs x → zbB w (fun b => ok b ∧ zcp w b) t vs x
 | .int _, _, _, h => h
 | .bool, _, _, h => h
 | .str, _, _, h => h
 | .sl t, vs, xs, h => by
  obtain ⟨A, cap, h1, h2, h3, h4, h5⟩ := h
  refine ⟨A, cap, h1, h2, h3, h4, fun i hi => ?_⟩
  obtain ⟨b, o, us, h6, h7, h8, h9, h10⟩ := h5 i hi
  refine ⟨b, o, us, h6, ⟨h7, ?_⟩, h8, h9, zbB.norm t h10⟩
  have hpos := t.size_pos
  have hj : us[0]? = some us[0] := List.getElem?_eq_getElem (by omega)
  exact cells_of_cell (h9 0 _ hj)
 | .pair a b, vs, x, h => by
  obtain ⟨us, us', h1, h2, h3⟩ := h
  exact ⟨us, us', h1, zbB.norm a h2, zbB.norm b h3⟩
theorem zbO.norm {v : Value} {l : zaY} (h : zbO w ok β v l) : zbO w (fun b => ok b ∧ zcp w b) β v l := by
 cases l with
 | dat t xs => exact zbB.norm (.sl t) h
 | _ => exact h
theorem zbk.norm : ∀ {vs : List Value} {ls : List zaY}, zbk w ok β vs ls → zbk w (fun b => ok b ∧ zcp w b) β vs ls
 | [], [], _ => trivial
 | _ :: _, _ :: _, ⟨h1, h2⟩ => ⟨h1.norm, zbk.norm h2⟩
 | [], _ :: _, h => h.elim
 | _ :: _, [], h => h.elim
theorem zbH.norm {t : Ty} {us : List Value} {xs : List t.den} (h : zbH w ok t us xs) : zbH w (fun b => ok b ∧ zcp w b) t us xs := fun i hi => (h i hi).norm
theorem zbX.norm {id : Nat} {b : EB} (h : zbX w ok β id b) : zbX w (fun b => ok b ∧ zcp w b) β id b := by
 cases b with
 | dead => trivial
 | cells ls => obtain ⟨g, cs, e, h1, h2, h3⟩ := h; exact ⟨g, cs, e, h1, h2, h3.norm⟩
 | arr e t xs => obtain ⟨v, us, h1, h2, h3⟩ := h; exact ⟨v, us, h1, h2, h3.norm⟩
 | raw e us o => obtain ⟨v, vs, h1, h2, h3⟩ := h; exact ⟨v, vs, h1, h2, h3.to fun _ _ _ _ h => h.norm⟩
theorem zbX.at {id : Nat} {e : Ent} (h : zbX w ok β id e.b) (hl : e.live = true) {v : Value} (hv : β id = some v) {g : Nat} (hg : blk v = some g) : zcp w g := by
 obtain ⟨ew, eb⟩ := e
 cases eb with
 | dead => cases hl
 | cells ls =>
  obtain ⟨g', cs, e, h1, h2, _⟩ := h
  rw [hv] at h1; cases h1; cases hg
  exact ⟨_, h2, rfl⟩
 | arr e t xs =>
  obtain ⟨v', us, h1, h2, _⟩ := h
  rw [hv] at h1; cases h1
  exact cellsAt_row h2 hg
 | raw e us o =>
  obtain ⟨v', vs, h1, h2, _⟩ := h
  rw [hv] at h1; cases h1
  exact cellsAt_row h2 hg
end
section
variable {π : Pin} {w0 : World} {own : Nat → Prop} {w w' : World} {a a' : Act} {σ σ' : St} {β β' : Nat → Option Value} {ok ok' : Nat → Prop}
def plainTV : TV → Prop
 | .rptr _ => False
 | _ => True
theorem zcq.norm : ∀ {vs : List Value} {cs : List (Bool × List zaY)}, zcq w ok β vs cs → zcq w (fun b => ok b ∧ zcp w b) β vs cs
 | [], [], _ => trivial
 | v :: _, (b, ls) :: _, ⟨h1, h2⟩ => by
  refine ⟨?_, zcq.norm h2⟩
  cases b with
  | true => obtain ⟨us, e, h⟩ := h1; exact ⟨us, e, h.norm⟩
  | false => exact zbk.norm (vs := [v]) h1
 | [], _ :: _, h => h.elim
 | _ :: _, [], h => h.elim
theorem zbm.norm {v : Value} {t : TV} (ht : plainTV t) (h : zbm w ok β v t) : zbm w (fun b => ok b ∧ zcp w b) β v t := by
 cases t with
 | lf l => exact zbO.norm h
 | agg cs => obtain ⟨us, e, h⟩ := h; exact ⟨us, e, h.norm⟩
 | tup cs => obtain ⟨us, e, h⟩ := h; exact ⟨us, e, h.norm⟩
 | rptr _ => exact ht.elim
 | eptr id i off sz => exact h
theorem Sim.norm (S : Sim π w0 own w a σ β ok) (hσ : ∀ t, plainTV (σ.tv t)) : Sim π w0 own w a σ β (fun b => ok b ∧ zcp w b) := by
 obtain ⟨f, k, d, e, dw, wr, ro, sep⟩ := S.inv
 refine ⟨⟨f, fun b hb => k b hb.1, d, fun id e' h => (e id e' h).norm, dw, fun id e' v g h1 h2 h3 h4 => ⟨fun h => (wr id e' v g h1 h2 h3 h4).1 h.1, (wr id e' v g h1 h2 h3 h4).2⟩,
  fun id e' v g h1 h2 h3 h4 h5 => ⟨ro id e' v g h1 h2 h3 h4 h5, (e id e' h1).at h3 h4 h5⟩, sep⟩, fun t => (S.tmps t).norm (hσ t), S.size, S.def0, S.pin, fun b hb => S.okB b hb.1⟩
theorem Sim.grown (S : Sim π w0 own w a σ β ok) (hc : ∀ b, ok b → zcp w b) {row : Option Nat} (hg : w.grownBy w' row) (hr : ∀ r, row = some r → w0.heap.size ≤ r ∧ ∃ o : Obj, w.heap[r]? = some o ∧ o.isCells = false) :
  Sim π w0 own w' a σ β ok ∧ ∀ b, ok b → zcp w' b := by
 have hk : ∀ b, zcp w b → w'.heap[b]? = w.heap[b]? := fun b ⟨o, h1, h2⟩ => grownBy_keeps_cells hg (fun r e => (hr r e).2) h1 h2
 have hcl : ∀ b, zcp w b → zcp w' b := fun b hb => by obtain ⟨o, h1, h2⟩ := hb; exact ⟨o, by rw [hk b ⟨o, h1, h2⟩]; exact h1, h2⟩
 obtain ⟨f, k, d, e, dw, wr, ro, sep⟩ := S.inv
 refine ⟨⟨⟨⟨hg.os.trans f.os, hg.tape.trans f.tape, hg.output.trans f.output, Nat.le_trans f.size hg.size, fun b hb hn => ?_⟩, fun b hb => Nat.lt_of_lt_of_le (k b hb) hg.size, d, fun id e' h => ?_, dw, wr, ro, sep⟩,
  fun t => (S.tmps t).mono (fun b hb => hk b (hc b hb)) (fun _ h => h) (fun _ _ h => h), S.size, S.def0, S.pin, S.okB⟩, fun b hb => hcl b (hc b hb)⟩
 ·rw [hg.block b (Nat.lt_of_lt_of_le hb f.size) fun h => ?_]
  ·exact f.block b hb hn
  ·have := (hr b h.symm).1; omega
 ·by_cases hl : e'.live = true
  ·exact (e id e' h).mono (fun b hb => hk b (hc b hb)) (fun _ h => h) (fun _ _ h => h) fun v g hv hg' => hk g ((e id e' h).at hl hv hg')
  ·obtain ⟨ew, eb⟩ := e'
   cases eb with
   | dead => trivial
   | _ => exact absurd rfl hl
def ownOf (β : Nat → Option Value) (h : zbw) (b : Nat) : Prop := ∃ id e v, h id = some e ∧ e.w = true ∧ β id = some v ∧ blk v = some b
theorem Sim.rebase (S : Sim π w0 own w a σ β ok) (rd : Option Nat) (df : List Deferred) {a' : Act} (ha : a'.tmps = a.tmps) (hd : a'.defers = df) : Sim ⟨β, ok, rd, df⟩ w (ownOf β (zba σ.heap)) w a' σ β ok := by
 obtain ⟨f, k, d, e, dw, wr, ro, sep⟩ := S.inv
 exact ⟨⟨Fr.refl _ _, k, d, e, dw, fun id e' v g h1 h2 h3 h4 => ⟨(wr id e' v g h1 h2 h3 h4).1, .inl ⟨id, e', v, h1, h2, h3, h4⟩⟩, ro, sep⟩, fun t => by rw [ha]; exact S.tmps t, by rw [ha]; exact S.size, hd, fun _ _ _ h => h, fun _ h => .inl h⟩
theorem Sim.back (S : Sim π w0 own w a σ β ok) {rd : Option Nat} {df : List Deferred} (S' : Sim ⟨β, ok, rd, df⟩ w (ownOf β (zba σ.heap)) w' a' σ' β' ok') {a2 : Act} (ha : a2.tmps = a'.tmps) (hd : a2.defers = π.df) : Sim π w0 own w' a2 σ' β' ok' := by
 obtain ⟨f, k, d, e, dw, wr, ro, sep⟩ := S'.inv
 have hown : ∀ b, ownOf β (zba σ.heap) b → own b ∨ w0.heap.size ≤ b := fun b ⟨id, e, v, h1, h2, h3, h4⟩ => (S.inv.wr id e v b h1 h2 h3 h4).2
 have hle := S.inv.fr.size
 refine ⟨⟨⟨f.os.trans S.inv.fr.os, f.tape.trans S.inv.fr.tape, f.output.trans S.inv.fr.output, Nat.le_trans hle f.size, fun b hb hn => ?_⟩, k, d, e, dw, fun id e' v g h1 h2 h3 h4 => ⟨(wr id e' v g h1 h2 h3 h4).1, ?_⟩, ro, sep⟩,
  fun t => by rw [ha]; exact S'.tmps t, by rw [ha]; exact S'.size, hd, fun id v h1 h2 => S.pin id v h1 (S'.pin id v h1 h2), fun b hb => ?_⟩
 ·rw [f.block b (Nat.lt_of_lt_of_le hb hle) fun h => ?_]
  ·exact S.inv.fr.block b hb hn
  ·rcases hown b h with h1 | h1
   ·exact hn h1
   ·omega
 ·rcases (wr id e' v g h1 h2 h3 h4).2 with h | h
  ·exact hown g h
  ·exact .inr (Nat.le_trans hle h)
 ·rcases S'.okB b hb with h | h | h
  ·exact S.okB b h
  ·exact .inr (hown b h)
  ·exact .inr (.inr (Nat.le_trans hle h))
end
def upE (e : Ent) : Ent := ⟨e.w, zcc (zaW + ·) e.b⟩
def zck (hp : List (Nat × Ent)) : List (Nat × Ent) := hp.map fun x => (zaW + x.1, upE x.2)
def upβ (β : Nat → Option Value) (j : Nat) : Option Value := if zaW ≤ j then β (j - zaW) else none
theorem zfx : ∀ (hp : List (Nat × Ent)) (k : Nat), zba (zck hp) k = if zaW ≤ k then (zba hp (k - zaW)).map upE else none
 | [], k => by show none = _; split <;> rfl
 | x :: hp, k => by
  show (if zaW + x.1 = k then some (upE x.2) else zba (zck hp) k) = _
  by_cases h : zaW + x.1 = k
  ·subst h
   rw [if_pos rfl, if_pos (by omega)]
   simp [zba]
  ·rw [if_neg h, zfx hp k]
   by_cases h2 : zaW ≤ k
   ·rw [if_pos h2, if_pos h2]
    show _ = Option.map upE (if x.1 = k - zaW then some x.2 else zba hp (k - zaW))
    rw [if_neg (by omega)]
   ·rw [if_neg h2, if_neg h2]
theorem zfY (e : Ent) : (upE e).live = e.live := zdf (q' := e.w)
section
variable {π : Pin} {w0 : World} {own : Nat → Prop} {w w' : World} {a a' : Act} {σ σ' : St} {β β' : Nat → Option Value} {ok ok' : Nat → Prop}
theorem upβ_up (β : Nat → Option Value) (id : Nat) : upβ β (zaW + id) = β id := by
 unfold upβ; rw [if_pos (by omega), Nat.add_sub_cancel_left]
theorem Inv.up {hp : List (Nat × Ent)} (I : Inv w0 own w β ok (zba hp)) : Inv w0 own w (upβ β) ok (zba (zck hp)) := by
 have hto : ∀ k e, zba (zck hp) k = some e → ∃ j e0, k = zaW + j ∧ zba hp j = some e0 ∧ e = upE e0 := fun k e h => by
  rw [zfx] at h
  split at h
  ·rename_i hk
   obtain ⟨e0, h1, h2⟩ := Option.map_eq_some_iff.1 h
   exact ⟨k - zaW, e0, by omega, h1, h2.symm⟩
  ·cases h
 have hβ : ∀ k v, upβ β k = some v → ∃ j, k = zaW + j ∧ β j = some v := fun k v h => by
  unfold upβ at h
  split at h
  ·exact ⟨k - zaW, by omega, h⟩
  ·cases h
 obtain ⟨f, k, d, e, dw, wr, ro, sep⟩ := I
 refine ⟨f, k, fun id v h => ?_, fun id e' h => ?_, fun id e' h hw => ?_, fun id e' v g h hw hv hg => ?_, fun id e' v g h hw hl hv hg => ?_, fun i e1 v1 j e2 v2 g hij h1 h2 hw hl hv1 hv2 hg1 hg2 => ?_⟩
 ·obtain ⟨j, rfl, hj⟩ := hβ id v h
  obtain ⟨e0, he⟩ := d j v hj
  exact ⟨upE e0, by rw [zfx, if_pos (by omega), Nat.add_sub_cancel_left, he]; rfl⟩
 ·obtain ⟨j, e0, rfl, h1, rfl⟩ := hto id e' h
  exact (e j e0 h1).ren (fun i _ u hu => (upβ_up β i).trans hu) fun u hu => (upβ_up β j).trans hu
 ·obtain ⟨j, e0, rfl, h1, rfl⟩ := hto id e' h
  rw [zfY]; exact dw j e0 h1 hw
 ·obtain ⟨j, e0, rfl, h1, rfl⟩ := hto id e' h
  rw [upβ_up] at hv
  exact wr j e0 v g h1 hw hv hg
 ·obtain ⟨j, e0, rfl, h1, rfl⟩ := hto id e' h
  rw [upβ_up] at hv
  rw [zfY] at hl
  exact ro j e0 v g h1 hw hl hv hg
 ·obtain ⟨i0, e3, rfl, h3, rfl⟩ := hto i e1 h1
  obtain ⟨j0, e4, rfl, h4, rfl⟩ := hto j e2 h2
  rw [upβ_up] at hv1 hv2
  rw [zfY] at hl
  exact sep i0 e3 v1 j0 e4 v2 g (fun h => hij (by rw [h])) h3 h4 hw hl hv1 hv2 hg1 hg2
def downβ (β : Nat → Option Value) (j : Nat) : Option Value := if j < zaW then β (zaW + j) else none
def smallHp (hp : List (Nat × Ent)) : Prop := ∀ id e, zba hp id = some e → id < zaW ∧ ∀ j ∈ zcZ e.b, j < zaW
theorem renLeaf_backN (N : Nat) {l : zaY} : zci (fun j => j - N) (zci (fun j => N + j) l) = l := by
 cases l with
 | fn f caps =>
  simp only [zci, List.map_map]
  have : (fun j => j - N) ∘ (fun j => N + j) = id := by funext j; simp
  rw [this, List.map_id]
 | ref id => simp [zci]
 | ptr id off => simp [zci]
 | _ => rfl
theorem renEB_backN (N : Nat) {b : EB} : zcc (fun j => j - N) (zcc (fun j => N + j) b) = b := by
 cases b with
 | cells ls =>
  simp only [zcc, List.map_map]
  have : zci (fun j => j - N) ∘ zci (fun j => N + j) = id := by funext l; exact renLeaf_backN N
  rw [this, List.map_id]
 | raw e us o =>
  rcases o with _ | ⟨i, l⟩
  ·rfl
  ·simp only [zcc, renLeaf_backN]
 | _ => rfl
theorem leafIds_ren (g : Nat → Nat) (l : zaY) : zbL (zci g l) = (zbL l).map g := by cases l <;> rfl
theorem ebIds_ren (g : Nat → Nat) (b : EB) : zcZ (zcc g b) = (zcZ b).map g := by
 cases b with
 | cells ls =>
  simp only [zcc, zcZ, List.flatMap_map, List.map_flatMap]
  congr 1
  funext l
  exact leafIds_ren g l
 | raw e us o =>
  rcases o with _ | ⟨i, l⟩
  ·rfl
  ·exact leafIds_ren g l
 | _ => rfl
theorem Inv.down {hp : List (Nat × Ent)} (hs : smallHp hp) (I : Inv w0 own w β ok (zba (zck hp))) : Inv w0 own w (downβ β) ok (zba hp) := by
 have hup : ∀ id e, zba hp id = some e → zba (zck hp) (zaW + id) = some (upE e) := fun id e h => by
  rw [zfx, if_pos (by omega), Nat.add_sub_cancel_left, h]; rfl
 have hβ : ∀ k v, downβ β k = some v → k < zaW ∧ β (zaW + k) = some v := fun k v h => by
  unfold downβ at h
  split at h
  ·exact ⟨by assumption, h⟩
  ·cases h
 obtain ⟨f, k, d, e, dw, wr, ro, sep⟩ := I
 refine ⟨f, k, fun id v h => ?_, fun id e' h => ?_, fun id e' h hw => ?_, fun id e' v g h hw hv hg => ?_, fun id e' v g h hw hl hv hg => ?_, fun i e1 v1 j e2 v2 g hij h1 h2 hw hl hv1 hv2 hg1 hg2 => ?_⟩
 ·obtain ⟨_, h1⟩ := hβ id v h
  obtain ⟨e0, he⟩ := d _ v h1
  rw [zfx, if_pos (by omega), Nat.add_sub_cancel_left] at he
  obtain ⟨e1, h2, _⟩ := Option.map_eq_some_iff.1 he
  exact ⟨e1, h2⟩
 ·have h1 := e _ _ (hup id e' h)
  obtain ⟨hlt, hids⟩ := hs id e' h
  have h2 := h1.ren (β2 := downβ β) (g := fun j => j - zaW) (id2 := id) (fun j hj u hu => ?_) fun u hu => ?_
  ·rw [show (upE e').b = zcc (fun j => zaW + j) e'.b from rfl, renEB_backN] at h2; exact h2
  ·have hj0 : j ∈ zcZ (zcc (zaW + ·) e'.b) := hj
   rw [ebIds_ren] at hj0
   obtain ⟨j0, hm, rfl⟩ := List.mem_map.1 hj0
   have := hids j0 hm
   show downβ β (zaW + j0 - zaW) = some u
   rw [Nat.add_sub_cancel_left, downβ, if_pos this]; exact hu
  ·rw [downβ, if_pos hlt]; exact hu
 ·have := dw _ _ (hup id e' h) hw
  rwa [zfY] at this
 ·obtain ⟨_, hv'⟩ := hβ id v hv
  exact wr _ _ v g (hup id e' h) hw hv' hg
 ·obtain ⟨_, hv'⟩ := hβ id v hv
  exact ro _ _ v g (hup id e' h) hw (by rw [zfY]; exact hl) hv' hg
 ·obtain ⟨_, hv1'⟩ := hβ i v1 hv1
  obtain ⟨_, hv2'⟩ := hβ j v2 hv2
  exact sep _ _ v1 _ _ v2 g (by omega) (hup i e1 h1) (hup j e2 h2) hw (by rw [zfY]; exact hl) hv1' hv2' hg1 hg2
end
section
variable {π : Pin} {w0 : World} {own : Nat → Prop} {w w' : World} {a a' : Act} {β β' : Nat → Option Value} {ok ok' : Nat → Prop}
theorem Inv.base {h h' : zbw} (I0 : Inv w0 own w β ok h) {own1 : Nat → Prop} (I : Inv w own1 w' β' ok' h') (hown : ∀ b, own1 b → own b ∨ w0.heap.size ≤ b) : Inv w0 own w' β' ok' h' := by
 obtain ⟨f, k, d, e, dw, wr, ro, sep⟩ := I
 have hle := I0.fr.size
 refine ⟨⟨f.os.trans I0.fr.os, f.tape.trans I0.fr.tape, f.output.trans I0.fr.output, Nat.le_trans hle f.size, fun b hb hn => ?_⟩, k, d, e, dw, fun id e' v g h1 h2 h3 h4 => ⟨(wr id e' v g h1 h2 h3 h4).1, ?_⟩, ro, sep⟩
 ·rw [f.block b (Nat.lt_of_lt_of_le hb hle) fun h => ?_]
  ·exact I0.fr.block b hb hn
  ·rcases hown b h with h1 | h1
   ·exact hn h1
   ·omega
 ·rcases (wr id e' v g h1 h2 h3 h4).2 with h | h
  ·exact hown g h
  ·exact .inr (Nat.le_trans hle h)
def zcQ (N : Nat) (pts : List (Nat × Nat)) (up : Nat) (hp : List (Nat × Ent)) : St := spSt N (pts.map (·.1)) (pts.map fun p => .lf (.ptr (up + p.2) 0)) hp
theorem lookT_pts (up : Nat) : ∀ (pts : List (Nat × Nat)) (t : Nat), zcC (pts.map (·.1)) (pts.map fun p => TV.lf (.ptr (up + p.2) 0)) t = .lf .undef ∨ ∃ p ∈ pts, p.1 = t ∧ zcC (pts.map (·.1)) (pts.map fun p => TV.lf (.ptr (up + p.2) 0)) t = .lf (.ptr (up + p.2) 0)
 | [], _ => .inl rfl
 | p :: pts, t => by
  by_cases h : p.1 = t
  ·exact .inr ⟨p, List.mem_cons_self .., h, by simp [zcC, h]⟩
  ·rcases lookT_pts up pts t with h1 | ⟨q, h1, h2, h3⟩
   ·exact .inl (by simp only [List.map_cons, zcC, if_neg h]; exact h1)
   ·exact .inr ⟨q, List.mem_cons_of_mem _ h1, h2, by simp only [List.map_cons, zcC, if_neg h]; exact h3⟩
theorem ptSt_tv {N : Nat} {pts : List (Nat × Nat)} {up : Nat} {hp : List (Nat × Ent)} (t : Nat) : (zcQ N pts up hp).tv t = .lf .undef ∨ ∃ p ∈ pts, p.1 = t ∧ (zcQ N pts up hp).tv t = .lf (.ptr (up + p.2) 0) := by
 have h := zcV (pts.map (·.1)) (pts.map fun p => TV.lf (.ptr (up + p.2) 0)) N 0 t
 have e : (zcQ N pts up hp).tv t = if t < N then zcC (pts.map (·.1)) (pts.map fun p => TV.lf (.ptr (up + p.2) 0)) (0 + t) else .lf .undef := h
 rw [e]
 split
 ·rw [Nat.zero_add]; exact lookT_pts up pts t
 ·exact .inl rfl
theorem ptSt_same {N : Nat} {pts : List (Nat × Nat)} {up up' : Nat} {hp hp' : List (Nat × Ent)} (t : Nat) :
  ((zcQ N pts up hp).tv t = .lf .undef ∧ (zcQ N pts up' hp').tv t = .lf .undef) ∨ ∃ p ∈ pts, p.1 = t ∧ (zcQ N pts up hp).tv t = .lf (.ptr (up + p.2) 0) ∧ (zcQ N pts up' hp').tv t = .lf (.ptr (up' + p.2) 0) := by
 have e : ∀ u h, (zcQ N pts u h).tv t = if t < N then zcC (pts.map (·.1)) (pts.map fun (p : Nat × Nat) => TV.lf (.ptr (u + p.2) 0)) (0 + t) else .lf .undef := fun u h => zcV (pts.map (·.1)) (pts.map fun (p : Nat × Nat) => TV.lf (.ptr (u + p.2) 0)) N 0 t
 rw [e, e]
 split
 ·rw [Nat.zero_add]
  clear e
  induction pts with
  | nil => exact .inl ⟨rfl, rfl⟩
  | cons p pts ih =>
   by_cases h : p.1 = t
   ·exact .inr ⟨p, List.mem_cons_self .., h, by simp [zcC, h], by simp [zcC, h]⟩
   ·simp only [List.map_cons, zcC, if_neg h]
    rcases ih with h1 | ⟨q, h1, h2⟩
    ·exact .inl h1
    ·exact .inr ⟨q, List.mem_cons_of_mem _ h1, h2⟩
 ·exact .inl ⟨rfl, rfl⟩
theorem range_wp {P : Program} {gf : Nat} {lb : Array Value} {g : Operand} {ps : Array Tmp} {assign body : Code} {α γ : Type} {encs : α → Array Value} {L : List α} {N : Nat} {pts : List (Nat × Nat)} {hp : γ → List (Nat × Ent)}
  {f : α → γ → γ} {R : γ → Prop} {Z : Nat → Prop} {Q : Exit → Act → World → Prop} {x0 : γ} {rst : α → γ → St} {a₁ : α → Act} {n : Nat}
  (S0 : Sim π w0 own w a (zcQ N pts 0 (hp x0)) β ok) (F1 : ∀ x, smallHp (hp x)) (F2 : ∀ x id e, zba (hp x) id = some e → e.live = true) (F3 : ∀ p ∈ pts, ∀ x, (zba (hp x) p.2).isSome = true)
  (hg : a.eval g = .func (.func gf) #[] lb) (heg : ∀ args w, (callFunc gf args).run P w = .ok (.enter gf args) w) (hZ : ∀ b, Z b → b < w.heap.size ∧ ¬ ownOf β (zba (hp x0)) b)
  (hseq : SeqStopsK (Fw none) 1 P gf lb encs (fun A B => ∀ k, Z k → B.heap[k]? = A.heap[k]?) (fun ys => ys = L) (fun _ => True) n w) (hps : ∀ x, (encs x).size = ps.size)
  (hassign : ∀ (l : Nat) (y : α) (W : World) (K : Act → World → Prop), K (a₁ y) W → assign.wpIn (Fw (some l)) 0 P (Exit.then K (fun _ _ _ => False)) { tmps := (ps.zip (encs y)).foldl (fun t (p, v) => t.setIfInBounds p v) a.tmps, defers := [] } W)
  (ha₁ : ∀ y, (a₁ y).tmps.size = N ∧ (a₁ y).defers = []) (hrl : ∀ y x, (rst y x).tmps.length = N ∧ (rst y x).heap = zck (hp x))
  (hin : ∀ y x W β' ok', (∀ t, zbm W ok' β' (a.tmps.getD t undef) ((zcQ N pts zaW (zck (hp x))).tv t)) → ∀ t, zbm W ok' β' ((a₁ y).tmps.getD t undef) ((rst y x).tv t))
  (hR0 : R x0) (hbody : ∀ y x, R x → R (f y x) ∧ ∀ l W okr βr, Sim ⟨βr, okr, some l, []⟩ W (ownOf βr (zba (zck (hp x)))) W (a₁ y) (rst y x) βr okr →
   body.wpIn (Fw (some l)) 0 P (zcT ⟨βr, okr, some l, []⟩ W (ownOf βr (zba (zck (hp x)))) (fun ev => ∃ σ, ev = .norm σ ∧ Weak σ (zcQ N [] 0 (zck (hp (f y x)))))) (a₁ y) W)
  (hQ : ∀ D W β2 ok2, w.heap.size ≤ D → W.heap[D]? = some (.deferred (some [])) → Sim π w0 own W a (zcQ N pts 0 (hp (L.foldl (fun x y => f y x) x0))) β2 ok2 → (∀ b, ok2 b → zcp W b) →
   Q .normal { a with defers := { target := .collected D, args := #[] } :: a.defers } W) :
  (Code.rangeFunc g ps assign body).wpIn (Fw none) 2 P Q a w := by
 have hpl : ∀ pts up h t, plainTV ((zcQ N pts up h).tv t) := fun pts up h t => by
  rcases ptSt_tv (N := N) (pts := pts) (up := up) (hp := h) t with h1 | ⟨p, _, _, h1⟩ <;> rw [h1] <;> trivial
 have S1 := S0.norm (hpl _ _ _)
 let ok1 : Nat → Prop := fun b => ok b ∧ zcp w b
 let B : Nat → Option Value := upβ β
 let own1 : Nat → Prop := ownOf B (zba (zck (hp x0)))
 have hown1 : ∀ b, own1 b → own b ∨ w0.heap.size ≤ b := fun b ⟨id, e, v, h1, h2, h3, h4⟩ => (S1.inv.up.wr id e v b h1 h2 h3 h4).2
 let up : γ → St := fun x => zcQ N pts zaW (zck (hp x))
 let fold : List α → γ := fun pre => pre.foldl (fun x y => f y x) x0
 have hRf : ∀ pre, R (fold pre) := by
  have : ∀ (pre : List α) x, R x → R (pre.foldl (fun x y => f y x) x) := by
   intro pre
   induction pre with
   | nil => exact fun x h => h
   | cons y pre ih => exact fun x h => ih _ (hbody y x h).1
  exact fun pre => this pre x0 hR0
 have F2' : ∀ x id e, zba (zck (hp x)) id = some e → e.live = true := fun x id e h => by
  rw [zfx] at h
  split at h
  ·obtain ⟨e0, h1, rfl⟩ := Option.map_eq_some_iff.1 h
   rw [zfY]; exact F2 x _ e0 h1
  ·cases h
 have hZ1 : ∀ b, Z b → b < w.heap.size ∧ ¬ own1 b := fun b hb => ⟨(hZ b hb).1, fun ⟨id, e, v, h1, h2, h3, h4⟩ => by
  rw [zfx] at h1
  split at h1
  ·rename_i hid
   obtain ⟨e0, h5, rfl⟩ := Option.map_eq_some_iff.1 h1
   have h3' : β (id - zaW) = some v := by have h3 := h3; simp only [B, upβ, if_pos hid] at h3; exact h3
   exact (hZ b hb).2 ⟨_, e0, v, h5, h2, h3', h4⟩
  ·cases h1⟩
 let I : List α → World → Prop := fun pre W => ∃ β' ok', Sim ⟨B, ok1, none, []⟩ w own1 W { a with defers := [] } (up (fold pre)) β' ok' ∧ ∀ b, ok' b → zcp W b
 have hI : OwnFrom w.heap.size I := fun pre W W' row ⟨β', ok', S, hc⟩ hg hr => by
  obtain ⟨S', hc'⟩ := S.grown hc hg hr
  exact ⟨β', ok', S', hc'⟩
 have h0 : I [] w := by
  refine ⟨B, ok1, ⟨?_, fun t => ?_, ?_, rfl, fun _ _ _ h => h, fun _ h => .inl h⟩, fun b hb => hb.2⟩
  ·obtain ⟨f, k, d, e, dw, wr, ro, sep⟩ := S1.inv.up
   exact ⟨Fr.refl _ _, k, d, e, dw, fun id e' v g h1 h2 h3 h4 => ⟨(wr id e' v g h1 h2 h3 h4).1, .inl ⟨id, e', v, h1, h2, h3, h4⟩⟩, ro, sep⟩
  ·have h1 := S1.tmps t
   rcases ptSt_same (N := N) (pts := pts) (up := 0) (up' := zaW) (hp := hp x0) (hp' := zck (hp x0)) t with ⟨_, h2⟩ | ⟨p, _, _, h2, h3⟩
   ·show zbm _ _ _ _ ((zcQ N pts zaW (zck (hp x0))).tv t)
    rw [h2]; trivial
   ·rw [h2] at h1
    show zbm _ _ _ _ ((zcQ N pts zaW (zck (hp x0))).tv t)
    rw [h3]
    obtain ⟨b, h4, h5⟩ := h1
    exact ⟨b, by rw [Nat.zero_add] at h4; exact (upβ_up β p.2).trans h4, h5⟩
  ·rw [show ({ a with defers := [] } : Act).tmps.size = a.tmps.size from rfl, S1.size]; exact (zbJ ..).trans (zbJ ..).symm
 refine wpIn_rangeFunc_ownH (F := Fw none) (n := 2) rfl (by decide) hg trivial heg hseq (fun h1 h2 k hk => (h2 k hk).trans (h1 k hk)) (fun W l o o' hl _ _ _ k hk => World.putObj_heap_other (by have := (hZ k hk).1; omega)) (Below.refl _ _) hps
  I (fun _ _ _ => False) hI (fun _ _ _ _ _ h => h.elim) h0 (fun y a' _ => a' = a₁ y) (fun y a' _ W W' row h _ _ => h) (fun l pre y W K _ hK => hassign l y W K (hK _ _ (KeepsFrom.refl _ _) (fun _ _ => rfl) ‹_› rfl)) ?_ ?_ (fun _ _ _ _ _ _ h => h.elim)
 ·-- a round
  rintro l pre y a' W _ _ ⟨β', ok', S, hc⟩ rfl _
  have hb := (hbody y (fold pre) (hRf pre)).2 l W ok' β'
  have Sr : Sim ⟨β', ok', some l, []⟩ W (ownOf β' (zba (zck (hp (fold pre))))) W (a₁ y) (rst y (fold pre)) β' ok' := by
   have S2 := S.rebase (some l) [] (a' := { a with defers := [] }) rfl rfl
   refine ⟨by rw [(hrl y _).2]; exact S2.inv, hin y _ W β' ok' S.tmps, by rw [(ha₁ y).1, (hrl y _).1], (ha₁ y).2, fun _ _ _ h => h, fun _ h => .inl h⟩
  refine wpR_n (wpIn_mono (hb Sr) ?_)
  rintro e a2 W' ⟨ev, β2, ok2, ⟨σ, rfl, hweak⟩, rfl, S3⟩
  obtain ⟨β3, ok3, S4⟩ := hweak _ _ _ _ _ _ _ S3
  have S5 := S4.norm (hpl _ _ _)
  have hnot : ∀ k, k < W.heap.size → ¬ ownOf β' (zba (zck (hp (fold pre)))) k → W'.heap[k]? = W.heap[k]? := fun k h1 h2 => S4.inv.fr.block k h1 h2
  refine ⟨⟨S4.inv.fr.size, fun k o _ hk ho => ?_⟩, fun k hk => ?_, ?_⟩
  ·rw [hnot k (Array.getElem?_eq_some_iff.1 hk).1 fun ⟨id, e, v, h1, h2, h3, h4⟩ => ?_]
   ·exact hk
   ·obtain ⟨o', h5, h6⟩ := (S.inv.ent id e h1).at (F2' _ id e h1) h3 h4
    rw [hk] at h5; cases h5
    rw [ho] at h6; cases h6
  ·have hlt : k < W.heap.size := Nat.lt_of_lt_of_le (hZ1 k hk).1 S.inv.fr.size
   refine hnot k hlt fun ⟨id, e, v, h1, h2, h3, h4⟩ => ?_
   rcases (S.inv.wr id e v k h1 h2 h3 h4).2 with h5 | h5
   ·exact (hZ1 k hk).2 h5
   ·have := (hZ1 k hk).1; omega
  ·have hinv : Inv w own1 W' β3 (fun b => ok3 b ∧ zcp W' b) (zba (zck (hp (f y (fold pre))))) := S.inv.base S5.inv fun b ⟨id, e, v, h1, h2, h3, h4⟩ => (S.inv.wr id e v b h1 h2 h3 h4).2
   refine ⟨β3, fun b => ok3 b ∧ zcp W' b, ⟨?_, fun t => ?_, ?_, rfl, ?_, ?_⟩, fun b hb => hb.2⟩
   ·show Inv w own1 W' β3 _ (zba (zck (hp (fold (pre ++ [y])))))
    have : fold (pre ++ [y]) = f y (fold pre) := by simp [fold]
    rw [this]; exact hinv
   ·have h1 := S.tmps t
    have hff : fold (pre ++ [y]) = f y (fold pre) := by simp [fold]
    show zbm _ _ _ _ ((zcQ N pts zaW (zck (hp (fold (pre ++ [y]))))).tv t)
    rcases ptSt_same (N := N) (pts := pts) (up := zaW) (up' := zaW) (hp := zck (hp (fold pre))) (hp' := zck (hp (fold (pre ++ [y])))) t with ⟨_, h2⟩ | ⟨p, hp1, _, h2, h3⟩
    ·rw [h2]; trivial
    ·rw [show (up (fold pre)).tv t = _ from h2] at h1
     rw [h3]
     obtain ⟨b, h4, h5⟩ := h1
     refine ⟨b, ?_, h5⟩
     obtain ⟨e, he⟩ := Option.isSome_iff_exists.1 (F3 p hp1 (f y (fold pre)))
     have he' : zba (zck (hp (f y (fold pre)))) (zaW + p.2) = some (upE e) := by rw [zfx, if_pos (by omega), Nat.add_sub_cancel_left, he]; rfl
     have hent := hinv.ent _ _ he'
     have hlive := F2' _ _ _ he'
     have : ∃ v, β3 (zaW + p.2) = some v := by
      cases hb : (upE e).b with
      | dead => rw [Ent.live, hb] at hlive; cases hlive
      | cells ls => rw [hb] at hent; obtain ⟨g, cs, et, h6, _⟩ := hent; exact ⟨_, h6⟩
      | arr et t xs => rw [hb] at hent; obtain ⟨v, us, h6, _⟩ := hent; exact ⟨_, h6⟩
      | raw et us o => rw [hb] at hent; obtain ⟨v, us, h6, _⟩ := hent; exact ⟨_, h6⟩
     obtain ⟨v, hv⟩ := this
     have hpin := S4.pin (zaW + p.2) v (by omega) hv
     rw [show β' (zaW + p.2) = some v from hpin] at h4
     rw [hv, h4]
   ·exact S.size.trans ((zbJ ..).trans (zbJ ..).symm)
   ·exact fun id v h1 h2 => S.pin id v h1 (S4.pin id v h1 h2)
   ·intro b hb
    rcases S4.okB b hb.1 with h1 | ⟨id, e, v, h1, h2, h3, h4⟩ | h1
    ·exact S.okB b h1
    ·exact .inr (S.inv.wr id e v b h1 h2 h3 h4).2
    ·exact .inr (.inr (Nat.le_trans S.inv.fr.size h1))
 ·-- behind all
  rintro D xs W hD rfl ⟨β', ok', S, hc⟩ hdD
  refine hQ D W (downβ β') ok' hD hdD ⟨S0.inv.base (S.inv.down (F1 _)) hown1, fun t => ?_, ?_, S0.def0, fun id v h1 h2 => ?_, fun b hb => ?_⟩ hc
  ·have h1 := S.tmps t
   rcases ptSt_same (N := N) (pts := pts) (up := zaW) (up' := 0) (hp := zck (hp (fold xs))) (hp' := hp (fold xs)) t with ⟨_, h2⟩ | ⟨p, hp1, _, h2, h3⟩
   ·show zbm _ _ _ _ ((zcQ N pts 0 (hp (fold xs))).tv t)
    rw [h2]; trivial
   ·rw [show (up (fold xs)).tv t = _ from h2] at h1
    show zbm _ _ _ _ ((zcQ N pts 0 (hp (fold xs))).tv t)
    rw [h3]
    obtain ⟨b, h4, h5⟩ := h1
    obtain ⟨e, he⟩ := Option.isSome_iff_exists.1 (F3 p hp1 (fold xs))
    refine ⟨b, ?_, h5⟩
    rw [Nat.zero_add, downβ, if_pos (F1 _ _ _ he).1]; exact h4
  ·exact S.size.trans ((zbJ ..).trans (zbJ ..).symm)
  ·unfold downβ at h2
   rw [if_neg (by omega)] at h2; cases h2
  ·rcases S.okB b hb with h1 | h1 | h1
   ·exact S0.okB b h1.1
   ·exact .inr (hown1 b h1)
   ·exact .inr (.inr (Nat.le_trans S0.inv.fr.size h1))
end
theorem sp_rec {P : Program} {o : Io} {F : Nat → Tup o.A → Option (Tup o.R)} {C : Tup o.A → Bool} {V : Tup o.A → Tup o.R} (hF : ∀ n, o.Okay P (F n)) (h : ∀ x, WfT o.A x → C x = true → ∃ n, F n x = some (V x)) : (o.sp C V).ok P := zbj.data_ok fun args es r hr hv => by
 unfold Io.spAns at hr
 simp only at hr
 split at hr
 case h_2 => cases hr
 rename_i x hx
 cases hr
 have hC : C x = true := hv
 refine ⟨(hF 0).1, zdd.vc ?_⟩
 intro w vals β ok h1 h2 h3 h4 h5 h6
 have hw : WfT o.A x := by
  unfold Io.rd at hx
  split at hx
  ·rename_i ps hps
   split at hx
   ·rename_i k hg
    refine getTup_wf o.A hx (rdPs_wf hg ?_ fun l hl => by cases hl)
    exact WfPs.app hps (fun x hx => zipVs_wf hx h2) fun y hy => zipEs_wf (k := 0) hy fun j e he => by rw [Nat.zero_add]; exact (h4 j e he).2.2
   ·cases hx
  ·cases hx
 obtain ⟨n, hn⟩ := h x hw hC
 have hV := (hF n).2 x (V x) hn
 obtain ⟨e1, e2⟩ := Io.rd_as hx
 rw [e1, e2] at hV
 exact hV w vals β ok h1 h2 h3 h4 h5 h6
end Go.Proofs.Ytlfdidaeachpoaa
