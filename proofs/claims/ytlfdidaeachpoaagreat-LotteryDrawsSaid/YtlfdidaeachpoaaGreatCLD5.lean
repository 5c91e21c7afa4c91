/- Part 5 of the walk and of the plain law. -/
import Derived.Test.YtlfdidaeachpoaaGreatCLD4
set_option linter.unusedSimpArgs false
set_option linter.unusedVariables false
namespace Go.Proofs.YtlfdidaeachpoaaGreat
open Go Go.RowKit
set_option maxRecDepth 100000
noncomputable section
def zbQ : ((List Bool) × (List Tk) × (List Th) × (List Lk) × (List Int) × Int × Int) → RT Unit Bool
| (s_0, s_1, s_2, s_3, s_4, s_5, i) =>
 .rq 15 (let t0 := (decide (0 ≤ i)) && (decide (i < (s_3.length : Int)));
 .req ((inB s_3 i) || (!t0)) (.rq 4 (.done (t0 && (gI s_3 i).1))))
def F_zbQ (x : (List Bool) × (List Tk) × (List Th) × (List Lk) × (List Int) × Int × Int) : Option Bool := (zbQ x).run fun _ => none
def io_zbQ : Io := ⟨n_zbQ, [.sl tB, .sl yK, .sl yH, .sl yL, .sl tI, tI, tI], [.agg [qm 0, qm 1, qm 2, qm 3, qm 4, qm 5], .lf (qm 6)], [], [[.sl tB, .sl yK, .sl yH, .sl yL, .sl tI, tI], [tI]], [tB], .lf (qm 0), [], [], false⟩
def zbQ_P : List zcd := []
def zbQ_T : zci := tab []
theorem zbQ_To : zch pg zbQ_T := zce trivial
theorem zbQ_go : zcu pg (zbQ_T) io_zbQ f_zbQ (zbQ_P) [] (zbQ) := ⟨by kernel_rfl, by kernel_rfl, fun x => by kernel_rfl⟩
theorem ok_zbQ : io_zbQ.Okay pg (F_zbQ) := zcr zcg (zbQ_To) (zbQ_go) trivial
def e_zbQ : zcn := io_zbQ.sp (fun (a, b, c, d, e, f, i) => true) (fun (a, b, c, d, e, f, i) => (inB d i && (gI d i).1))
theorem sp_zbQ (h : ∀ (a : List Bool) (b : List Tk) (c : List Th) (d : List Lk) (e : List Int) (f : Int) (i : Int), WfT [.sl tB, .sl yK, .sl yH, .sl yL, .sl tI, tI, tI] (a, b, c, d, e, f, i) → (zbQ (a, b, c, d, e, f, i)).run (fun _ => none) = some (inB d i && (gI d i).1)) : e_zbQ.ok pg := zct ok_zbQ fun (a, b, c, d, e, f, i) hw hc => h a b c d e f i hw
theorem e_zbQ_ok : e_zbQ.ok pg := sp_zbQ fun a b c d e f i _ => by
 rw [zbQ]
 simp only [RT.run]
 show (if (inB d i || !(inB d i)) = true then some (inB d i && (gI d i).1) else none) = _
 rw [if_pos (by cases inB d i <;> rfl)]
def zca : ((List Bool) × (List Tk) × (List Th) × (List Lk) × (List Int) × Int × Int × Int × Int) → RT Unit Bool
| (s_0, s_1, s_2, s_3, s_4, s_5, i, state, what) =>
 .rq 9 (let t0 := (inB s_2 i && (gI s_2 i).1 != 0);
 .req ((inB s_2 i) || (!t0)) (.rq 9 (let t1 := t0 && ((gI s_2 i).1 == state);
 .req ((inB s_2 i) || (!t1)) (.rq 6 (.done (t1 && ((gI s_2 i).2.1 == what)))))))
def F_zca (x : (List Bool) × (List Tk) × (List Th) × (List Lk) × (List Int) × Int × Int × Int × Int) : Option Bool := (zca x).run fun _ => none
def io_zca : Io := ⟨n_zca, [.sl tB, .sl yK, .sl yH, .sl yL, .sl tI, tI, tI, tI, tI], [.agg [qm 0, qm 1, qm 2, qm 3, qm 4, qm 5], .lf (qm 6), .lf (qm 7), .lf (qm 8)], [], [[.sl tB, .sl yK, .sl yH, .sl yL, .sl tI, tI], [tI], [tI], [tI]], [tB], .lf (qm 0), [], [], false⟩
def zca_P : List zcd := []
def zca_T : zci := tab [e_zax]
theorem zca_To : zch pg zca_T := zce ⟨zhO, trivial⟩
theorem zca_go : zcu pg (zca_T) io_zca f_zca (zca_P) [] (zca) := ⟨by kernel_rfl, by kernel_rfl, fun x => by kernel_rfl⟩
theorem ok_zca : io_zca.Okay pg (F_zca) := zcr zcg (zca_To) (zca_go) trivial
def isV (c : List Th) (i st what : Int) : Bool := ((inB c i && (gI c i).1 != 0) && ((gI c i).1 == st)) && ((gI c i).2.1 == what)
def e_zca : zcn := io_zca.sp (fun (a, b, c, d, e, f, i, state, what) => true) (fun (a, b, c, d, e, f, i, state, what) => (isV c i state what))
theorem sp_zca (h : ∀ (a : List Bool) (b : List Tk) (c : List Th) (d : List Lk) (e : List Int) (f : Int) (i : Int) (state : Int) (what : Int), WfT [.sl tB, .sl yK, .sl yH, .sl yL, .sl tI, tI, tI, tI, tI] (a, b, c, d, e, f, i, state, what) → (zca (a, b, c, d, e, f, i, state, what)).run (fun _ => none) = some (isV c i state what)) : e_zca.ok pg := zct ok_zca fun (a, b, c, d, e, f, i, state, what) hw hc => h a b c d e f i state what hw
theorem e_zca_ok : e_zca.ok pg := sp_zca fun a b c d e f i st what _ => by
 rw [zca]
 simp only [RT.run]
 unfold isV
 cases h : inB c i with
 | false => simp
 | true => simp
def zbk : ((List Bool) × (List Tk) × (List Th) × (List Lk) × (List Int) × Int × Int) → RT Unit Bool
| (s_0, s_1, s_2, s_3, s_4, s_5, i) =>
 .rq 5 (.req (inB s_2 i) (.rq 6 (.ite ((gI s_2 i).1 == 4)
 (.rq 4 (.req (inB s_2 (gI s_2 i).2.1) (.rq 5 (.done ((gI s_2 (gI s_2 i).2.1).2.2.1 != i)))))
 (.rq 4 (.done ((gI s_2 i).1 == 6))))))
def F_zbk (x : (List Bool) × (List Tk) × (List Th) × (List Lk) × (List Int) × Int × Int) : Option Bool := (zbk x).run fun _ => none
def io_zbk : Io := ⟨n_zbk, [.sl tB, .sl yK, .sl yH, .sl yL, .sl tI, tI, tI], [.agg [qm 0, qm 1, qm 2, qm 3, qm 4, qm 5], .lf (qm 6)], [], [[.sl tB, .sl yK, .sl yH, .sl yL, .sl tI, tI], [tI]], [tB], .lf (qm 0), [], [], false⟩
def zbk_P : List zcd := []
def zbk_T : zci := tab []
theorem zbk_To : zch pg zbk_T := zce trivial
theorem zbk_go : zcu pg (zbk_T) io_zbk f_zbk (zbk_P) [] (zbk) := ⟨by kernel_rfl, by kernel_rfl, fun x => by kernel_rfl⟩
theorem ok_zbk : io_zbk.Okay pg (F_zbk) := zcr zcg (zbk_To) (zbk_go) trivial
def e_zbk : zcn := io_zbk.en F_zbk
theorem e_zbk_ok : e_zbk.ok pg := zeK ok_zbk
def zZ_b26 : ((List Bool) × (List Tk) × (List Th) × (List Lk) × (List Int) × Int) → Int → RT Int (LR Unit Unit)
| (l_0, l_1, l_2, l_3, l_4, l_5), s =>
 .rq 5 (.ite (decide (s < (l_1.length : Int)))
 (.rq 3 (.req (inB l_1 s) (.rq 6 (let t0 := w64 (s + 1);
 let t1 := (gI l_1 s).2.2.2.1 == 0;
 let t2 := (gI l_1 s).2.2.2.2.1 == 0;
 .ite (!(gI l_1 s).1)
 (.rq 3 (.ite ((((gI l_1 s).1 == false) && (((gI l_1 s).2.1 == 0) && (((gI l_1 s).2.2.1 == 0) && (t1 && (t2 && (((gI l_1 s).2.2.2.2.2 == false) && true)))))) != true)
 (.rq 1 (.done (.ex ())))
 (.rq 3 (.again t0))))
 (.rq 55 (.ite ((((!((inB l_0 (gI l_1 s).2.1 && gI l_0 (gI l_1 s).2.1))) || (decide ((gI l_1 s).2.2.1 < 1))) || (decide (1048576 < (gI l_1 s).2.2.1))) || (!(((t1 && t2) || (((gI l_1 s).2.2.2.1 == 1) && ((inB l_2 (gI l_1 s).2.2.2.2.1 && (gI l_2 (gI l_1 s).2.2.2.2.1).1 != 0)))) || ((((gI l_1 s).2.2.2.1 == 2) && ((gI l_1 s).2.2.2.2.1 != 0)) && ((inB l_0 (gI l_1 s).2.2.2.2.1 && gI l_0 (gI l_1 s).2.2.2.2.1))))))
 (.rq 1 (.done (.ex ())))
 (.rq 3 (.again t0))))))))
 (.done (.rt ())))
def zZ_p26 : zcd := ⟨26, true, [.sl tB, .sl yK, .sl yH, .sl yL, .sl tI, tI], [tI], ⟨[.keep [1, 3], .gc], [1, 3], [.lf (qp 16), .lf (qm 0)], [(16, true, .cells [qi 0, qi 1, qi 2, qi 3, qi 4, qi 5])]⟩, [⟨1, ⟨[.keep [2], .gc], [2], [.lf (.fix (.bool false))], []⟩, []⟩, ⟨2, ⟨[.keep [1], .gc], [1], [.lf (qp 16)], [(16, true, .cells [qi 0, qi 1, qi 2, qi 3, qi 4, qi 5])]⟩, []⟩], zZ_b26⟩
def zZ : ((List Bool) × (List Tk) × (List Th) × (List Lk) × (List Int) × Int) → RT Unit Bool
| (a0_0, a0_1, a0_2, a0_3, a0_4, a0_5) =>
 .rq 3 (.call (lo zZ_b26 (a0_0, a0_1, a0_2, a0_3, a0_4, a0_5) 0) default fun v0 =>
 .ite v0.isRt
 (.rq 14 (let t0 := (a0_1.length : Int) == 0;
 let t1 := decide ((a0_1.length : Int) ≤ 96);
 let t2 := w64 ((a0_1.length : Int) - 1);
 .req ((inB a0_1 t2) || (!((!t0) && t1))) (.rq 5 (.done (t1 && (t0 || (gI a0_1 t2).1))))))
 (.done false))
def F_zZ (x : (List Bool) × (List Tk) × (List Th) × (List Lk) × (List Int) × Int) : Option Bool := (zZ x).run fun _ => none
def io_zZ : Io := ⟨n_zZ, [.sl tB, .sl yK, .sl yH, .sl yL, .sl tI, tI], [.agg [qm 0, qm 1, qm 2, qm 3, qm 4, qm 5]], [], [[.sl tB, .sl yK, .sl yH, .sl yL, .sl tI, tI]], [tB], .lf (qm 0), [], [], false⟩
def zZ_P : List zcd := [zZ_p26]
def zZ_T : zci := tab [e_zax, e_zbO]
theorem zZ_To : zch pg zZ_T := zce ⟨zhO, e_zbO_ok, trivial⟩
theorem zZ_k26 : (zZ_p26).OK pg (zZ_T) (zcz 97 (zZ_P)) (zcq f_zZ) 97 := ⟨by kernel_rfl, fun i x => by kernel_rfl⟩
theorem zZ_go : zcu pg (zZ_T) io_zZ f_zZ (zZ_P) [] (zZ) := ⟨by kernel_rfl, by kernel_rfl, fun x => by kernel_rfl⟩
theorem ok_zZ : io_zZ.Okay pg (F_zZ) := zcr zcg (zZ_To) (zZ_go) ⟨zZ_k26, trivial⟩
def tkFine (a : List Bool) (c : List Th) (t : Tk) : Bool :=
 if (!t.1) = true then !((((t.1 == false) && ((t.2.1 == 0) && ((t.2.2.1 == 0) && ((t.2.2.2.1 == 0) && ((t.2.2.2.2.1 == 0) && ((t.2.2.2.2.2 == false) && true)))))) != true))
 else !((((!((inB a t.2.1 && gI a t.2.1))) || (decide (t.2.2.1 < 1))) || (decide (1048576 < t.2.2.1))) || (!(((t.2.2.2.1 == 0 && t.2.2.2.2.1 == 0) || ((t.2.2.2.1 == 1) && ((inB c t.2.2.2.2.1 && (gI c t.2.2.2.2.1).1 != 0)))) || (((t.2.2.2.1 == 2) && (t.2.2.2.2.1 != 0)) && ((inB a t.2.2.2.2.1 && gI a t.2.2.2.2.1))))))
theorem tickets_loop (a : List Bool) (b : List Tk) (c : List Th) (d : List Lk) (e : List Int) (f : Int) (hl : b.length ≤ 1000000) : ∀ (n i : Nat), i + n = b.length →
  lo zZ_b26 (a, b, c, d, e, f) (i : Int) = some (if (b.drop i).all (tkFine a c) = true then .rt () else .ex ())
 | 0, i, h => by
  rw [zco, zZ_b26]
  simp only [RT.run]
  rw [if_neg (by simp; omega), List.drop_eq_nil_of_le (by omega)]
  rfl
 | n + 1, i, h => by
  have hi : i < b.length := by omega
  have ih := tickets_loop a b c d e f hl n (i + 1) (by omega)
  rw [zco, zZ_b26]
  simp only [RT.run]
  rw [if_pos (by simp; omega), if_pos (zcm.2 ⟨by omega, by omega⟩), zcG hi, List.drop_eq_getElem_cons hi, List.all_cons, zcj (by omega), show (i : Int) + 1 = ((i + 1 : Nat) : Int) by omega, ih]
  generalize (b.drop (i + 1)).all (tkFine a c) = q
  unfold tkFine
  generalize b[i] = t
  by_cases h1 : (!t.1) = true
  ·rw [if_pos h1, if_pos h1]
   split
   ·rename_i h2
    rw [h2]; simp
   ·rename_i h2
    rw [Bool.eq_false_iff.2 h2]; simp
  ·rw [if_neg h1, if_neg h1]
   split
   ·rename_i h2
    rw [h2]; simp
   ·rename_i h2
    rw [Bool.eq_false_iff.2 h2]; simp
def zfA (a : List Bool) (b : List Tk) (c : List Th) : Bool := b.all (tkFine a c) && (decide ((b.length : Int) ≤ 96) && (((b.length : Int) == 0) || (gI b ((b.length : Int) - 1)).1))
def e_zZ : zcn := io_zZ.sp (fun (a, b, c, d, e, f) => (decide (b.length ≤ 1000000))) (fun (a, b, c, d, e, f) => (zfA a b c))
theorem sp_zZ (h : ∀ (a : List Bool) (b : List Tk) (c : List Th) (d : List Lk) (e : List Int) (f : Int), WfT [.sl tB, .sl yK, .sl yH, .sl yL, .sl tI, tI] (a, b, c, d, e, f) → ((decide (b.length ≤ 1000000))) = true → (zZ (a, b, c, d, e, f)).run (fun _ => none) = some (zfA a b c)) : e_zZ.ok pg := zct ok_zZ fun (a, b, c, d, e, f) hw hc => h a b c d e f hw hc
theorem e_zZ_ok : e_zZ.ok pg := sp_zZ fun a b c d e f _ hc => by
 have hl := of_decide_eq_true hc
 rw [zZ]
 simp only [RT.run]
 have := tickets_loop a b c d e f hl b.length 0 (by omega)
 rw [show ((0 : Nat) : Int) = 0 from rfl, List.drop_zero] at this
 rw [this, Option.bind_some, zcj (by omega)]
 unfold zfA
 cases b.all (tkFine a c) with
 | false => rfl
 | true =>
  rw [if_pos (by rfl), if_pos]
  ·rw [Bool.true_and]
  ·by_cases h0 : b.length = 0
   ·simp [h0]
   ·rw [zcm.2 ⟨by omega, by omega⟩]; rfl
def zD_b7462 : (Int × Int) → RT Unit Int
| (s, x5_0) =>
 .rq 3 (.ite (x5_0 == 3)
 (.rq 3 (.done (w64 (s + 1))))
 (.done s))
def zD_p7462 : zcd := ⟨7462, false, [tI, tI, .sl tB, .sl yK, .sl yH, .sl yL, .sl tI, tI, tI, tI, tI, tI, tI], [], ⟨[.keep [1, 3, 4, 5], .gc], [1, 3, 4, 5], [.lf (qp 16), .lf (qi 0), .lf (qi 1), .lf (qp 80)], [(16, true, .cells [qi 2, qi 3, qi 4, qi 5, qi 6, qi 7]), (80, true, .cells [qi 8, qi 9, qi 10, qi 11, qi 12])]⟩, [⟨0, ⟨[.keep [1, 3, 4, 5], .gc], [1, 3, 4, 5], [.lf (qp 16), .lf (qm 0), .lf (qi 1), .lf (qp 80)], [(16, true, .cells [qi 2, qi 3, qi 4, qi 5, qi 6, qi 7]), (80, true, .cells [qi 8, qi 9, qi 10, qi 11, qi 12])]⟩, [tI]⟩], (fun i _ => zD_b7462 (i.1, i.2.2.2.2.2.2.2.2.1))⟩
def zD_b58 : ((List Bool) × (List Tk) × (List Th) × (List Lk) × (List Int) × Int) → (Int × Int) → RT (Int × Int) (LR Unit Int)
| (l_0, l_1, l_2, l_3, l_4, l_5), (s, t) =>
 .rq 5 (.ite (decide (t < (l_2.length : Int)))
 (.rq 3 (.req (inB l_2 t) (.rq 6 (let t0 := w64 (t + 1);
 let t1 := (gI l_2 t).1 == 0;
 .ite t1
 (.rq 3 (.ite ((t1 && (((gI l_2 t).2.1 == 0) && (((gI l_2 t).2.2.1 == 0) && (((gI l_2 t).2.2.2.1 == 0) && (((gI l_2 t).2.2.2.2 == 0) && true))))) != true)
 (.rq 1 (.done (.ex ())))
 (.rq 3 (.again (s, t0)))))
 (.call (on zD_b7462 (s, (gI l_2 t).1)) default fun v0 =>
 .rq 101 (.ite (((!((((((decide (0 < (gI l_2 t).1)) && (decide ((gI l_2 t).1 < 6))) && ((gI l_2 t).1 != 4)) && ((gI l_2 t).2.1 == (-1))) || ((((gI l_2 t).1 == 4) && ((gI l_2 t).2.1 != t)) && ((inB l_2 (gI l_2 t).2.1 && (gI l_2 (gI l_2 t).2.1).1 != 0)))) || (((gI l_2 t).1 == 6) && ((inB l_3 (gI l_2 t).2.1 && (gI l_3 (gI l_2 t).2.1).1))))) || (!(((gI l_2 t).2.2.1 == (-1)) || (((gI l_2 t).1 != 5) && ((isV l_2 (gI l_2 t).2.2.1 (4 : Int) t)))))) || ((!(((gI l_2 t).2.2.2.1 == 1) && ((gI l_2 t).2.2.2.2 == 1))) && (((decide ((gI l_2 t).2.2.2.2 < 1)) || (decide ((gI l_2 t).2.2.2.1 ≤ (gI l_2 t).2.2.2.2))) || (decide (l_5 < (gI l_2 t).2.2.2.1)))))
 (.rq 1 (.done (.ex ())))
 (.rq 3 (.again (v0, t0)))))))))
 (.done (.rt s)))
def zD_p58 : zcd := ⟨58, true, [.sl tB, .sl yK, .sl yH, .sl yL, .sl tI, tI], [tI, tI], ⟨[.keep [1, 3, 4], .gc], [1, 3, 4], [.lf (qp 16), .lf (qm 0), .lf (qm 1)], [(16, true, .cells [qi 0, qi 1, qi 2, qi 3, qi 4, qi 5])]⟩, [⟨1, ⟨[.keep [2], .gc], [2], [.lf (.fix (.bool false))], []⟩, []⟩, ⟨2, ⟨[.keep [1, 3], .gc], [1, 3], [.lf (qp 16), .lf (qm 0)], [(16, true, .cells [qi 0, qi 1, qi 2, qi 3, qi 4, qi 5])]⟩, [tI]⟩], zD_b58⟩
def zD : ((List Bool) × (List Tk) × (List Th) × (List Lk) × (List Int) × Int) → RT Unit Bool
| (a0_0, a0_1, a0_2, a0_3, a0_4, a0_5) =>
 .rq 4 (.call (lo zD_b58 (a0_0, a0_1, a0_2, a0_3, a0_4, a0_5) (0, 0)) default fun v1 =>
 .ite v1.isRt
 (.rq 18 (let t0 := (a0_2.length : Int) == 0;
 let t1 := w64 ((a0_2.length : Int) - 1);
 let t2 := (decide (v1.getR < 2)) && (decide ((a0_2.length : Int) ≤ 32));
 .req ((inB a0_2 t1) || (!((!t0) && t2))) (.rq 6 (.done (t2 && (t0 || ((gI a0_2 t1).1 != 0)))))))
 (.done false))
def F_zD (x : (List Bool) × (List Tk) × (List Th) × (List Lk) × (List Int) × Int) : Option Bool := (zD x).run fun _ => none
def io_zD : Io := ⟨n_zD, [.sl tB, .sl yK, .sl yH, .sl yL, .sl tI, tI], [.agg [qm 0, qm 1, qm 2, qm 3, qm 4, qm 5]], [], [[.sl tB, .sl yK, .sl yH, .sl yL, .sl tI, tI]], [tB], .lf (qm 0), [], [], false⟩
def zD_P : List zcd := [zD_p7462, zD_p58]
def zD_T : zci := tab [e_zca, e_zbQ, e_zax]
theorem zD_To : zch pg zD_T := zce ⟨e_zca_ok, e_zbQ_ok, zhO, trivial⟩
theorem zD_k7462 : (zD_p7462).OK pg (zD_T) (zcz 154 (zD_P)) (zcq f_zD) 154 := ⟨by kernel_rfl, fun i x => by kernel_rfl⟩
theorem zD_k58 : (zD_p58).OK pg (zD_T) (zcz 154 (zD_P)) (zcq f_zD) 154 := ⟨by kernel_rfl, fun i x => by kernel_rfl⟩
theorem zD_go : zcu pg (zD_T) io_zD f_zD (zD_P) [] (zD) := ⟨by kernel_rfl, by kernel_rfl, fun x => by kernel_rfl⟩
theorem ok_zD : io_zD.Okay pg (F_zD) := zcr zcg (zD_To) (zD_go) ⟨zD_k7462, zD_k58, trivial⟩
def zgo (c : List Th) (d : List Lk) (f : Int) (i : Int) : Bool :=
 if ((gI c i).1 == 0) = true then !(((gI c i).1 == 0 && (((gI c i).2.1 == 0) && (((gI c i).2.2.1 == 0) && (((gI c i).2.2.2.1 == 0) && (((gI c i).2.2.2.2 == 0) && true))))) != true)
 else !(((!((((((decide (0 < (gI c i).1)) && (decide ((gI c i).1 < 6))) && ((gI c i).1 != 4)) && ((gI c i).2.1 == (-1))) || ((((gI c i).1 == 4) && ((gI c i).2.1 != i)) && ((inB c (gI c i).2.1 && (gI c (gI c i).2.1).1 != 0)))) || (((gI c i).1 == 6) && ((inB d (gI c i).2.1 && (gI d (gI c i).2.1).1))))) || (!(((gI c i).2.2.1 == (-1)) || (((gI c i).1 != 5) && ((isV c (gI c i).2.2.1 (4 : Int) i)))))) || ((!(((gI c i).2.2.2.1 == 1) && ((gI c i).2.2.2.2 == 1))) && (((decide ((gI c i).2.2.2.2 < 1)) || (decide ((gI c i).2.2.2.1 ≤ (gI c i).2.2.2.2))) || (decide (f < (gI c i).2.2.2.1)))))
def runs (c : List Th) (i n : Nat) : Nat := ((List.range' i n).filter fun (k : Nat) => (gI c (k : Int)).1 == 3).length
theorem ziP (a : List Bool) (b : List Tk) (c : List Th) (d : List Lk) (e : List Int) (f : Int) (hl : c.length ≤ 1000000) : ∀ (n i s : Nat), i + n = c.length → s ≤ i →
  ∃ v : Int, 0 ≤ v ∧ v ≤ c.length ∧ v = s + (runs c i n : Int) ∧ lo zD_b58 (a, b, c, d, e, f) ((s : Int), (i : Int)) = some (if (List.range' i n).all (fun (k : Nat) => zgo c d f (k : Int)) = true then .rt v else .ex ())
 | 0, i, s, h, hs => by
  refine ⟨(s : Int), by omega, by omega, by simp [runs], ?_⟩
  rw [zco, zD_b58]
  simp only [RT.run]
  rw [if_neg (by simp; omega)]
  rfl
 | n + 1, i, s, h, hs => by
  have hi : i < c.length := by omega
  have hin : inB c (i : Int) = true := zcm.2 ⟨by omega, by omega⟩
  by_cases h0 : ((gI c (i : Int)).1 == 0) = true
  ·obtain ⟨v, h1, h2, hv, ih⟩ := ziP a b c d e f hl n (i + 1) s (by omega) (by omega)
   have hne : ((gI c (i : Int)).1 == 3) = false := by rw [beq_iff_eq] at h0; rw [h0]; rfl
   refine ⟨v, h1, h2, by rw [hv, runs, runs, List.range'_succ, List.filter_cons, hne]; rfl, ?_⟩
   rw [zco, zD_b58]
   simp only [RT.run]
   rw [if_pos (by simp; omega), if_pos hin, if_pos h0, zcj (by omega), show (i : Int) + 1 = ((i + 1 : Nat) : Int) by omega, ih, List.range'_succ, List.all_cons]
   generalize (List.range' (i + 1) n).all (fun (k : Nat) => zgo c d f (k : Int)) = q
   unfold zgo
   rw [if_pos h0]
   split
   ·rename_i h3; rw [h3]; simp
   ·rename_i h3; rw [Bool.eq_false_iff.2 h3]; simp
  ·have hb : ∃ s' : Nat, s' ≤ i + 1 ∧ s' = s + (if ((gI c (i : Int)).1 == 3) = true then 1 else 0) ∧ on zD_b7462 ((s : Int), (gI c (i : Int)).1) = some (s' : Int) := by
    show ∃ s' : Nat, s' ≤ i + 1 ∧ s' = s + (if ((gI c (i : Int)).1 == 3) = true then 1 else 0) ∧ (zD_b7462 _).run _ = _
    rw [zD_b7462]
    simp only [RT.run]
    split
    ·rename_i h3; exact ⟨s + 1, by omega, rfl, by rw [zcj (by omega)]; rfl⟩
    ·rename_i h3; exact ⟨s, by omega, rfl, rfl⟩
   obtain ⟨s', hs', hse, hb⟩ := hb
   obtain ⟨v, h1, h2, hv, ih⟩ := ziP a b c d e f hl n (i + 1) s' (by omega) hs'
   refine ⟨v, h1, h2, by rw [hv, hse, runs, runs, List.range'_succ, List.filter_cons]; split <;> simp <;> omega, ?_⟩
   rw [zco, zD_b58]
   simp only [RT.run]
   rw [if_pos (by simp; omega), if_pos hin, if_neg h0, hb, Option.bind_some, zcj (by omega), show (i : Int) + 1 = ((i + 1 : Nat) : Int) by omega, ih, List.range'_succ, List.all_cons]
   generalize (List.range' (i + 1) n).all (fun (k : Nat) => zgo c d f (k : Int)) = q
   unfold zgo
   rw [if_neg h0]
   split
   ·rename_i h3; rw [h3]; simp
   ·rename_i h3; rw [Bool.eq_false_iff.2 h3]; simp
def zem (c : List Th) (d : List Lk) (f : Int) : Bool := (List.range c.length).all (fun (k : Nat) => zgo c d f (k : Int)) &&
 ((decide ((runs c 0 c.length : Int) < 2) && decide ((c.length : Int) ≤ 32)) && (((c.length : Int) == 0) || ((gI c ((c.length : Int) - 1)).1 != 0)))
def e_zD : zcn := io_zD.sp (fun (a, b, c, d, e, f) => (decide (c.length ≤ 1000000))) (fun (a, b, c, d, e, f) => (zem c d f))
theorem sp_zD (h : ∀ (a : List Bool) (b : List Tk) (c : List Th) (d : List Lk) (e : List Int) (f : Int), WfT [.sl tB, .sl yK, .sl yH, .sl yL, .sl tI, tI] (a, b, c, d, e, f) → ((decide (c.length ≤ 1000000))) = true → (zD (a, b, c, d, e, f)).run (fun _ => none) = some (zem c d f)) : e_zD.ok pg := zct ok_zD fun (a, b, c, d, e, f) hw hc => h a b c d e f hw hc
theorem e_zD_ok : e_zD.ok pg := sp_zD fun a b c d e f _ hc => by
 have hl := of_decide_eq_true hc
 rw [zD]
 simp only [RT.run]
 obtain ⟨v, h1, h2, hv, this⟩ := ziP a b c d e f hl c.length 0 0 (by omega) (by omega)
 rw [show ((0 : Nat) : Int) = 0 from rfl, ← List.range_eq_range'] at this
 rw [this, Option.bind_some, zcj (by omega)]
 unfold zem
 cases (List.range c.length).all (fun (k : Nat) => zgo c d f (k : Int)) with
 | false => rfl
 | true =>
  have hv' : v = (runs c 0 c.length : Int) := by rw [hv]; simp
  subst hv'
  rw [if_pos (by rfl), if_pos]
  ·rw [Bool.true_and]; rfl
  ·by_cases h0 : c.length = 0
   ·simp [h0]
   ·rw [zcm.2 ⟨by omega, by omega⟩]; rfl
def zir : (Int × (List Bool) × (List Tk) × (List Th) × (List Lk) × (List Int) × Int × Int) → Int → RT Int (LR Unit Unit)
| (s, l_0, l_1, l_2, l_3, l_4, l_5, t_1), x5 =>
 .rq 5 (.ite (decide (x5 < (l_2.length : Int)))
 (.rq 15 (.ite (((isV l_2 x5 (6 : Int) s)) && ((t_1 == (-1)) || (t_1 == x5)))
 (.rq 1 (.done (.ex ())))
 (.rq 3 (.again (w64 (x5 + 1))))))
 (.done (.rt ())))
def zS_p13470 : zcd := ⟨13470, true, [tI, .sl tB, .sl yK, .sl yH, .sl yL, .sl tI, tI, tB, tI], [tI], ⟨[.keep [1, 3, 4, 5], .gc], [1, 3, 4, 5], [.lf (qp 16), .lf (qi 0), .lf (qp 64), .lf (qm 0)], [(16, true, .cells [qi 1, qi 2, qi 3, qi 4, qi 5, qi 6]), (64, true, .cells [qi 7, qi 8])]⟩, [⟨1, ⟨[.keep [2], .gc], [2], [.lf (.fix (.bool false))], []⟩, []⟩, ⟨4, ⟨[.keep [1, 3], .gc], [1, 3], [.lf (qp 16), .lf (qi 0)], [(16, true, .cells [qi 1, qi 2, qi 3, qi 4, qi 5, qi 6])]⟩, []⟩], (fun i => zir (i.1, i.2.1, i.2.2.1, i.2.2.2.1, i.2.2.2.2.1, i.2.2.2.2.2.1, i.2.2.2.2.2.2.1, i.2.2.2.2.2.2.2.2))⟩
def zS_b26 : ((List Bool) × (List Tk) × (List Th) × (List Lk) × (List Int) × Int) → Int → RT Int (LR Unit Unit)
| (l_0, l_1, l_2, l_3, l_4, l_5), s =>
 .rq 5 (.ite (decide (s < (l_3.length : Int)))
 (.rq 3 (.req (inB l_3 s) (.rq 6 (let t0 := w64 (s + 1);
 .ite (!(gI l_3 s).1)
 (.rq 3 (.ite ((gI l_3 s).2 != 0)
 (.rq 1 (.done (.ex ())))
 (.rq 3 (.again t0))))
 (.rq 10 (.ite (((gI l_3 s).2 != (-1)) && (!((inB l_2 (gI l_3 s).2 && (gI l_2 (gI l_3 s).2).1 != 0))))
 (.rq 1 (.done (.ex ())))
 (.rq 1 (.call (lo zir (s, l_0, l_1, l_2, l_3, l_4, l_5, (gI l_3 s).2) 0) default fun v0 =>
 .ite v0.isRt
 (.rq 3 (.again t0))
 (.done (.ex ()))))))))))
 (.done (.rt ())))
def zS_p26 : zcd := ⟨26, true, [.sl tB, .sl yK, .sl yH, .sl yL, .sl tI, tI], [tI], ⟨[.keep [1, 3], .gc], [1, 3], [.lf (qp 16), .lf (qm 0)], [(16, true, .cells [qi 0, qi 1, qi 2, qi 3, qi 4, qi 5])]⟩, [⟨1, ⟨[.keep [2], .gc], [2], [.lf (.fix (.bool false))], []⟩, []⟩, ⟨2, ⟨[.keep [1], .gc], [1], [.lf (qp 16)], [(16, true, .cells [qi 0, qi 1, qi 2, qi 3, qi 4, qi 5])]⟩, []⟩], zS_b26⟩
def zS : ((List Bool) × (List Tk) × (List Th) × (List Lk) × (List Int) × Int) → RT Unit Bool
| (a0_0, a0_1, a0_2, a0_3, a0_4, a0_5) =>
 .rq 3 (.call (lo zS_b26 (a0_0, a0_1, a0_2, a0_3, a0_4, a0_5) 0) default fun v1 =>
 .ite v1.isRt
 (.rq 14 (let t0 := (a0_3.length : Int) == 0;
 let t1 := decide ((a0_3.length : Int) ≤ 8);
 let t2 := w64 ((a0_3.length : Int) - 1);
 .req ((inB a0_3 t2) || (!((!t0) && t1))) (.rq 5 (.done (t1 && (t0 || (gI a0_3 t2).1))))))
 (.done false))
def F_zS (x : (List Bool) × (List Tk) × (List Th) × (List Lk) × (List Int) × Int) : Option Bool := (zS x).run fun _ => none
def io_zS : Io := ⟨n_zS, [.sl tB, .sl yK, .sl yH, .sl yL, .sl tI, tI], [.agg [qm 0, qm 1, qm 2, qm 3, qm 4, qm 5]], [], [[.sl tB, .sl yK, .sl yH, .sl yL, .sl tI, tI]], [tB], .lf (qm 0), [], [], false⟩
def zS_P : List zcd := [zS_p13470, zS_p26]
def zS_T : zci := tab [e_zca, e_zax]
theorem zS_To : zch pg zS_T := zce ⟨e_zca_ok, zhO, trivial⟩
theorem zS_k13470 : (zS_p13470).OK pg (zS_T) (zcz 75 (zS_P)) (zcq f_zS) 75 := ⟨by kernel_rfl, fun i x => by kernel_rfl⟩
theorem zS_k26 : (zS_p26).OK pg (zS_T) (zcz 75 (zS_P)) (zcq f_zS) 75 := ⟨by kernel_rfl, fun i x => by kernel_rfl⟩
theorem zS_go : zcu pg (zS_T) io_zS f_zS (zS_P) [] (zS) := ⟨by kernel_rfl, by kernel_rfl, fun x => by kernel_rfl⟩
theorem ok_zS : io_zS.Okay pg (F_zS) := zcr zcg (zS_To) (zS_go) ⟨zS_k13470, zS_k26, trivial⟩
def lkFine (c : List Th) (i : Int) (l : Lk) : Bool :=
 if (!l.1) = true then !(l.2 != 0) else !((l.2 != (-1)) && (!((inB c l.2 && (gI c l.2).1 != 0)))) && (List.range c.length).all fun (k : Nat) => !((isV c (k : Int) 6 i) && ((l.2 == (-1)) || (l.2 == (k : Int))))
theorem locks_inner (a : List Bool) (b : List Tk) (c : List Th) (d : List Lk) (e : List Int) (f : Int) (i h : Int) (hl : c.length ≤ 1000000) : ∀ (n k : Nat), k + n = c.length →
  lo zir (i, a, b, c, d, e, f, h) (k : Int) = some (if (List.range' k n).all (fun (k : Nat) => !((isV c (k : Int) 6 i) && ((h == (-1)) || (h == (k : Int))))) = true then .rt () else .ex ())
 | 0, k, hk => by
  rw [zco, zir]
  simp only [RT.run]
  rw [if_neg (by simp; omega)]
  rfl
 | n + 1, k, hk => by
  rw [zco, zir]
  simp only [RT.run]
  rw [if_pos (by simp; omega), zcj (by omega), show (k : Int) + 1 = ((k + 1 : Nat) : Int) by omega, locks_inner a b c d e f i h hl n (k + 1) (by omega), List.range'_succ, List.all_cons]
  generalize (List.range' (k + 1) n).all (fun (k : Nat) => !((isV c (k : Int) 6 i) && ((h == (-1)) || (h == (k : Int))))) = q
  split
  ·rename_i h3; rw [h3]; simp
  ·rename_i h3; rw [Bool.eq_false_iff.2 h3]; simp
theorem locks_loop (a : List Bool) (b : List Tk) (c : List Th) (d : List Lk) (e : List Int) (f : Int) (hl : c.length ≤ 1000000) (hd : d.length ≤ 1000000) : ∀ (n i : Nat), i + n = d.length →
  lo zS_b26 (a, b, c, d, e, f) (i : Int) = some (if (List.range' i n).all (fun (k : Nat) => lkFine c (k : Int) (gI d (k : Int))) = true then .rt () else .ex ())
 | 0, i, h => by
  rw [zco, zS_b26]
  simp only [RT.run]
  rw [if_neg (by simp; omega)]
  rfl
 | n + 1, i, h => by
  have hi : i < d.length := by omega
  have hin := locks_inner a b c d e f (i : Int) (gI d (i : Int)).2 hl c.length 0 (by omega)
  rw [show ((0 : Nat) : Int) = 0 from rfl, ← List.range_eq_range'] at hin
  rw [zco, zS_b26]
  simp only [RT.run]
  rw [if_pos (by simp; omega), if_pos (zcm.2 ⟨by omega, by omega⟩), zcj (by omega), show (i : Int) + 1 = ((i + 1 : Nat) : Int) by omega, locks_loop a b c d e f hl hd n (i + 1) (by omega), List.range'_succ, List.all_cons, hin, Option.bind_some]
  generalize (List.range' (i + 1) n).all (fun (k : Nat) => lkFine c (k : Int) (gI d (k : Int))) = q
  unfold lkFine
  generalize (List.range c.length).all (fun (k : Nat) => !((isV c (k : Int) 6 (i : Int)) && (((gI d (i : Int)).2 == (-1)) || ((gI d (i : Int)).2 == (k : Int))))) = q2
  by_cases h1 : (!(gI d (i : Int)).1) = true
  ·rw [if_pos h1, if_pos h1]
   cases ((gI d (i : Int)).2 != 0) <;> simp
  ·rw [if_neg h1, if_neg h1]
   split
   ·rename_i h2; rw [h2]; simp
   ·rename_i h2
    rw [Bool.eq_false_iff.2 h2]
    cases q2 <;> simp [LR.isRt]
def locksV (c : List Th) (d : List Lk) : Bool := (List.range d.length).all (fun (k : Nat) => lkFine c (k : Int) (gI d (k : Int))) &&
 (decide ((d.length : Int) ≤ 8) && (((d.length : Int) == 0) || (gI d ((d.length : Int) - 1)).1))
def e_zS : zcn := io_zS.sp (fun (a, b, c, d, e, f) => (decide (c.length ≤ 1000000) && decide (d.length ≤ 1000000))) (fun (a, b, c, d, e, f) => (locksV c d))
theorem sp_zS (h : ∀ (a : List Bool) (b : List Tk) (c : List Th) (d : List Lk) (e : List Int) (f : Int), WfT [.sl tB, .sl yK, .sl yH, .sl yL, .sl tI, tI] (a, b, c, d, e, f) → ((decide (c.length ≤ 1000000) && decide (d.length ≤ 1000000))) = true → (zS (a, b, c, d, e, f)).run (fun _ => none) = some (locksV c d)) : e_zS.ok pg := zct ok_zS fun (a, b, c, d, e, f) hw hc => h a b c d e f hw hc
theorem e_zS_ok : e_zS.ok pg := sp_zS fun a b c d e f _ hc => by
 rw [Bool.and_eq_true] at hc
 have hl := of_decide_eq_true hc.1
 have hd := of_decide_eq_true hc.2
 rw [zS]
 simp only [RT.run]
 have := locks_loop a b c d e f hl hd d.length 0 (by omega)
 rw [show ((0 : Nat) : Int) = 0 from rfl, ← List.range_eq_range'] at this
 rw [this, Option.bind_some, zcj (by omega)]
 unfold locksV
 cases (List.range d.length).all (fun (k : Nat) => lkFine c (k : Int) (gI d (k : Int))) with
 | false => rfl
 | true =>
  rw [if_pos (by rfl), if_pos]
  ·rw [Bool.true_and]
  ·by_cases h0 : d.length = 0
   ·simp [h0]
   ·rw [zcm.2 ⟨by omega, by omega⟩]; rfl
def zk_b6730 : (Int × (List Int)) → (Int × Int) → RT (Int × Int) Int
| (s, l_4), (t, x5) =>
 .rq 5 (.ite (decide (x5 < (l_4.length : Int)))
 (.rq 3 (.req (inB l_4 x5) (.rq 3 (let t0 := w64 (x5 + 1);
 .ite ((gI l_4 x5) == s)
 (.rq 6 (.again (w64 (t + 1), t0)))
 (.rq 3 (.again (t, t0)))))))
 (.done t))
def zk_p6730 : zcd := ⟨6730, true, [tI, .sl tB, .sl yK, .sl yH, .sl yL, .sl tI, tI], [tI, tI], ⟨[.keep [1, 3, 4, 5], .gc], [1, 3, 4, 5], [.lf (qp 16), .lf (qi 0), .lf (qm 0), .lf (qm 1)], [(16, true, .cells [qi 1, qi 2, qi 3, qi 4, qi 5, qi 6])]⟩, [⟨4, ⟨[.keep [1, 3, 4], .gc], [1, 3, 4], [.lf (qp 16), .lf (qi 0), .lf (qm 0)], [(16, true, .cells [qi 1, qi 2, qi 3, qi 4, qi 5, qi 6])]⟩, [tI]⟩], (fun i => zk_b6730 (i.1, i.2.2.2.2.2.1))⟩
def zk_b6734 : (Int × Int × (List Th)) → RT Unit Bool
| (s, t, l_2) =>
 .rq 3 (let t0 := inB l_2 (gI l_2 s).2.1;
 let t1 := (gI l_2 (gI l_2 s).2.1).1 == 5;
 .ite (t == 1)
 (.rq 3 (.req (inB l_2 s) (.rq 5 (.ite ((gI l_2 s).1 == 4)
 (.rq 5 (.req (inB l_2 s) (.rq 2 (.req t0 (.rq 4 (.done t1))))))
 (.rq 1 (.done false))))))
 (.rq 2 (.ite false
 (.rq 5 (.req (inB l_2 s) (.rq 2 (.req t0 (.rq 4 (.done t1))))))
 (.rq 1 (.done false)))))
def zk_p6734 : zcd := ⟨6734, false, [tI, tI, .sl tB, .sl yK, .sl yH, .sl yL, .sl tI, tI], [], ⟨[.keep [1, 3, 4], .gc], [1, 3, 4], [.lf (qp 16), .lf (qi 0), .lf (qi 1)], [(16, true, .cells [qi 2, qi 3, qi 4, qi 5, qi 6, qi 7])]⟩, [⟨0, ⟨[.keep [1, 3, 64], .gc], [1, 3, 64], [.lf (qp 16), .lf (qi 0), .lf (qm 0)], [(16, true, .cells [qi 2, qi 3, qi 4, qi 5, qi 6, qi 7])]⟩, [tB]⟩], (fun i _ => zk_b6734 (i.1, i.2.1, i.2.2.2.2.1))⟩
def zk_b26 : ((List Bool) × (List Tk) × (List Th) × (List Lk) × (List Int) × Int) → Int → RT Int (LR Unit Unit)
| (l_0, l_1, l_2, l_3, l_4, l_5), s =>
 .rq 5 (.ite (decide (s < (l_2.length : Int)))
 (.rq 2 (.call (lo zk_b6730 (s, l_4) (0, 0)) default fun v0 =>
 .rq 2 (.call (F_zbk (l_0, l_1, l_2, l_3, l_4, l_5, s)) default fun v1 =>
 .rq 7 (.ite (((v1 == (v0 == 1)) != true) || (decide (1 < v0)))
 (.rq 1 (.done (.ex ())))
 (.call (on zk_b6734 (s, v0, l_2)) default fun v2 =>
 .ite v2
 (.rq 1 (.done (.ex ())))
 (.rq 3 (.again (w64 (s + 1)))))))))
 (.done (.rt ())))
def zk_p26 : zcd := ⟨26, true, [.sl tB, .sl yK, .sl yH, .sl yL, .sl tI, tI], [tI], ⟨[.keep [1, 3], .gc], [1, 3], [.lf (qp 16), .lf (qm 0)], [(16, true, .cells [qi 0, qi 1, qi 2, qi 3, qi 4, qi 5])]⟩, [⟨1, ⟨[.keep [2], .gc], [2], [.lf (.fix (.bool false))], []⟩, []⟩, ⟨2, ⟨[.keep [1], .gc], [1], [.lf (qp 16)], [(16, true, .cells [qi 0, qi 1, qi 2, qi 3, qi 4, qi 5])]⟩, []⟩], zk_b26⟩
def zk_b1864 : (Int × (List Th) × (List Int)) → RT Unit Bool
| (x6, l_2, l_4) =>
 .rq 3 (.req (inB l_4 x6) (.rq 3 (.ite (decide ((gI l_4 x6) < 0))
 (.rq 1 (.done true))
 (.rq 3 (.req (inB l_4 x6) (.rq 6 (.done (decide ((l_2.length : Int) ≤ (gI l_4 x6))))))))))
def zk_p1864 : zcd := ⟨1864, false, [tI, .sl tB, .sl yK, .sl yH, .sl yL, .sl tI, tI], [], ⟨[.keep [1, 6], .gc], [1, 6], [.lf (qp 16), .lf (qi 0)], [(16, true, .cells [qi 1, qi 2, qi 3, qi 4, qi 5, qi 6])]⟩, [⟨0, ⟨[.keep [1, 6, 88], .gc], [1, 6, 88], [.lf (qp 16), .lf (qi 0), .lf (qm 0)], [(16, true, .cells [qi 1, qi 2, qi 3, qi 4, qi 5, qi 6])]⟩, [tB]⟩], (fun i _ => zk_b1864 (i.1, i.2.2.2.1, i.2.2.2.2.2.1))⟩
def zk_b58 : ((List Th) × (List Int)) → Int → RT Int (LR Unit Unit)
| (l_2, l_4), x6 =>
 .rq 5 (.ite (decide (x6 < (l_4.length : Int)))
 (.call (on zk_b1864 (x6, l_2, l_4)) default fun v4 =>
 .ite v4
 (.rq 1 (.done (.ex ())))
 (.rq 3 (.again (w64 (x6 + 1)))))
 (.done (.rt ())))
def zk_p58 : zcd := ⟨58, true, [.sl tB, .sl yK, .sl yH, .sl yL, .sl tI, tI], [tI], ⟨[.keep [1, 6], .gc], [1, 6], [.lf (qp 16), .lf (qm 0)], [(16, true, .cells [qi 0, qi 1, qi 2, qi 3, qi 4, qi 5])]⟩, [⟨1, ⟨[.keep [2], .gc], [2], [.lf (.fix (.bool false))], []⟩, []⟩, ⟨6, ⟨[.keep [], .gc], [], [], []⟩, []⟩], (fun i => zk_b58 (i.2.2.1, i.2.2.2.2.1))⟩
def zk : ((List Bool) × (List Tk) × (List Th) × (List Lk) × (List Int) × Int) → RT Unit Bool
| (a0_0, a0_1, a0_2, a0_3, a0_4, a0_5) =>
 .rq 3 (.call (lo zk_b26 (a0_0, a0_1, a0_2, a0_3, a0_4, a0_5) 0) default fun v3 =>
 .ite v3.isRt
 (.rq 1 (.call (lo zk_b58 (a0_2, a0_4) 0) default fun v5 =>
 .ite v5.isRt
 (.rq 1 (.done true))
 (.done false)))
 (.done false))
def F_zk (x : (List Bool) × (List Tk) × (List Th) × (List Lk) × (List Int) × Int) : Option Bool := (zk x).run fun _ => none
def io_zk : Io := ⟨n_zk, [.sl tB, .sl yK, .sl yH, .sl yL, .sl tI, tI], [.agg [qm 0, qm 1, qm 2, qm 3, qm 4, qm 5]], [], [[.sl tB, .sl yK, .sl yH, .sl yL, .sl tI, tI]], [tB], .lf (qm 0), [], [], false⟩
def zk_P : List zcd := [zk_p6730, zk_p6734, zk_p26, zk_p1864, zk_p58]
def zk_T : zci := tab [e_zbk]
theorem zk_To : zch pg zk_T := zce ⟨e_zbk_ok, trivial⟩
theorem zk_k6730 : (zk_p6730).OK pg (zk_T) (zcz 89 (zk_P)) (zcq f_zk) 89 := ⟨by kernel_rfl, fun i x => by kernel_rfl⟩
theorem zk_k6734 : (zk_p6734).OK pg (zk_T) (zcz 89 (zk_P)) (zcq f_zk) 89 := ⟨by kernel_rfl, fun i x => by kernel_rfl⟩
theorem zk_k26 : (zk_p26).OK pg (zk_T) (zcz 89 (zk_P)) (zcq f_zk) 89 := ⟨by kernel_rfl, fun i x => by kernel_rfl⟩
theorem zk_k1864 : (zk_p1864).OK pg (zk_T) (zcz 89 (zk_P)) (zcq f_zk) 89 := ⟨by kernel_rfl, fun i x => by kernel_rfl⟩
theorem zk_k58 : (zk_p58).OK pg (zk_T) (zcz 89 (zk_P)) (zcq f_zk) 89 := ⟨by kernel_rfl, fun i x => by kernel_rfl⟩
theorem zk_go : zcu pg (zk_T) io_zk f_zk (zk_P) [] (zk) := ⟨by kernel_rfl, by kernel_rfl, fun x => by kernel_rfl⟩
theorem ok_zk : io_zk.Okay pg (F_zk) := zcr zcg (zk_To) (zk_go) ⟨zk_k6730, zk_k6734, zk_k26, zk_k1864, zk_k58, trivial⟩
def queuesV (c : List Th) (i : Int) : Bool := if ((gI c i).1 == 4) = true then (gI c (gI c i).2.1).2.2.1 != i else (gI c i).1 == 6
def qOne (c : List Th) (e : List Int) (i : Int) : Bool :=
 !(((queuesV c i == ((e.count i : Int) == 1)) != true) || (decide (1 < (e.count i : Int)))) && !(((e.count i : Int) == 1) && ((gI c i).1 == 4 && (gI c (gI c i).2.1).1 == 5))
def waitOK (c : List Th) : Bool := (List.range c.length).all fun (k : Nat) => !((gI c (k : Int)).1 == 4) || inB c (gI c (k : Int)).2.1
theorem zjb (e : List Int) (s : Int) (he : e.length ≤ 1000000) : ∀ (n k t : Nat), k + n = e.length → t ≤ k → lo zk_b6730 (s, e) ((t : Int), (k : Int)) = some ((t + (e.drop k).count s : Nat) : Int)
 | 0, k, t, h, _ => by
  rw [zco, zk_b6730]
  simp only [RT.run]
  rw [if_neg (by simp; omega), List.drop_eq_nil_of_le (by omega)]
  simp
 | n + 1, k, t, h, ht => by
  have hk : k < e.length := by omega
  rw [zco, zk_b6730]
  simp only [RT.run]
  rw [if_pos (by simp; omega), if_pos (zcm.2 ⟨by omega, by omega⟩), zcj (by omega), zcj (by omega), show (k : Int) + 1 = ((k + 1 : Nat) : Int) by omega, show (t : Int) + 1 = ((t + 1 : Nat) : Int) by omega,
   zjb e s he n (k + 1) (t + 1) (by omega) (by omega), zjb e s he n (k + 1) t (by omega) (by omega), zcG hk, List.drop_eq_getElem_cons hk, List.count_cons]
  split <;> congr 2 <;> omega
theorem queue_b58 (c : List Th) (e : List Int) (he : e.length ≤ 1000000) : ∀ (n k : Nat), k + n = e.length → lo zk_b58 (c, e) (k : Int) = some (if (e.drop k).all (inB c) = true then .rt () else .ex ())
 | 0, k, h => by
  rw [zco, zk_b58]
  simp only [RT.run]
  rw [if_neg (by simp; omega), List.drop_eq_nil_of_le (by omega)]
  rfl
 | n + 1, k, h => by
  have hk : k < e.length := by omega
  have hin : inB e (k : Int) = true := zcm.2 ⟨by omega, by omega⟩
  have hb : on zk_b1864 ((k : Int), c, e) = some (!(inB c e[k])) := by
   show (zk_b1864 _).run _ = _
   rw [zk_b1864]
   simp only [RT.run]
   rw [if_pos hin, if_pos hin, zcG hk]
   unfold inB
   by_cases h0 : e[k] < 0
   ·rw [if_pos (by simpa using h0), decide_eq_false (show ¬ 0 ≤ e[k] by omega)]; rfl
   ·rw [if_neg (by simpa using h0)]
    by_cases h1 : (c.length : Int) ≤ e[k]
    ·rw [decide_eq_true h1, decide_eq_false (show ¬ e[k] < (c.length : Int) by omega), Bool.and_false]; rfl
    ·rw [decide_eq_false h1, decide_eq_true (show 0 ≤ e[k] by omega), decide_eq_true (show e[k] < (c.length : Int) by omega)]; rfl
  rw [zco, zk_b58]
  simp only [RT.run]
  rw [if_pos (by simp; omega), hb, Option.bind_some, zcj (by omega), show (k : Int) + 1 = ((k + 1 : Nat) : Int) by omega, queue_b58 c e he n (k + 1) (by omega), List.drop_eq_getElem_cons hk, List.all_cons]
  cases inB c e[k] <;> simp
theorem queue_loop (a : List Bool) (b : List Tk) (c : List Th) (d : List Lk) (e : List Int) (f : Int) (hl : c.length ≤ 1000000) (he : e.length ≤ 1000000) (hw : waitOK c = true) : ∀ (n i : Nat), i + n = c.length →
  lo zk_b26 (a, b, c, d, e, f) (i : Int) = some (if (List.range' i n).all (fun (k : Nat) => qOne c e (k : Int)) = true then .rt () else .ex ())
 | 0, i, h => by
  rw [zco, zk_b26]
  simp only [RT.run]
  rw [if_neg (by simp; omega)]
  rfl
 | n + 1, i, h => by
  have hi : i < c.length := by omega
  have hin : inB c (i : Int) = true := zcm.2 ⟨by omega, by omega⟩
  have hwi := List.all_eq_true.1 hw i (List.mem_range.2 hi)
  have hcnt := zjb e (i : Int) he e.length 0 0 (by omega) (by omega)
  rw [show ((0 : Nat) : Int) = 0 from rfl, List.drop_zero, Nat.zero_add] at hcnt
  have hq : F_zbk (a, b, c, d, e, f, (i : Int)) = some (queuesV c (i : Int)) := by
   show (zbk _).run _ = _
   rw [zbk]
   simp only [RT.run]
   unfold queuesV
   rw [if_pos hin]
   by_cases h4 : ((gI c (i : Int)).1 == 4) = true
   ·rw [h4] at hwi
    rw [if_pos h4, if_pos (by simpa using hwi), if_pos h4]
   ·rw [if_neg h4, if_neg h4]
  have hb : on zk_b6734 ((i : Int), (e.count (i : Int) : Int), c) = some (((e.count (i : Int) : Int) == 1) && ((gI c (i : Int)).1 == 4 && (gI c (gI c (i : Int)).2.1).1 == 5)) := by
   show (zk_b6734 _).run _ = _
   rw [zk_b6734]
   simp only [RT.run]
   rw [if_pos hin]
   by_cases h1 : ((e.count (i : Int) : Int) == 1) = true
   ·rw [if_pos h1, h1]
    by_cases h4 : ((gI c (i : Int)).1 == 4) = true
    ·rw [h4] at hwi
     rw [if_pos h4, if_pos hin, if_pos (by simpa using hwi), h4]; rfl
    ·rw [if_neg h4, Bool.eq_false_iff.2 h4]; rfl
   ·rw [if_neg h1, Bool.eq_false_iff.2 h1]; rfl
  rw [zco, zk_b26]
  simp only [RT.run]
  rw [if_pos (by simp; omega), hcnt, Option.bind_some, hq, Option.bind_some, hb, Option.bind_some, zcj (by omega), show (i : Int) + 1 = ((i + 1 : Nat) : Int) by omega, queue_loop a b c d e f hl he hw n (i + 1) (by omega), List.range'_succ, List.all_cons]
  generalize (List.range' (i + 1) n).all (fun (k : Nat) => qOne c e (k : Int)) = q
  unfold qOne
  split
  ·rename_i h2; rw [h2]; simp
  ·rename_i h2
   rw [Bool.eq_false_iff.2 h2]
   cases (((e.count (i : Int) : Int) == 1) && ((gI c (i : Int)).1 == 4 && (gI c (gI c (i : Int)).2.1).1 == 5)) <;> simp
def queueV (c : List Th) (e : List Int) : Bool := (List.range c.length).all (fun (k : Nat) => qOne c e (k : Int)) && e.all (inB c)
def e_zk : zcn := io_zk.sp (fun (a, b, c, d, e, f) => ((decide (c.length ≤ 1000000) && decide (e.length ≤ 1000000)) && waitOK c)) (fun (a, b, c, d, e, f) => (queueV c e))
theorem sp_zk (h : ∀ (a : List Bool) (b : List Tk) (c : List Th) (d : List Lk) (e : List Int) (f : Int), WfT [.sl tB, .sl yK, .sl yH, .sl yL, .sl tI, tI] (a, b, c, d, e, f) → (((decide (c.length ≤ 1000000) && decide (e.length ≤ 1000000)) && waitOK c)) = true → (zk (a, b, c, d, e, f)).run (fun _ => none) = some (queueV c e)) : e_zk.ok pg := zct ok_zk fun (a, b, c, d, e, f) hw hc => h a b c d e f hw hc
theorem e_zk_ok : e_zk.ok pg := sp_zk fun a b c d e f _ hc => by
 simp only [Bool.and_eq_true, decide_eq_true_eq] at hc
 obtain ⟨⟨hl, he⟩, hw⟩ := hc
 rw [zk]
 simp only [RT.run]
 have h1 := queue_loop a b c d e f hl he hw c.length 0 (by omega)
 have h2 := queue_b58 c e he e.length 0 (by omega)
 rw [show ((0 : Nat) : Int) = 0 from rfl, ← List.range_eq_range'] at h1
 rw [show ((0 : Nat) : Int) = 0 from rfl, List.drop_zero] at h2
 rw [h1, Option.bind_some, h2, Option.bind_some]
 unfold queueV
 cases (List.range c.length).all (fun (k : Nat) => qOne c e (k : Int)) with
 | false => rfl
 | true => cases e.all (inB c) <;> rfl
theorem wait_of_threads {c : List Th} {d : List Lk} {f : Int} (h : zem c d f = true) : waitOK c = true := by
 refine List.all_eq_true.2 fun k hk => ?_
 unfold zem at h
 simp only [Bool.and_eq_true] at h
 have h1 := List.all_eq_true.1 h.1 k hk
 unfold zgo at h1
 by_cases h4 : (gI c (k : Int)).1 = 4
 ·rw [if_neg (by rw [h4]; decide)] at h1
  rw [h4] at h1
  have : inB c (gI c (k : Int)).2.1 = true := by
   cases hin : inB c (gI c (k : Int)).2.1 with
   | true => rfl
   | false => rw [hin] at h1; simp at h1
  rw [this]; simp
 ·have : ((gI c (k : Int)).1 == 4) = false := by simpa using h4
  rw [this]; rfl
theorem zia {c : List Th} {d : List Lk} {f : Int} (h : zem c d f = true) : zfk c d = true := by
 refine List.all_eq_true.2 fun t ht => ?_
 obtain ⟨k, hk, rfl⟩ := List.mem_iff_getElem.1 ht
 unfold zem at h
 simp only [Bool.and_eq_true] at h
 have h1 := List.all_eq_true.1 h.1 k (List.mem_range.2 hk)
 unfold zgo at h1
 rw [zcG hk] at h1
 by_cases h6 : c[k].1 = 6
 ·rw [if_neg (by rw [h6]; decide)] at h1
  rw [h6] at h1
  have : inB d c[k].2.1 = true := by
   cases hin : inB d c[k].2.1 with
   | true => rfl
   | false => rw [hin] at h1; simp at h1
  rw [this]; simp
 ·have : (c[k].1 == 6) = false := by simpa using h6
  rw [this]; rfl
def zby : ((List Bool) × (List Tk) × (List Th) × (List Lk) × (List Int) × Int) → RT Unit Bool
| (s_0, s_1, s_2, s_3, s_4, s_5) =>
 .rq 31 (.done (((((decide ((s_0.length : Int) ≤ 40)) && (decide ((s_1.length : Int) ≤ 200))) && (decide ((s_2.length : Int) ≤ 80))) && (decide ((s_3.length : Int) ≤ 40))) && (decide ((s_4.length : Int) ≤ 100))))
def F_zby (x : (List Bool) × (List Tk) × (List Th) × (List Lk) × (List Int) × Int) : Option Bool := (zby x).run fun _ => none
def io_zby : Io := ⟨n_zby, [.sl tB, .sl yK, .sl yH, .sl yL, .sl tI, tI], [.agg [qm 0, qm 1, qm 2, qm 3, qm 4, qm 5]], [], [[.sl tB, .sl yK, .sl yH, .sl yL, .sl tI, tI]], [tB], .lf (qm 0), [], [], false⟩
def zby_P : List zcd := []
def zby_T : zci := tab []
theorem zby_To : zch pg zby_T := zce trivial
theorem zby_go : zcu pg (zby_T) io_zby f_zby (zby_P) [] (zby) := ⟨by kernel_rfl, by kernel_rfl, fun x => by kernel_rfl⟩
theorem ok_zby : io_zby.Okay pg (F_zby) := zcr zcg (zby_To) (zby_go) trivial
def smallV (a : List Bool) (b : List Tk) (c : List Th) (d : List Lk) (e : List Int) : Bool :=
 ((((decide ((a.length : Int) ≤ 40)) && (decide ((b.length : Int) ≤ 200))) && (decide ((c.length : Int) ≤ 80))) && (decide ((d.length : Int) ≤ 40))) && (decide ((e.length : Int) ≤ 100))
def e_zby : zcn := io_zby.sp (fun (a, b, c, d, e, f) => true) (fun (a, b, c, d, e, f) => (smallV a b c d e))
theorem sp_zby (h : ∀ (a : List Bool) (b : List Tk) (c : List Th) (d : List Lk) (e : List Int) (f : Int), WfT [.sl tB, .sl yK, .sl yH, .sl yL, .sl tI, tI] (a, b, c, d, e, f) → (zby (a, b, c, d, e, f)).run (fun _ => none) = some (smallV a b c d e)) : e_zby.ok pg := zct ok_zby fun (a, b, c, d, e, f) hw hc => h a b c d e f hw
theorem e_zby_ok : e_zby.ok pg := sp_zby fun a b c d e f _ => by
 rw [zby]; rfl
def zaP_b62 : (Int × (List Bool) × (List Tk) × (List Th) × (List Lk) × (List Int) × Int) → RT Unit Bool
| (s, l_0, l_1, l_2, l_3, l_4, l_5) =>
 .rq 2 (.req ((decide (l_1.length ≤ 1000000))) (let t0 := (zda l_1);
 .req ((decide (t0.length ≤ 4000000) && (decide (0 ≤ s) && decide (s ≤ 1000000)))) (.rq 2 (.ite (!((zeL s.toNat t0)))
 (.rq 4 (.req ((decide (l_2.length ≤ 1000000) && zfk l_2 l_3)) (let t1 := (zcS l_2 l_3);
 .req ((decide (t1.length ≤ 4000000) && (decide (0 ≤ (l_2.length : Int)) && decide ((l_2.length : Int) ≤ 1000000)))) (.rq 3 (.done (!((zeL (l_2.length : Int).toNat t1))))))))
 (.rq 2 (.done false))))))
def zaP_p62 : zcd := ⟨62, false, [tI, .sl tB, .sl yK, .sl yH, .sl yL, .sl tI, tI], [], ⟨[.keep [1, 3], .gc], [1, 3], [.lf (qp 16), .lf (qi 0)], [(16, true, .cells [qi 1, qi 2, qi 3, qi 4, qi 5, qi 6])]⟩, [⟨0, ⟨[.keep [2], .gc], [2], [.lf (qm 0)], []⟩, [tB]⟩], (fun i _ => zaP_b62 i)⟩
def zaP : ((List Bool) × (List Tk) × (List Th) × (List Lk) × (List Int) × Int) → RT Unit Bool
| (a0_0, a0_1, a0_2, a0_3, a0_4, a0_5) =>
 .rq 25 (let t0 := (((decide (a0_5 < 1)) || (decide (1000 < a0_5))) || (decide ((a0_0.length : Int) < 1))) || (decide (16 < (a0_0.length : Int)));
 .req ((inB a0_0 0) || (!(!t0))) (.rq 8 (let t1 := w64 ((a0_0.length : Int) - 1);
 let t2 := t0 || (!(gI a0_0 0));
 .req ((inB a0_0 t1) || (!(!t2))) (.rq 3 (.ite (t2 || (!(gI a0_0 t1)))
 (.rq 1 (.done false))
 (.rq 1 (.req ((decide (a0_1.length ≤ 1000000))) (.rq 3 (let t3 := !((zfA a0_0 a0_1 a0_2));
 .req (((decide (a0_2.length ≤ 1000000))) || (!(!t3))) (.rq 4 (let t4 := t3 || (!((zem a0_2 a0_3 a0_5)));
 .req (((decide (a0_2.length ≤ 1000000) && decide (a0_3.length ≤ 1000000))) || (!(!t4))) (.rq 4 (let t5 := t4 || (!((locksV a0_2 a0_3)));
 .req ((((decide (a0_2.length ≤ 1000000) && decide (a0_4.length ≤ 1000000)) && waitOK a0_2)) || (!(!t5))) (.rq 2 (.ite (t5 || (!((queueV a0_2 a0_4))))
 (.rq 1 (.done false))
 (.call (on zaP_b62 ((a0_0.length : Int), a0_0, a0_1, a0_2, a0_3, a0_4, a0_5)) default fun v0 =>
 .done v0))))))))))))))))
def F_zaP (x : (List Bool) × (List Tk) × (List Th) × (List Lk) × (List Int) × Int) : Option Bool := (zaP x).run fun _ => none
def io_zaP : Io := ⟨n_zaP, [.sl tB, .sl yK, .sl yH, .sl yL, .sl tI, tI], [.agg [qm 0, qm 1, qm 2, qm 3, qm 4, qm 5]], [], [[.sl tB, .sl yK, .sl yH, .sl yL, .sl tI, tI]], [tB], .lf (qm 0), [], [], false⟩
def zaP_P : List zcd := [zaP_p62]
def zaP_T : zci := tab [e_zk, e_zS, e_zD, e_zZ, e_zaN, e_zi, e_zG]
theorem zaP_To : zch pg zaP_T := zce ⟨e_zk_ok, e_zS_ok, e_zD_ok, e_zZ_ok, e_zaN_ok, e_zi_ok, e_zG_ok, trivial⟩
theorem zaP_k62 : (zaP_p62).OK pg (zaP_T) (zcz 71 (zaP_P)) (zcq f_zaP) 71 := ⟨by kernel_rfl, fun i x => by kernel_rfl⟩
theorem zaP_go : zcu pg (zaP_T) io_zaP f_zaP (zaP_P) [] (zaP) := ⟨by kernel_rfl, by kernel_rfl, fun x => by kernel_rfl⟩
theorem ok_zaP : io_zaP.Okay pg (F_zaP) := zcr zcg (zaP_To) (zaP_go) ⟨zaP_k62, trivial⟩
def zfq (a : List Bool) (b : List Tk) (c : List Th) (d : List Lk) (e : List Int) (f : Int) : Bool :=
 (!(((((((decide (f < 1)) || (decide (1000 < f))) || (decide ((a.length : Int) < 1))) || (decide (16 < (a.length : Int)))) || (!(gI a 0))) || (!(gI a ((a.length : Int) - 1))))) &&
 (zfA a b c && (zem c d f && (locksV c d && queueV c e)))) && (!zeL a.length (zda b) && !zeL c.length (zcS c d))
def e_zaP : zcn := io_zaP.sp (fun (a, b, c, d, e, f) => (smallV a b c d e)) (fun (a, b, c, d, e, f) => (zfq a b c d e f))
theorem sp_zaP (h : ∀ (a : List Bool) (b : List Tk) (c : List Th) (d : List Lk) (e : List Int) (f : Int), WfT [.sl tB, .sl yK, .sl yH, .sl yL, .sl tI, tI] (a, b, c, d, e, f) → ((smallV a b c d e)) = true → (zaP (a, b, c, d, e, f)).run (fun _ => none) = some (zfq a b c d e f)) : e_zaP.ok pg := zct ok_zaP fun (a, b, c, d, e, f) hw hc => h a b c d e f hw hc
theorem e_zaP_ok : e_zaP.ok pg := sp_zaP fun a b c d e f _ hc => by
 unfold smallV at hc
 simp only [Bool.and_eq_true, decide_eq_true_eq] at hc
 obtain ⟨⟨⟨⟨ha, hb⟩, hcl⟩, hd⟩, he⟩ := hc
 have la := coinArr_len b
 have lt := thrArr_len c d
 rw [zaP]
 simp only [RT.run]
 rw [zcj (by omega)]
 unfold zfq
 generalize hX : ((((decide (f < 1)) || (decide (1000 < f))) || (decide ((a.length : Int) < 1))) || (decide (16 < (a.length : Int)))) = X
 have hin : X = false → inB a 0 = true ∧ inB a ((a.length : Int) - 1) = true := fun h => by
  subst h
  simp only [Bool.or_eq_false_iff, decide_eq_false_iff_not] at hX
  exact ⟨zcm.2 (by omega), zcm.2 (by omega)⟩
 rw [if_pos (by cases X with | true => simp | false => rw [(hin rfl).1]; rfl), if_pos (by cases X with | true => simp | false => rw [(hin rfl).2]; rfl)]
 cases hY : ((X || !(gI a 0)) || !(gI a ((a.length : Int) - 1))) with
 | true => rw [if_pos rfl]; rfl
 | false =>
  rw [if_neg (by simp), if_pos (by simp; omega), if_pos (by simp; omega), if_pos (by simp; omega)]
  cases hT : zfA a b c with
  | false => simp
  | true =>
   cases hH : zem c d f with
   | false => simp
   | true =>
    cases hL : locksV c d with
    | false => simp
    | true =>
     have hw := wait_of_threads hH
     have ht := zia hH
     rw [if_pos (by rw [hw]; simp; omega)]
     cases hQ : queueV c e with
     | false => simp
     | true =>
      have : on zaP_b62 ((a.length : Int), a, b, c, d, e, f) = some (!zeL a.length (zda b) && !zeL c.length (zcS c d)) := by
       show (zaP_b62 _).run _ = _
       rw [zaP_b62]
       simp only [RT.run, Int.toNat_natCast]
       rw [if_pos (by simp; omega), if_pos (by simp; omega)]
       by_cases hr : zeL a.length (zda b) = true
       ·rw [if_neg (by rw [hr]; decide), hr]; rfl
       ·have hr' := Bool.eq_false_iff.2 hr
        rw [if_pos (by rw [hr']; decide), if_pos (by rw [ht]; simp; omega), if_pos (by simp; omega), hr']; rfl
      rw [this]
      simp
def zaA_b58 : (List Tk) → (Int × Int) → RT (Int × Int) Int
| s_1, (n, k) =>
 .rq 5 (.ite (decide (k < (s_1.length : Int)))
 (.rq 3 (.req (inB s_1 k) (.rq 3 (let t0 := w64 (k + 1);
 .ite ((gI s_1 k).2.2.2.1 == 2)
 (.rq 6 (.again (w64 (n + 1), t0)))
 (.rq 3 (.again (n, t0)))))))
 (.done n))
def zaA_p58 : zcd := ⟨58, true, [.sl tB, .sl yK, .sl yH, .sl yL, .sl tI, tI], [tI, tI], ⟨[.keep [1, 3, 4], .gc], [1, 3, 4], [.lf (qp 16), .lf (qm 0), .lf (qm 1)], [(16, true, .cells [qi 0, qi 1, qi 2, qi 3, qi 4, qi 5])]⟩, [⟨2, ⟨[.keep [1, 3], .gc], [1, 3], [.lf (qp 16), .lf (qm 0)], [(16, true, .cells [qi 0, qi 1, qi 2, qi 3, qi 4, qi 5])]⟩, [tI]⟩], (fun i => zaA_b58 i.2.1)⟩
def zaA : ((List Bool) × (List Tk) × (List Th) × (List Lk) × (List Int) × Int) → RT Unit Bool
| (s_0, s_1, s_2, s_3, s_4, s_5) =>
 .rq 4 (.call (lo zaA_b58 s_1 (0, 0)) default fun v0 =>
 .rq 9 (.done ((decide ((s_1.length : Int) ≤ 30)) && (decide (v0 ≤ 8)))))
def F_zaA (x : (List Bool) × (List Tk) × (List Th) × (List Lk) × (List Int) × Int) : Option Bool := (zaA x).run fun _ => none
def io_zaA : Io := ⟨n_zaA, [.sl tB, .sl yK, .sl yH, .sl yL, .sl tI, tI], [.agg [qm 0, qm 1, qm 2, qm 3, qm 4, qm 5]], [], [[.sl tB, .sl yK, .sl yH, .sl yL, .sl tI, tI]], [tB], .lf (qm 0), [], [], false⟩
def zaA_P : List zcd := [zaA_p58]
def zaA_T : zci := tab []
theorem zaA_To : zch pg zaA_T := zce trivial
theorem zaA_k58 : (zaA_p58).OK pg (zaA_T) (zcz 29 (zaA_P)) (zcq f_zaA) 29 := ⟨by kernel_rfl, fun i x => by kernel_rfl⟩
theorem zaA_go : zcu pg (zaA_T) io_zaA f_zaA (zaA_P) [] (zaA) := ⟨by kernel_rfl, by kernel_rfl, fun x => by kernel_rfl⟩
theorem ok_zaA : io_zaA.Okay pg (F_zaA) := zcr zcg (zaA_To) (zaA_go) ⟨zaA_k58, trivial⟩
def cnt2 (b : List Tk) : Nat := (b.filter fun t => t.2.2.2.1 == 2).length
theorem light_loop (b : List Tk) (hl : b.length ≤ 1000000) : ∀ (d i n : Nat), i + d = b.length → n ≤ i → lo zaA_b58 b ((n : Int), (i : Int)) = some ((n + cnt2 (b.drop i) : Nat) : Int)
 | 0, i, n, h, _ => by
  rw [zco, zaA_b58]
  simp only [RT.run]
  rw [if_neg (by simp; omega), List.drop_eq_nil_of_le (by omega)]
  simp [cnt2]
 | d + 1, i, n, h, hn => by
  have hi : i < b.length := by omega
  rw [zco, zaA_b58]
  simp only [RT.run]
  rw [if_pos (by simp; omega), if_pos (zcm.2 ⟨by omega, by omega⟩), zcG hi, List.drop_eq_getElem_cons hi, zcj (by omega), show (i : Int) + 1 = ((i + 1 : Nat) : Int) by omega]
  unfold cnt2
  rw [List.filter_cons]
  by_cases hv : (b[i].2.2.2.1 == 2) = true
  ·rw [if_pos hv, zcj (by omega), show (n : Int) + 1 = ((n + 1 : Nat) : Int) by omega, light_loop b hl d (i + 1) (n + 1) (by omega) (by omega), if_pos hv]
   simp only [cnt2, List.length_cons]
   congr 2; omega
  ·rw [if_neg hv, zcj (by omega), light_loop b hl d (i + 1) n (by omega) (by omega), if_neg hv]
   rfl
def e_zaA : zcn := io_zaA.sp (fun (a, b, c, d, e, f) => (decide (b.length ≤ 1000000))) (fun (a, b, c, d, e, f) => (decide (b.length ≤ 30) && decide (cnt2 b ≤ 8)))
theorem sp_zaA (h : ∀ (a : List Bool) (b : List Tk) (c : List Th) (d : List Lk) (e : List Int) (f : Int), WfT [.sl tB, .sl yK, .sl yH, .sl yL, .sl tI, tI] (a, b, c, d, e, f) → ((decide (b.length ≤ 1000000))) = true → (zaA (a, b, c, d, e, f)).run (fun _ => none) = some (decide (b.length ≤ 30) && decide (cnt2 b ≤ 8))) : e_zaA.ok pg := zct ok_zaA fun (a, b, c, d, e, f) hw hc => h a b c d e f hw hc
theorem e_zaA_ok : e_zaA.ok pg := sp_zaA fun a b c d e f _ hc => by
 have hl := of_decide_eq_true hc
 rw [zaA]
 simp only [RT.run]
 have := light_loop b hl b.length 0 0 (by omega) (by omega)
 rw [show ((0 : Nat) : Int) = 0 from rfl, List.drop_zero, Nat.zero_add] at this
 rw [this, Option.bind_some]
 congr 2
 ·by_cases h : b.length ≤ 30
  ·rw [decide_eq_true h, decide_eq_true (by omega)]
  ·rw [decide_eq_false h, decide_eq_false (by omega)]
 ·by_cases h : cnt2 b ≤ 8
  ·rw [decide_eq_true h, decide_eq_true (by omega)]
  ·rw [decide_eq_false h, decide_eq_false (by omega)]
end
end Go.Proofs.YtlfdidaeachpoaaGreat
namespace Go.Proofs.YtlfdidaeachpoaaGreat
open Go Go.RowKit
set_option maxRecDepth 100000
theorem zgQ {α : Type} [Inhabited α] {xs : List α} {i j : Int} {y : α} (hi : 0 ≤ i ∧ i < (xs.length : Int)) (hj : 0 ≤ j) : gI (sI xs i y) j = if i = j then y else gI xs j := by
 obtain ⟨i, rfl⟩ := Int.eq_ofNat_of_zero_le hi.1
 obtain ⟨j, rfl⟩ := Int.eq_ofNat_of_zero_le hj
 have hi' : i < xs.length := by omega
 simp only [zfj, sI, Int.toNat_natCast, List.getD_eq_getElem?_getD, List.getElem?_set]
 by_cases h : i = j
 ·subst h; simp [hi']
 ·rw [if_neg h, if_neg (by omega)]
theorem sI_len {α : Type} {xs : List α} {i : Int} {y : α} : (sI xs i y).length = xs.length := by simp [sI]
structure zcs (a : List Bool) (b : List Tk) (c : List Th) (d : List Lk) (e : List Int) (f : Int) : Prop where
 coins : 1 ≤ a.length ∧ a.length ≤ 16 ∧ gI a 0 = true
 tks : zfA a b c = true
 ths : zem c d f = true
 lks : locksV c d = true
 que : queueV c e = true
 noC : zeL a.length (zda b) = false
 noT : zeL c.length (zcS c d) = false
 qua : 1 ≤ f ∧ f ≤ 1000
theorem fine0 {a : List Bool} {b : List Tk} {c : List Th} {d : List Lk} {e : List Int} {f : Int} (h : zfq a b c d e f = true) : zcs a b c d e f := by
 unfold zfq at h
 simp only [Bool.and_eq_true, Bool.not_eq_true', Bool.or_eq_false_iff, decide_eq_false_iff_not, Bool.not_eq_false'] at h
 obtain ⟨⟨⟨⟨⟨⟨⟨h1, h2⟩, h3⟩, h4⟩, h5⟩, h6⟩, h7, h8, h9, h10⟩, h11, h12⟩ := h
 exact ⟨⟨by omega, by omega, h5⟩, h7, h8, h9, h10, h11, h12, by omega⟩
def usT (c : List Th) (i : Int) : Bool := inB c i && (gI c i).1 != 0
def usC (a : List Bool) (i : Int) : Bool := inB a i && gI a i
section facts
variable {a : List Bool} {b : List Tk} {c : List Th} {d : List Lk} {e : List Int} {f : Int}
theorem zcs.lenB (H : zcs a b c d e f) : b.length ≤ 96 := by
 have h := H.tks
 unfold zfA at h
 simp only [Bool.and_eq_true, decide_eq_true_eq] at h
 omega
theorem zcs.lenC (H : zcs a b c d e f) : c.length ≤ 32 := by
 have h := H.ths
 unfold zem at h
 simp only [Bool.and_eq_true, decide_eq_true_eq] at h
 omega
structure TkF (a : List Bool) (c : List Th) (t : Tk) : Prop where
 coin : usC a t.2.1 = true
 amt : 1 ≤ t.2.2.1 ∧ t.2.2.1 ≤ 1048576
 to : (t.2.2.2.1 = 0 ∧ t.2.2.2.2.1 = 0) ∨ (t.2.2.2.1 = 1 ∧ usT c t.2.2.2.2.1 = true) ∨ (t.2.2.2.1 = 2 ∧ t.2.2.2.2.1 ≠ 0 ∧ usC a t.2.2.2.2.1 = true)
theorem zfZ {α : Type} [Inhabited α] {xs : List α} {k : Int} (hk : 0 ≤ k ∧ k < (xs.length : Int)) : gI xs k ∈ xs := by
 obtain ⟨k, rfl⟩ := Int.eq_ofNat_of_zero_le hk.1
 rw [zcG (by omega)]
 exact List.getElem_mem _
theorem zcs.tk (H : zcs a b c d e f) {k : Int} (hk : 0 ≤ k ∧ k < (b.length : Int)) (hu : (gI b k).1 = true) : TkF a c (gI b k) := by
 have h := H.tks
 unfold zfA at h
 rw [Bool.and_eq_true] at h
 have h1 := List.all_eq_true.1 h.1 _ (zfZ hk)
 unfold tkFine at h1
 rw [hu] at h1
 simp only [Bool.not_true, Bool.false_eq_true, if_false, Bool.not_eq_true', Bool.or_eq_false_iff, decide_eq_false_iff_not, Bool.not_eq_false', Bool.or_eq_true, Bool.and_eq_true, beq_iff_eq, bne_iff_ne, ne_eq] at h1
 obtain ⟨⟨⟨h2, h3⟩, h4⟩, h5⟩ := h1
 refine ⟨by unfold usC; simp [h2], by omega, ?_⟩
 rcases h5 with (h5 | h5) | h5
 ·exact .inl h5
 ·exact .inr (.inl ⟨h5.1, by unfold usT; simp [h5.2]⟩)
 ·exact .inr (.inr ⟨h5.1.1, h5.1.2, by unfold usC; simp [h5.2]⟩)
theorem zcs.tk0 (H : zcs a b c d e f) {k : Int} (hk : 0 ≤ k ∧ k < (b.length : Int)) (hu : (gI b k).1 = false) : gI b k = (false, 0, 0, 0, 0, false) := by
 have h := H.tks
 unfold zfA at h
 rw [Bool.and_eq_true] at h
 have h1 := List.all_eq_true.1 h.1 _ (zfZ hk)
 unfold tkFine at h1
 rw [if_pos (by rw [hu]; rfl)] at h1
 simp only [Bool.not_eq_true', bne_eq_false_iff_eq, Bool.and_eq_true, beq_iff_eq] at h1
 obtain ⟨h2, h3, h4, h5, h6, h7, _⟩ := h1
 generalize gI b k = t at *
 obtain ⟨t1, t2, t3, t4, t5, t6⟩ := t
 simp only at h2 h3 h4 h5 h6 h7
 subst h2 h3 h4 h5 h6 h7
 rfl
theorem zcs.th (H : zcs a b c d e f) {i : Int} (hu : usT c i = true) : ((gI c i).1 = 4 → (gI c i).2.1 ≠ i ∧ usT c (gI c i).2.1 = true) ∧ ((gI c i).1 = 6 → inB d (gI c i).2.1 = true ∧ (gI d (gI c i).2.1).1 = true) := by
 have h := H.ths
 unfold usT at hu
 rw [Bool.and_eq_true] at hu
 obtain ⟨hin, hne⟩ := hu
 have hin := zcm.1 hin
 unfold zem at h
 rw [Bool.and_eq_true] at h
 obtain ⟨k, rfl⟩ := Int.eq_ofNat_of_zero_le hin.1
 have h1 := List.all_eq_true.1 h.1 k (List.mem_range.2 (by omega))
 simp only [bne_iff_ne, ne_eq] at hne
 unfold zgo at h1
 rw [if_neg (by simpa using hne)] at h1
 simp only [Bool.not_eq_true', Bool.or_eq_false_iff] at h1
 have h2 := h1.1.1
 simp only [Bool.not_eq_false'] at h2
 constructor
 ·intro h4
  rw [h4] at h2
  unfold usT
  simp at h2
  exact ⟨h2.1, by simpa using h2.2⟩
 ·intro h6
  rw [h6] at h2
  simp at h2
  exact h2
theorem zcs.lk (H : zcs a b c d e f) {i : Int} (hu : usT c i = true) (h6 : (gI c i).1 = 6) : usT c (gI d (gI c i).2.1).2 = true := by
 obtain ⟨h1, h2⟩ := (H.th hu).2 h6
 have h := H.lks
 unfold usT at hu
 rw [Bool.and_eq_true] at hu
 have hin := zcm.1 hu.1
 have hj := zcm.1 h1
 unfold locksV at h
 rw [Bool.and_eq_true] at h
 obtain ⟨k, rfl⟩ := Int.eq_ofNat_of_zero_le hin.1
 generalize hj' : (gI c (k : Int)).2.1 = j at *
 obtain ⟨j, rfl⟩ := Int.eq_ofNat_of_zero_le hj.1
 have h3 := List.all_eq_true.1 h.1 j (List.mem_range.2 (by omega))
 unfold lkFine at h3
 rw [h2] at h3
 simp only [Bool.not_true, Bool.false_eq_true, if_false, Bool.and_eq_true, Bool.not_eq_true'] at h3
 have h4 := List.all_eq_true.1 h3.2 k (List.mem_range.2 (by omega))
 have h5 : isV c (k : Int) 6 (j : Int) = true := by
  unfold isV
  rw [hu.1, hu.2, h6, hj']
  simp
 rw [h5] at h4
 simp only [Bool.true_and, Bool.not_eq_true', Bool.or_eq_false_iff, beq_eq_false_iff_ne, ne_eq] at h4
 have h7 := h3.1
 cases hq : usT c (gI d (j : Int)).2 with
 | true => rfl
 | false =>
  unfold usT at hq
  rw [hq] at h7
  simp at h7
  exact absurd h7 h4.1
theorem findSome_one {α : Type} (f : Nat → Option α) (i : Nat) (h : ∀ k, k ≠ i → f k = none) : ∀ n, (List.range n).findSome? f = if i < n then f i else none
 | 0 => by simp
 | n + 1 => by
  rw [List.range_succ, List.findSome?_append, findSome_one f i h n]
  by_cases h1 : i < n
  ·rw [if_pos h1, if_pos (by omega)]
   simp only [List.findSome?_cons, List.findSome?_nil]
   rw [h n (by omega)]
   simp
  ·rw [if_neg h1]
   by_cases h2 : i = n
   ·subst h2
    rw [if_pos (by omega)]
    simp only [List.findSome?_cons, List.findSome?_nil, Option.none_or]
    cases f i <;> rfl
   ·rw [if_neg (by omega)]
    simp only [List.findSome?_cons, List.findSome?_nil, Option.none_or]
    rw [h n (by omega)]
theorem nextR_at {i : Nat} (hi : i < c.length) : nextR (zcS c d) (i : Int) = if (gI c (i : Int)).1 == 4 then (gI c (i : Int)).2.1 else if (gI c (i : Int)).1 == 6 then (gI d (gI c (i : Int)).2.1).2 else -1 := by
 have h : (zcS c d).find? (fun x => x.1 == (i : Int)) = (zfp d (i : Int) (gI c (i : Int))).head? := by
  unfold zcS
  rw [List.find?_flatMap, findSome_one _ i (fun k hk => ?_) c.length, if_pos hi, zfj]
  ·unfold zfp
   cases ((c.getD i default).1 == 4) <;> cases ((c.getD i default).1 == 6) <;> simp
  ·have hne : ((k : Int) == (i : Int)) = false := by simp; omega
   unfold zfp
   cases ((c.getD k default).1 == 4) <;> cases ((c.getD k default).1 == 6) <;> simp [List.find?_cons, hne]
 unfold nextR
 rw [h]
 unfold zfp
 by_cases h4 : ((gI c (i : Int)).1 == 4) = true
 ·simp [h4]
 ·rw [if_neg h4, if_neg h4]
  by_cases h6 : ((gI c (i : Int)).1 == 6) = true
  ·simp [h6]
  ·rw [if_neg h6, if_neg h6]; rfl
theorem zew {i : Int} (h : usT c i = true) : 0 ≤ i ∧ i < (c.length : Int) := by
 unfold usT at h
 rw [Bool.and_eq_true] at h
 exact zcm.1 h.1
theorem zdE {i : Int} (h : usC a i = true) : 0 ≤ i ∧ i < (a.length : Int) := by
 unfold usC at h
 rw [Bool.and_eq_true] at h
 exact zcm.1 h.1
theorem zhC {i : Int} (h : usT c i = true) : zcK c i = ((gI c i).1, (gI c i).2.1, (gI c i).2.2.1, (gI c i).2.2.2.1, (gI c i).2.2.2.2, true) := by
 unfold zcK
 unfold usT at h
 rw [if_pos h]
theorem getThread_no {i : Int} (h : usT c i = false) : zcK c i = (0, 0, 0, 0, 0, false) := by
 unfold zcK
 rw [if_neg (by unfold usT at h; rw [h]; decide)]
theorem thrArr_mem {i j : Nat} (hi : i < c.length) (hj : j < c.length) (h : ((i : Int), (j : Int)) ∈ zfp d (i : Int) (gI c (i : Int))) : Arr c.length (zcS c d) i j := by
 refine ⟨((i : Int), (j : Int)), ?_, ?_, rfl, rfl⟩
 ·unfold zcS
  refine List.mem_flatMap.2 ⟨i, List.mem_range.2 hi, ?_⟩
  rwa [zfj] at h
 ·simp only [zcW, Bool.and_eq_true, decide_eq_true_eq]
  omega
theorem zcs.next (H : zcs a b c d e f) {i : Int} (hu : usT c i = true) : nextR (zcS c d) i = zfn c d i ∧ (zfn c d i = -1 ∨ (usT c (zfn c d i) = true ∧ Arr c.length (zcS c d) i.toNat (zfn c d i).toNat)) := by
 obtain ⟨h4, h6⟩ := H.th hu
 have hin := zew hu
 have hlk := H.lk hu
 have hg := zhC hu
 obtain ⟨k, rfl⟩ := Int.eq_ofNat_of_zero_le hin.1
 have hk : k < c.length := by omega
 rw [nextR_at hk]
 unfold zfn
 rw [hg]
 simp only
 by_cases q4 : (gI c (k : Int)).1 = 4
 ·obtain ⟨h1, h2⟩ := h4 q4
  have hj := zew h2
  have e4 : ((gI c (k : Int)).1 == 4) = true := by simpa using q4
  rw [if_pos e4, if_pos e4]
  refine ⟨rfl, .inr ⟨h2, thrArr_mem (by simpa using hk) (by omega) ?_⟩⟩
  unfold zfp
  rw [Int.toNat_natCast, if_pos e4, Int.toNat_of_nonneg hj.1]
  simp
 ·have e4 : ¬((gI c (k : Int)).1 == 4) = true := by simpa using q4
  rw [if_neg e4, if_neg e4]
  by_cases q6 : (gI c (k : Int)).1 = 6
  ·obtain ⟨h1, h2⟩ := h6 q6
   have h3 := hlk q6
   have hj := zew h3
   have e6 : ((gI c (k : Int)).1 == 6) = true := by simpa using q6
   have hgl : zfe d (gI c (k : Int)).2.1 = ((gI d (gI c (k : Int)).2.1).1, (gI d (gI c (k : Int)).2.1).2, true) := by
    unfold zfe
    rw [if_pos (by rw [h1, h2]; rfl)]
   rw [if_pos e6, if_pos e6, hgl]
   refine ⟨rfl, .inr ⟨h3, thrArr_mem (by simpa using hk) (by simp only; omega) ?_⟩⟩
   unfold zfp
   rw [Int.toNat_natCast, if_neg e4, if_pos e6]
   simp only
   rw [Int.toNat_of_nonneg hj.1]
   simp
  ·have e6 : ¬((gI c (k : Int)).1 == 6) = true := by simpa using q6
   rw [if_neg e6, if_neg e6]
   exact ⟨rfl, .inl rfl⟩
open Classical in
theorem no_way {m : Nat} {l : List (Int × Int)} (h : zeL m l = false) (i : Nat) : ¬ Way m l i i := fun hw => by
 have hno : ¬ ∃ i : Nat, i < m ∧ Way m l i i := fun hx => by rw [ringV_iff.2 hx] at h; cases h
 have hi : i < m := by
  cases hw with
  | one h =>
   obtain ⟨x, _, hok, e1, _⟩ := h
   simp only [zcW, Bool.and_eq_true, decide_eq_true_eq] at hok
   omega
  | more h _ =>
   obtain ⟨x, _, hok, e1, _⟩ := h
   simp only [zcW, Bool.and_eq_true, decide_eq_true_eq] at hok
   omega
 exact hno ⟨i, hi, hw⟩
theorem Way.snoc {m : Nat} {l : List (Int × Int)} {i j k : Nat} (h : Way m l i j) (h' : Arr m l j k) : Way m l i k := h.trans (.one h')
theorem zcs.tail (H : zcs a b c d e f) : ∀ (n : Nat) (p : List Nat) (i : Int), usT c i = true → p.Nodup → (∀ x ∈ p, x < c.length) → (∀ x ∈ p, Way c.length (zcS c d) x i.toNat) → c.length ≤ p.length + n →
  ∃ o, zfd c d n i = some o ∧ tailR c d (n + 1) i = some o ∧ o ≠ [] ∧ ∀ x ∈ o, usT c x = true := by
 intro n
 induction n with
 | zero =>
  intro p i hu hn hl hw hlen
  exfalso
  have hin := zew hu
  have hi : i.toNat ∉ p := fun h => no_way H.noT _ (hw _ h)
  have := nodup_lt c.length (i.toNat :: p) (List.nodup_cons.2 ⟨hi, hn⟩) (fun x hx => by
   rcases List.mem_cons.1 hx with rfl | hx
   ·omega
   ·exact hl x hx)
  simp at this
  omega
 | succ n ih =>
  intro p i hu hn hl hw hlen
  have hin := zew hu
  have hi : i.toNat ∉ p := fun h => no_way H.noT _ (hw _ h)
  obtain ⟨hR, hN⟩ := H.next hu
  have hi1 : i ≠ -1 := by omega
  unfold zfd tailR
  rw [if_neg hi1, if_neg (by unfold usT at hu; rw [hu]; decide), hR]
  rcases hN with hN | ⟨hN1, hN2⟩
  ·rw [hN, if_pos (by decide)]
   have : zfd c d n (-1) = some [] := by cases n <;> rfl
   rw [this]
   exact ⟨[i], rfl, rfl, by simp, fun x hx => by rw [List.mem_singleton.1 hx]; exact hu⟩
  ·have hj := zew hN1
   obtain ⟨o, h1, h2, h3, h4⟩ := ih (i.toNat :: p) (zfn c d i) hN1 (List.nodup_cons.2 ⟨hi, hn⟩) (fun x hx => by
     rcases List.mem_cons.1 hx with rfl | hx
     ·omega
     ·exact hl x hx) (fun x hx => by
     rcases List.mem_cons.1 hx with rfl | hx
     ·exact .one hN2
     ·exact (hw x hx).snoc hN2) (by simp; omega)
   rw [if_neg (by omega), h1, h2]
   exact ⟨i :: o, rfl, rfl, by simp, fun x hx => by
    rcases List.mem_cons.1 hx with rfl | hx
    ·exact hu
    ·exact h4 x hx⟩
theorem zcs.tail0 (H : zcs a b c d e f) {i : Int} (hu : usT c i = true) : ∃ o, zfd c d c.length i = some o ∧ tailR c d (c.length + 1) i = some o ∧ o ≠ [] ∧ ∀ x ∈ o, usT c x = true :=
 H.tail c.length [] i hu List.nodup_nil (fun x hx => by cases hx) (fun x hx => by cases hx) (by simp)
theorem zcs.tailOK (H : zcs a b c d e f) (i : Int) : tailOK c d i = true := by
 unfold Go.Proofs.YtlfdidaeachpoaaGreat.tailOK
 cases hu : usT c i with
 | false => rw [getThread_no hu]; rfl
 | true =>
  obtain ⟨o, h1, _⟩ := H.tail0 hu
  rw [h1]; simp
theorem zcs.liveOK (H : zcs a b c d e f) : liveOK c d = true := List.all_eq_true.2 fun i _ => H.tailOK _
theorem zcs.tails (H : zcs a b c d e f) {i : Int} (hu : usT c i = true) : ∃ o, zed c d i = o ∧ zeH c d i = o ∧ zfL c d i = true ∧ o ≠ [] ∧ ∀ x ∈ o, usT c x = true := by
 obtain ⟨o, h1, h2, h3, h4⟩ := H.tail0 hu
 have hl := H.lenC
 refine ⟨o, ?_, ?_, ?_, h3, h4⟩
 ·unfold zed
  rw [zhC hu, h1]; rfl
 ·unfold zeH
  rw [h2]; rfl
 ·unfold zfL
  rw [h2, zia H.ths, decide_eq_true (by omega)]; rfl
theorem zcs.lives (H : zcs a b c d e f) {i : Int} (hu : usT c i = true) : zhK c d i = true ∧ livesR c d i = livesV c d i := by
 obtain ⟨o, h1, h2, h3, h4, h5⟩ := H.tails hu
 have he : endV c d i = o.getLastD (-1) := by unfold endV; rw [h1]
 have heR : endRV c d i = o.getLastD (-1) := by unfold endRV; rw [h2]
 have hue : usT c (o.getLastD (-1)) = true := by
  apply h5
  rw [List.getLastD_eq_getLast?, List.getLast?_eq_some_getLast h4]
  exact List.getLast_mem h4
 have hin := zew hue
 constructor
 ·unfold zhK
  rw [h3, heR, zcm.2 hin]; rfl
 ·unfold livesR livesV
  rw [he, heR, zhC hue, decide_eq_true hin.1, Bool.true_and]
theorem zde {c' k : Int} : k ∈ zcF b c' ↔ (0 ≤ k ∧ k < (b.length : Int)) ∧ (gI b k).1 = true ∧ (gI b k).2.1 = c' := by
 constructor
 ·intro h
  obtain ⟨h1, h2, h3⟩ := issued_mem h
  exact ⟨⟨h1, h2⟩, h3⟩
 ·rintro ⟨⟨h1, h2⟩, h3, h4⟩
  obtain ⟨j, rfl⟩ := Int.eq_ofNat_of_zero_le h1
  unfold zcF
  refine List.mem_map.2 ⟨j, List.mem_filter.2 ⟨List.mem_range.2 (by omega), ?_⟩, rfl⟩
  unfold isTk
  rw [zfj] at h3 h4
  rw [h3, h4]; simp
theorem zfi {l : List Nat} (h : l.Nodup) : (l.map fun (k : Nat) => (k : Int)).Nodup := by
 rw [List.nodup_iff_pairwise_ne, List.pairwise_map]
 exact List.Pairwise.imp (fun h => by omega) (List.nodup_iff_pairwise_ne.1 h)
theorem issued_nodup {c' : Int} : (zcF b c').Nodup := zfi (List.Nodup.sublist List.filter_sublist List.nodup_range)
theorem zcs.arr (H : zcs a b c d e f) {k : Int} (hk : 0 ≤ k ∧ k < (b.length : Int)) (hu : (gI b k).1 = true) (h2 : (gI b k).2.2.2.1 = 2) : ((gI b k).2.1, (gI b k).2.2.2.2.1) ∈ zda b ∧ zcW a.length ((gI b k).2.1, (gI b k).2.2.2.2.1) = true := by
 have ht := H.tk hk hu
 have h3 := zdE ht.coin
 have h4 : usC a (gI b k).2.2.2.2.1 = true := by
  rcases ht.to with h | h | h
  ·omega
  ·omega
  ·exact h.2.2
 have h5 := zdE h4
 refine ⟨?_, ?_⟩
 ·unfold zda
  exact List.mem_map.2 ⟨gI b k, List.mem_filter.2 ⟨zfZ hk, by rw [hu, h2]; rfl⟩, rfl⟩
 ·simp only [zcW, Bool.and_eq_true, decide_eq_true_eq]
  omega
theorem zcs.ord_nodup (_ : zcs a b c d e f) : (zcC a b).Nodup := (zif a.length (zda b)).nodup.sublist List.filter_sublist
theorem zcs.ord_mem (H : zcs a b c d e f) {k : Int} : k ∈ zcC a b ↔ usC a k = true := by
 obtain ⟨h1, h2⟩ := ring_order H.noC
 unfold zcC usC
 rw [List.mem_filter, Bool.and_eq_true, zcm]
 constructor
 ·rintro ⟨h3, h4⟩
  exact ⟨(zif _ _).inr _ h3, h4⟩
 ·rintro ⟨h3, h4⟩
  obtain ⟨j, rfl⟩ := Int.eq_ofNat_of_zero_le h3.1
  exact ⟨ordV_all h2 (by omega), h4⟩
theorem zcs.ord_split (H : zcs a b c d e f) {p q : List Int} {x : Int} (ho : zcC a b = p ++ x :: q) {k : Int} (hk : 0 ≤ k ∧ k < (b.length : Int)) (hu : (gI b k).1 = true) (h2 : (gI b k).2.2.2.1 = 2) (hto : (gI b k).2.2.2.2.1 = x) : (gI b k).2.1 ∈ p := by
 obtain ⟨h3, h4⟩ := H.arr hk hu h2
 have hc := (H.tk hk hu).coin
 unfold usC at hc
 rw [Bool.and_eq_true] at hc
 unfold zcC at ho
 obtain ⟨P, R, e1, e2, e3⟩ := List.filter_eq_append_iff.1 ho
 obtain ⟨S, Q, e4, e5, e6, e7⟩ := List.filter_eq_cons_iff.1 e3
 have := ordV_split (p := P ++ S) (q := Q) (k := x) (by rw [e1, e4, List.append_assoc]) h3 h4 hto
 rw [← e2]
 rcases List.mem_append.1 this with h | h
 ·exact List.mem_filter.2 ⟨h, hc.2⟩
 ·exact absurd hc.2 (e5 _ h)
theorem zcs.ord_to (H : zcs a b c d e f) {p q : List Int} {x : Int} (ho : zcC a b = p ++ x :: q) {k : Int} (hk : 0 ≤ k ∧ k < (b.length : Int)) (hu : (gI b k).1 = true) (h2 : (gI b k).2.2.2.1 = 2) (hc : (gI b k).2.1 ∈ x :: q) : (gI b k).2.2.2.2.1 ∈ q ∧ (gI b k).2.2.2.2.1 ≠ x := by
 have hn := H.ord_nodup
 have h4 : usC a (gI b k).2.2.2.2.1 = true := by
  rcases (H.tk hk hu).to with h | h | h
  ·omega
  ·omega
  ·exact h.2.2
 have hm := H.ord_mem.2 h4
 have hnp : ∀ (p' q' : List Int) (y : Int), zcC a b = p' ++ y :: q' → y = (gI b k).2.2.2.2.1 → (gI b k).2.1 ∈ p' := fun p' q' y ho' hy => H.ord_split ho' hk hu h2 hy.symm
 have hno : ∀ y ∈ p, y ∉ x :: q := by
  rw [ho] at hn
  intro y hy hy'
  exact (List.nodup_append.1 hn).2.2 y hy y hy' rfl
 have hne : (gI b k).2.2.2.2.1 ≠ x := fun h => hno _ (hnp p q x ho h.symm) hc
 refine ⟨?_, hne⟩
 rw [ho] at hm
 rcases List.mem_append.1 hm with h | h
 ·exfalso
  obtain ⟨s, t, rfl⟩ := List.append_of_mem h
  have := hnp s (t ++ x :: q) _ (by rw [ho]; simp) rfl
  exact hno _ (List.mem_append_left _ this) hc
 ·rcases List.mem_cons.1 h with h | h
  ·exact absurd h hne
  ·exact h
end facts
def good (b : List Tk) (lives : List Bool) (am : List Int) (k : Int) : Bool :=
 (gI b k).2.2.2.2.2 && (((gI b k).2.2.2.1 == 1 && gI lives (gI b k).2.2.2.2.1) || ((gI b k).2.2.2.1 == 2 && decide (0 < gI am (gI b k).2.2.2.2.1)))
def zdY (b : List Tk) (q : Bool) (k : Int) : Int := if q = true then (gI b k).2.2.1 else 0
theorem rkCnt_get {b : List Tk} {lives cnt : List Bool} {am : List Int} {k j : Int} (hk : 0 ≤ k ∧ k < (cnt.length : Int)) (hj : 0 ≤ j) (h0 : gI cnt k = false) :
  gI (rkCnt b lives cnt am k) j = if k = j then good b lives am k else gI cnt j := by
 unfold rkCnt good
 by_cases h1 : ((gI b k).2.2.2.1 == 1) = true
 ·have h2 : ((gI b k).2.2.2.1 == 2) = false := by
   rw [beq_iff_eq] at h1; rw [h1]; rfl
  rw [if_pos h1, zgQ hk hj, h1, h2, Bool.true_and, Bool.false_and, Bool.or_false]
 ·rw [if_neg h1]
  by_cases h2 : ((gI b k).2.2.2.1 == 2) = true
  ·rw [if_pos h2, zgQ hk hj, h2, Bool.eq_false_iff.2 h1, Bool.true_and, Bool.false_and, Bool.false_or]
  ·rw [if_neg h2, Bool.eq_false_iff.2 h1, Bool.eq_false_iff.2 h2, Bool.false_and, Bool.false_and, Bool.false_or, Bool.and_false]
   split
   ·rename_i h; rw [← h]; exact h0
   ·rfl
theorem good_same {b : List Tk} {lives : List Bool} {am am' : List Int} {k : Int} (h : (gI b k).2.2.2.1 = 2 → gI am' (gI b k).2.2.2.2.1 = gI am (gI b k).2.2.2.2.1) : good b lives am' k = good b lives am k := by
 unfold good
 by_cases h2 : (gI b k).2.2.2.1 = 2
 ·rw [h h2]
 ·have : ((gI b k).2.2.2.1 == 2) = false := by simpa using h2
  rw [this, Bool.false_and, Bool.false_and]
theorem rk_inner {b : List Tk} {lives : List Bool} {c : Int} : ∀ (l : List Int) (x : List Bool × List Int), l.Nodup → (0 ≤ c ∧ c < (x.2.length : Int)) →
  (∀ k ∈ l, (0 ≤ k ∧ k < (x.1.length : Int)) ∧ gI x.1 k = false ∧ 0 ≤ (gI b k).2.2.1 ∧ (gI b k).2.2.1 ≤ 1048576 ∧ ((gI b k).2.2.2.1 = 2 → 0 ≤ (gI b k).2.2.2.2.1 ∧ (gI b k).2.2.2.2.1 ≠ c)) →
  0 ≤ gI x.2 c → gI x.2 c + 1048576 * (l.length : Int) ≤ 1000000000000 →
  (∀ j : Int, 0 ≤ j → gI (l.foldl (zcZ b lives c) x).1 j = if j ∈ l then good b lives x.2 j else gI x.1 j) ∧
  (∀ j : Int, 0 ≤ j → j ≠ c → gI (l.foldl (zcZ b lives c) x).2 j = gI x.2 j) ∧
  gI (l.foldl (zcZ b lives c) x).2 c = gI x.2 c + (l.map fun k => zdY b (good b lives x.2 k) k).sum
 | [], x, _, _, _, _, _ => ⟨fun j _ => by simp, fun j _ _ => rfl, by simp⟩
 | k :: l, x, hn, hc, hl, h0, hm => by
  obtain ⟨hk1, hk2, hk3, hk4, hk5⟩ := hl k (List.mem_cons_self ..)
  obtain ⟨hkn, hn'⟩ := List.nodup_cons.1 hn
  simp only [List.length_cons, Int.natCast_add, Int.natCast_one] at hm
  have e1 : ∀ j : Int, 0 ≤ j → gI (zcZ b lives c x k).1 j = if k = j then good b lives x.2 k else gI x.1 j := fun j hj => rkCnt_get hk1 hj hk2
  have e2 : ∀ j : Int, 0 ≤ j → gI (zcZ b lives c x k).2 j = if c = j then gI x.2 c + zdY b (good b lives x.2 k) k else gI x.2 j := fun j hj => by
   have e0 := e1 k hk1.1
   rw [if_pos rfl] at e0
   show gI (if gI (zcZ b lives c x k).1 k = true then sI x.2 c (w64 (gI x.2 c + (gI b k).2.2.1)) else x.2) j = _
   rw [e0]
   unfold zdY
   by_cases hg : good b lives x.2 k = true
   ·rw [if_pos hg, if_pos hg, zgQ hc hj, zcj (by omega)]
   ·rw [if_neg hg, if_neg hg, Int.add_zero]
    split
    ·rename_i h; rw [h]
    ·rfl
  have ha : 0 ≤ zdY b (good b lives x.2 k) k ∧ zdY b (good b lives x.2 k) k ≤ 1048576 := by
   unfold zdY; split <;> omega
  have hlen1 : (zcZ b lives c x k).1.length = x.1.length := by rw [zcZ, zgm]
  have hlen2 : (zcZ b lives c x k).2.length = x.2.length := by simp only [zcZ]; split <;> simp [sI]
  have hgood : ∀ j ∈ l, good b lives (zcZ b lives c x k).2 j = good b lives x.2 j := fun j hj => good_same fun h2 => by
   obtain ⟨_, _, _, _, h5⟩ := hl j (List.mem_cons_of_mem _ hj)
   rw [e2 _ (h5 h2).1, if_neg (fun h => (h5 h2).2 h.symm)]
  have hself : good b lives (zcZ b lives c x k).2 k = good b lives x.2 k := good_same fun h2 => by
   rw [e2 _ (hk5 h2).1, if_neg (fun h => (hk5 h2).2 h.symm)]
  have ec : gI (zcZ b lives c x k).2 c = gI x.2 c + zdY b (good b lives x.2 k) k := by rw [e2 c hc.1, if_pos rfl]
  obtain ⟨i1, i2, i3⟩ := rk_inner l (zcZ b lives c x k) hn' (by rw [hlen2]; exact hc) (fun j hj => by
   obtain ⟨h1, h2, h3⟩ := hl j (List.mem_cons_of_mem _ hj)
   refine ⟨by rw [hlen1]; exact h1, ?_, h3⟩
   rw [e1 j h1.1, if_neg (show ¬ k = j from fun h => hkn (by rw [h]; exact hj))]
   exact h2) (by omega) (by omega)
  rw [List.foldl_cons]
  refine ⟨fun j hj => ?_, fun j hj hjc => ?_, ?_⟩
  ·rw [i1 j hj]
   by_cases hjl : j ∈ l
   ·rw [if_pos hjl, if_pos (List.mem_cons_of_mem _ hjl), hgood j hjl]
   ·rw [if_neg hjl, e1 j hj]
    by_cases hjk : k = j
    ·subst hjk
     rw [if_pos rfl, if_pos (List.mem_cons_self ..)]
    ·rw [if_neg hjk, if_neg (fun h => by
      rcases List.mem_cons.1 h with h | h
      ·exact hjk h.symm
      ·exact hjl h)]
  ·rw [i2 j hj hjc, e2 j hj, if_neg (fun h => hjc h.symm)]
  ·rw [i3, ec, List.map_cons, List.sum_cons]
   have : (l.map fun k_1 => zdY b (good b lives (zcZ b lives c x k).2 k_1) k_1) = l.map fun k_1 => zdY b (good b lives x.2 k_1) k_1 := List.map_congr_left fun j hj => by rw [hgood j hj]
   rw [this]; omega
structure RkInv (a : List Bool) (b : List Tk) (lives : List Bool) (q : List Int) (x : List Bool × List Int) : Prop where
 len1 : x.1.length = b.length
 len2 : x.2.length = a.length
 cnt : ∀ k : Int, 0 ≤ k ∧ k < (b.length : Int) → gI x.1 k = if (gI b k).1 = true ∧ (gI b k).2.1 ∈ q then good b lives x.2 k else false
 amt : ∀ c ∈ q, gI x.2 c = ((zcF b c).map fun k => zdY b (gI x.1 k) k).sum
 non : ∀ c : Int, 0 ≤ c ∧ c < (a.length : Int) → c ∉ q → gI x.2 c = 0
theorem gI_rep {α : Type} [Inhabited α] {n : Nat} {z : α} {k : Int} (hk : 0 ≤ k ∧ k < (n : Int)) : gI (zdc (n : Int) z) k = z := by
 obtain ⟨j, rfl⟩ := Int.eq_ofNat_of_zero_le hk.1
 have hj : j < n := by omega
 rw [zfj]
 simp [zdc, List.getD_eq_getElem?_getD, List.getElem?_replicate, hj]
theorem sum_le {l : List Int} {f : Int → Int} {m : Int} (h : ∀ k ∈ l, 0 ≤ f k ∧ f k ≤ m) : 0 ≤ (l.map f).sum ∧ (l.map f).sum ≤ m * l.length := by
 induction l with
 | nil => simp
 | cons x l ih =>
  have h1 := h x (List.mem_cons_self ..)
  have h2 := ih fun k hk => h k (List.mem_cons_of_mem _ hk)
  rw [List.map_cons, List.sum_cons, List.length_cons, Int.natCast_add, Int.natCast_one, Int.mul_add, Int.mul_one]
  omega
theorem rk_inv {a : List Bool} {b : List Tk} {c : List Th} {d : List Lk} {e : List Int} {f : Int} (H : zcs a b c d e f) (lives : List Bool) : ∀ (q p : List Int), zcC a b = p ++ q →
  RkInv a b lives q (q.foldr (fun c x => rkRound b lives c x) (zdc (b.length : Int) false, zdc (a.length : Int) 0))
 | [], p, _ => by
  refine ⟨by simp [zdc], by simp [zdc], fun k hk => ?_, fun c hc => (by cases hc), fun c hc _ => gI_rep hc⟩
  rw [if_neg (by simp)]
  exact gI_rep hk
 | x :: q, p, ho => by
  have I := rk_inv H lives q (p ++ [x]) (by rw [ho]; simp)
  have hn := H.ord_nodup
  rw [ho] at hn
  have hxq : x ∉ q := (List.nodup_cons.1 (List.nodup_append.1 hn).2.1).1
  have hx := zdE (H.ord_mem.1 (by rw [ho]; simp : x ∈ zcC a b))
  rw [List.foldr_cons]
  generalize q.foldr (fun c x => rkRound b lives c x) (zdc (b.length : Int) false, zdc (a.length : Int) 0) = y at *
  have hlb := H.lenB
  have hil := ziI b x
  obtain ⟨h1, h2, h3⟩ := rk_inner (b := b) (lives := lives) (c := x) (zcF b x) y issued_nodup (by rw [I.len2]; exact hx) (fun k hk => by
   obtain ⟨k1, k2, k3⟩ := zde.1 hk
   have ht := H.tk k1 k2
   refine ⟨by rw [I.len1]; exact k1, ?_, by have := ht.amt; omega, ht.amt.2, fun hq => ?_⟩
   ·rw [I.cnt k k1, if_neg]
    rintro ⟨_, hm⟩
    rw [k3] at hm
    exact hxq hm
   ·obtain ⟨_, h5⟩ := H.ord_to ho k1 k2 hq (by rw [k3]; exact List.mem_cons_self ..)
    refine ⟨?_, h5⟩
    rcases ht.to with h | h | h
    ·omega
    ·omega
    ·exact (zdE h.2.2).1) (by rw [I.non x hx hxq]; decide) (by rw [I.non x hx hxq]; omega)
  obtain ⟨l1, l2⟩ := rkFold_len (b := b) (lives := lives) (c := x) (zcF b x) y
  have hgood : ∀ k : Int, 0 ≤ k ∧ k < (b.length : Int) → (gI b k).1 = true → (gI b k).2.1 ∈ x :: q → good b lives ((zcF b x).foldl (zcZ b lives x) y).2 k = good b lives y.2 k := fun k hk hu hc => good_same fun hq => by
   obtain ⟨h4, h5⟩ := H.ord_to ho hk hu hq hc
   have h6 := zdE (H.ord_mem.1 (by rw [ho]; simp [h4] : (gI b k).2.2.2.2.1 ∈ zcC a b))
   exact h2 _ h6.1 h5
  show RkInv a b lives (x :: q) ((zcF b x).foldl (zcZ b lives x) y)
  have hcnt : ∀ k : Int, 0 ≤ k ∧ k < (b.length : Int) → gI ((zcF b x).foldl (zcZ b lives x) y).1 k = if (gI b k).1 = true ∧ (gI b k).2.1 ∈ x :: q then good b lives ((zcF b x).foldl (zcZ b lives x) y).2 k else false := fun k hk => by
   rw [h1 k hk.1]
   by_cases hki : k ∈ zcF b x
   ·obtain ⟨_, k2, k3⟩ := zde.1 hki
    rw [if_pos hki, if_pos ⟨k2, by rw [k3]; exact List.mem_cons_self ..⟩, hgood k hk k2 (by rw [k3]; exact List.mem_cons_self ..)]
   ·rw [if_neg hki, I.cnt k hk]
    by_cases hq : (gI b k).1 = true ∧ (gI b k).2.1 ∈ q
    ·rw [if_pos hq, if_pos ⟨hq.1, List.mem_cons_of_mem _ hq.2⟩, hgood k hk hq.1 (List.mem_cons_of_mem _ hq.2)]
    ·rw [if_neg hq, if_neg]
     rintro ⟨k2, k3⟩
     rcases List.mem_cons.1 k3 with k3 | k3
     ·exact hki (zde.2 ⟨hk, k2, k3⟩)
     ·exact hq ⟨k2, k3⟩
  refine ⟨l1.trans I.len1, l2.trans I.len2, hcnt, fun c' hc' => ?_, fun c' hc' hno => ?_⟩
  ·rcases List.mem_cons.1 hc' with rfl | hc'
   ·rw [h3, I.non c' hx hxq, Int.zero_add]
    congr 1
    refine List.map_congr_left fun k hk => ?_
    rw [h1 k (zde.1 hk).1.1, if_pos hk]
   ·have hne : c' ≠ x := fun h => hxq (h ▸ hc')
    have hin := zdE (H.ord_mem.1 (by rw [ho]; simp [hc'] : c' ∈ zcC a b))
    rw [h2 c' hin.1 hne, I.amt c' hc']
    congr 1
    refine List.map_congr_left fun k hk => ?_
    obtain ⟨k1, k2, k3⟩ := zde.1 hk
    rw [h1 k k1.1, if_neg (fun h => by
     have := (zde.1 h).2.2
     exact hne (k3.symm.trans this))]
  ·have hno' : c' ≠ x ∧ c' ∉ q := by simpa using hno
   rw [h2 c' hc'.1 hno'.1, I.non c' hc' hno'.2]
section
variable {a : List Bool} {b : List Tk} {c : List Th} {d : List Lk} {e : List Int} {f : Int}
theorem zcs.reck (H : zcs a b c d e f) : RkInv a b (liveV c d) (zcC a b) (zeU (a, b, c, d, e, f)) := by
 have := rk_inv H (liveV c d) (zcC a b) [] rfl
 unfold zeU
 rw [List.foldl_reverse]
 exact this
theorem zcs.tkOK (H : zcs a b c d e f) : b.all (tkOK a.length c.length) = true := List.all_eq_true.2 fun t ht => by
 obtain ⟨k, hk, rfl⟩ := List.mem_iff_getElem.1 ht
 have hg := zcG hk
 unfold Go.Proofs.YtlfdidaeachpoaaGreat.tkOK
 rw [← hg]
 cases hu : (gI b (k : Int)).1 with
 | false => rfl
 | true =>
  have h := H.tk (k := (k : Int)) ⟨by omega, by omega⟩ hu
  rcases h.to with h | h | h
  ·rw [h.1]; rfl
  ·have := zew h.2
   rw [h.1]; simp; omega
  ·have := zdE h.2.2
   rw [h.1]; simp; omega
theorem zcs.reckOK (H : zcs a b c d e f) : reckOK (a, b, c, d, e, f) = true := by
 have h1 := H.lenB
 have h2 := H.lenC
 have h3 := H.coins
 unfold Go.Proofs.YtlfdidaeachpoaaGreat.reckOK sdLiveOK sdOrdOK
 simp only
 rw [H.liveOK, H.tkOK, decide_eq_true (by omega), decide_eq_true (by omega), decide_eq_true (by omega)]
 rfl
end
end Go.Proofs.YtlfdidaeachpoaaGreat
namespace Go.Proofs.YtlfdidaeachpoaaGreat
open Go Go.RowKit
set_option maxRecDepth 100000
noncomputable section
def zcV (a : List Bool) (b : List Tk) (c : List Th) (d : List Lk) (e : List Int) (f : Int) : List Bool := (zeU (a, b, c, d, e, f)).1
def amV (a : List Bool) (b : List Tk) (c : List Th) (d : List Lk) (e : List Int) (f : Int) : List Int := (zeU (a, b, c, d, e, f)).2
section
variable {a : List Bool} {b : List Tk} {c : List Th} {d : List Lk} {e : List Int} {f : Int}
theorem zcs.cnt (H : zcs a b c d e f) {k : Int} (hk : 0 ≤ k ∧ k < (b.length : Int)) : gI (zcV a b c d e f) k = if (gI b k).1 = true then good b (liveV c d) (amV a b c d e f) k else false := by
 have := H.reck.cnt k hk
 unfold zcV amV
 rw [this]
 by_cases hu : (gI b k).1 = true
 ·rw [if_pos hu, if_pos ⟨hu, H.ord_mem.2 (H.tk hk hu).coin⟩]
 ·rw [if_neg hu, if_neg (fun h => hu h.1)]
theorem zcs.amt (H : zcs a b c d e f) {x : Int} (hx : 0 ≤ x ∧ x < (a.length : Int)) : gI (amV a b c d e f) x = ((zcF b x).map fun k => zdY b (gI (zcV a b c d e f) k) k).sum := by
 by_cases h : x ∈ zcC a b
 ·exact H.reck.amt x h
 ·have h0 : gI (amV a b c d e f) x = 0 := H.reck.non x hx h
  rw [h0]
  have : zcF b x = [] := by
   apply List.eq_nil_iff_forall_not_mem.2
   intro k hk
   obtain ⟨k1, k2, k3⟩ := zde.1 hk
   exact h (H.ord_mem.2 (k3 ▸ (H.tk k1 k2).coin))
  rw [this]; rfl
theorem zcs.len (H : zcs a b c d e f) : (zcV a b c d e f).length = b.length ∧ (amV a b c d e f).length = a.length := ⟨H.reck.len1, H.reck.len2⟩
theorem zcs.cnt_used (H : zcs a b c d e f) {k : Int} (hk : 0 ≤ k ∧ k < (b.length : Int)) (h : gI (zcV a b c d e f) k = true) : (gI b k).1 = true := by
 rw [H.cnt hk] at h
 split at h
 ·assumption
 ·cases h
theorem zcs.am_bound (H : zcs a b c d e f) {x : Int} (hx : 0 ≤ x ∧ x < (a.length : Int)) : 0 ≤ gI (amV a b c d e f) x ∧ gI (amV a b c d e f) x ≤ 1048576 * 96 := by
 have hb := H.lenB
 have hl := ziI b x
 have := sum_le (l := zcF b x) (f := fun k => zdY b (gI (zcV a b c d e f) k) k) (m := 1048576) fun k hk => by
  obtain ⟨k1, k2, _⟩ := zde.1 hk
  have := (H.tk k1 k2).amt
  unfold zdY
  split <;> omega
 rw [H.amt hx]
 omega
theorem sum_mem_le {l : List Int} {g : Int → Int} (h : ∀ k ∈ l, 0 ≤ g k) {x : Int} (hx : x ∈ l) : g x ≤ (l.map g).sum := by
 induction l with
 | nil => cases hx
 | cons y l ih =>
  rw [List.map_cons, List.sum_cons]
  have hy := h y (List.mem_cons_self ..)
  have hs := (show 0 ≤ (l.map g).sum from by
   clear ih hx
   induction l with
   | nil => simp
   | cons z l ih2 =>
    rw [List.map_cons, List.sum_cons]
    have h1 := h z (by simp)
    have h2 := ih2 fun k hk => h k (by
     rcases List.mem_cons.1 hk with rfl | hk
     ·simp
     ·simp [hk])
    omega)
  rcases List.mem_cons.1 hx with rfl | hx
  ·omega
  ·have := ih (fun k hk => h k (List.mem_cons_of_mem _ hk)) hx
   omega
theorem zcs.awake (H : zcs a b c d e f) {k : Int} (hk : 0 ≤ k ∧ k < (b.length : Int)) (h : gI (zcV a b c d e f) k = true) : 0 < gI (amV a b c d e f) (gI b k).2.1 := by
 have hu := H.cnt_used hk h
 have ht := H.tk hk hu
 rw [H.amt (zdE ht.coin)]
 have := sum_mem_le (l := zcF b (gI b k).2.1) (g := fun k => zdY b (gI (zcV a b c d e f) k) k) (fun k hk => by
  obtain ⟨k1, k2, _⟩ := zde.1 hk
  have := (H.tk k1 k2).amt
  unfold zdY
  split <;> omega) (zde.2 ⟨hk, hu, rfl⟩)
 have e1 : zdY b (gI (zcV a b c d e f) k) k = (gI b k).2.2.1 := by unfold zdY; rw [if_pos h]
 have this' : zdY b (gI (zcV a b c d e f) k) k ≤ ((zcF b (gI b k).2.1).map fun k => zdY b (gI (zcV a b c d e f) k) k).sum := this
 have := ht.amt
 omega
theorem live_get {i : Int} (hi : 0 ≤ i ∧ i < (c.length : Int)) : gI (liveV c d) i = livesV c d i := by
 obtain ⟨j, rfl⟩ := Int.eq_ofNat_of_zero_le hi.1
 have hj : j < c.length := by omega
 rw [zcG (by simpa [liveV] using hj)]
 simp [liveV]
theorem counts_eq (H : zcs a b c d e f) (self : SD × Int → Option Int) (self' : ((List Bool) × (List Tk) × (List Th) × (List Lk) × (List Int) × Int × Int) → Option Int) {k : Int} (hk : 0 ≤ k ∧ k < (b.length : Int))
  (hs : (gI b k).1 = true → (gI b k).2.2.2.1 = 2 → self' (a, b, c, d, e, f, (gI b k).2.2.2.2.1) = some (gI (amV a b c d e f) (gI b k).2.2.2.2.1)) :
  F_zak self' (a, b, c, d, e, f, k) = some (gI (zcV a b c d e f) k) := by
 show (zak self' _).run _ = _
 rw [zak]
 simp only [RT.run]
 rw [if_pos (zcm.2 hk), H.cnt hk]
 cases hu : (gI b k).1 with
 | false => rfl
 | true =>
  unfold good
  cases ho : (gI b k).2.2.2.2.2 with
  | false => rfl
  | true =>
   rw [if_neg (by decide), if_pos rfl, Bool.true_and]
   have ht := H.tk hk hu
   by_cases h1 : (gI b k).2.2.2.1 = 1
   ·have hut : usT c (gI b k).2.2.2.2.1 = true := by
     rcases ht.to with h | h | h
     ·omega
     ·exact h.2
     ·omega
    obtain ⟨h3, h4⟩ := H.lives hut
    rw [if_pos (by simpa using h1), if_pos h3, h4, h1, live_get (zew hut)]
    simp
   ·rw [if_neg (by simpa using h1)]
    have e1 : ((gI b k).2.2.2.1 == 1) = false := by simpa using h1
    rw [e1, Bool.false_and, Bool.false_or]
    by_cases h2 : (gI b k).2.2.2.1 = 2
    ·rw [hs hu h2, if_pos (by simp)]
     rfl
    ·have e2 : ((gI b k).2.2.2.1 == 2) = false := by simpa using h2
     rw [e2, if_pos (by simp)]
     rfl
theorem zik (H : zcs a b c d e f) (self : ((List Bool) × (List Tk) × (List Th) × (List Lk) × (List Int) × Int × Int) → Option Bool) (x : Int)
  (hs : ∀ k : Int, 0 ≤ k ∧ k < (b.length : Int) → (gI b k).2.1 = x → self (a, b, c, d, e, f, k) = some (gI (zcV a b c d e f) k)) : ∀ (n i : Nat) (r : Int), i + n = b.length → 0 ≤ r ∧ r ≤ 1048576 * (i : Int) →
  lo (zC_b58 self) (x, a, b, c, d, e, f) (r, (i : Int)) = some (r + ((((List.range' i n).filter (isTk b x)).map fun (k : Nat) => (k : Int)).map fun k => zdY b (gI (zcV a b c d e f) k) k).sum)
 | 0, i, r, h, _ => by
  rw [zco, zC_b58]
  simp only [RT.run]
  rw [if_neg (by simp; omega)]
  simp
 | n + 1, i, r, h, hr => by
  have hlb := H.lenB
  have hi : 0 ≤ (i : Int) ∧ (i : Int) < (b.length : Int) := by omega
  have hin : inB b (i : Int) = true := zcm.2 hi
  have tk : isTk b x i = ((gI b (i : Int)).1 && (gI b (i : Int)).2.1 == x) := by unfold isTk; rw [zfj]
  rw [zco, zC_b58]
  simp only [RT.run]
  rw [if_pos (by simp; omega), if_pos hin, zcj (show -9223372036854775808 ≤ (i : Int) + 1 ∧ (i : Int) + 1 ≤ 9223372036854775807 by omega), show (i : Int) + 1 = ((i + 1 : Nat) : Int) by omega, List.range'_succ, List.filter_cons, tk]
  by_cases hx : (gI b (i : Int)).2.1 = x
  ·have ex : ((gI b (i : Int)).2.1 == x) = true := by simpa using hx
   rw [hs _ hi hx, if_pos (by simp), ex, Bool.true_and, Bool.and_true]
   simp only [Option.getD_some]
   cases hq : gI (zcV a b c d e f) (i : Int) with
   | true =>
    have hu := H.cnt_used hi hq
    have ha := (H.tk hi hu).amt
    rw [if_pos rfl, if_pos hin, hu, if_pos rfl, zcj (by omega), zik H self x hs n (i + 1) _ (by omega) (by omega), List.map_cons, List.map_cons, List.sum_cons]
    simp only [zdY, hq, if_true]
    congr 1; omega
   | false =>
    rw [if_neg (by decide), zik H self x hs n (i + 1) r (by omega) (by omega)]
    cases hu : (gI b (i : Int)).1 with
    | false => simp
    | true =>
     rw [if_pos rfl, List.map_cons, List.map_cons, List.sum_cons]
     simp only [zdY, hq, Bool.false_eq_true, if_false, Int.zero_add]
  ·have ex : ((gI b (i : Int)).2.1 == x) = false := by simpa using hx
   rw [ex, if_pos (by simp), Bool.false_and, if_neg (by decide), Bool.and_false, if_neg (by decide), zik H self x hs n (i + 1) r (by omega) (by omega)]
theorem amount_of (H : zcs a b c d e f) (self : ((List Bool) × (List Tk) × (List Th) × (List Lk) × (List Int) × Int × Int) → Option Bool) {x : Int} (hx : 0 ≤ x ∧ x < (a.length : Int))
  (hs : ∀ k : Int, 0 ≤ k ∧ k < (b.length : Int) → (gI b k).2.1 = x → self (a, b, c, d, e, f, k) = some (gI (zcV a b c d e f) k)) : F_zC self (a, b, c, d, e, f, x) = some (gI (amV a b c d e f) x) := by
 show (zC self _).run _ = _
 rw [zC]
 simp only [RT.run]
 have := zik H self x hs b.length 0 0 (by omega) (by omega)
 rw [show ((0 : Nat) : Int) = 0 from rfl, ← List.range_eq_range', Int.zero_add] at this
 rw [this, H.amt hx]
 rfl
theorem amount_rec (H : zcs a b c d e f) : ∀ (q p : List Int), zcC a b = p ++ q → ∀ n, q.length ≤ n → ∀ x ∈ q, R_zC n (a, b, c, d, e, f, x) = some (gI (amV a b c d e f) x)
 | [], _, _, _, _, x, hx => by cases hx
 | y :: q, p, ho, 0, hn, x, hx => by simp at hn
 | y :: q, p, ho, n + 1, hn, x, hx => by
  have ih := amount_rec H q (p ++ [y]) (by rw [ho]; simp)
  rcases List.mem_cons.1 hx with rfl | hxq
  ·have hin := zdE (H.ord_mem.1 (by rw [ho]; simp : x ∈ zcC a b))
   refine amount_of H (F_zak (R_zC n)) hin fun k hk hc => counts_eq H (fun _ => none) (R_zC n) hk fun hu h2 => ?_
   obtain ⟨h3, h4⟩ := H.ord_to ho hk hu h2 (by rw [hc]; exact List.mem_cons_self ..)
   exact ih n (by simpa using hn) _ h3
  ·exact ih (n + 1) (by simp at hn; omega) x hxq
theorem amount_all (H : zcs a b c d e f) {x : Int} (hx : 0 ≤ x ∧ x < (a.length : Int)) : R_zC ((zcC a b).length + 1) (a, b, c, d, e, f, x) = some (gI (amV a b c d e f) x) := by
 by_cases h : x ∈ zcC a b
 ·exact amount_rec H (zcC a b) [] rfl _ (by omega) x h
 ·refine amount_of H _ hx fun k hk hc => ?_
  exfalso
  cases hu : (gI b k).1 with
  | true => exact h (H.ord_mem.2 (hc ▸ (H.tk hk hu).coin))
  | false =>
   have h0 := H.tk0 hk hu
   rw [h0] at hc
   refine h (H.ord_mem.2 ?_)
   rw [← hc]
   unfold usC
   rw [H.coins.2.2, zcm.2 (by have := H.coins; simp only; omega)]; rfl
end
def e_zC : zcn := io_zC.sp (fun (a, b, c, d, e, f, x) => (zfq a b c d e f && inB a x)) (fun (a, b, c, d, e, f, x) => (gI (α := Int) (amV a b c d e f) x))
theorem sp_zC (h : ∀ (a : List Bool) (b : List Tk) (c : List Th) (d : List Lk) (e : List Int) (f : Int) (x : Int), WfT [.sl tB, .sl yK, .sl yH, .sl yL, .sl tI, tI, tI] (a, b, c, d, e, f, x) → ((zfq a b c d e f && inB a x)) = true → ∃ n, R_zC n (a, b, c, d, e, f, x) = some (gI (α := Int) (amV a b c d e f) x)) : e_zC.ok pg := sp_rec okR_zC fun (a, b, c, d, e, f, x) hw hc => h a b c d e f x hw hc
theorem e_zC_ok : e_zC.ok pg := sp_zC fun a b c d e f x _ hc => by
 rw [Bool.and_eq_true] at hc
 exact ⟨_, amount_all (fine0 hc.1) (zcm.1 hc.2)⟩
def e_zak : zcn := io_zak.sp (fun (a, b, c, d, e, f, k) => (zfq a b c d e f && inB b k)) (fun (a, b, c, d, e, f, k) => (gI (α := Bool) (zcV a b c d e f) k))
theorem sp_zak (h : ∀ (a : List Bool) (b : List Tk) (c : List Th) (d : List Lk) (e : List Int) (f : Int) (k : Int), WfT [.sl tB, .sl yK, .sl yH, .sl yL, .sl tI, tI, tI] (a, b, c, d, e, f, k) → ((zfq a b c d e f && inB b k)) = true → ∃ n, R_zak n (a, b, c, d, e, f, k) = some (gI (α := Bool) (zcV a b c d e f) k)) : e_zak.ok pg := sp_rec okR_zak fun (a, b, c, d, e, f, k) hw hc => h a b c d e f k hw hc
theorem e_zak_ok : e_zak.ok pg := sp_zak fun a b c d e f k _ hc => by
 rw [Bool.and_eq_true] at hc
 have H := fine0 hc.1
 have hk := zcm.1 hc.2
 refine ⟨(zcC a b).length + 1, counts_eq H (fun _ => none) _ hk fun hu h2 => amount_all H ?_⟩
 rcases (H.tk hk hu).to with h | h | h
 ·omega
 ·omega
 ·exact zdE h.2.2
def zU_b58 : (Int × Int × (List Tk)) → (Int × (List Int)) → RT (Int × (List Int)) (List Int)
| (l, i, s_1), (i_2, r7) =>
 .rq 5 (.ite (decide (i_2 < (s_1.length : Int)))
 (.rq 3 (.req (inB s_1 i_2) (.rq 47 (let t0 := w64 (i_2 + 1);
 let t1 := (gI s_1 i_2).2.2.2.2.1 == i;
 .ite ((gI s_1 i_2).1 && ((((l == 0) && ((gI s_1 i_2).2.1 == i)) || (((l == 1) && ((gI s_1 i_2).2.2.2.1 == 2)) && t1)) || (((l == 2) && ((gI s_1 i_2).2.2.2.1 == 1)) && t1)))
 (.rq 3 (.req (zdF 8 r7 [i_2]) (.rq 4 (.again (t0, r7 ++ [i_2])))))
 (.rq 3 (.again (t0, r7)))))))
 (.done r7))
def zU_p58 : zcd := ⟨58, true, [tI, tI, .sl tB, .sl yK, .sl yH, .sl yL, .sl tI, tI], [tI, .sl tI], ⟨[.keep [1, 2, 3, 7, 8], .gc, .nilRow 7 800007 3 tI, .ren 7 700007, .ren 7 900007, .gc], [1, 2, 3, 7, 8], [.lf (qi 0), .lf (qi 1), .lf (qp 48), .lf (qr 900007), .lf (qm 0)], [(48, true, .cells [qi 2, qi 3, qi 4, qi 5, qi 6, qi 7]), (900007, true, .arr 3 (qm 1))]⟩, [⟨2, ⟨[.keep [7], .gc, .nilRow 7 800007 3 tI, .ren 7 700007, .ren 7 900007, .gc], [7], [.lf (qr 900007)], [(900007, true, .arr 3 (qm 0))]⟩, [.sl tI]⟩], (fun i => zU_b58 (i.1, i.2.1, i.2.2.2.1))⟩
def zU : ((List Bool) × (List Tk) × (List Th) × (List Lk) × (List Int) × Int × Int × Int) → RT Unit (List Int)
| (a0_0, a0_1, a0_2, a0_3, a0_4, a0_5, l, i) =>
 .rq 4 (.call (lo zU_b58 (l, i, a0_1) (0, [])) default fun v0 =>
 .rq 2 (.done v0))
def F_zU (x : (List Bool) × (List Tk) × (List Th) × (List Lk) × (List Int) × Int × Int × Int) : Option (List Int) := (zU x).run fun _ => none
def io_zU : Io := ⟨n_zU, [.sl tB, .sl yK, .sl yH, .sl yL, .sl tI, tI, tI, tI], [.agg [qm 0, qm 1, qm 2, qm 3, qm 4, qm 5], .lf (qm 6), .lf (qm 7)], [], [[.sl tB, .sl yK, .sl yH, .sl yL, .sl tI, tI], [tI], [tI]], [.sl tI], .lf (qr 0), [], [(true, .arr 3 (qm 0))], false⟩
def zU_P : List zcd := [zU_p58]
def zU_T : zci := tab []
theorem zU_To : zch pg zU_T := zce trivial
theorem zU_k58 : (zU_p58).OK pg (zU_T) (zcz 71 (zU_P)) (zcq f_zU) 71 := ⟨by kernel_rfl, fun i x => by kernel_rfl⟩
theorem zU_go : zcu pg (zU_T) io_zU f_zU (zU_P) [.nilRow 6 800006 3 tI, .ren 6 700006, .ren 6 900006] (zU) := ⟨by kernel_rfl, by kernel_rfl, fun x => by kernel_rfl⟩
theorem ok_zU : io_zU.Okay pg (F_zU) := zcr zcg (zU_To) (zU_go) ⟨zU_k58, trivial⟩
def zdG (b : List Tk) (w i k : Int) : Bool := (gI b k).1 && ((((w == 0) && ((gI b k).2.1 == i)) || (((w == 1) && ((gI b k).2.2.2.1 == 2)) && ((gI b k).2.2.2.2.1 == i))) || (((w == 2) && ((gI b k).2.2.2.1 == 1)) && ((gI b k).2.2.2.2.1 == i)))
def tksOf (b : List Tk) (w i : Int) : List Int := ((List.range b.length).map fun (k : Nat) => (k : Int)).filter (zdG b w i)
theorem tksOf_loop (b : List Tk) (w x : Int) (hl : b.length ≤ 1000000) : ∀ (n i : Nat) (r : List Int), i + n = b.length → r.length ≤ i →
  lo zU_b58 (w, x, b) ((i : Int), r) = some (r ++ ((List.range' i n).map fun (k : Nat) => (k : Int)).filter (zdG b w x))
 | 0, i, r, h, _ => by
  rw [zco, zU_b58]
  simp only [RT.run]
  rw [if_neg (by simp; omega)]
  simp
 | n + 1, i, r, h, hr => by
  have hi : i < b.length := by omega
  have hmax : maxLen = 9223372036854775807 := by decide
  rw [zco, zU_b58]
  simp only [RT.run]
  rw [if_pos (by simp; omega), if_pos (zcm.2 ⟨by omega, by omega⟩), zcj (by omega), show (i : Int) + 1 = ((i + 1 : Nat) : Int) by omega, List.range'_succ, List.map_cons, List.filter_cons]
  by_cases hv : zdG b w x (i : Int) = true
  ·have hv' := hv
   unfold zdG at hv'
   rw [if_pos hv', if_pos (zej.2 ⟨by simp; omega, by simp; omega⟩), tksOf_loop b w x hl n (i + 1) _ (by omega) (by simp; omega), if_pos hv]
   simp
  ·have hv' := hv
   unfold zdG at hv'
   rw [if_neg hv', tksOf_loop b w x hl n (i + 1) _ (by omega) (by omega), if_neg hv]
def e_zU : zcn := io_zU.sp (fun (a, b, c, d, e, f, w, i) => (decide (b.length ≤ 1000000))) (fun (a, b, c, d, e, f, w, i) => (tksOf b w i))
theorem sp_zU (h : ∀ (a : List Bool) (b : List Tk) (c : List Th) (d : List Lk) (e : List Int) (f : Int) (w : Int) (i : Int), WfT [.sl tB, .sl yK, .sl yH, .sl yL, .sl tI, tI, tI, tI] (a, b, c, d, e, f, w, i) → ((decide (b.length ≤ 1000000))) = true → (zU (a, b, c, d, e, f, w, i)).run (fun _ => none) = some (tksOf b w i)) : e_zU.ok pg := zct ok_zU fun (a, b, c, d, e, f, w, i) hw hc => h a b c d e f w i hw hc
theorem e_zU_ok : e_zU.ok pg := sp_zU fun a b c d e f w i _ hc => by
 have hl := of_decide_eq_true hc
 rw [zU]
 simp only [RT.run]
 have := tksOf_loop b w i hl b.length 0 [] (by omega) (by simp)
 rw [show ((0 : Nat) : Int) = 0 from rfl, ← List.range_eq_range', List.nil_append] at this
 rw [this]
 rfl
def io_zao : Io := ⟨n_zao, [.sl tB, .sl yK, .sl yH, .sl yL, .sl tI, tI, tI], [.agg [qm 0, qm 1, qm 2, qm 3, qm 4, qm 5], .lf (qm 6)], [], [[.sl tB, .sl yK, .sl yH, .sl yL, .sl tI, tI], [tI]], [.sl tI, .sl tI], .agg [qr 0, qr 1], [], [(true, .arr 3 (qm 0)), (true, .arr 3 (qm 1))], false⟩
def zaj (self : ((List Bool) × (List Tk) × (List Th) × (List Lk) × (List Int) × Int × Int) → Option ((List Int) × (List Int))) : ((List Bool) × (List Tk) × (List Th) × (List Lk) × (List Int) × Int × Int) → RT Unit ((List Int) × (List Int))
| (s_0, s_1, s_2, s_3, s_4, s_5, k) =>
 .rq 5 (.req (inB s_1 k) (.rq 5 (.req ((zfq s_0 s_1 s_2 s_3 s_4 s_5 && inB s_1 k)) (.rq 1 (.ite (!((gI (α := Bool) (zcV s_0 s_1 s_2 s_3 s_4 s_5) k)))
 (.rq 2 (.done ((rQ (((0 : Int).toNat : Nat) : Rat)).1, (rQ (((0 : Int).toNat : Nat) : Rat)).2)))
 (.rq 3 (let t0 := zcv (gI s_1 k).2.2.1;
 .ite ((gI s_1 k).2.1 == 0)
 (.rq 5 (let t1 := rQ ((t0.toNat : Nat) : Rat);
 .done (t1.1, t1.2)))
 (.rq 6 (.req ((zfq s_0 s_1 s_2 s_3 s_4 s_5 && inB s_0 (gI s_1 k).2.1)) (.rq 1 (let t2 := zcv ((gI (α := Int) (amV s_0 s_1 s_2 s_3 s_4 s_5) (gI s_1 k).2.1));
 .req (decide (t2 ≠ 0)) (.rq 3 (.call (self (s_0, s_1, s_2, s_3, s_4, s_5, (gI s_1 k).2.1)) default fun v0 =>
 let t3 := rQ (mkRat ((t0.toNat : Nat) : Int) t2.toNat);
 .req (okq t3.1 t3.2 && okq v0.1 v0.2) (.rq 1 (let t4 := rQ (zdu t3.1 t3.2 * zdu v0.1 v0.2);
 .done (t4.1, t4.2))))))))))))))))
def F_zaj (self : ((List Bool) × (List Tk) × (List Th) × (List Lk) × (List Int) × Int × Int) → Option ((List Int) × (List Int))) (x : (List Bool) × (List Tk) × (List Th) × (List Lk) × (List Int) × Int × Int) : Option ((List Int) × (List Int)) := (zaj self x).run fun _ => none
def io_zaj : Io := ⟨n_zaj, [.sl tB, .sl yK, .sl yH, .sl yL, .sl tI, tI, tI], [.agg [qm 0, qm 1, qm 2, qm 3, qm 4, qm 5], .lf (qm 6)], [], [[.sl tB, .sl yK, .sl yH, .sl yL, .sl tI, tI], [tI]], [.sl tI, .sl tI], .agg [qr 0, qr 1], [], [(true, .arr 3 (qm 0)), (true, .arr 3 (qm 1))], false⟩
def zaj_P (self : ((List Bool) × (List Tk) × (List Th) × (List Lk) × (List Int) × Int × Int) → Option ((List Int) × (List Int))) : List zcd := []
def zaj_T (self : ((List Bool) × (List Tk) × (List Th) × (List Lk) × (List Int) × Int × Int) → Option ((List Int) × (List Int))) : zci := tab [io_zao.en self, e_zak, e_zC, e_zbV, e_zbH, e_zbZ]
theorem zaj_To (self : ((List Bool) × (List Tk) × (List Th) × (List Lk) × (List Int) × Int × Int) → Option ((List Int) × (List Int))) (hs : io_zao.Okay pg self) : zch pg (zaj_T self) := zce ⟨zeK hs, e_zak_ok, e_zC_ok, e_zbV_ok, e_zbH_ok, e_zbZ_ok, trivial⟩
theorem zaj_go (self : ((List Bool) × (List Tk) × (List Th) × (List Lk) × (List Int) × Int × Int) → Option ((List Int) × (List Int))) : zcu pg (zaj_T self) io_zaj f_zaj (zaj_P self) [.cellRow 64 0 600064 3 tI, .cellRow 64 1 600065 3 tI, .cellRen 64 0 600064, .cellRen 64 1 600065] (zaj self) := ⟨by kernel_rfl, by kernel_rfl, fun x => by kernel_rfl⟩
theorem ok_zaj (self : ((List Bool) × (List Tk) × (List Th) × (List Lk) × (List Int) × Int × Int) → Option ((List Int) × (List Int))) (hs : io_zao.Okay pg self) : io_zaj.Okay pg (F_zaj self) := zcr zcg (zaj_To self hs) (zaj_go self) trivial
def zhi (self : ((List Bool) × (List Tk) × (List Th) × (List Lk) × (List Int) × Int × Int) → Option ((List Int) × (List Int))) : ((List Bool) × (List Tk) × (List Th) × (List Lk) × (List Int) × Int × (List Int)) → (Int × (List Int) × (List Int)) → RT (Int × (List Int) × (List Int)) ((List Int) × (List Int))
| (s_0, s_1, s_2, s_3, s_4, s_5, r6), (i, r80, r81) =>
 .rq 4 (.ite (decide (i < (r6.length : Int)))
 (.rq 4 (.req (inB r6 i) (.rq 1 (.call (self (s_0, s_1, s_2, s_3, s_4, s_5, gI r6 i)) default fun v0 =>
 .req (okq r80 r81 && okq v0.1 v0.2) (.rq 4 (let t0 := rQ (zdu r80 r81 + zdu v0.1 v0.2);
 .again (w64 (i + 1), t0.1, t0.2)))))))
 (.done (r80, r81)))
def zao_p250 (self : ((List Bool) × (List Tk) × (List Th) × (List Lk) × (List Int) × Int × Int) → Option ((List Int) × (List Int))) : zcd := ⟨250, true, [.sl tB, .sl yK, .sl yH, .sl yL, .sl tI, tI, .sl tI], [tI, .sl tI, .sl tI], ⟨[.keep [2, 4, 5, 6, 7], .gc, .nilRow 6 800006 3 tI, .ren 6 700006, .ren 6 900006, .cellRow 80 0 600080 3 tI, .cellRow 80 1 600081 3 tI, .cellRen 80 0 600080, .cellRen 80 1 600081, .gc], [2, 4, 5, 6, 7], [.lf (qp 32), .lf (qp 64), .lf (qp 80), .lf (qr 900006), .lf (qm 0)], [(32, true, .cells [qi 0, qi 1, qi 2, qi 3, qi 4, qi 5]), (64, true, .cells [.fix (.nil), .fix (.nil)]), (80, true, .cells [qr 600080, qr 600081]), (900006, true, .arr 3 (qi 6)), (600080, true, .arr 3 (qm 1)), (600081, true, .arr 3 (qm 2))]⟩, [⟨2, ⟨[.keep [4, 5], .gc, .cellRow 80 0 600080 3 tI, .cellRow 80 1 600081 3 tI, .cellRen 80 0 600080, .cellRen 80 1 600081, .gc], [4, 5], [.lf (qp 64), .lf (qp 80)], [(64, true, .cells [.fix (.nil), .fix (.nil)]), (80, true, .cells [qr 600080, qr 600081]), (600080, true, .arr 3 (qm 0)), (600081, true, .arr 3 (qm 1))]⟩, [.sl tI, .sl tI]⟩], (zhi self)⟩
def zao (self : ((List Bool) × (List Tk) × (List Th) × (List Lk) × (List Int) × Int × Int) → Option ((List Int) × (List Int))) : ((List Bool) × (List Tk) × (List Th) × (List Lk) × (List Int) × Int × Int) → RT Unit ((List Int) × (List Int))
| (s_0, s_1, s_2, s_3, s_4, s_5, c) =>
 .rq 4 (.ite (c == 0)
 (.rq 1 (.req ((zfq s_0 s_1 s_2 s_3 s_4 s_5 && inB s_0 (0 : Int))) (.rq 3 (let t0 := rQ (((zcv ((gI (α := Int) (amV s_0 s_1 s_2 s_3 s_4 s_5) (0 : Int)))).toNat : Nat) : Rat);
 .done (t0.1, t0.2)))))
 (.rq 5 (.req ((decide (s_1.length ≤ 1000000))) (.rq 2 (.call (lo (zhi self) (s_0, s_1, s_2, s_3, s_4, s_5, (tksOf s_1 (1 : Int) c)) (0, (rQ (((0 : Int).toNat : Nat) : Rat)).1, (rQ (((0 : Int).toNat : Nat) : Rat)).2)) default fun v1 =>
 .rq 2 (.done (v1.1, v1.2)))))))
def F_zao (self : ((List Bool) × (List Tk) × (List Th) × (List Lk) × (List Int) × Int × Int) → Option ((List Int) × (List Int))) (x : (List Bool) × (List Tk) × (List Th) × (List Lk) × (List Int) × Int × Int) : Option ((List Int) × (List Int)) := (zao self x).run fun _ => none
def zao_P (self : ((List Bool) × (List Tk) × (List Th) × (List Lk) × (List Int) × Int × Int) → Option ((List Int) × (List Int))) : List zcd := [zao_p250 self]
def zao_T (self : ((List Bool) × (List Tk) × (List Th) × (List Lk) × (List Int) × Int × Int) → Option ((List Int) × (List Int))) : zci := tab [io_zaj.en self, e_zU, e_zC, e_zbT, e_zbH]
theorem zao_To (self : ((List Bool) × (List Tk) × (List Th) × (List Lk) × (List Int) × Int × Int) → Option ((List Int) × (List Int))) (hs : io_zaj.Okay pg self) : zch pg (zao_T self) := zce ⟨zeK hs, e_zU_ok, e_zC_ok, e_zbT_ok, e_zbH_ok, trivial⟩
theorem zao_k250 (self : ((List Bool) × (List Tk) × (List Th) × (List Lk) × (List Int) × Int × Int) → Option ((List Int) × (List Int))) : (zao_p250 self).OK pg (zao_T self) (zcz 33 (zao_P self)) (zcq f_zao) 33 := ⟨by kernel_rfl, fun i x => by kernel_rfl⟩
theorem zao_go (self : ((List Bool) × (List Tk) × (List Th) × (List Lk) × (List Int) × Int × Int) → Option ((List Int) × (List Int))) : zcu pg (zao_T self) io_zao f_zao (zao_P self) [.cellRow 64 0 600064 3 tI, .cellRow 64 1 600065 3 tI, .cellRen 64 0 600064, .cellRen 64 1 600065] (zao self) := ⟨by kernel_rfl, by kernel_rfl, fun x => by kernel_rfl⟩
theorem ok_zao (self : ((List Bool) × (List Tk) × (List Th) × (List Lk) × (List Int) × Int × Int) → Option ((List Int) × (List Int))) (hs : io_zaj.Okay pg self) : io_zao.Okay pg (F_zao self) := zcr zcg (zao_To self hs) (zao_go self) ⟨zao_k250 self, trivial⟩
def R_zao : Nat → ((List Bool) × (List Tk) × (List Th) × (List Lk) × (List Int) × Int × Int) → Option ((List Int) × (List Int))
 | 0 => fun _ => none
 | n + 1 => F_zao (F_zaj (R_zao n))
theorem okR_zao : ∀ n, io_zao.Okay pg (R_zao n)
 | 0 => ⟨⟨f_zao, by kernel_rfl, by kernel_rfl, by kernel_rfl⟩, fun _ _ h => by cases h⟩
 | n + 1 => ok_zao _ (ok_zaj _ (okR_zao n))
def R_zaj (n : Nat) : ((List Bool) × (List Tk) × (List Th) × (List Lk) × (List Int) × Int × Int) → Option ((List Int) × (List Int)) := F_zaj (R_zao n)
theorem okR_zaj (n : Nat) : io_zaj.Okay pg (R_zaj n) := ok_zaj _ (okR_zao n)
end
end Go.Proofs.YtlfdidaeachpoaaGreat
namespace Go.Proofs.YtlfdidaeachpoaaGreat
open Go Go.RowKit
set_option maxRecDepth 100000
def zcI (l : List Rat) : Rat := l.foldr (· + ·) 0
theorem zcQ (x : Rat) (l : List Rat) : zcI (x :: l) = x + zcI l := rfl
theorem zjh : ∀ (l m : List Rat), zcI (l ++ m) = zcI l + zcI m
 | [], m => (Rat.zero_add _).symm
 | x :: l, m => by rw [List.cons_append, zcQ, zjh l m, zcQ, Rat.add_assoc]
theorem rsum_perm {l m : List Rat} (h : l.Perm m) : zcI l = zcI m := by
 unfold zcI
 exact h.foldr_eq' (fun x _ y _ z => by grind) 0
theorem rsum_nonneg {l : List Rat} (h : ∀ x ∈ l, 0 ≤ x) : 0 ≤ zcI l := by
 induction l with
 | nil => decide
 | cons x l ih => exact Rat.add_nonneg (h x (List.mem_cons_self ..)) (ih fun y hy => h y (List.mem_cons_of_mem _ hy))
theorem rsum_filter {α : Type} {l : List α} {g : α → Rat} {p : α → Bool} (h : ∀ x ∈ l, p x = false → g x = 0) : zcI ((l.filter p).map g) = zcI (l.map g) := by
 induction l with
 | nil => rfl
 | cons x l ih =>
  have ih := ih fun y hy => h y (List.mem_cons_of_mem _ hy)
  rw [List.filter_cons]
  cases hp : p x with
  | true => rw [if_pos rfl, List.map_cons, List.map_cons, zcQ, zcQ, ih]
  | false => rw [if_neg (by decide), ih, List.map_cons, zcQ, h x (List.mem_cons_self ..) hp, Rat.zero_add]
def zdP (b : List Tk) (am : List Int) (k : Int) : Rat := mkRat (gI b k).2.2.1 (gI am (gI b k).2.1).toNat
def zdq (b : List Tk) (cnt : List Bool) (am : List Int) (x : List Rat × List Rat) (k : Int) : List Rat × List Rat :=
 if gI cnt k = true then
  (if (gI b k).2.2.2.1 = 2 then sI x.1 (gI b k).2.2.2.2.1 (gI x.1 (gI b k).2.2.2.2.1 + zdP b am k * gI x.1 (gI b k).2.1) else x.1, sI x.2 k (zdP b am k * gI x.1 (gI b k).2.1))
 else x
def w0 (a : List Bool) (b : List Tk) (am : List Int) : List Rat × List Rat := (sI (zdc (a.length : Int) 0) 0 ((gI am 0 : Int) : Rat), zdc (b.length : Int) 0)
def zdt (a : List Bool) (b : List Tk) : List Int := (zcC a b).flatMap (zcF b)
def zcx (a : List Bool) (b : List Tk) (c : List Th) (d : List Lk) (e : List Int) (f : Int) : List Rat × List Rat := (zdt a b).foldl (zdq b (zcV a b c d e f) (amV a b c d e f)) (w0 a b (amV a b c d e f))
def zfs (b : List Tk) (cnt : List Bool) (c k : Int) (v : Rat) : Rat := if gI cnt k = true ∧ (gI b k).2.2.2.1 = 2 ∧ (gI b k).2.2.2.2.1 = c then v else 0
theorem wStep_len (b : List Tk) (cnt : List Bool) (am : List Int) (x : List Rat × List Rat) (k : Int) : (zdq b cnt am x k).1.length = x.1.length ∧ (zdq b cnt am x k).2.length = x.2.length := by
 unfold zdq
 split
 ·simp only
  split <;> simp [sI]
 ·exact ⟨rfl, rfl⟩
theorem w_fold {b : List Tk} {cnt : List Bool} {am : List Int} {na nb : Nat} : ∀ (l : List Int) (x : List Rat × List Rat), x.1.length = na → x.2.length = nb → l.Nodup →
  (∀ k ∈ l, (0 ≤ k ∧ k < (nb : Int)) ∧ (0 ≤ (gI b k).2.1 ∧ (gI b k).2.1 < (na : Int)) ∧ ((gI b k).2.2.2.1 = 2 → (0 ≤ (gI b k).2.2.2.2.1 ∧ (gI b k).2.2.2.2.1 < (na : Int)) ∧ (gI b k).2.2.2.2.1 ≠ (gI b k).2.1)) →
  l.Pairwise (fun k j => (gI b j).2.2.2.1 = 2 → (gI b j).2.2.2.2.1 ≠ (gI b k).2.1) →
  (∀ j : Int, 0 ≤ j → j ∉ l → gI (l.foldl (zdq b cnt am) x).2 j = gI x.2 j) ∧
  (∀ c : Int, 0 ≤ c → (∀ k ∈ l, (gI b k).2.2.2.1 = 2 → (gI b k).2.2.2.2.1 ≠ c) → gI (l.foldl (zdq b cnt am) x).1 c = gI x.1 c) ∧
  (∀ c : Int, 0 ≤ c → gI (l.foldl (zdq b cnt am) x).1 c = gI x.1 c + zcI (l.map fun k => zfs b cnt c k (gI (l.foldl (zdq b cnt am) x).2 k))) ∧
  (∀ k ∈ l, gI (l.foldl (zdq b cnt am) x).2 k = if gI cnt k = true then zdP b am k * gI (l.foldl (zdq b cnt am) x).1 (gI b k).2.1 else gI x.2 k)
 | [], x, _, _, _, _, _ => ⟨fun _ _ _ => rfl, fun _ _ _ => rfl, fun _ _ => (Rat.add_zero _).symm, fun k hk => (by cases hk)⟩
 | k :: l, x, hx1, hx2, hn, hl, hp => by
  obtain ⟨k1, k2, k3⟩ := hl k (List.mem_cons_self ..)
  obtain ⟨hkn, hn'⟩ := List.nodup_cons.1 hn
  obtain ⟨hpk, hp'⟩ := List.pairwise_cons.1 hp
  obtain ⟨q1, q2⟩ := wStep_len b cnt am x k
  obtain ⟨ia, ib, ic, id⟩ := w_fold (b := b) (cnt := cnt) (am := am) l (zdq b cnt am x k) (q1.trans hx1) (q2.trans hx2) hn' (fun j hj => hl j (List.mem_cons_of_mem _ hj)) hp'
  have eK : ∀ j : Int, 0 ≤ j → gI (zdq b cnt am x k).2 j = if k = j ∧ gI cnt k = true then zdP b am k * gI x.1 (gI b k).2.1 else gI x.2 j := fun j hj => by
   unfold zdq
   by_cases hc : gI cnt k = true
   ·rw [if_pos hc]
    simp only
    rw [zgQ (by rw [hx2]; exact k1) hj]
    by_cases h : k = j
    ·rw [if_pos h, if_pos ⟨h, hc⟩]
    ·rw [if_neg h, if_neg (fun h' => h h'.1)]
   ·rw [if_neg hc, if_neg (fun h' => hc h'.2)]
  have eC : ∀ c : Int, 0 ≤ c → gI (zdq b cnt am x k).1 c = gI x.1 c + zfs b cnt c k (zdP b am k * gI x.1 (gI b k).2.1) := fun c hc0 => by
   unfold zdq zfs
   by_cases hc : gI cnt k = true
   ·rw [if_pos hc]
    simp only
    by_cases h2 : (gI b k).2.2.2.1 = 2
    ·rw [if_pos h2, zgQ (by rw [hx1]; exact (k3 h2).1) hc0]
     by_cases h : (gI b k).2.2.2.2.1 = c
     ·rw [if_pos h, if_pos ⟨hc, h2, h⟩, h]
     ·rw [if_neg h, if_neg (fun h' => h h'.2.2), Rat.add_zero]
    ·rw [if_neg h2, if_neg (fun h' => h2 h'.2.1), Rat.add_zero]
   ·rw [if_neg hc, if_neg (fun h' => hc h'.1), Rat.add_zero]
  have brings_no : ∀ c v, ((gI b k).2.2.2.1 = 2 → (gI b k).2.2.2.2.1 ≠ c) → zfs b cnt c k v = 0 := fun c v h => by
   unfold zfs
   rw [if_neg (fun h' => h h'.2.1 h'.2.2)]
  rw [List.foldl_cons]
  have hself : gI (l.foldl (zdq b cnt am) (zdq b cnt am x k)).2 k = if gI cnt k = true then zdP b am k * gI x.1 (gI b k).2.1 else gI x.2 k := by
   rw [ia k k1.1 hkn, eK k k1.1]
   by_cases hc : gI cnt k = true
   ·rw [if_pos ⟨rfl, hc⟩, if_pos hc]
   ·rw [if_neg (fun h => hc h.2), if_neg hc]
  refine ⟨fun j hj hjl => ?_, fun c hc hno => ?_, fun c hc => ?_, fun j hj => ?_⟩
  ·have hj' : j ≠ k ∧ j ∉ l := by simpa using hjl
   rw [ia j hj hj'.2, eK j hj, if_neg (fun h => hj'.1 h.1.symm)]
  ·rw [ib c hc fun j hj => hno j (List.mem_cons_of_mem _ hj), eC c hc, brings_no c _ (hno k (List.mem_cons_self ..)), Rat.add_zero]
  ·rw [ic c hc, eC c hc, List.map_cons, zcQ, hself, Rat.add_assoc]
   congr 2
   unfold zfs
   by_cases hc : gI cnt k = true
   ·rw [if_pos hc]
   ·rw [if_neg (fun h => hc h.1), if_neg (fun h => hc h.1)]
  ·rcases List.mem_cons.1 hj with rfl | hj
   ·rw [hself, ib _ k2.1 fun i hi => hpk i hi, eC _ k2.1, brings_no _ _ fun h => (k3 h).2, Rat.add_zero]
   ·rw [id j hj, eK j (hl j (List.mem_cons_of_mem _ hj)).1.1, if_neg (show ¬ (k = j ∧ gI cnt k = true) from fun h => hkn (by rw [h.1]; exact hj))]
section
variable {a : List Bool} {b : List Tk} {c : List Th} {d : List Lk} {e : List Int} {f : Int}
theorem zcs.tkOrd_suf (H : zcs a b c d e f) : ∀ (q p : List Int), zcC a b = p ++ q → (q.flatMap (zcF b)).Nodup ∧ (q.flatMap (zcF b)).Pairwise (fun k j => (gI b j).2.2.2.1 = 2 → (gI b j).2.2.2.2.1 ≠ (gI b k).2.1) ∧
  ∀ k, k ∈ q.flatMap (zcF b) ↔ (0 ≤ k ∧ k < (b.length : Int)) ∧ (gI b k).1 = true ∧ (gI b k).2.1 ∈ q
 | [], _, _ => ⟨List.nodup_nil, List.Pairwise.nil, fun k => by simp⟩
 | x :: q, p, ho => by
  obtain ⟨i1, i2, i3⟩ := H.tkOrd_suf q (p ++ [x]) (by rw [ho]; simp)
  have hn := H.ord_nodup
  rw [ho] at hn
  have hxq : x ∉ q := (List.nodup_cons.1 (List.nodup_append.1 hn).2.1).1
  have hto : ∀ j : Int, (0 ≤ j ∧ j < (b.length : Int)) → (gI b j).1 = true → (gI b j).2.1 ∈ x :: q → (gI b j).2.2.2.1 = 2 → (gI b j).2.2.2.2.1 ≠ x := fun j hj hu hc h2 => (H.ord_to ho hj hu h2 hc).2
  rw [List.flatMap_cons]
  refine ⟨List.nodup_append.2 ⟨issued_nodup, i1, fun k hk j hj h => ?_⟩, List.pairwise_append.2 ⟨?_, i2, fun k hk j hj h2 => ?_⟩, fun k => ?_⟩
  ·subst h
   exact hxq ((zde.1 hk).2.2 ▸ ((i3 k).1 hj).2.2)
  ·refine List.Pairwise.imp_of_mem (R := fun _ _ => True) (fun {k j} hk hj _ h2 => ?_) (List.pairwise_of_forall fun _ _ => trivial)
   obtain ⟨_, _, k3⟩ := zde.1 hk
   obtain ⟨j1, j2, j3⟩ := zde.1 hj
   rw [k3]
   exact hto j j1 j2 (by rw [j3]; exact List.mem_cons_self ..) h2
  ·obtain ⟨_, _, k3⟩ := zde.1 hk
   obtain ⟨j1, j2, j3⟩ := (i3 j).1 hj
   rw [k3]
   exact hto j j1 j2 (List.mem_cons_of_mem _ j3) h2
  ·rw [List.mem_append, zde, i3, List.mem_cons]
   constructor
   ·rintro (⟨h1, h2, h3⟩ | ⟨h1, h2, h3⟩)
    ·exact ⟨h1, h2, .inl h3⟩
    ·exact ⟨h1, h2, .inr h3⟩
   ·rintro ⟨h1, h2, h3 | h3⟩
    ·exact .inl ⟨h1, h2, h3⟩
    ·exact .inr ⟨h1, h2, h3⟩
theorem zcs.tkOrd_mem (H : zcs a b c d e f) {k : Int} : k ∈ zdt a b ↔ (0 ≤ k ∧ k < (b.length : Int)) ∧ (gI b k).1 = true := by
 have h := (H.tkOrd_suf (zcC a b) [] rfl).2.2 k
 unfold zdt
 rw [h]
 exact ⟨fun h => ⟨h.1, h.2.1⟩, fun h => ⟨h.1, h.2, H.ord_mem.2 (H.tk h.1 h.2).coin⟩⟩
theorem zcs.tkOrd_nodup (H : zcs a b c d e f) : (zdt a b).Nodup := (H.tkOrd_suf (zcC a b) [] rfl).1
theorem zcs.tkOrd_hyp (H : zcs a b c d e f) : ∀ k ∈ zdt a b, (0 ≤ k ∧ k < (b.length : Int)) ∧ (0 ≤ (gI b k).2.1 ∧ (gI b k).2.1 < (a.length : Int)) ∧ ((gI b k).2.2.2.1 = 2 → (0 ≤ (gI b k).2.2.2.2.1 ∧ (gI b k).2.2.2.2.1 < (a.length : Int)) ∧ (gI b k).2.2.2.2.1 ≠ (gI b k).2.1) := fun k hk => by
 obtain ⟨k1, k2⟩ := H.tkOrd_mem.1 hk
 have ht := H.tk k1 k2
 refine ⟨k1, zdE ht.coin, fun h2 => ?_⟩
 have h4 : usC a (gI b k).2.2.2.2.1 = true := by
  rcases ht.to with h | h | h
  ·omega
  ·omega
  ·exact h.2.2
 refine ⟨zdE h4, ?_⟩
 obtain ⟨p, q, ho⟩ := List.append_of_mem (H.ord_mem.2 ht.coin)
 exact (H.ord_to ho k1 k2 h2 (List.mem_cons_self ..)).2
theorem w0_len : (w0 a b (amV a b c d e f)).1.length = a.length ∧ (w0 a b (amV a b c d e f)).2.length = b.length := by simp [w0, sI, zdc]
theorem zcs.worth (H : zcs a b c d e f) :
  (∀ c', 0 ≤ c' ∧ c' < (a.length : Int) → gI (zcx a b c d e f).1 c' = (if c' = 0 then ((gI (amV a b c d e f) 0 : Int) : Rat) else 0) + zcI ((zdt a b).map fun k => zfs b (zcV a b c d e f) c' k (gI (zcx a b c d e f).2 k))) ∧
  (∀ k, 0 ≤ k ∧ k < (b.length : Int) → gI (zcx a b c d e f).2 k = if gI (zcV a b c d e f) k = true then zdP b (amV a b c d e f) k * gI (zcx a b c d e f).1 (gI b k).2.1 else 0) := by
 obtain ⟨q1, q2⟩ := w0_len (a := a) (b := b) (c := c) (d := d) (e := e) (f := f)
 obtain ⟨ia, ib, ic, id⟩ := w_fold (b := b) (cnt := zcV a b c d e f) (am := amV a b c d e f) (zdt a b) (w0 a b (amV a b c d e f)) q1 q2 H.tkOrd_nodup H.tkOrd_hyp (H.tkOrd_suf (zcC a b) [] rfl).2.1
 have hc := H.coins
 refine ⟨fun c' hc' => ?_, fun k hk => ?_⟩
 ·unfold zcx
  rw [ic c' hc'.1]
  congr 1
  unfold w0
  simp only
  rw [zgQ (by simp [zdc]; omega) hc'.1, gI_rep hc']
  by_cases h : c' = 0
  ·rw [if_pos h.symm, if_pos h]
  ·rw [if_neg (fun h' => h h'.symm), if_neg h]
 ·have h0 : gI (w0 a b (amV a b c d e f)).2 k = 0 := by
   unfold w0
   exact gI_rep hk
  unfold zcx
  by_cases hu : (gI b k).1 = true
  ·rw [id k (H.tkOrd_mem.2 ⟨hk, hu⟩), h0]
  ·rw [ia k hk.1 (fun h => hu (H.tkOrd_mem.1 h).2), h0, if_neg (fun h => hu (H.cnt_used hk h))]
theorem wFold_len {cnt : List Bool} {am : List Int} : ∀ (l : List Int) (x : List Rat × List Rat), (l.foldl (zdq b cnt am) x).1.length = x.1.length ∧ (l.foldl (zdq b cnt am) x).2.length = x.2.length
 | [], _ => ⟨rfl, rfl⟩
 | k :: l, x => by
  obtain ⟨h1, h2⟩ := wStep_len b cnt am x k
  obtain ⟨h3, h4⟩ := wFold_len (cnt := cnt) (am := am) l (zdq b cnt am x k)
  exact ⟨h3.trans h1, h4.trans h2⟩
theorem ziF : (zcx a b c d e f).1.length = a.length ∧ (zcx a b c d e f).2.length = b.length := by
 obtain ⟨q1, q2⟩ := w0_len (a := a) (b := b) (c := c) (d := d) (e := e) (f := f)
 obtain ⟨h1, h2⟩ := wFold_len (b := b) (cnt := zcV a b c d e f) (am := amV a b c d e f) (zdt a b) (w0 a b (amV a b c d e f))
 exact ⟨h1.trans q1, h2.trans q2⟩
theorem zcs.worthC (H : zcs a b c d e f) {c' : Int} (hc' : 0 ≤ c' ∧ c' < (a.length : Int)) (h0 : c' ≠ 0) : gI (zcx a b c d e f).1 c' = zcI ((tksOf b 1 c').map fun k => gI (zcx a b c d e f).2 k) := by
 have hz : ∀ k, 0 ≤ k ∧ k < (b.length : Int) → gI (zcV a b c d e f) k = false → gI (zcx a b c d e f).2 k = 0 := fun k hk h => by rw [H.worth.2 k hk, h]; rfl
 rw [H.worth.1 c' hc', if_neg h0, Rat.zero_add]
 have h1 : (zdt a b).map (fun k => zfs b (zcV a b c d e f) c' k (gI (zcx a b c d e f).2 k)) = (zdt a b).map fun k => if zdG b 1 c' k = true then gI (zcx a b c d e f).2 k else 0 := by
  refine List.map_congr_left fun k hk => ?_
  obtain ⟨k1, k2⟩ := H.tkOrd_mem.1 hk
  unfold zfs zdG
  rw [k2]
  by_cases hc : gI (zcV a b c d e f) k = true
  ·by_cases h2 : (gI b k).2.2.2.1 = 2
   ·by_cases h3 : (gI b k).2.2.2.2.1 = c'
    ·rw [if_pos ⟨hc, h2, h3⟩, if_pos (by simp [h2, h3])]
    ·rw [if_neg (fun h => h3 h.2.2), if_neg (by simp [h3])]
   ·rw [if_neg (fun h => h2 h.2.1), if_neg (by simp [h2])]
  ·rw [if_neg (fun h => hc h.1), hz k k1 (Bool.eq_false_iff.2 hc)]
   split <;> rfl
 have h2 : zcI ((zdt a b).map fun k => if zdG b 1 c' k = true then gI (zcx a b c d e f).2 k else 0) = zcI (((zdt a b).filter (zdG b 1 c')).map fun k => gI (zcx a b c d e f).2 k) := by
  rw [← rsum_filter (l := zdt a b) (p := zdG b 1 c') (g := fun k => if zdG b 1 c' k = true then gI (zcx a b c d e f).2 k else 0) (fun k _ h => by rw [if_neg (by rw [h]; decide)])]
  congr 1
  refine List.map_congr_left fun k hk => ?_
  rw [if_pos (List.mem_filter.1 hk).2]
 rw [h1, h2]
 refine rsum_perm (List.Perm.map _ ?_)
 refine (List.perm_ext_iff_of_nodup (H.tkOrd_nodup.sublist List.filter_sublist) ((zfi List.nodup_range).sublist List.filter_sublist)).2 fun k => ?_
 rw [List.mem_filter, List.mem_filter, H.tkOrd_mem, List.mem_map]
 constructor
 ·rintro ⟨⟨h3, h4⟩, h5⟩
  obtain ⟨j, rfl⟩ := Int.eq_ofNat_of_zero_le h3.1
  exact ⟨⟨j, List.mem_range.2 (by omega), rfl⟩, h5⟩
 ·rintro ⟨⟨j, h3, rfl⟩, h5⟩
  refine ⟨⟨by have := List.mem_range.1 h3; omega, ?_⟩, h5⟩
  unfold zdG at h5
  rw [Bool.and_eq_true] at h5
  exact h5.1
theorem zcs.worth0 (H : zcs a b c d e f) : gI (zcx a b c d e f).1 0 = ((gI (amV a b c d e f) 0 : Int) : Rat) := by
 have hc := H.coins
 rw [H.worth.1 0 (by omega), if_pos rfl]
 have : (zdt a b).map (fun k => zfs b (zcV a b c d e f) 0 k (gI (zcx a b c d e f).2 k)) = (zdt a b).map fun _ => (0 : Rat) := by
  refine List.map_congr_left fun k hk => ?_
  obtain ⟨k1, k2⟩ := H.tkOrd_mem.1 hk
  unfold zfs
  rw [if_neg]
  rintro ⟨_, h2, h3⟩
  rcases (H.tk k1 k2).to with h | h | h
  ·omega
  ·omega
  ·exact h.2.1 h3
 rw [this]
 have : ∀ l : List Int, zcI (l.map fun _ => (0 : Rat)) = 0 := fun l => by
  induction l with
  | nil => rfl
  | cons x l ih => rw [List.map_cons, zcQ, ih]; exact Rat.add_zero 0
 rw [this, Rat.add_zero]
end
def nb (b : List Tk) : List Int → Nat → Nat
 | [], n => n
 | k :: l, n => nb b l (if (gI b k).2.2.2.1 = 2 then 2 * n + 29 else n)
theorem nb_le (b : List Tk) : ∀ (l : List Int) (n : Nat), n ≤ nb b l n
 | [], _ => Nat.le_refl _
 | k :: l, n => by
  unfold nb
  have := nb_le b l (if (gI b k).2.2.2.1 = 2 then 2 * n + 29 else n)
  split at this <;> split <;> omega
theorem nb_eq (b : List Tk) : ∀ (l : List Int) (n : Nat), nb b l n + 29 = (n + 29) * 2 ^ (l.filter fun k => (gI b k).2.2.2.1 == 2).length
 | [], _ => by simp [nb]
 | k :: l, n => by
  unfold nb
  rw [nb_eq b l, List.filter_cons]
  by_cases h : (gI b k).2.2.2.1 = 2
  ·rw [if_pos h, if_pos (by simpa using h), List.length_cons, Nat.pow_succ]
   have : 2 * n + 29 + 29 = (n + 29) * 2 := by omega
   rw [this, Nat.mul_assoc, Nat.mul_comm 2]
  ·rw [if_neg h, if_neg (by simpa using h)]
theorem nb_append (b : List Tk) : ∀ (l m : List Int) (n : Nat), nb b (l ++ m) n = nb b m (nb b l n)
 | [], _, _ => rfl
 | k :: l, m, n => by
  show nb b (l ++ m) (if (gI b k).2.2.2.1 = 2 then 2 * n + 29 else n) = nb b m (nb b l (if (gI b k).2.2.2.1 = 2 then 2 * n + 29 else n))
  exact nb_append b l m _
theorem cnt2_eq (b : List Tk) : cnt2 b = (((List.range b.length).map fun (k : Nat) => (k : Int)).filter fun k => (gI b k).2.2.2.1 == 2).length := by
 unfold cnt2
 have : b = ((List.range b.length).map fun (k : Nat) => (k : Int)).map (gI b) := by
  apply List.ext_getElem
  ·simp
  ·intro i h1 h2
   simp only [List.getElem_map, List.getElem_range]
   rw [zcG h1]
 conv => lhs; rw [this, List.filter_map]
 rw [List.length_map]
 rfl
theorem zcs.nb_ord {a : List Bool} {b : List Tk} {c : List Th} {d : List Lk} {e : List Int} {f : Int} (H : zcs a b c d e f) (h8 : cnt2 b ≤ 8) {n : Nat} (hn : n ≤ 71) : nb b (zdt a b) n ≤ 25600 := by
 have h1 := nb_eq b (zdt a b) n
 have h2 : ((zdt a b).filter fun k => (gI b k).2.2.2.1 == 2).length ≤ cnt2 b := by
  rw [cnt2_eq]
  refine List.Nodup.length_le_of_subset (H.tkOrd_nodup.sublist List.filter_sublist) fun k hk => ?_
  obtain ⟨h3, h4⟩ := List.mem_filter.1 hk
  obtain ⟨h5, _⟩ := H.tkOrd_mem.1 h3
  obtain ⟨j, rfl⟩ := Int.eq_ofNat_of_zero_le h5.1
  exact List.mem_filter.2 ⟨List.mem_map.2 ⟨j, List.mem_range.2 (by omega), rfl⟩, h4⟩
 have h3 : 2 ^ ((zdt a b).filter fun k => (gI b k).2.2.2.1 == 2).length ≤ 2 ^ 8 := Nat.pow_le_pow_right (by decide) (Nat.le_trans h2 h8)
 have h4 := Nat.mul_le_mul (show n + 29 ≤ 100 by omega) h3
 omega
structure WB (n : Nat) (x : List Rat × List Rat) : Prop where
 c : ∀ q ∈ x.1, 0 ≤ q ∧ sm n q
 k : ∀ q ∈ x.2, 0 ≤ q ∧ sm (n + 28) q
theorem mem_sI {α : Type} {xs : List α} {i : Int} {y z : α} (h : z ∈ sI xs i y) : z = y ∨ z ∈ xs := by
 unfold sI at h
 exact (List.mem_or_eq_of_mem_set h).symm
theorem share_sm {a : List Bool} {b : List Tk} {c : List Th} {d : List Lk} {e : List Int} {f : Int} (H : zcs a b c d e f) {k : Int} (hk : 0 ≤ k ∧ k < (b.length : Int)) (h : gI (zcV a b c d e f) k = true) :
  0 ≤ zdP b (amV a b c d e f) k ∧ sm 28 (zdP b (amV a b c d e f) k) ∧ (gI (amV a b c d e f) (gI b k).2.1).toNat ≠ 0 := by
 have hu := H.cnt_used hk h
 have ht := H.tk hk hu
 have hw := H.awake hk h
 have hb := H.am_bound (zdE ht.coin)
 have ha := ht.amt
 have hd : (gI (amV a b c d e f) (gI b k).2.1).toNat ≠ 0 := by omega
 unfold zdP
 obtain ⟨m, hm⟩ := Int.eq_ofNat_of_zero_le (show 0 ≤ (gI b k).2.2.1 by omega)
 rw [hm]
 exact ⟨zfJ _ _, zgj hd (by omega) (by omega), hd⟩
theorem wb_step {a : List Bool} {b : List Tk} {c : List Th} {d : List Lk} {e : List Int} {f : Int} (H : zcs a b c d e f) {k : Int} (hk : 0 ≤ k ∧ k < (b.length : Int)) (hu : (gI b k).1 = true) {n : Nat} {x : List Rat × List Rat} (hx : x.1.length = a.length) (W : WB n x) :
  WB (if (gI b k).2.2.2.1 = 2 then 2 * n + 29 else n) (zdq b (zcV a b c d e f) (amV a b c d e f) x k) := by
 have W' : WB (if (gI b k).2.2.2.1 = 2 then 2 * n + 29 else n) x := by
  split
  ·exact ⟨fun q hq => ⟨(W.c q hq).1, zeY (by omega) (W.c q hq).2⟩, fun q hq => ⟨(W.k q hq).1, zeY (by omega) (W.k q hq).2⟩⟩
  ·exact W
 unfold zdq
 by_cases hc : gI (zcV a b c d e f) k = true
 ·rw [if_pos hc]
  obtain ⟨s1, s2, _⟩ := share_sm H hk hc
  have ht := H.tk hk hu
  have hcm := W.c _ (zfZ (xs := x.1) (k := (gI b k).2.1) (by rw [hx]; exact zdE ht.coin))
  have v0 := Rat.mul_nonneg s1 hcm.1
  have v1 := sm_mul s1 hcm.1 s2 hcm.2
  refine ⟨fun q hq => ?_, fun q hq => ?_⟩
  ·simp only at hq
   split at hq
   ·rename_i h2
    rw [if_pos h2]
    have h4 : usC a (gI b k).2.2.2.2.1 = true := by
     rcases ht.to with h | h | h
     ·omega
     ·omega
     ·exact h.2.2
    have hct := W.c _ (zfZ (xs := x.1) (k := (gI b k).2.2.2.2.1) (by rw [hx]; exact zdE h4))
    rcases mem_sI hq with rfl | hq
    ·exact ⟨Rat.add_nonneg hct.1 v0, zeY (by omega) (sm_add hct.1 v0 hct.2 v1)⟩
    ·exact ⟨(W.c q hq).1, zeY (by omega) (W.c q hq).2⟩
   ·exact W'.c q hq
  ·rcases mem_sI hq with rfl | hq
   ·refine ⟨v0, zeY ?_ v1⟩
    split <;> omega
   ·exact W'.k q hq
 ·rw [if_neg hc]; exact W'
theorem wb_fold {a : List Bool} {b : List Tk} {c : List Th} {d : List Lk} {e : List Int} {f : Int} (H : zcs a b c d e f) : ∀ (l : List Int) (n : Nat) (x : List Rat × List Rat), (∀ k ∈ l, (0 ≤ k ∧ k < (b.length : Int)) ∧ (gI b k).1 = true) → x.1.length = a.length → WB n x →
  WB (nb b l n) (l.foldl (zdq b (zcV a b c d e f) (amV a b c d e f)) x)
 | [], _, _, _, _, W => W
 | k :: l, n, x, hl, hx, W => by
  obtain ⟨k1, k2⟩ := hl k (List.mem_cons_self ..)
  exact wb_fold H l _ _ (fun j hj => hl j (List.mem_cons_of_mem _ hj)) ((wStep_len ..).1.trans hx) (wb_step H k1 k2 hx W)
theorem sm_zero (n : Nat) (h : 1 ≤ n) : sm n 0 := by
 have : 2 ^ 1 ≤ 2 ^ n := Nat.pow_le_pow_right (by decide) h
 exact ⟨by simp; omega, by simp; omega⟩
theorem sm_int {m : Int} (h : 0 ≤ m ∧ m < 268435456) : 0 ≤ (m : Rat) ∧ sm 28 (m : Rat) := by
 obtain ⟨j, rfl⟩ := Int.eq_ofNat_of_zero_le h.1
 refine ⟨?_, ?_, ?_⟩
 ·rw [← Rat.num_nonneg]
  simp
 ·simp; omega
 ·simp
theorem zcs.wb0 {a : List Bool} {b : List Tk} {c : List Th} {d : List Lk} {e : List Int} {f : Int} (H : zcs a b c d e f) : WB 71 (w0 a b (amV a b c d e f)) := by
 have hc := H.coins
 have hb := H.am_bound (x := 0) (by omega)
 obtain ⟨h1, h2⟩ := sm_int (m := gI (amV a b c d e f) 0) (by omega)
 refine ⟨fun q hq => ?_, fun q hq => ?_⟩
 ·rcases mem_sI hq with rfl | hq
  ·exact ⟨h1, zeY (by decide) h2⟩
  ·rw [(List.mem_replicate.1 hq).2]
   exact ⟨by decide, sm_zero _ (by decide)⟩
 ·rw [(List.mem_replicate.1 hq).2]
  exact ⟨by decide, sm_zero _ (by decide)⟩
theorem zcs.wb {a : List Bool} {b : List Tk} {c : List Th} {d : List Lk} {e : List Int} {f : Int} (H : zcs a b c d e f) (h8 : cnt2 b ≤ 8) : WB 25600 (zcx a b c d e f) := by
 have h := wb_fold H (zdt a b) 71 (w0 a b (amV a b c d e f)) (fun k hk => H.tkOrd_mem.1 hk) w0_len.1 H.wb0
 have hn := H.nb_ord h8 (n := 71) (by decide)
 exact ⟨fun q hq => ⟨(h.c q hq).1, zeY hn (h.c q hq).2⟩, fun q hq => ⟨(h.k q hq).1, zeY (by omega) (h.k q hq).2⟩⟩
end Go.Proofs.YtlfdidaeachpoaaGreat
namespace Go.Proofs.YtlfdidaeachpoaaGreat
open Go Go.RowKit
set_option maxRecDepth 100000
noncomputable section
theorem pe {α β : Type} (p : α × β) : (p.1, p.2) = p := rfl
theorem zes {α β : Type} [Inhabited α] [Inhabited β] (g : α → β) {xs : List α} {i : Int} (h : 0 ≤ i ∧ i < (xs.length : Int)) : gI (xs.map g) i = g (gI xs i) := by
 obtain ⟨j, rfl⟩ := Int.eq_ofNat_of_zero_le h.1
 have hj : j < xs.length := by omega
 rw [zcG (by simpa using hj), zcG hj, List.getElem_map]
theorem sI_map {α β : Type} (g : α → β) (xs : List α) (i : Int) (y : α) : sI (xs.map g) i (g y) = (sI xs i y).map g := by
 unfold sI; rw [List.map_set]
theorem rep_set {α : Type} (i n : Nat) (z z0 : α) : (List.replicate i z ++ List.replicate (n + 1) z0).set i z = List.replicate (i + 1) z ++ List.replicate n z0 := by
 rw [List.set_append, if_neg (by simp), List.length_replicate, Nat.sub_self, List.replicate_succ, List.set_cons_zero, List.replicate_succ', List.append_assoc]
 rfl
theorem zero_a (m : Nat) (hm : m ≤ 1000000) : ∀ (n i : Nat), i + n = m → lo zh_b122 (m : Int) ((i : Int), List.replicate i (rq 0) ++ List.replicate n ([], [])) = some (List.replicate m (rq 0))
 | 0, i, h => by
  rw [zco, zh_b122]
  simp only [RT.run]
  rw [if_neg (by simp; omega), show i = m by omega]
  simp
 | n + 1, i, h => by
  rw [zco, zh_b122]
  simp only [RT.run]
  rw [if_pos (by simp; omega), if_pos (zcm.2 ⟨by omega, by simp; omega⟩), zcj (by omega), show (i : Int) + 1 = ((i + 1 : Nat) : Int) by omega, ← rq_zero, sI, Int.toNat_natCast, rep_set, zero_a m hm n (i + 1) (by omega)]
theorem zero_b (m : Nat) (hm : m ≤ 1000000) : ∀ (n i : Nat), i + n = m → lo zh_b250 (m : Int) ((i : Int), List.replicate i (rq 0) ++ List.replicate n ([], [])) = some (List.replicate m (rq 0))
 | 0, i, h => by
  rw [zco, zh_b250]
  simp only [RT.run]
  rw [if_neg (by simp; omega), show i = m by omega]
  simp
 | n + 1, i, h => by
  rw [zco, zh_b250]
  simp only [RT.run]
  rw [if_pos (by simp; omega), if_pos (zcm.2 ⟨by omega, by simp; omega⟩), zcj (by omega), show (i : Int) + 1 = ((i + 1 : Nat) : Int) by omega, ← rq_zero, sI, Int.toNat_natCast, rep_set, zero_b m hm n (i + 1) (by omega)]
theorem rq_len {q : Rat} {n : Nat} (h : sm n q) : (rq q).1.length ≤ n ∧ (rq q).2.length ≤ n := ⟨zfQ (by decide) h.1, zfQ (by decide) h.2⟩
theorem okS2 {p q : Rat} {n m : Nat} (hp : sm n p) (hq : sm m q) (hn : n ≤ 4000000) (hm : m ≤ 4000000) : okS [rq p, rq q] = true := by
 obtain ⟨p1, p2⟩ := rq_len hp
 obtain ⟨q1, q2⟩ := rq_len hq
 rw [okS_iff]
 refine ⟨by simp, fun x hx => ?_, by simp [szS]; omega⟩
 simp only [List.mem_cons, List.not_mem_nil, or_false] at hx
 rcases hx with rfl | rfl
 ·exact okr_rq hp (by omega)
 ·exact okr_rq hq (by omega)
theorem prodQ2 {p q : Rat} (hp : 0 ≤ p) (hq : 0 ≤ q) : prodQ [rq p, rq q] = p * q := by
 simp only [prodQ, List.foldl_cons, List.foldl_nil, toQ_rq hp, toQ_rq hq, Rat.one_mul]
theorem sumQ2 {p q : Rat} (hp : 0 ≤ p) (hq : 0 ≤ q) : sumQ [rq p, rq q] = p + q := by
 simp only [sumQ, List.foldl_cons, List.foldl_nil, toQ_rq hp, toQ_rq hq, Rat.zero_add]
theorem mkR_rq {n d : Nat} (hd : d ≠ 0) : mkR n d = (true, rq (mkRat (n : Int) d)) := by unfold mkR; rw [if_neg hd]
section
variable {a : List Bool} {b : List Tk} {c : List Th} {d : List Lk} {e : List Int} {f : Int}
theorem w_inner (H : zcs a b c d e f) {x0 : Int} (hx0 : usC a x0 = true) : ∀ (m i n : Nat) (x : List Rat × List Rat), i + m = (zcF b x0).length → x.1.length = a.length → x.2.length = b.length → WB n x → nb b ((zcF b x0).drop i) n ≤ 25600 →
  lo zhA (x0, ((zcF b x0).length : Int), b, zcV a b c d e f, amV a b c d e f, zcF b x0) ((i : Int), x.1.map rq, x.2.map rq) =
   some ((((zcF b x0).drop i).foldl (zdq b (zcV a b c d e f) (amV a b c d e f)) x).1.map rq, (((zcF b x0).drop i).foldl (zdq b (zcV a b c d e f) (amV a b c d e f)) x).2.map rq)
 | 0, i, n, x, h, _, _, _, _ => by
  rw [zco, zhA]
  simp only [RT.run]
  rw [if_neg (by simp; omega), List.drop_eq_nil_of_le (by omega)]
  rfl
 | m + 1, i, n, x, h, h1, h2, W, hb => by
  have hlb := H.lenB
  have hil := ziI b x0
  have hi : i < (zcF b x0).length := by omega
  obtain ⟨k1, k2, k3⟩ := zde.1 (List.getElem_mem hi)
  have hgk : gI (zcF b x0) (i : Int) = (zcF b x0)[i] := zcG hi
  rw [List.drop_eq_getElem_cons hi] at hb
  rw [List.drop_eq_getElem_cons hi, List.foldl_cons]
  generalize (zcF b x0)[i] = k at *
  obtain ⟨l1, l2⟩ := H.len
  have ht := H.tk k1 k2
  have hcn : inB (zcV a b c d e f) k = true := zcm.2 (by rw [l1]; exact k1)
  have hxc := zdE hx0
  have ham : inB (amV a b c d e f) x0 = true := zcm.2 (by rw [l2]; exact hxc)
  have hb' := nb_le b ((zcF b x0).drop (i + 1)) (if (gI b k).2.2.2.1 = 2 then 2 * n + 29 else n)
  have hb2 : nb b ((zcF b x0).drop (i + 1)) (if (gI b k).2.2.2.1 = 2 then 2 * n + 29 else n) ≤ 25600 := hb
  have hn : n ≤ 25600 := by
   split at hb' <;> split at hb2 <;> omega
  obtain ⟨s1, s2⟩ := wStep_len b (zcV a b c d e f) (amV a b c d e f) x k
  have ih := w_inner H hx0 m (i + 1) _ (zdq b (zcV a b c d e f) (amV a b c d e f) x k) (by omega) (s1.trans h1) (s2.trans h2) (wb_step H k1 k2 h1 W) hb
  rw [zco, zhA]
  simp only [RT.run, hgk]
  rw [if_pos (by simp; omega), if_pos (zcm.2 ⟨by omega, by omega⟩), if_pos hcn, zcj (by omega), show (i : Int) + 1 = ((i + 1 : Nat) : Int) by omega]
  cases hc : gI (zcV a b c d e f) k with
  | false =>
   rw [if_pos (by decide)]
   have hw : zdq b (zcV a b c d e f) (amV a b c d e f) x k = x := by unfold zdq; rw [if_neg (by rw [hc]; decide)]
   rw [hw] at ih
   rw [hw, ih]
  | true =>
   obtain ⟨v0, v1, v2⟩ := share_sm H k1 hc
   rw [k3] at v2
   have hcx := W.c _ (zfZ (xs := x.1) (k := x0) (by rw [h1]; exact hxc))
   have hamt := ht.amt
   have hab := H.am_bound hxc
   have e1 : mkR (zcv (gI b k).2.2.1).toNat (zcv (gI (amV a b c d e f) x0)).toNat = (true, rq (zdP b (amV a b c d e f) k)) := by
    rw [zcD (by omega), zcD (by omega), mkR_rq v2]
    unfold zdP
    rw [k3, Int.toNat_of_nonneg (by omega)]
   have e2 : gI (x.1.map rq) x0 = rq (gI x.1 x0) := zes rq (by rw [h1]; exact hxc)
   have in1 : inB (x.1.map rq) x0 = true := zcm.2 (by simp only [List.length_map]; rw [h1]; exact hxc)
   have in2 : inB (x.2.map rq) k = true := zcm.2 (by simp only [List.length_map]; rw [h2]; exact k1)
   have vv0 := Rat.mul_nonneg v0 hcx.1
   have vv1 := sm_mul v0 hcx.1 v1 hcx.2
   rw [if_neg (by decide), if_pos (zcm.2 k1), if_pos ham, if_pos in1]
   simp only [e1, e2, pe]
   rw [okS2 v1 hcx.2 (by omega) (by omega), prodQ2 v0 hcx.1, if_pos rfl, if_pos in2, sI_map]
   have hw : zdq b (zcV a b c d e f) (amV a b c d e f) x k = (if (gI b k).2.2.2.1 = 2 then sI x.1 (gI b k).2.2.2.2.1 (gI x.1 (gI b k).2.2.2.2.1 + zdP b (amV a b c d e f) k * gI x.1 x0) else x.1, sI x.2 k (zdP b (amV a b c d e f) k * gI x.1 x0)) := by
    unfold zdq
    rw [if_pos hc, k3]
   by_cases h2k : (gI b k).2.2.2.1 = 2
   ·have h4 : usC a (gI b k).2.2.2.2.1 = true := by
     rcases ht.to with h | h | h
     ·omega
     ·omega
     ·exact h.2.2
    have hto := zdE h4
    have in3 : inB (x.1.map rq) (gI b k).2.2.2.2.1 = true := zcm.2 (by simp only [List.length_map]; rw [h1]; exact hto)
    have in4 : inB ((sI x.2 k (zdP b (amV a b c d e f) k * gI x.1 x0)).map rq) k = true := zcm.2 (by simp only [List.length_map, sI_len]; rw [h2]; exact k1)
    have e3 : gI (x.1.map rq) (gI b k).2.2.2.2.1 = rq (gI x.1 (gI b k).2.2.2.2.1) := zes rq (by rw [h1]; exact hto)
    have e4 : gI ((sI x.2 k (zdP b (amV a b c d e f) k * gI x.1 x0)).map rq) k = rq (zdP b (amV a b c d e f) k * gI x.1 x0) := by
     rw [zes rq (by rw [sI_len, h2]; exact k1), zgQ (by rw [h2]; exact k1) k1.1, if_pos rfl]
    have hct := W.c _ (zfZ (xs := x.1) (k := (gI b k).2.2.2.2.1) (by rw [h1]; exact hto))
    rw [if_pos (by simpa using h2k), if_pos in3, if_pos in4]
    simp only [e3, e4, pe]
    rw [okS2 hct.2 vv1 (by omega) (by omega), sumQ2 hct.1 vv0, if_pos rfl, if_pos in3, sI_map]
    rw [hw, if_pos h2k] at ih
    rw [hw, if_pos h2k]
    exact ih
   ·rw [if_neg (by simpa using h2k)]
    rw [hw, if_neg h2k] at ih
    rw [hw, if_neg h2k]
    exact ih
theorem w_outer (H : zcs a b c d e f) : ∀ (m i n : Nat) (x : List Rat × List Rat), i + m = (zcC a b).length → x.1.length = a.length → x.2.length = b.length → WB n x → nb b (((zcC a b).drop i).flatMap (zcF b)) n ≤ 25600 →
  lo zhZ (zcC a b, ((zcC a b).length : Int), a, b, c, d, e, f, zcV a b c d e f, amV a b c d e f) ((i : Int), x.1.map rq, x.2.map rq) =
   some (((((zcC a b).drop i).flatMap (zcF b)).foldl (zdq b (zcV a b c d e f) (amV a b c d e f)) x).1.map rq, ((((zcC a b).drop i).flatMap (zcF b)).foldl (zdq b (zcV a b c d e f) (amV a b c d e f)) x).2.map rq)
 | 0, i, n, x, h, _, _, _, _ => by
  rw [zco, zhZ]
  simp only [RT.run]
  rw [if_neg (by simp; omega), List.drop_eq_nil_of_le (by omega)]
  rfl
 | m + 1, i, n, x, h, h1, h2, W, hb => by
  have hlb := H.lenB
  have hi : i < (zcC a b).length := by omega
  have hol : (zcC a b).length ≤ 16 := by
   have := kahn_len a.length (zda b)
   have h3 : (zcC a b).length ≤ (zdB a.length (zda b)).2.length := List.length_filter_le ..
   have := H.coins
   omega
  have hus := H.ord_mem.1 (List.getElem_mem hi)
  have hgk : gI (zcC a b) (i : Int) = (zcC a b)[i] := zcG hi
  rw [List.drop_eq_getElem_cons hi, List.flatMap_cons, nb_append] at hb
  rw [List.drop_eq_getElem_cons hi, List.flatMap_cons, List.foldl_append]
  generalize (zcC a b)[i] = x0 at *
  obtain ⟨s1, s2⟩ := wFold_len (b := b) (cnt := zcV a b c d e f) (am := amV a b c d e f) (zcF b x0) x
  have hin := w_inner H hus (zcF b x0).length 0 n x (by omega) h1 h2 W (by rw [List.drop_zero]; exact Nat.le_trans (nb_le b _ _) hb)
  rw [List.drop_zero, show ((0 : Nat) : Int) = 0 from rfl] at hin
  have ih := w_outer H m (i + 1) _ _ (by omega) (s1.trans h1) (s2.trans h2) (wb_fold H (zcF b x0) n x (fun k hk => by
   obtain ⟨k1, k2, _⟩ := zde.1 hk
   exact ⟨k1, k2⟩) h1 W) hb
  rw [zco, zhZ]
  simp only [RT.run, hgk]
  rw [if_pos (by simp; omega), if_pos (zcm.2 ⟨by omega, by omega⟩), if_pos (decide_eq_true (by omega)), hin, Option.bind_some, zcj (by omega), show (i : Int) + 1 = ((i + 1 : Nat) : Int) by omega]
  exact ih
end
def wOK (a : List Bool) (b : List Tk) (c : List Th) (d : List Lk) (e : List Int) (f : Int) : Bool := zfq a b c d e f && decide (cnt2 b ≤ 8)
theorem zdx {a : List Bool} {b : List Tk} {c : List Th} {d : List Lk} {e : List Int} {f : Int} (h : wOK a b c d e f = true) : zcs a b c d e f ∧ cnt2 b ≤ 8 := by
 unfold wOK at h
 rw [Bool.and_eq_true, decide_eq_true_eq] at h
 exact ⟨fine0 h.1, h.2⟩
def e_zh : zcn := io_zh.sp (fun (a, b, c, d, e, f) => (wOK a b c d e f)) (fun (a, b, c, d, e, f) => ((zcx a b c d e f).1.map rq, (zcx a b c d e f).2.map rq))
theorem sp_zh (h : ∀ (a : List Bool) (b : List Tk) (c : List Th) (d : List Lk) (e : List Int) (f : Int), WfT [.sl tB, .sl yK, .sl yH, .sl yL, .sl tI, tI] (a, b, c, d, e, f) → ((wOK a b c d e f)) = true → (zh (a, b, c, d, e, f)).run (fun _ => none) = some ((zcx a b c d e f).1.map rq, (zcx a b c d e f).2.map rq)) : e_zh.ok pg := zct ok_zh fun (a, b, c, d, e, f) hw hc => h a b c d e f hw hc
theorem e_zh_ok : e_zh.ok pg := sp_zh fun a b c d e f _ hc => by
 obtain ⟨H, h8⟩ := zdx hc
 have hlb := H.lenB
 have hca := H.coins
 obtain ⟨l1, l2⟩ := H.len
 have za := zero_a a.length (by omega) a.length 0 (by omega)
 have zb := zero_b b.length (by omega) b.length 0 (by omega)
 rw [List.replicate_zero, List.nil_append, show ((0 : Nat) : Int) = 0 from rfl] at za zb
 have ab := H.am_bound (x := 0) (by omega)
 rw [zh]
 simp only [RT.run]
 have hra : ∀ n : Nat, (zdc (n : Int) (([] : List Int), ([] : List Int))) = List.replicate n ([], []) := fun n => by unfold zdc; rw [Int.toNat_natCast]
 rw [if_pos H.reckOK, if_pos H.reckOK, if_pos (zdK.2 ⟨by omega, by omega, by omega⟩), if_pos (zdK.2 ⟨by omega, by omega, by omega⟩), hra, hra, List.length_replicate, List.length_replicate, za, Option.bind_some, zb, Option.bind_some]
 show (if inB (amV a b c d e f) 0 = true then _ else none) = _
 have e1 : mkR (zcv (gI (zeU (a, b, c, d, e, f)).2 0)).toNat (1 : Int).toNat = (true, rq ((gI (amV a b c d e f) 0 : Int) : Rat)) := by
  show mkR (zcv (gI (amV a b c d e f) 0)).toNat (1 : Int).toNat = _
  rw [zcD (by omega), mkR_rq (by decide), show (1 : Int).toNat = 1 from rfl, Rat.mkRat_one, Int.toNat_of_nonneg ab.1]
 rw [if_pos (zcm.2 (by rw [l2]; omega)), if_pos (zcm.2 (by simp; omega)), if_pos (by rw [decide_eq_true (show b.length ≤ 1000000 by omega), decide_eq_true (show a.length ≤ 4096 by omega)]; rfl)]
 have hw := w_outer H (zcC a b).length 0 71 (w0 a b (amV a b c d e f)) (by omega) w0_len.1 w0_len.2 H.wb0 (by rw [List.drop_zero]; exact H.nb_ord h8 (by decide))
 rw [List.drop_zero, show ((0 : Nat) : Int) = 0 from rfl] at hw
 have hs : sI (List.replicate a.length (rq 0)) 0 (rq ((gI (amV a b c d e f) 0 : Int) : Rat)) = (w0 a b (amV a b c d e f)).1.map rq := by
  show _ = (sI (List.replicate a.length 0) 0 ((gI (amV a b c d e f) 0 : Int) : Rat)).map rq
  rw [← sI_map, List.map_replicate]
 have hk : List.replicate b.length (rq 0) = (w0 a b (amV a b c d e f)).2.map rq := by
  show _ = (List.replicate b.length 0).map rq
  rw [List.map_replicate]
 rw [e1]
 simp only [pe]
 rw [hs, hk]
 have hw' : lo zhZ (zcC a b, ((zcC a b).length : Int), a, b, c, d, e, f, (zeU (a, b, c, d, e, f)).1, (zeU (a, b, c, d, e, f)).2) (0, (w0 a b (amV a b c d e f)).1.map rq, (w0 a b (amV a b c d e f)).2.map rq) = _ := hw
 rw [hw']
 rfl
def worth_Coins : ((List Bool) × (List Tk) × (List Th) × (List Lk) × (List Int) × Int) → RT Unit (List ((List Int) × List Int))
| (s_0, s_1, s_2, s_3, s_4, s_5) =>
 .rq 3 (.req ((wOK s_0 s_1 s_2 s_3 s_4 s_5)) (.rq 7 (.done ((zcx s_0 s_1 s_2 s_3 s_4 s_5).1.map rq))))
def zav : ((List Bool) × (List Tk) × (List Th) × (List Lk) × (List Int) × Int) → RT Unit (List ((List Int) × List Int))
| (s_0, s_1, s_2, s_3, s_4, s_5) =>
 .rq 3 (.req ((wOK s_0 s_1 s_2 s_3 s_4 s_5)) (.rq 7 (.done ((zcx s_0 s_1 s_2 s_3 s_4 s_5).2.map rq))))
def F_zav (x : (List Bool) × (List Tk) × (List Th) × (List Lk) × (List Int) × Int) : Option (List ((List Int) × List Int)) := (zav x).run fun _ => none
def io_zav : Io := ⟨n_zav, [.sl tB, .sl yK, .sl yH, .sl yL, .sl tI, tI], [.agg [qm 0, qm 1, qm 2, qm 3, qm 4, qm 5]], [], [[.sl tB, .sl yK, .sl yH, .sl yL, .sl tI, tI]], [.sl (.pair (.sl tV) (.sl tV))], .lf (qr 0), [], [(true, .arr 41 (qm 0))], true⟩
def zav_P : List zcd := []
def zav_T : zci := tab [e_zh]
theorem zav_To : zch pg zav_T := zce ⟨e_zh_ok, trivial⟩
theorem zav_go : zcu pg (zav_T) io_zav f_zav (zav_P) [.nilRow 2 800002 41 (.pair (.sl tV) (.sl tV)), .ren 2 700002, .ren 2 900002] (zav) := ⟨by kernel_rfl, by kernel_rfl, fun x => by kernel_rfl⟩
theorem ok_zav : io_zav.Okay pg (F_zav) := zcr zcg (zav_To) (zav_go) trivial
def e_zav : zcn := io_zav.sp (fun (a, b, c, d, e, f) => (wOK a b c d e f)) (fun (a, b, c, d, e, f) => ((zcx a b c d e f).2.map rq))
theorem sp_zav (h : ∀ (a : List Bool) (b : List Tk) (c : List Th) (d : List Lk) (e : List Int) (f : Int), WfT [.sl tB, .sl yK, .sl yH, .sl yL, .sl tI, tI] (a, b, c, d, e, f) → ((wOK a b c d e f)) = true → (zav (a, b, c, d, e, f)).run (fun _ => none) = some ((zcx a b c d e f).2.map rq)) : e_zav.ok pg := zct ok_zav fun (a, b, c, d, e, f) hw hc => h a b c d e f hw hc
theorem e_zav_ok : e_zav.ok pg := sp_zav fun a b c d e f _ hc => by
 rw [zav]
 simp only [RT.run]
 rw [if_pos hc]
def zt_b122 : Int → (Int × (List ((List Int) × List Int))) → RT (Int × (List ((List Int) × List Int))) (List ((List Int) × List Int))
| x15, (x16, r4) =>
 .rq 1 (.ite (decide (x16 < x15))
 (.rq 5 (.req (inB r4 x16) (.rq 3 (.again (w64 (x16 + 1), sI r4 x16 ([], zcf B32 1))))))
 (.done r4))
def zt_p122 : zcd := ⟨122, true, [tI, .sl tB, .sl yK, .sl yH, .sl yL, .sl tI, tI, .sl (.pair (.sl tV) (.sl tV))], [tI, .sl (.pair (.sl tV) (.sl tV))], ⟨[.keep [1, 3, 4, 15, 16], .gc, .nilRow 3 800003 41 (.pair (.sl tV) (.sl tV)), .nilRow 4 800004 41 (.pair (.sl tV) (.sl tV)), .ren 3 700003, .ren 4 700004, .ren 3 900003, .ren 4 900004, .gc], [1, 3, 4, 15, 16], [.lf (qp 16), .lf (qr 900003), .lf (qr 900004), .lf (qi 0), .lf (qm 0)], [(16, true, .cells [qi 1, qi 2, qi 3, qi 4, qi 5, qi 6]), (900003, true, .arr 41 (qi 7)), (900004, true, .arr 41 (qm 1))]⟩, [⟨2, ⟨[.keep [1, 3, 4], .gc, .nilRow 3 800003 41 (.pair (.sl tV) (.sl tV)), .nilRow 4 800004 41 (.pair (.sl tV) (.sl tV)), .ren 3 700003, .ren 4 700004, .ren 3 900003, .ren 4 900004, .gc], [1, 3, 4], [.lf (qp 16), .lf (qr 900003), .lf (qr 900004)], [(16, true, .cells [qi 1, qi 2, qi 3, qi 4, qi 5, qi 6]), (900003, true, .arr 41 (qi 7)), (900004, true, .arr 41 (qm 0))]⟩, [.sl (.pair (.sl tV) (.sl tV))]⟩], (fun i => zt_b122 i.1)⟩
def zt_b250 : ((List Tk) × Int × (List ((List Int) × List Int))) → (Int × (List ((List Int) × List Int))) → RT (Int × (List ((List Int) × List Int))) (List ((List Int) × List Int))
| (x25, x26, r3), (x27, r4) =>
 .rq 1 (.ite (decide (x27 < x26))
 (.rq 1 (.req (inB x25 x27) (.rq 11 (let t0 := w64 (x27 + 1);
 .ite ((gI x25 x27).1 && ((gI x25 x27).2.2.2.1 == 1))
 (.rq 6 (let t1 := inB r4 (gI x25 x27).2.2.2.2.1;
 .req t1 (.rq 3 (.req (inB r3 x27) (.rq 2 (let t2 := gI r4 (gI x25 x27).2.2.2.2.1;
 let t3 := [(t2.1, t2.2), ((gI r3 x27).1, (gI r3 x27).2)];
 .req (okS t3) (.req t1 (.rq 3 (let t4 := rq (sumQ t3);
 .again (t0, sI r4 (gI x25 x27).2.2.2.2.1 (t4.1, t4.2)))))))))))
 (.rq 2 (.again (t0, r4)))))))
 (.done r4))
def zt_p250 : zcd := ⟨250, true, [.sl yK, tI, .sl (.pair (.sl tV) (.sl tV))], [tI, .sl (.pair (.sl tV) (.sl tV))], ⟨[.keep [3, 4, 25, 26, 27], .gc, .nilRow 3 800003 41 (.pair (.sl tV) (.sl tV)), .nilRow 4 800004 41 (.pair (.sl tV) (.sl tV)), .ren 3 700003, .ren 4 700004, .ren 3 900003, .ren 4 900004, .gc], [3, 4, 25, 26, 27], [.lf (qr 900003), .lf (qr 900004), .lf (qi 0), .lf (qi 1), .lf (qm 0)], [(900003, true, .arr 41 (qi 2)), (900004, true, .arr 41 (qm 1))]⟩, [⟨4, ⟨[.keep [4], .gc, .nilRow 4 800004 41 (.pair (.sl tV) (.sl tV)), .ren 4 700004, .ren 4 900004, .gc], [4], [.lf (qr 900004)], [(900004, true, .arr 41 (qm 0))]⟩, [.sl (.pair (.sl tV) (.sl tV))]⟩], zt_b250⟩
def zt : ((List Bool) × (List Tk) × (List Th) × (List Lk) × (List Int) × Int) → RT Unit (List ((List Int) × List Int))
| (s_0, s_1, s_2, s_3, s_4, s_5) =>
 .rq 3 (.req ((wOK s_0 s_1 s_2 s_3 s_4 s_5)) (.rq 4 (.req (mkOK 48 (s_2.length : Int)) (.rq 4 (let t0 := zdc (s_2.length : Int) ([], []);
 .call (lo zt_b122 (t0.length : Int) (0, t0)) default fun v0 =>
 .rq 4 (.call (lo zt_b250 (s_1, (s_1.length : Int), ((zcx s_0 s_1 s_2 s_3 s_4 s_5).2.map rq)) (0, v0)) default fun v1 =>
 .rq 2 (.done v1)))))))
def F_zt (x : (List Bool) × (List Tk) × (List Th) × (List Lk) × (List Int) × Int) : Option (List ((List Int) × List Int)) := (zt x).run fun _ => none
def io_zt : Io := ⟨n_zt, [.sl tB, .sl yK, .sl yH, .sl yL, .sl tI, tI], [.agg [qm 0, qm 1, qm 2, qm 3, qm 4, qm 5]], [], [[.sl tB, .sl yK, .sl yH, .sl yL, .sl tI, tI]], [.sl (.pair (.sl tV) (.sl tV))], .lf (qr 0), [], [(true, .arr 41 (qm 0))], true⟩
def zt_P : List zcd := [zt_p122, zt_p250]
def zt_T : zci := tab [e_zav, e_zab, e_zap]
theorem zt_To : zch pg zt_T := zce ⟨e_zav_ok, e_zab_ok, zhh, trivial⟩
theorem zt_k122 : (zt_p122).OK pg (zt_T) (zcz 56 (zt_P)) (zcq f_zt) 56 := ⟨by kernel_rfl, fun i x => by kernel_rfl⟩
theorem zt_k250 : (zt_p250).OK pg (zt_T) (zcz 56 (zt_P)) (zcq f_zt) 56 := ⟨by kernel_rfl, fun i x => by kernel_rfl⟩
theorem zt_go : zcu pg (zt_T) io_zt f_zt (zt_P) [.nilRow 2 800002 41 (.pair (.sl tV) (.sl tV)), .ren 2 700002, .ren 2 900002] (zt) := ⟨by kernel_rfl, by kernel_rfl, fun x => by kernel_rfl⟩
theorem ok_zt : io_zt.Okay pg (F_zt) := zcr zcg (zt_To) (zt_go) ⟨zt_k122, zt_k250, trivial⟩
theorem rsum_sm {l : List Rat} {n : Nat} (h : ∀ x ∈ l, 0 ≤ x ∧ sm n x) : 0 ≤ zcI l ∧ sm ((n + 1) * l.length + 1) (zcI l) := by
 induction l with
 | nil => exact ⟨by decide, sm_zero _ (by simp)⟩
 | cons x l ih =>
  obtain ⟨h1, h2⟩ := h x (List.mem_cons_self ..)
  obtain ⟨h3, h4⟩ := ih fun y hy => h y (List.mem_cons_of_mem _ hy)
  refine ⟨Rat.add_nonneg h1 h3, zeY ?_ (sm_add h1 h3 h2 h4)⟩
  rw [List.length_cons, Nat.mul_add, Nat.mul_one]
  omega
def zdC (K : List Rat) (p : Int → Bool) (l : List Int) : Rat := zcI ((l.filter p).map (gI K))
def zcO (n : Nat) : List Int := (List.range n).map fun (k : Nat) => (k : Int)
theorem zeA (n : Nat) : (zcO n).length = n := by simp [zcO]
theorem ints_succ (n : Nat) : zcO (n + 1) = zcO n ++ [(n : Int)] := by unfold zcO; rw [List.range_succ, List.map_append]; rfl
theorem zet {n : Nat} {k : Int} : k ∈ zcO n ↔ 0 ≤ k ∧ k < (n : Int) := by
 unfold zcO
 rw [List.mem_map]
 constructor
 ·rintro ⟨j, h, rfl⟩
  have := List.mem_range.1 h
  omega
 ·rintro ⟨h1, h2⟩
  obtain ⟨j, rfl⟩ := Int.eq_ofNat_of_zero_le h1
  exact ⟨j, List.mem_range.2 (by omega), rfl⟩
theorem sumOf_succ (K : List Rat) (p : Int → Bool) (n : Nat) : zdC K p (zcO (n + 1)) = zdC K p (zcO n) + (if p (n : Int) = true then gI K (n : Int) else 0) := by
 unfold zdC
 rw [ints_succ, List.filter_append, List.map_append, zjh]
 congr 1
 rw [List.filter_cons]
 split
 ·rw [List.filter_nil, List.map_cons, zcQ]; exact Rat.add_zero _
 ·rfl
theorem sumOf_sm {K : List Rat} {n : Nat} (h : ∀ x ∈ K, 0 ≤ x ∧ sm n x) (p : Int → Bool) {l : List Int} (hl : ∀ k ∈ l, 0 ≤ k ∧ k < (K.length : Int)) : 0 ≤ zdC K p l ∧ sm ((n + 1) * l.length + 1) (zdC K p l) := by
 obtain ⟨h1, h2⟩ := rsum_sm (l := (l.filter p).map (gI K)) (n := n) fun x hx => by
  obtain ⟨k, hk, rfl⟩ := List.mem_map.1 hx
  exact h _ (zfZ (hl k (List.mem_filter.1 hk).1))
 refine ⟨h1, zeY ?_ h2⟩
 rw [List.length_map]
 have := List.length_filter_le p l
 have := Nat.mul_le_mul_left (n + 1) this
 omega
def thW (a : List Bool) (b : List Tk) (c : List Th) (d : List Lk) (e : List Int) (f : Int) : List Rat := (zcO c.length).map fun i => zdC (zcx a b c d e f).2 (zdG b 2 i) (zcO b.length)
section
variable {a : List Bool} {b : List Tk} {c : List Th} {d : List Lk} {e : List Int} {f : Int}
def zfI (b : List Tk) (K : List Rat) (n m : Nat) : List Rat := (zcO n).map fun i => zdC K (zdG b 2 i) (zcO m)
theorem zfR {b : List Tk} {K : List Rat} {n m : Nat} {i : Int} (h : 0 ≤ i ∧ i < (n : Int)) : gI (zfI b K n m) i = zdC K (zdG b 2 i) (zcO m) := by
 unfold zfI
 rw [zes (α := Int) _ (by rw [zeA]; exact h)]
 congr 1
 obtain ⟨j, rfl⟩ := Int.eq_ofNat_of_zero_le h.1
 have hj : j < n := by omega
 rw [zcG (by rw [zeA]; exact hj)]
 simp [zcO]
theorem zeF {b : List Tk} {K : List Rat} {n m : Nat} : (zfI b K n m).length = n := by simp [zfI, zcO]
theorem zgD {x y : List Rat} (hl : x.length = y.length) (h : ∀ i : Int, 0 ≤ i ∧ i < (x.length : Int) → gI x i = gI y i) : x = y := by
 refine List.ext_getElem hl fun i h1 h2 => ?_
 have := h (i : Int) (by omega)
 rwa [zcG h1, zcG h2] at this
theorem zero_t (m : Nat) (hm : m ≤ 1000000) : ∀ (n i : Nat), i + n = m → lo zt_b122 (m : Int) ((i : Int), List.replicate i (rq 0) ++ List.replicate n ([], [])) = some (List.replicate m (rq 0))
 | 0, i, h => by
  rw [zco, zt_b122]
  simp only [RT.run]
  rw [if_neg (by simp; omega), show i = m by omega]
  simp
 | n + 1, i, h => by
  rw [zco, zt_b122]
  simp only [RT.run]
  rw [if_pos (by simp; omega), if_pos (zcm.2 ⟨by omega, by simp; omega⟩), zcj (by omega), show (i : Int) + 1 = ((i + 1 : Nat) : Int) by omega, ← rq_zero, sI, Int.toNat_natCast, rep_set, zero_t m hm n (i + 1) (by omega)]
theorem th_loop (H : zcs a b c d e f) {K : List Rat} (hK : K.length = b.length) (hs : ∀ x ∈ K, 0 ≤ x ∧ sm 25628 x) : ∀ (n i : Nat), i + n = b.length →
  lo zt_b250 (b, (b.length : Int), K.map rq) ((i : Int), (zfI b K c.length i).map rq) = some ((zfI b K c.length b.length).map rq)
 | 0, i, h => by
  rw [zco, zt_b250]
  simp only [RT.run]
  rw [if_neg (by simp; omega), show i = b.length by omega]
 | n + 1, i, h => by
  have hlb := H.lenB
  have hi : 0 ≤ (i : Int) ∧ (i : Int) < (b.length : Int) := by omega
  have ih := th_loop H hK hs n (i + 1) (by omega)
  have sz : ∀ p, 0 ≤ zdC K p (zcO i) ∧ sm 2500000 (zdC K p (zcO i)) := fun p => by
   obtain ⟨h1, h2⟩ := sumOf_sm (n := 25628) hs p (l := zcO i) (fun k hk => by have := zet.1 hk; omega)
   exact ⟨h1, zeY (by rw [zeA]; omega) h2⟩
  rw [zco, zt_b250]
  simp only [RT.run]
  rw [if_pos (by simp; omega), if_pos (zcm.2 hi), zcj (by omega), show (i : Int) + 1 = ((i + 1 : Nat) : Int) by omega]
  have hnx : ∀ j, zdG b 2 j (i : Int) = ((gI b (i : Int)).1 && (((gI b (i : Int)).2.2.2.1 == 1) && ((gI b (i : Int)).2.2.2.2.1 == j))) := fun j => by unfold zdG; simp
  by_cases hc : ((gI b (i : Int)).1 && ((gI b (i : Int)).2.2.2.1 == 1)) = true
  ·rw [if_pos hc]
   rw [Bool.and_eq_true, beq_iff_eq] at hc
   have ht := H.tk hi hc.1
   have hut : usT c (gI b (i : Int)).2.2.2.2.1 = true := by
    rcases ht.to with h | h | h
    ·omega
    ·exact h.2
    ·omega
   have hto := zew hut
   have in1 : inB ((zfI b K c.length i).map rq) (gI b (i : Int)).2.2.2.2.1 = true := zcm.2 (by rw [List.length_map, zeF]; exact hto)
   have in2 : inB (K.map rq) (i : Int) = true := zcm.2 (by rw [List.length_map, hK]; exact hi)
   have e1 : gI ((zfI b K c.length i).map rq) (gI b (i : Int)).2.2.2.2.1 = rq (zdC K (zdG b 2 (gI b (i : Int)).2.2.2.2.1) (zcO i)) := by rw [zes rq (by rw [zeF]; exact hto), zfR hto]
   have e2 : gI (K.map rq) (i : Int) = rq (gI K (i : Int)) := zes rq (by rw [hK]; exact hi)
   obtain ⟨s1, s2⟩ := sz (zdG b 2 (gI b (i : Int)).2.2.2.2.1)
   obtain ⟨s3, s4⟩ := hs _ (zfZ (xs := K) (k := (i : Int)) (by rw [hK]; exact hi))
   simp only [e1, e2, pe]
   rw [if_pos in1, if_pos in2, okS2 s2 s4 (by decide) (by decide), sumQ2 s1 s3, if_pos rfl, if_pos in1, sI_map]
   have : sI (zfI b K c.length i) (gI b (i : Int)).2.2.2.2.1 (zdC K (zdG b 2 (gI b (i : Int)).2.2.2.2.1) (zcO i) + gI K (i : Int)) = zfI b K c.length (i + 1) := by
    refine zgD (by rw [sI_len, zeF, zeF]) fun j hj => ?_
    rw [sI_len, zeF] at hj
    rw [zgQ (by rw [zeF]; exact hto) hj.1, zfR hj, zfR hj, sumOf_succ, hnx j, hc.1, hc.2]
    by_cases hjt : (gI b (i : Int)).2.2.2.2.1 = j
    ·rw [if_pos hjt, hjt]; simp
    ·rw [if_neg hjt, if_neg (by simp [hjt]), Rat.add_zero]
   rw [this]
   exact ih
  ·rw [if_neg hc]
   have : zfI b K c.length i = zfI b K c.length (i + 1) := by
    refine zgD (by rw [zeF, zeF]) fun j hj => ?_
    rw [zeF] at hj
    rw [zfR hj, zfR hj, sumOf_succ, hnx j, ← Bool.and_assoc, Bool.eq_false_iff.2 hc, Bool.false_and, if_neg (by decide), Rat.add_zero]
   rw [this]
   exact ih
end
def e_zt : zcn := io_zt.sp (fun (a, b, c, d, e, f) => (wOK a b c d e f)) (fun (a, b, c, d, e, f) => ((thW a b c d e f).map rq))
theorem sp_zt (h : ∀ (a : List Bool) (b : List Tk) (c : List Th) (d : List Lk) (e : List Int) (f : Int), WfT [.sl tB, .sl yK, .sl yH, .sl yL, .sl tI, tI] (a, b, c, d, e, f) → ((wOK a b c d e f)) = true → (zt (a, b, c, d, e, f)).run (fun _ => none) = some ((thW a b c d e f).map rq)) : e_zt.ok pg := zct ok_zt fun (a, b, c, d, e, f) hw hc => h a b c d e f hw hc
theorem e_zt_ok : e_zt.ok pg := sp_zt fun a b c d e f _ hc => by
 obtain ⟨H, h8⟩ := zdx hc
 have hlc := H.lenC
 have W := H.wb h8
 have za := zero_t c.length (by omega) c.length 0 (by omega)
 rw [List.replicate_zero, List.nil_append, show ((0 : Nat) : Int) = 0 from rfl] at za
 have hra : ∀ n : Nat, (zdc (n : Int) (([] : List Int), ([] : List Int))) = List.replicate n ([], []) := fun n => by unfold zdc; rw [Int.toNat_natCast]
 have hl := th_loop H (ziF (a := a) (b := b) (c := c) (d := d) (e := e) (f := f)).2 W.k b.length 0 (by omega)
 rw [zt]
 simp only [RT.run]
 rw [if_pos hc, if_pos (zdK.2 ⟨by omega, by omega, by omega⟩), hra, List.length_replicate, za, Option.bind_some]
 have h0 : List.replicate c.length (rq 0) = (zfI b (zcx a b c d e f).2 c.length 0).map rq := by
  rw [show List.replicate c.length (rq 0) = (List.replicate c.length 0).map rq from by rw [List.map_replicate]]
  congr 1
  refine zgD (by rw [zeF, List.length_replicate]) fun j hj => ?_
  rw [List.length_replicate] at hj
  rw [zfR hj]
  have := gI_rep (α := Rat) (n := c.length) (z := 0) (k := j) hj
  unfold zdc at this
  rw [Int.toNat_natCast] at this
  rw [this]; rfl
 rw [h0]
 rw [show ((0 : Nat) : Int) = 0 from rfl] at hl
 rw [hl]
 rfl
end
end Go.Proofs.YtlfdidaeachpoaaGreat
namespace Go.Proofs.YtlfdidaeachpoaaGreat
open Go Go.RowKit
set_option maxRecDepth 100000
noncomputable section
theorem zgL {q : Rat} {n : Nat} (h : sm n q) (hn : n ≤ 1073741824) : okq (rQ q).1 (rQ q).2 = true := by
 rw [okq_iff]
 have a := zfQ (b := B16) (by decide) h.1
 have b := zfQ (b := B16) (by decide) h.2
 refine ⟨zib (Nat.le_trans a hn), zib (Nat.le_trans b hn), ?_⟩
 have := rQ_den (q := q)
 rw [show val B16 (rQ q).2 = q.den from this]
 exact q.den_nz
section
variable {a : List Bool} {b : List Tk} {c : List Th} {d : List Lk} {e : List Int} {f : Int}
theorem cast_nat {m : Int} (h : 0 ≤ m) : ((m.toNat : Nat) : Rat) = (m : Rat) := by
 obtain ⟨j, rfl⟩ := Int.eq_ofNat_of_zero_le h
 rw [Int.toNat_natCast, Rat.intCast_natCast]
theorem ref_ticket (hw : wOK a b c d e f = true) (self : ((List Bool) × (List Tk) × (List Th) × (List Lk) × (List Int) × Int × Int) → Option ((List Int) × (List Int))) {k : Int} (hk : 0 ≤ k ∧ k < (b.length : Int))
  (hs : gI (zcV a b c d e f) k = true → (gI b k).2.1 ≠ 0 → self (a, b, c, d, e, f, (gI b k).2.1) = some (rQ (gI (zcx a b c d e f).1 (gI b k).2.1))) : F_zaj self (a, b, c, d, e, f, k) = some (rQ (gI (zcx a b c d e f).2 k)) := by
 obtain ⟨H, h8⟩ := zdx hw
 have hf : zfq a b c d e f = true := by unfold wOK at hw; rw [Bool.and_eq_true] at hw; exact hw.1
 have hin : inB b k = true := zcm.2 hk
 show (zaj self _).run _ = _
 rw [zaj]
 simp only [RT.run]
 rw [if_pos hin, hf, hin, if_pos (by decide), H.worth.2 k hk]
 cases hc : gI (zcV a b c d e f) k with
 | false => rfl
 | true =>
  have hu := H.cnt_used hk hc
  have ht := H.tk hk hu
  have hamt := ht.amt
  have hco := zdE ht.coin
  obtain ⟨v0, v1, v2⟩ := share_sm H hk hc
  have hab := H.am_bound hco
  rw [if_neg (by decide), if_pos rfl, zcD (by omega)]
  by_cases h0 : (gI b k).2.1 = 0
  ·rw [if_pos (by simpa using h0), cast_nat (by omega)]
   congr 1
   rw [h0, H.worth0]
   unfold zdP
   rw [h0] at v2 hab ⊢
   rw [Rat.mkRat_eq_div, cast_nat hab.1, Rat.div_mul_cancel]
   intro h
   have : gI (amV a b c d e f) 0 = 0 := by simpa using h
   rw [this] at v2
   exact v2 rfl
  ·have W := H.wb h8
   have hcx := W.c _ (zfZ (xs := (zcx a b c d e f).1) (k := (gI b k).2.1) (by rw [ziF.1]; exact hco))
   rw [if_neg (by simpa using h0), zcm.2 hco, if_pos (by decide), zcD (by omega), if_pos (decide_eq_true (by omega)), hs hc h0, Option.bind_some]
   have e1 : mkRat (((gI b k).2.2.1.toNat : Nat) : Int) (gI (amV a b c d e f) (gI b k).2.1).toNat = zdP b (amV a b c d e f) k := by
    unfold zdP
    rw [Int.toNat_of_nonneg (by omega)]
   rw [e1, zgL v1 (by decide), zgL hcx.2 (by decide), if_pos (by decide), zfz v0, zfz hcx.1]
theorem coin_loop (self : ((List Bool) × (List Tk) × (List Th) × (List Lk) × (List Int) × Int × Int) → Option ((List Int) × (List Int))) (l : List Int) (hl : l.length ≤ 1000) (g : Int → Rat)
  (hs : ∀ k ∈ l, self (a, b, c, d, e, f, k) = some (rQ (g k)) ∧ 0 ≤ g k ∧ sm 25628 (g k)) : ∀ (n i m : Nat) (q : Rat), i + n = l.length → 0 ≤ q → sm m q → m + 25629 * n ≤ 100000000 →
  lo (zhi self) (a, b, c, d, e, f, l) ((i : Int), (rQ q).1, (rQ q).2) = some (rQ (q + zcI ((l.drop i).map g)))
 | 0, i, m, q, h, _, _, _ => by
  rw [zco, zhi]
  simp only [RT.run]
  rw [if_neg (by simp; omega), List.drop_eq_nil_of_le (by omega)]
  show some (rQ q) = some (rQ (q + 0))
  rw [Rat.add_zero]
 | n + 1, i, m, q, h, h0, hm, hb => by
  have hi : i < l.length := by omega
  obtain ⟨s1, s2, s3⟩ := hs _ (List.getElem_mem hi)
  have ih := coin_loop self l hl g hs n (i + 1) _ (q + g l[i]) (by omega) (Rat.add_nonneg h0 s2) (sm_add h0 s2 hm s3) (by omega)
  rw [zco, zhi]
  simp only [RT.run]
  rw [if_pos (by simp; omega), if_pos (zcm.2 ⟨by omega, by omega⟩), zcG hi, s1, Option.bind_some, zgL hm (by omega), zgL s3 (by decide), if_pos (by decide), zcj (by omega), show (i : Int) + 1 = ((i + 1 : Nat) : Int) by omega, zfz h0, zfz s2]
  show lo (zhi self) _ (_, (rQ (q + g l[i])).1, (rQ (q + g l[i])).2) = _
  rw [ih, List.drop_eq_getElem_cons hi, List.map_cons, zcQ, Rat.add_assoc]
theorem zhn {w x k : Int} : k ∈ tksOf b w x ↔ (0 ≤ k ∧ k < (b.length : Int)) ∧ zdG b w x k = true := by
 unfold tksOf
 rw [List.mem_filter]
 exact and_congr (zet (n := b.length)) Iff.rfl
theorem tksOf_len {w x : Int} : (tksOf b w x).length ≤ b.length := by
 unfold tksOf
 have := List.length_filter_le (zdG b w x) ((List.range b.length).map fun (k : Nat) => (k : Int))
 simpa using this
theorem ref_coin (hw : wOK a b c d e f = true) (self : ((List Bool) × (List Tk) × (List Th) × (List Lk) × (List Int) × Int × Int) → Option ((List Int) × (List Int))) {x : Int} (hx : 0 ≤ x ∧ x < (a.length : Int))
  (hs : ∀ k ∈ tksOf b 1 x, self (a, b, c, d, e, f, k) = some (rQ (gI (zcx a b c d e f).2 k))) : F_zao self (a, b, c, d, e, f, x) = some (rQ (gI (zcx a b c d e f).1 x)) := by
 obtain ⟨H, h8⟩ := zdx hw
 have hf : zfq a b c d e f = true := by unfold wOK at hw; rw [Bool.and_eq_true] at hw; exact hw.1
 have hlb := H.lenB
 have hca := H.coins
 have W := H.wb h8
 show (zao self _).run _ = _
 rw [zao]
 simp only [RT.run]
 by_cases h0 : x = 0
 ·have hab := H.am_bound (x := 0) (by omega)
  rw [if_pos (by simpa using h0), hf, zcm.2 (show 0 ≤ (0 : Int) ∧ (0 : Int) < (a.length : Int) by omega), if_pos (by decide), zcD (by omega), cast_nat hab.1, h0, H.worth0]
 ·have htl := tksOf_len (b := b) (w := 1) (x := x)
  rw [if_neg (by simpa using h0), if_pos (decide_eq_true (by omega))]
  have := coin_loop (a := a) (b := b) (c := c) (d := d) (e := e) (f := f) self (tksOf b 1 x) (by omega) (fun k => gI (zcx a b c d e f).2 k) (fun k hk => by
   obtain ⟨k1, _⟩ := zhn.1 hk
   have := W.k _ (zfZ (xs := (zcx a b c d e f).2) (k := k) (by rw [ziF.2]; exact k1))
   exact ⟨hs k hk, this.1, this.2⟩) (tksOf b 1 x).length 0 1 0 (by omega) (by decide) (sm_zero _ (by decide)) (by omega)
  rw [show ((0 : Nat) : Int) = 0 from rfl, List.drop_zero, Rat.zero_add, ← H.worthC hx h0] at this
  show (lo (zhi self) _ (0, (rQ 0).1, (rQ 0).2)).bind _ = _
  rw [this]
  rfl
theorem coin_rec (hw : wOK a b c d e f = true) : ∀ (n m : Nat), n ≤ m → ∀ x ∈ (zcC a b).take n, R_zao m (a, b, c, d, e, f, x) = some (rQ (gI (zcx a b c d e f).1 x))
 | 0, _, _, x, hx => by simp at hx
 | n + 1, 0, h, _, _ => by omega
 | n + 1, m + 1, h, x, hx => by
  obtain ⟨H, h8⟩ := zdx hw
  by_cases hxn : x ∈ (zcC a b).take n
  ·exact coin_rec hw n (m + 1) (by omega) x hxn
  ·by_cases hn : n < (zcC a b).length
   ·rw [List.take_add_one, List.getElem?_eq_getElem hn, List.mem_append] at hx
    have hxe : x = (zcC a b)[n] := by
     rcases hx with hx | hx
     ·exact absurd hx hxn
     ·simpa using hx
    have ho : zcC a b = (zcC a b).take n ++ x :: (zcC a b).drop (n + 1) := by
     conv => lhs; rw [← List.take_append_drop n (zcC a b)]
     rw [List.drop_eq_getElem_cons hn, hxe]
    have hus := H.ord_mem.1 (by rw [hxe]; exact List.getElem_mem hn : x ∈ zcC a b)
    refine ref_coin hw (F_zaj (R_zao m)) (zdE hus) fun k hk => ?_
    obtain ⟨k1, k2⟩ := zhn.1 hk
    unfold zdG at k2
    simp at k2
    refine ref_ticket hw (R_zao m) k1 fun _ _ => coin_rec hw n m (by omega) _ ?_
    exact H.ord_split ho k1 k2.1 k2.2.1 k2.2.2
   ·rw [List.take_of_length_le (by omega)] at hx hxn
    exact absurd hx hxn
theorem coin_all (hw : wOK a b c d e f = true) {x : Int} (hx : 0 ≤ x ∧ x < (a.length : Int)) : R_zao ((zcC a b).length + 1) (a, b, c, d, e, f, x) = some (rQ (gI (zcx a b c d e f).1 x)) := by
 obtain ⟨H, h8⟩ := zdx hw
 by_cases h : x ∈ zcC a b
 ·exact coin_rec hw (zcC a b).length _ (by omega) x (by rw [List.take_length]; exact h)
 ·refine ref_coin hw _ hx fun k hk => ?_
  exfalso
  obtain ⟨k1, k2⟩ := zhn.1 hk
  unfold zdG at k2
  simp at k2
  rcases (H.tk k1 k2.1).to with h' | h' | h'
  ·omega
  ·omega
  ·exact h (H.ord_mem.2 (k2.2.2 ▸ h'.2.2))
end
def e_zaj : zcn := io_zaj.sp (fun (a, b, c, d, e, f, k) => (wOK a b c d e f && inB b k)) (fun (a, b, c, d, e, f, k) => (rQ (gI (zcx a b c d e f).2 k)))
theorem sp_zaj (h : ∀ (a : List Bool) (b : List Tk) (c : List Th) (d : List Lk) (e : List Int) (f : Int) (k : Int), WfT [.sl tB, .sl yK, .sl yH, .sl yL, .sl tI, tI, tI] (a, b, c, d, e, f, k) → ((wOK a b c d e f && inB b k)) = true → ∃ n, R_zaj n (a, b, c, d, e, f, k) = some (rQ (gI (zcx a b c d e f).2 k))) : e_zaj.ok pg := sp_rec okR_zaj fun (a, b, c, d, e, f, k) hw hc => h a b c d e f k hw hc
theorem e_zaj_ok : e_zaj.ok pg := sp_zaj fun a b c d e f k _ hc => by
 rw [Bool.and_eq_true] at hc
 have hk := zcm.1 hc.2
 obtain ⟨H, h8⟩ := zdx hc.1
 exact ⟨(zcC a b).length + 1, ref_ticket hc.1 _ hk fun h _ => coin_all hc.1 (zdE (H.tk hk (H.cnt_used hk h)).coin)⟩
def zgZ : ((List Bool) × (List Tk) × (List Th) × (List Lk) × (List Int) × Int × (List Int)) → (Int × (List Int) × (List Int)) → RT (Int × (List Int) × (List Int)) ((List Int) × (List Int))
| (s_0, s_1, s_2, s_3, s_4, s_5, r6), (k, r80, r81) =>
 .rq 4 (.ite (decide (k < (r6.length : Int)))
 (.rq 4 (.req (inB r6 k) (.rq 1 (.req ((wOK s_0 s_1 s_2 s_3 s_4 s_5 && inB s_1 (gI r6 k))) (let t0 := (rQ (gI (zcx s_0 s_1 s_2 s_3 s_4 s_5).2 (gI r6 k)));
 .req (okq r80 r81 && okq t0.1 t0.2) (.rq 4 (let t1 := rQ (zdu r80 r81 + zdu t0.1 t0.2);
 .again (w64 (k + 1), t1.1, t1.2))))))))
 (.done (r80, r81)))
def zag_p122 : zcd := ⟨122, true, [.sl tB, .sl yK, .sl yH, .sl yL, .sl tI, tI, .sl tI], [tI, .sl tI, .sl tI], ⟨[.keep [2, 4, 5, 6, 7], .gc, .nilRow 6 800006 3 tI, .ren 6 700006, .ren 6 900006, .cellRow 80 0 600080 3 tI, .cellRow 80 1 600081 3 tI, .cellRen 80 0 600080, .cellRen 80 1 600081, .gc], [2, 4, 5, 6, 7], [.lf (qp 32), .lf (qp 64), .lf (qp 80), .lf (qr 900006), .lf (qm 0)], [(32, true, .cells [qi 0, qi 1, qi 2, qi 3, qi 4, qi 5]), (64, true, .cells [.fix (.nil), .fix (.nil)]), (80, true, .cells [qr 600080, qr 600081]), (900006, true, .arr 3 (qi 6)), (600080, true, .arr 3 (qm 1)), (600081, true, .arr 3 (qm 2))]⟩, [⟨2, ⟨[.keep [4, 5], .gc, .cellRow 80 0 600080 3 tI, .cellRow 80 1 600081 3 tI, .cellRen 80 0 600080, .cellRen 80 1 600081, .gc], [4, 5], [.lf (qp 64), .lf (qp 80)], [(64, true, .cells [.fix (.nil), .fix (.nil)]), (80, true, .cells [qr 600080, qr 600081]), (600080, true, .arr 3 (qm 0)), (600081, true, .arr 3 (qm 1))]⟩, [.sl tI, .sl tI]⟩], zgZ⟩
def zag : ((List Bool) × (List Tk) × (List Th) × (List Lk) × (List Int) × Int × Int) → RT Unit ((List Int) × (List Int))
| (s_0, s_1, s_2, s_3, s_4, s_5, i) =>
 .rq 7 (.req ((decide (s_1.length ≤ 1000000))) (.rq 2 (.call (lo zgZ (s_0, s_1, s_2, s_3, s_4, s_5, (tksOf s_1 (2 : Int) i)) (0, (rQ (((0 : Int).toNat : Nat) : Rat)).1, (rQ (((0 : Int).toNat : Nat) : Rat)).2)) default fun v0 =>
 .rq 2 (.done (v0.1, v0.2)))))
def F_zag (x : (List Bool) × (List Tk) × (List Th) × (List Lk) × (List Int) × Int × Int) : Option ((List Int) × (List Int)) := (zag x).run fun _ => none
def io_zag : Io := ⟨n_zag, [.sl tB, .sl yK, .sl yH, .sl yL, .sl tI, tI, tI], [.agg [qm 0, qm 1, qm 2, qm 3, qm 4, qm 5], .lf (qm 6)], [], [[.sl tB, .sl yK, .sl yH, .sl yL, .sl tI, tI], [tI]], [.sl tI, .sl tI], .agg [qr 0, qr 1], [], [(true, .arr 3 (qm 0)), (true, .arr 3 (qm 1))], false⟩
def zag_P : List zcd := [zag_p122]
def zag_T : zci := tab [e_zaj, e_zU, e_zbT, e_zbH]
theorem zag_To : zch pg zag_T := zce ⟨e_zaj_ok, e_zU_ok, e_zbT_ok, e_zbH_ok, trivial⟩
theorem zag_k122 : (zag_p122).OK pg (zag_T) (zcz 27 (zag_P)) (zcq f_zag) 27 := ⟨by kernel_rfl, fun i x => by kernel_rfl⟩
theorem zag_go : zcu pg (zag_T) io_zag f_zag (zag_P) [.cellRow 64 0 600064 3 tI, .cellRow 64 1 600065 3 tI, .cellRen 64 0 600064, .cellRen 64 1 600065] (zag) := ⟨by kernel_rfl, by kernel_rfl, fun x => by kernel_rfl⟩
theorem ok_zag : io_zag.Okay pg (F_zag) := zcr zcg (zag_To) (zag_go) ⟨zag_k122, trivial⟩
theorem th_loopR {a : List Bool} {b : List Tk} {c : List Th} {d : List Lk} {e : List Int} {f : Int} (hw : wOK a b c d e f = true) (l : List Int) (hl : l.length ≤ 1000) (hs : ∀ k ∈ l, 0 ≤ k ∧ k < (b.length : Int)) : ∀ (n i m : Nat) (q : Rat), i + n = l.length → 0 ≤ q → sm m q → m + 25629 * n ≤ 100000000 →
  lo zgZ (a, b, c, d, e, f, l) ((i : Int), (rQ q).1, (rQ q).2) = some (rQ (q + zcI ((l.drop i).map (gI (zcx a b c d e f).2))))
 | 0, i, m, q, h, _, _, _ => by
  rw [zco, zgZ]
  simp only [RT.run]
  rw [if_neg (by simp; omega), List.drop_eq_nil_of_le (by omega)]
  show some (rQ q) = some (rQ (q + 0))
  rw [Rat.add_zero]
 | n + 1, i, m, q, h, h0, hm, hb => by
  obtain ⟨H, h8⟩ := zdx hw
  have W := H.wb h8
  have hi : i < l.length := by omega
  have hk := hs _ (List.getElem_mem hi)
  obtain ⟨s2, s3⟩ := W.k _ (zfZ (xs := (zcx a b c d e f).2) (k := l[i]) (by rw [ziF.2]; exact hk))
  have ih := th_loopR hw l hl hs n (i + 1) _ (q + gI (zcx a b c d e f).2 l[i]) (by omega) (Rat.add_nonneg h0 s2) (sm_add h0 s2 hm s3) (by omega)
  rw [zco, zgZ]
  simp only [RT.run]
  rw [if_pos (by simp; omega), if_pos (zcm.2 ⟨by omega, by omega⟩), zcG hi, hw, zcm.2 hk, if_pos (by decide), zgL hm (by omega), zgL s3 (by decide), if_pos (by decide), zcj (by omega), show (i : Int) + 1 = ((i + 1 : Nat) : Int) by omega, zfz h0, zfz s2]
  show lo zgZ _ (_, (rQ (q + gI (zcx a b c d e f).2 l[i])).1, (rQ (q + gI (zcx a b c d e f).2 l[i])).2) = _
  rw [ih, List.drop_eq_getElem_cons hi, List.map_cons, zcQ, Rat.add_assoc]
def e_zag : zcn := io_zag.sp (fun (a, b, c, d, e, f, i) => (wOK a b c d e f)) (fun (a, b, c, d, e, f, i) => (rQ (zdC (zcx a b c d e f).2 (zdG b 2 i) (zcO b.length))))
theorem sp_zag (h : ∀ (a : List Bool) (b : List Tk) (c : List Th) (d : List Lk) (e : List Int) (f : Int) (i : Int), WfT [.sl tB, .sl yK, .sl yH, .sl yL, .sl tI, tI, tI] (a, b, c, d, e, f, i) → ((wOK a b c d e f)) = true → (zag (a, b, c, d, e, f, i)).run (fun _ => none) = some (rQ (zdC (zcx a b c d e f).2 (zdG b 2 i) (zcO b.length)))) : e_zag.ok pg := zct ok_zag fun (a, b, c, d, e, f, i) hw hc => h a b c d e f i hw hc
theorem e_zag_ok : e_zag.ok pg := sp_zag fun a b c d e f i _ hc => by
 obtain ⟨H, h8⟩ := zdx hc
 have hlb := H.lenB
 have htl := tksOf_len (b := b) (w := 2) (x := i)
 rw [zag]
 simp only [RT.run]
 rw [if_pos (decide_eq_true (by omega))]
 have := th_loopR hc (tksOf b 2 i) (by omega) (fun k hk => (zhn.1 hk).1) (tksOf b 2 i).length 0 1 0 (by omega) (by decide) (sm_zero _ (by decide)) (by omega)
 rw [show ((0 : Nat) : Int) = 0 from rfl, List.drop_zero, Rat.zero_add] at this
 show (lo zgZ _ (0, (rQ 0).1, (rQ 0).2)).bind _ = _
 rw [this]
 rfl
end
end Go.Proofs.YtlfdidaeachpoaaGreat
namespace Go.Proofs.YtlfdidaeachpoaaGreat
open Go Go.RowKit
set_option maxRecDepth 100000
noncomputable section
theorem take_rQ (l : List Rat) {i : Nat} (h : i < l.length) : (l.take i).map rQ ++ [rQ (gI l (i : Int))] = (l.take (i + 1)).map rQ := by
 rw [List.take_add_one, List.getElem?_eq_getElem h, List.map_append, zcG h]
 rfl
theorem zhk {α : Type} {k : Nat} {xs ys : List α} (hk : k ≤ 1000) (h : xs.length + ys.length ≤ 1000000) : zdF k xs ys = true := by
 rw [zej]
 refine ⟨?_, by rw [ziu]; omega⟩
 exact Nat.le_trans (Nat.mul_le_mul h hk) (by decide)
theorem thW_len {a : List Bool} {b : List Tk} {c : List Th} {d : List Lk} {e : List Int} {f : Int} : (thW a b c d e f).length = c.length := by simp [thW, zcO]
theorem thW_get {a : List Bool} {b : List Tk} {c : List Th} {d : List Lk} {e : List Int} {f : Int} {i : Int} (h : 0 ≤ i ∧ i < (c.length : Int)) : gI (thW a b c d e f) i = zdC (zcx a b c d e f).2 (zdG b 2 i) (zcO b.length) := zfR h
section
variable {a : List Bool} {b : List Tk} {c : List Th} {d : List Lk} {e : List Int} {f : Int}
end
end
end Go.Proofs.YtlfdidaeachpoaaGreat
namespace Go.Proofs.YtlfdidaeachpoaaGreat
open Go Go.RowKit
set_option maxRecDepth 100000
theorem zfm {α : Type} {l : List α} {g : α → Rat} (h : ∀ x ∈ l, g x = 0) : zcI (l.map g) = 0 := by
 induction l with
 | nil => rfl
 | cons x l ih => rw [List.map_cons, zcQ, h x (List.mem_cons_self ..), ih fun y hy => h y (List.mem_cons_of_mem _ hy), Rat.zero_add]
theorem rsum_add {α : Type} (l : List α) (g h : α → Rat) : zcI (l.map fun x => g x + h x) = zcI (l.map g) + zcI (l.map h) := by
 induction l with
 | nil => exact (Rat.zero_add 0).symm
 | cons x l ih => rw [List.map_cons, List.map_cons, List.map_cons, zcQ, zcQ, zcQ, ih]; grind
theorem rsum_mul {α : Type} (l : List α) (g : α → Rat) (q : Rat) : zcI (l.map fun x => g x * q) = zcI (l.map g) * q := by
 induction l with
 | nil => exact (Rat.zero_mul q).symm
 | cons x l ih => rw [List.map_cons, List.map_cons, zcQ, zcQ, ih, Rat.add_mul]
theorem rsum_comm {α β : Type} (l : List α) (m : List β) (g : α → β → Rat) : zcI (l.map fun x => zcI (m.map (g x))) = zcI (m.map fun y => zcI (l.map fun x => g x y)) := by
 induction l with
 | nil => exact (zfm (l := m) (g := fun _ => zcI []) fun _ _ => rfl).symm
 | cons x l ih =>
  rw [List.map_cons, zcQ, ih, ← rsum_add]
  rfl
theorem rsum_flat {α β : Type} (l : List α) (f : α → List β) (g : β → Rat) : zcI ((l.flatMap f).map g) = zcI (l.map fun x => zcI ((f x).map g)) := by
 induction l with
 | nil => rfl
 | cons x l ih => rw [List.flatMap_cons, List.map_append, zjh, ih, List.map_cons, zcQ]
theorem rsum_one {l : List Int} (hn : l.Nodup) {c : Int} (hc : c ∈ l) (v : Rat) : zcI (l.map fun x => if c = x then v else 0) = v := by
 induction l with
 | nil => cases hc
 | cons x l ih =>
  obtain ⟨h1, h2⟩ := List.nodup_cons.1 hn
  rw [List.map_cons, zcQ]
  rcases List.mem_cons.1 hc with rfl | hc
  ·rw [if_pos rfl, zfm fun y hy => if_neg (fun h => h1 (by rw [h]; exact hy)), Rat.add_zero]
  ·rw [if_neg (fun h => h1 (by rw [← h]; exact hc)), ih h2 hc, Rat.zero_add]
theorem rsum_int (l : List Int) : ((l.sum : Int) : Rat) = zcI (l.map fun (x : Int) => (x : Rat)) := by
 induction l with
 | nil => rfl
 | cons x l ih => rw [List.sum_cons, Rat.intCast_add, ih, List.map_cons, zcQ]
theorem zeE {α : Type} {l : List α} {g h : α → Rat} (e : ∀ x ∈ l, g x = h x) : zcI (l.map g) = zcI (l.map h) := by rw [List.map_congr_left e]
section
variable {a : List Bool} {b : List Tk} {c : List Th} {d : List Lk} {e : List Int} {f : Int}
theorem zcs.keep1 (H : zcs a b c d e f) {x : Int} (hx : usC a x = true) : zcI ((zcF b x).map (gI (zcx a b c d e f).2)) = gI (zcx a b c d e f).1 x := by
 have hin := zdE hx
 by_cases hz : gI (amV a b c d e f) x = 0
 ·-- asleep
  have h0 : ∀ k ∈ zcF b x, gI (zcx a b c d e f).2 k = 0 := fun k hk => by
   obtain ⟨k1, k2, k3⟩ := zde.1 hk
   rw [H.worth.2 k k1, if_neg]
   intro hc
   have := H.awake k1 hc
   rw [k3] at this
   omega
  rw [zfm h0]
  by_cases hx0 : x = 0
  ·rw [hx0, H.worth0, ← hx0, hz]; rfl
  ·rw [H.worthC hin hx0, zfm fun k hk => ?_]
   obtain ⟨k1, k2⟩ := zhn.1 hk
   unfold zdG at k2
   simp at k2
   rw [H.worth.2 k k1, if_neg]
   intro hc
   rw [H.cnt k1, if_pos k2.1] at hc
   unfold good at hc
   rw [k2.2.1, k2.2.2, hz] at hc
   simp at hc
 ·have hb := H.am_bound hin
  have hd : ((gI (amV a b c d e f) x : Int) : Rat) ≠ 0 := fun h => hz (by simpa using h)
  have h1 : ∀ k ∈ zcF b x, gI (zcx a b c d e f).2 k = ((zdY b (gI (zcV a b c d e f) k) k : Int) : Rat) * (((gI (amV a b c d e f) x : Int) : Rat)⁻¹ * gI (zcx a b c d e f).1 x) := fun k hk => by
   obtain ⟨k1, k2, k3⟩ := zde.1 hk
   rw [H.worth.2 k k1]
   unfold zdY
   by_cases hc : gI (zcV a b c d e f) k = true
   ·rw [if_pos hc, if_pos hc]
    unfold zdP
    rw [k3, Rat.mkRat_eq_div, cast_nat hb.1, Rat.div_def, Rat.mul_assoc]
   ·rw [if_neg hc, if_neg hc, show ((0 : Int) : Rat) = 0 from rfl, Rat.zero_mul]
  rw [zeE h1, rsum_mul, show ((zcF b x).map fun k => ((zdY b (gI (zcV a b c d e f) k) k : Int) : Rat)) = ((zcF b x).map fun k => zdY b (gI (zcV a b c d e f) k) k).map (fun (z : Int) => (z : Rat)) from by rw [List.map_map]; rfl,
   ← rsum_int, ← H.amt hin, ← Rat.mul_assoc, Rat.mul_inv_cancel _ hd, Rat.one_mul]
theorem zcs.perm_ord (H : zcs a b c d e f) : (zdt a b).Perm ((zcO b.length).filter fun k => (gI b k).1) := by
 refine (List.perm_ext_iff_of_nodup H.tkOrd_nodup ((zfi List.nodup_range).sublist List.filter_sublist)).2 fun k => ?_
 rw [H.tkOrd_mem, List.mem_filter]
 exact and_congr (zet (n := b.length)).symm Iff.rfl
theorem zcs.keep (H : zcs a b c d e f) : zcI (thW a b c d e f) = ((gI (amV a b c d e f) 0 : Int) : Rat) := by
 have hz : ∀ k, 0 ≤ k ∧ k < (b.length : Int) → gI (zcV a b c d e f) k = false → gI (zcx a b c d e f).2 k = 0 := fun k hk h => by rw [H.worth.2 k hk, h]; exact if_neg (by decide)
 have hA : zcI ((zcC a b).map (gI (zcx a b c d e f).1)) = zcI ((zdt a b).map (gI (zcx a b c d e f).2)) := by
  unfold zdt
  rw [rsum_flat]
  exact zeE fun x hx => (H.keep1 (H.ord_mem.1 hx)).symm
 have hca := H.coins
 have h0 : (0 : Int) ∈ zcC a b := H.ord_mem.2 (by unfold usC; rw [hca.2.2, zcm.2 (by omega)]; rfl)
 have hB : zcI ((zcC a b).map (gI (zcx a b c d e f).1)) = ((gI (amV a b c d e f) 0 : Int) : Rat) + zcI ((zdt a b).map fun k => if (gI b k).2.2.2.1 = 2 then gI (zcx a b c d e f).2 k else 0) := by
  rw [zeE fun x hx => H.worth.1 x (zdE (H.ord_mem.1 hx)), rsum_add, rsum_comm]
  congr 1
  ·rw [zeE (h := fun x => if (0 : Int) = x then ((gI (amV a b c d e f) 0 : Int) : Rat) else 0) fun x _ => by
    by_cases h : x = 0
    ·rw [if_pos h, if_pos h.symm]
    ·rw [if_neg h, if_neg (fun h' => h h'.symm)]]
   exact rsum_one H.ord_nodup h0 _
  ·refine zeE fun k hk => ?_
   obtain ⟨k1, k2⟩ := H.tkOrd_mem.1 hk
   by_cases h2 : (gI b k).2.2.2.1 = 2
   ·rw [if_pos h2]
    by_cases hc : gI (zcV a b c d e f) k = true
    ·have ht : usC a (gI b k).2.2.2.2.1 = true := by
      rcases (H.tk k1 k2).to with h | h | h
      ·omega
      ·omega
      ·exact h.2.2
     rw [zeE (h := fun x => if (gI b k).2.2.2.2.1 = x then gI (zcx a b c d e f).2 k else 0) fun x _ => by
      unfold zfs
      by_cases h : (gI b k).2.2.2.2.1 = x
      ·rw [if_pos ⟨hc, h2, h⟩, if_pos h]
      ·rw [if_neg (fun h' => h h'.2.2), if_neg h]]
     exact rsum_one H.ord_nodup (H.ord_mem.2 ht) _
    ·rw [hz k k1 (Bool.eq_false_iff.2 hc)]
     refine zfm fun x _ => ?_
     unfold zfs
     rw [if_neg (fun h' => hc h'.1)]
   ·rw [if_neg h2]
    refine zfm fun x _ => ?_
    unfold zfs
    rw [if_neg (fun h' => h2 h'.2.1)]
 have hC : zcI ((zdt a b).map (gI (zcx a b c d e f).2)) = zcI ((zdt a b).map fun k => if (gI b k).2.2.2.1 = 2 then gI (zcx a b c d e f).2 k else 0) + zcI ((zdt a b).map fun k => if (gI b k).2.2.2.1 = 1 then gI (zcx a b c d e f).2 k else 0) := by
  rw [← rsum_add]
  refine zeE fun k hk => ?_
  obtain ⟨k1, k2⟩ := H.tkOrd_mem.1 hk
  by_cases h2 : (gI b k).2.2.2.1 = 2
  ·rw [if_pos h2, if_neg (by omega), Rat.add_zero]
  ·rw [if_neg h2, Rat.zero_add]
   by_cases h1 : (gI b k).2.2.2.1 = 1
   ·rw [if_pos h1]
   ·rw [if_neg h1]
    refine hz k k1 ?_
    rw [H.cnt k1, if_pos k2]
    unfold good
    have e1 : ((gI b k).2.2.2.1 == 1) = false := by simpa using h1
    have e2 : ((gI b k).2.2.2.1 == 2) = false := by simpa using h2
    rw [e1, e2]; simp
 have hD : zcI ((zdt a b).map fun k => if (gI b k).2.2.2.1 = 1 then gI (zcx a b c d e f).2 k else 0) = ((gI (amV a b c d e f) 0 : Int) : Rat) := by
  have := hA.symm.trans hB
  rw [hC] at this
  generalize zcI ((zdt a b).map fun k => if (gI b k).2.2.2.1 = 2 then gI (zcx a b c d e f).2 k else 0) = u at this
  generalize zcI ((zdt a b).map fun k => if (gI b k).2.2.2.1 = 1 then gI (zcx a b c d e f).2 k else 0) = v at this ⊢
  grind
 rw [← hD]
 unfold thW zdC
 have hE : ∀ i : Int, zcI (((zcO b.length).filter (zdG b 2 i)).map (gI (zcx a b c d e f).2)) = zcI ((zdt a b).map fun k => if (gI b k).2.2.2.1 = 1 ∧ (gI b k).2.2.2.2.1 = i then gI (zcx a b c d e f).2 k else 0) := fun i => by
  rw [rsum_perm (H.perm_ord.map _)]
  have e1 : (zcO b.length).filter (zdG b 2 i) = ((zcO b.length).filter fun k => (gI b k).1).filter (fun k => (gI b k).2.2.2.1 == 1 && (gI b k).2.2.2.2.1 == i) := by
   rw [List.filter_filter]
   refine List.filter_congr fun k _ => ?_
   unfold zdG
   cases (gI b k).1 <;> simp
  rw [e1, ← rsum_filter (l := (zcO b.length).filter fun k => (gI b k).1) (p := fun k => (gI b k).2.2.2.1 == 1 && (gI b k).2.2.2.2.1 == i) (g := fun k => if (gI b k).2.2.2.1 = 1 ∧ (gI b k).2.2.2.2.1 = i then gI (zcx a b c d e f).2 k else 0) (fun k _ h => by
   rw [if_neg]
   rintro ⟨h1, h2⟩
   rw [h1, h2] at h
   simp at h)]
  refine zeE fun k hk => ?_
  have := (List.mem_filter.1 hk).2
  simp at this
  rw [if_pos this]
 rw [show ((zcO c.length).map fun i => zcI (((zcO b.length).filter (zdG b 2 i)).map (gI (zcx a b c d e f).2))) = (zcO c.length).map fun i => zcI ((zdt a b).map fun k => if (gI b k).2.2.2.1 = 1 ∧ (gI b k).2.2.2.2.1 = i then gI (zcx a b c d e f).2 k else 0) from List.map_congr_left fun i _ => hE i, rsum_comm]
 refine zeE fun k hk => ?_
 obtain ⟨k1, k2⟩ := H.tkOrd_mem.1 hk
 by_cases h1 : (gI b k).2.2.2.1 = 1
 ·have ht : usT c (gI b k).2.2.2.2.1 = true := by
   rcases (H.tk k1 k2).to with h | h | h
   ·omega
   ·exact h.2
   ·omega
  rw [if_pos h1, zeE (h := fun x => if (gI b k).2.2.2.2.1 = x then gI (zcx a b c d e f).2 k else 0) fun x _ => by
   by_cases h : (gI b k).2.2.2.2.1 = x
   ·rw [if_pos ⟨h1, h⟩, if_pos h]
   ·rw [if_neg (fun h' => h h'.2), if_neg h]]
  exact rsum_one (zfi List.nodup_range) (zet.2 (zew ht)) _
 ·rw [if_neg h1]
  exact zfm fun x _ => if_neg (fun h => h1 h.1)
end
theorem rq_len3 {q : Rat} {n : Nat} (h : sm n q) : (rq q).1.length ≤ n / 32 + 1 ∧ (rq q).2.length ≤ n / 32 + 1 := by
 have hp : 2 ^ n ≤ B32 ^ (n / 32 + 1) := by
  rw [pow32]
  exact Nat.pow_le_pow_right (by decide) (by omega)
 exact ⟨zhb (Nat.lt_of_lt_of_le h.1 hp), zhb (Nat.lt_of_lt_of_le h.2 hp)⟩
theorem szS_map {l : List Rat} {n : Nat} (h : ∀ q ∈ l, sm n q) : szS (l.map rq) ≤ l.length * (2 * n + 65) := by
 induction l with
 | nil => exact Nat.zero_le _
 | cons x l ih =>
  have h1 := rq_len3 (h x (List.mem_cons_self ..))
  have h2 := ih fun q hq => h q (List.mem_cons_of_mem _ hq)
  unfold szS at h2 ⊢
  rw [List.map_cons, List.map_cons, List.sum_cons, List.length_cons, Nat.add_mul]
  omega
theorem okS_map {l : List Rat} {n : Nat} (h : ∀ q ∈ l, sm n q) (h1 : l.length ≤ 100) (h2 : n ≤ 5000000) : okS (l.map rq) = true := by
 rw [okS_iff]
 refine ⟨by rw [List.length_map]; omega, fun x hx => ?_, ?_⟩
 ·obtain ⟨q, hq, rfl⟩ := List.mem_map.1 hx
  exact okr_rq (h q hq) (by omega)
 ·have := szS_map h
  have h3 := Nat.mul_le_mul h1 (show 2 * n + 65 ≤ 10000065 by omega)
  omega
theorem sumQ_map {l : List Rat} (h : ∀ q ∈ l, 0 ≤ q) : sumQ (l.map rq) = zcI l := by
 unfold sumQ
 rw [List.foldl_map]
 have : ∀ (l : List Rat) (q : Rat), (∀ x ∈ l, 0 ≤ x) → l.foldl (fun q x => q + toQ (rq x).1 (rq x).2) q = q + zcI l := by
  intro l
  induction l with
  | nil => intro q _; exact (Rat.add_zero q).symm
  | cons x l ih =>
   intro q h
   rw [List.foldl_cons, toQ_rq (h x (List.mem_cons_self ..)), ih _ fun y hy => h y (List.mem_cons_of_mem _ hy), zcQ, Rat.add_assoc]
 rw [this l 0 h, Rat.zero_add]
end Go.Proofs.YtlfdidaeachpoaaGreat
namespace Go.Proofs.YtlfdidaeachpoaaGreat
open Go Go.RowKit
set_option maxRecDepth 100000
noncomputable section
end
end Go.Proofs.YtlfdidaeachpoaaGreat
namespace Go.Proofs.YtlfdidaeachpoaaGreat
open Go Go.RowKit
set_option maxRecDepth 100000
def FRz (D : Nat) (q : Rat) : Prop := ∃ z : Nat, q * (D : Rat) = (z : Rat)
theorem frz_zero (D : Nat) : FRz D 0 := ⟨0, by rw [Rat.zero_mul]; rfl⟩
theorem frz_add {D : Nat} {p q : Rat} (hp : FRz D p) (hq : FRz D q) : FRz D (p + q) := by
 obtain ⟨z, hz⟩ := hp
 obtain ⟨w, hw⟩ := hq
 exact ⟨z + w, by rw [Rat.add_mul, hz, hw, Rat.natCast_add]⟩
theorem frz_sum {α : Type} {D : Nat} {l : List α} {g : α → Rat} (h : ∀ x ∈ l, FRz D (g x)) : FRz D (zcI (l.map g)) := by
 induction l with
 | nil => exact frz_zero D
 | cons x l ih =>
  rw [List.map_cons, zcQ]
  exact frz_add (h x (List.mem_cons_self ..)) (ih fun y hy => h y (List.mem_cons_of_mem _ hy))
theorem frz_mul {D E : Nat} {q : Rat} (h : FRz D q) : FRz (D * E) q := by
 obtain ⟨z, hz⟩ := h
 exact ⟨z * E, by rw [Rat.natCast_mul, ← Rat.mul_assoc, hz, Rat.natCast_mul]⟩
theorem frz_int {D : Nat} {m : Int} (h : 0 ≤ m) : FRz D (m : Rat) := by
 obtain ⟨j, rfl⟩ := Int.eq_ofNat_of_zero_le h
 exact ⟨j * D, by rw [Rat.intCast_natCast, Rat.natCast_mul]⟩
theorem frz_share {D m : Nat} {n : Nat} (hm : m ≠ 0) {q : Rat} (h : FRz D q) : FRz (D * m) (mkRat (n : Int) m * q) := by
 obtain ⟨z, hz⟩ := h
 have hm' : (m : Rat) ≠ 0 := by
  intro h
  exact hm (by exact_mod_cast h)
 refine ⟨n * z, ?_⟩
 rw [Rat.mkRat_eq_div, Rat.intCast_natCast, Rat.natCast_mul, Rat.natCast_mul, ← hz, Rat.div_def]
 have := Rat.inv_mul_cancel _ hm'
 grind
theorem nat_le_rat {m n : Nat} (h : (m : Rat) ≤ (n : Rat)) : m ≤ n := by exact_mod_cast h
theorem frz_sm {D M k : Nat} (hD : D ≠ 0) {q : Rat} (h : FRz D q) (hq : q ≤ (M : Rat)) (h1 : M * D < 2 ^ k) (h2 : D < 2 ^ k) : sm k q := by
 obtain ⟨z, hz⟩ := h
 have hD' : (D : Rat) ≠ 0 := by
  intro h
  exact hD (by exact_mod_cast h)
 have h0 : (0 : Rat) ≤ (D : Rat) := by exact_mod_cast Nat.zero_le D
 have e : q = mkRat (z : Int) D := by
  rw [Rat.mkRat_eq_div, Rat.intCast_natCast, ← hz, Rat.div_def, Rat.mul_assoc, Rat.mul_inv_cancel _ hD', Rat.mul_one]
 have hle : z ≤ M * D := by
  apply nat_le_rat
  rw [← hz, Rat.natCast_mul]
  exact Rat.mul_le_mul_of_nonneg_right hq h0
 rw [e]
 exact zgj hD (by omega) h2
theorem rsum_filter_le {α : Type} {l : List α} {g : α → Rat} (h : ∀ x ∈ l, 0 ≤ g x) (p : α → Bool) : zcI ((l.filter p).map g) ≤ zcI (l.map g) := by
 induction l with
 | nil => exact Rat.le_refl
 | cons x l ih =>
  have h1 := h x (List.mem_cons_self ..)
  have h2 := ih fun y hy => h y (List.mem_cons_of_mem _ hy)
  rw [List.filter_cons]
  split
  ·rw [List.map_cons, List.map_cons, zcQ, zcQ]
   exact Rat.add_le_add_left.2 h2
  ·rw [List.map_cons, zcQ]
   grind
theorem rsum_sub_le {l m : List Int} {g : Int → Rat} (h : ∀ x ∈ m, 0 ≤ g x) (hl : l.Nodup) (hm : m.Nodup) (hs : ∀ x ∈ l, x ∈ m) : zcI (l.map g) ≤ zcI (m.map g) := by
 have hp : l.Perm (m.filter fun x => l.contains x) := (List.perm_ext_iff_of_nodup hl (hm.sublist List.filter_sublist)).2 fun x => by
  rw [List.mem_filter, List.contains_iff_mem]
  exact ⟨fun hx => ⟨hs x hx, hx⟩, fun hx => hx.2⟩
 rw [rsum_perm (hp.map g)]
 exact rsum_filter_le h _
section
variable {a : List Bool} {b : List Tk} {c : List Th} {d : List Lk} {e : List Int} {f : Int}
def amF (am : List Int) (n : Nat) (c : Int) : Nat := n * max 1 (gI am c).toNat
def dpV (am : List Int) (l : List Int) : Nat := l.foldl (amF am) 1
theorem dpV_le {am : List Int} {k : Nat} : ∀ (l : List Int) (n : Nat), (∀ x ∈ l, (gI am x).toNat ≤ 2 ^ k) → 1 ≤ n → 1 ≤ l.foldl (amF am) n ∧ l.foldl (amF am) n ≤ n * 2 ^ (k * l.length)
 | [], n, _, hn => ⟨hn, by simp⟩
 | x :: l, n, h, hn => by
  have h1 := h x (List.mem_cons_self ..)
  have h2 : 1 ≤ 2 ^ k := Nat.one_le_two_pow
  have h3 : max 1 (gI am x).toNat ≤ 2 ^ k := by omega
  have h4 : 1 ≤ n * max 1 (gI am x).toNat := Nat.mul_pos hn (by omega)
  obtain ⟨i1, i2⟩ := dpV_le (am := am) (k := k) l (amF am n x) (fun y hy => h y (List.mem_cons_of_mem _ hy)) h4
  refine ⟨i1, Nat.le_trans i2 ?_⟩
  have h5 : amF am n x ≤ n * 2 ^ k := Nat.mul_le_mul_left n h3
  have h6 := Nat.mul_le_mul_right (2 ^ (k * l.length)) h5
  refine Nat.le_trans h6 (Nat.le_of_eq ?_)
  rw [List.length_cons, Nat.mul_add, Nat.mul_one, Nat.pow_add, Nat.mul_assoc, Nat.mul_comm (2 ^ k)]
theorem zcs.frz_ord (H : zcs a b c d e f) : ∀ n, (∀ x ∈ (zcC a b).take n, FRz (dpV (amV a b c d e f) ((zcC a b).take n)) (gI (zcx a b c d e f).1 x)) ∧
  (∀ k, 0 ≤ k ∧ k < (b.length : Int) → (gI b k).1 = true → (gI b k).2.1 ∈ (zcC a b).take n → FRz (dpV (amV a b c d e f) ((zcC a b).take n)) (gI (zcx a b c d e f).2 k))
 | 0 => ⟨fun x hx => by simp at hx, fun k _ _ hk => by simp at hk⟩
 | n + 1 => by
  obtain ⟨i1, i2⟩ := H.frz_ord n
  by_cases hn : n < (zcC a b).length
  ·have hd : dpV (amV a b c d e f) ((zcC a b).take (n + 1)) = dpV (amV a b c d e f) ((zcC a b).take n) * max 1 (gI (amV a b c d e f) (zcC a b)[n]).toNat := by
    unfold dpV
    rw [List.take_add_one, List.getElem?_eq_getElem hn, List.foldl_append]
    rfl
   have hus := H.ord_mem.1 (List.getElem_mem hn)
   have hin := zdE hus
   have ho : zcC a b = (zcC a b).take n ++ (zcC a b)[n] :: (zcC a b).drop (n + 1) := by
    conv => lhs; rw [← List.take_append_drop n (zcC a b)]
    rw [List.drop_eq_getElem_cons hn]
   have hx : FRz (dpV (amV a b c d e f) ((zcC a b).take n)) (gI (zcx a b c d e f).1 (zcC a b)[n]) := by
    by_cases h0 : (zcC a b)[n] = 0
    ·rw [h0, H.worth0]
     have hca := H.coins
     exact frz_int (H.am_bound (x := 0) (by omega)).1
    ·rw [H.worthC hin h0]
     refine frz_sum fun k hk => ?_
     obtain ⟨k1, k2⟩ := zhn.1 hk
     unfold zdG at k2
     simp at k2
     exact i2 k k1 k2.1 (H.ord_split ho k1 k2.1 k2.2.1 k2.2.2)
   have hsplit : ∀ x, x ∈ (zcC a b).take (n + 1) → x ∈ (zcC a b).take n ∨ x = (zcC a b)[n] := fun x hx => by
    rw [List.take_add_one, List.getElem?_eq_getElem hn, List.mem_append] at hx
    rcases hx with hx | hx
    ·exact .inl hx
    ·exact .inr (by simpa using hx)
   rw [hd]
   refine ⟨fun x hx' => ?_, fun k hk hu hc => ?_⟩
   ·rcases hsplit x hx' with h | rfl
    ·exact frz_mul (i1 x h)
    ·exact frz_mul hx
   ·rcases hsplit _ hc with h | h
    ·exact frz_mul (i2 k hk hu h)
    ·rw [H.worth.2 k hk]
     by_cases hcn : gI (zcV a b c d e f) k = true
     ·rw [if_pos hcn]
      unfold zdP
      have ha := H.awake hk hcn
      have hamt := (H.tk hk hu).amt
      rw [h] at ha ⊢
      obtain ⟨m, hm⟩ := Int.eq_ofNat_of_zero_le (show 0 ≤ (gI b k).2.2.1 by omega)
      rw [hm, show max 1 (gI (amV a b c d e f) (zcC a b)[n]).toNat = (gI (amV a b c d e f) (zcC a b)[n]).toNat by omega]
      exact frz_share (by omega) hx
     ·rw [if_neg hcn]
      exact frz_zero _
  ·rw [List.take_of_length_le (by omega)] at i1 i2 ⊢
   exact ⟨i1, i2⟩
def xD : Nat := 432
def xE : Nat := 500
def DV (a : List Bool) (b : List Tk) (c : List Th) (d : List Lk) (e : List Int) (f : Int) : Nat := dpV (amV a b c d e f) (zcC a b)
theorem zcs.DV_le (H : zcs a b c d e f) : 1 ≤ DV a b c d e f ∧ DV a b c d e f ≤ 2 ^ xD := by
 have hol : (zcC a b).length ≤ 16 := by
  have := kahn_len a.length (zda b)
  have h3 : (zcC a b).length ≤ (zdB a.length (zda b)).2.length := List.length_filter_le ..
  have := H.coins
  omega
 obtain ⟨h1, h2⟩ := dpV_le (am := amV a b c d e f) (k := 27) (zcC a b) 1 (fun x hx => by
  have := H.am_bound (zdE (H.ord_mem.1 hx))
  omega) (Nat.le_refl 1)
 refine ⟨h1, Nat.le_trans h2 ?_⟩
 rw [Nat.one_mul]
 exact Nat.pow_le_pow_right (by decide) (by unfold xD; omega)
theorem zcs.frz_tk (H : zcs a b c d e f) {k : Int} (hk : 0 ≤ k ∧ k < (b.length : Int)) : FRz (DV a b c d e f) (gI (zcx a b c d e f).2 k) := by
 by_cases hu : (gI b k).1 = true
 ·have := (H.frz_ord (zcC a b).length).2 k hk hu (by rw [List.take_length]; exact H.ord_mem.2 (H.tk hk hu).coin)
  rwa [List.take_length] at this
 ·rw [H.worth.2 k hk, if_neg (fun h => hu (H.cnt_used hk h))]
  exact frz_zero _
theorem zcs.frz_th (H : zcs a b c d e f) {i : Int} (hi : 0 ≤ i ∧ i < (c.length : Int)) : FRz (DV a b c d e f) (gI (thW a b c d e f) i) := by
 rw [thW_get hi]
 unfold zdC
 exact frz_sum fun k hk => H.frz_tk (zet.1 (List.mem_filter.1 hk).1)
theorem th_nonneg (H : zcs a b c d e f) {i : Int} (hi : 0 ≤ i ∧ i < (c.length : Int)) : 0 ≤ gI (thW a b c d e f) i := by
 rw [thW_get hi]
 unfold zdC
 refine rsum_nonneg fun x hx => ?_
 obtain ⟨k, hk, rfl⟩ := List.mem_map.1 hx
 have h := H.frz_tk (zet.1 (List.mem_filter.1 hk).1)
 obtain ⟨z, hz⟩ := h
 have hD := H.DV_le.1
 have hD' : (DV a b c d e f : Rat) ≠ 0 := by
  intro h
  have : DV a b c d e f = 0 := by exact_mod_cast h
  omega
 have e : gI (zcx a b c d e f).2 k = mkRat (z : Int) (DV a b c d e f) := by
  rw [Rat.mkRat_eq_div, Rat.intCast_natCast, ← hz, Rat.div_def, Rat.mul_assoc, Rat.mul_inv_cancel _ hD', Rat.mul_one]
 rw [e]
 exact zfJ _ _
theorem zcs.sub_sm (H : zcs a b c d e f) {l : List Int} (hn : l.Nodup) (hl : ∀ i ∈ l, 0 ≤ i ∧ i < (c.length : Int)) : 0 ≤ zcI (l.map (gI (thW a b c d e f))) ∧ sm 500 (zcI (l.map (gI (thW a b c d e f)))) ∧ FRz (DV a b c d e f) (zcI (l.map (gI (thW a b c d e f)))) := by
 have hf : FRz (DV a b c d e f) (zcI (l.map (gI (thW a b c d e f)))) := frz_sum fun i hi => H.frz_th (hl i hi)
 refine ⟨rsum_nonneg fun x hx => ?_, ?_, hf⟩
 ·obtain ⟨i, hi, rfl⟩ := List.mem_map.1 hx
  exact th_nonneg H (hl i hi)
 ·have hca := H.coins
  have hab := H.am_bound (x := 0) (by omega)
  have hle : zcI (l.map (gI (thW a b c d e f))) ≤ ((gI (amV a b c d e f) 0).toNat : Rat) := by
   rw [cast_nat hab.1, ← H.keep]
   have e1 : thW a b c d e f = (zcO c.length).map (gI (thW a b c d e f)) := by
    refine zgD (by rw [thW_len, List.length_map, zeA]) fun i hi => ?_
    rw [thW_len] at hi
    rw [zes (α := Int) _ (by rw [zeA]; exact hi)]
    congr 1
    obtain ⟨j, rfl⟩ := Int.eq_ofNat_of_zero_le hi.1
    have hj : j < c.length := by omega
    rw [zcG (by rw [zeA]; exact hj)]
    simp [zcO]
   conv => rhs; rw [e1]
   exact rsum_sub_le (fun i hi => th_nonneg H (zet.1 hi)) hn (zfi List.nodup_range) fun i hi => zet.2 (hl i hi)
  obtain ⟨d1, d2⟩ := H.DV_le
  refine frz_sm (k := xE) (by omega) hf hle ?_ (Nat.lt_of_le_of_lt d2 (Nat.pow_lt_pow_right (by decide) (by decide)))
  have h3 : (gI (amV a b c d e f) 0).toNat ≤ 2 ^ 27 := by omega
  have := Nat.mul_le_mul h3 d2
  rw [← Nat.pow_add] at this
  exact Nat.lt_of_le_of_lt this (Nat.pow_lt_pow_right (by decide) (by decide))
theorem arr_next {i y : Nat} (h : Arr c.length (zcS c d) i y) : i < c.length ∧ usT c (i : Int) = true ∧ nextR (zcS c d) (i : Int) = (y : Int) := by
 obtain ⟨x, hx, hok, e1, e2⟩ := h
 have hi : i < c.length := by
  simp only [zcW, Bool.and_eq_true, decide_eq_true_eq] at hok
  omega
 unfold zcS at hx
 obtain ⟨k, hk, hx⟩ := List.mem_flatMap.1 hx
 have hki : k = i ∧ (((gI c (i : Int)).1 = 4 ∧ (gI c (i : Int)).2.1 = (y : Int)) ∨ ((gI c (i : Int)).1 = 6 ∧ (gI d (gI c (i : Int)).2.1).2 = (y : Int))) := by
  unfold zfp at hx
  rcases List.mem_append.1 hx with hx | hx
  ·split at hx
   ·rename_i h4
    rw [List.mem_singleton] at hx
    subst hx
    have : k = i := Int.ofNat_inj.1 (by simpa using e1)
    subst this
    rw [zfj]
    exact ⟨rfl, .inl ⟨by simpa using h4, e2⟩⟩
   ·cases hx
  ·split at hx
   ·rename_i h6
    rw [List.mem_singleton] at hx
    subst hx
    have : k = i := Int.ofNat_inj.1 (by simpa using e1)
    subst this
    rw [zfj]
    exact ⟨rfl, .inr ⟨by simpa using h6, e2⟩⟩
   ·cases hx
 refine ⟨hi, ?_, ?_⟩
 ·unfold usT
  rw [zcm.2 (by omega)]
  rcases hki.2 with h | h <;> rw [h.1] <;> rfl
 ·rw [nextR_at hi]
  rcases hki.2 with h | h
  ·rw [h.1, h.2]; rfl
  ·rw [h.1, h.2]; rfl
theorem zcs.way_next (H : zcs a b c d e f) {i : Int} (hu : usT c i = true) {x : Nat} : Way c.length (zcS c d) i.toNat x ↔ (usT c (zfn c d i) = true ∧ ((x : Int) = zfn c d i ∨ Way c.length (zcS c d) (zfn c d i).toNat x)) := by
 obtain ⟨hR, hN⟩ := H.next hu
 have hin := zew hu
 have key : ∀ y, Arr c.length (zcS c d) i.toNat y → zfn c d i = (y : Int) ∧ usT c (zfn c d i) = true := fun y h => by
  have h1 := (arr_next h).2.2
  rw [Int.toNat_of_nonneg hin.1, hR] at h1
  refine ⟨h1, ?_⟩
  rcases hN with h2 | h2
  ·rw [h1] at h2; omega
  ·exact h2.1
 constructor
 ·intro hw
  cases hw with
  | one h =>
   obtain ⟨h1, h2⟩ := key _ h
   exact ⟨h2, .inl h1.symm⟩
  | more h h' =>
   obtain ⟨h1, h2⟩ := key _ h
   refine ⟨h2, .inr ?_⟩
   rw [h1]
   simpa using h'
 ·rintro ⟨h1, h2⟩
  rcases hN with h3 | ⟨_, h4⟩
  ·have := zew h1
   omega
  ·rcases h2 with h2 | h2
   ·have : x = (zfn c d i).toNat := by omega
    rw [this]
    exact .one h4
   ·exact .more h4 h2
theorem zcs.tailF_way (H : zcs a b c d e f) : ∀ (n : Nat) (i : Int) (o : List Int), usT c i = true → zfd c d n i = some o → o.Nodup ∧ (∀ x ∈ o, usT c x = true) ∧ ∀ x : Int, 0 ≤ x → (x ∈ o ↔ x = i ∨ Way c.length (zcS c d) i.toNat x.toNat)
 | 0, i, o, hu, h => by
  have := zew hu
  unfold zfd at h
  rw [if_neg (by omega)] at h
  cases h
 | n + 1, i, o, hu, h => by
  have hin := zew hu
  unfold zfd at h
  rw [if_neg (by omega)] at h
  obtain ⟨o', h1, rfl⟩ := Option.map_eq_some_iff.1 h
  obtain ⟨hR, hN⟩ := H.next hu
  rcases hN with hN | ⟨hN, hA⟩
  ·rw [hN] at h1
   have h0 : o' = [] := by
    cases n <;> (unfold zfd at h1; rw [if_pos rfl] at h1; cases h1; rfl)
   subst h0
   refine ⟨by simp, fun x hx => by rw [List.mem_singleton.1 hx]; exact hu, fun x hx => ?_⟩
   rw [List.mem_singleton]
   refine ⟨.inl, fun h => ?_⟩
   rcases h with h | h
   ·exact h
   ·rw [H.way_next hu, hN] at h
    have := zew h.1
    omega
  ·obtain ⟨i1, i2, i3⟩ := H.tailF_way n _ o' hN h1
   refine ⟨List.nodup_cons.2 ⟨fun hm => ?_, i1⟩, fun x hx => ?_, fun x hx => ?_⟩
   ·have := (i3 i hin.1).1 hm
    refine no_way H.noT i.toNat ((H.way_next hu).2 ⟨hN, ?_⟩)
    rw [Int.toNat_of_nonneg hin.1]
    exact this
   ·rcases List.mem_cons.1 hx with rfl | hx
    ·exact hu
    ·exact i2 x hx
   ·rw [List.mem_cons, i3 x hx, H.way_next hu]
    rw [Int.toNat_of_nonneg hx]
    constructor
    ·rintro (h | h)
     ·exact .inl h
     ·exact .inr ⟨hN, h⟩
    ·rintro (h | ⟨_, h⟩)
     ·exact .inl h
     ·exact .inr h
def onT (c : List Th) (d : List Lk) (i j : Int) : Bool := (zed c d j).contains i
theorem zcs.tail_facts (H : zcs a b c d e f) (j : Int) : (zed c d j).Nodup ∧ (∀ x ∈ zed c d j, usT c x = true) ∧ (usT c j = true → ∀ x : Int, 0 ≤ x → (x ∈ zed c d j ↔ x = j ∨ Way c.length (zcS c d) j.toNat x.toNat)) ∧ (usT c j = false → zed c d j = []) := by
 cases hu : usT c j with
 | false =>
  have : zed c d j = [] := by unfold zed; rw [getThread_no hu]; rfl
  rw [this]
  exact ⟨List.nodup_nil, fun x hx => (by cases hx), fun h => (by cases h), fun _ => rfl⟩
 | true =>
  obtain ⟨o, h1, _⟩ := H.tail0 hu
  have ht : zed c d j = o := by unfold zed; rw [zhC hu, h1]; rfl
  obtain ⟨i1, i2, i3⟩ := H.tailF_way _ j o hu h1
  rw [ht]
  exact ⟨i1, i2, fun _ => i3, fun h => (by cases h)⟩
end
end Go.Proofs.YtlfdidaeachpoaaGreat
namespace Go.Proofs.YtlfdidaeachpoaaGreat
open Go Go.RowKit
set_option maxRecDepth 100000
noncomputable section
def caV (a : List Bool) (b : List Tk) (c : List Th) (d : List Lk) (e : List Int) (f : Int) : List Rat := (zcO c.length).map fun i => zdC (thW a b c d e f) (onT c d i) (zcO c.length)
def gPart (K : List Rat) (p : Int → Int → Bool) (n m : Nat) : List Rat := (zcO n).map fun i => zdC K (p i) (zcO m)
theorem zeZ {g : Int → Rat} {n : Nat} {i : Int} (h : 0 ≤ i ∧ i < (n : Int)) : gI ((zcO n).map g) i = g i := by
 rw [zes (α := Int) _ (by rw [zeA]; exact h)]
 congr 1
 obtain ⟨j, rfl⟩ := Int.eq_ofNat_of_zero_le h.1
 have hj : j < n := by omega
 rw [zcG (by rw [zeA]; exact hj)]
 simp [zcO]
section
variable {a : List Bool} {b : List Tk} {c : List Th} {d : List Lk} {e : List Int} {f : Int}
theorem caV_len : (caV a b c d e f).length = c.length := by simp [caV, zcO]
theorem caV_get {i : Int} (h : 0 ≤ i ∧ i < (c.length : Int)) : gI (caV a b c d e f) i = zdC (thW a b c d e f) (onT c d i) (zcO c.length) := zeZ h
theorem ints_nodup {n : Nat} : (zcO n).Nodup := zfi List.nodup_range
theorem zcs.part_sm (H : zcs a b c d e f) (p : Int → Bool) {m : Nat} (hm : m ≤ c.length) : 0 ≤ zdC (thW a b c d e f) p (zcO m) ∧ sm 500 (zdC (thW a b c d e f) p (zcO m)) ∧ FRz (DV a b c d e f) (zdC (thW a b c d e f) p (zcO m)) :=
 H.sub_sm (l := (zcO m).filter p) (ints_nodup.sublist List.filter_sublist) fun i hi => by
  have := zet.1 (List.mem_filter.1 hi).1
  omega
theorem zcs.th_sm (H : zcs a b c d e f) {i : Int} (h : 0 ≤ i ∧ i < (c.length : Int)) : 0 ≤ gI (thW a b c d e f) i ∧ sm 500 (gI (thW a b c d e f) i) := by
 obtain ⟨h1, h2, _⟩ := H.sub_sm (l := [i]) (by simp) (fun j hj => by rw [List.mem_singleton.1 hj]; exact h)
 have e1 : zcI ([i].map (gI (thW a b c d e f))) = gI (thW a b c d e f) i := Rat.add_zero _
 rw [e1] at h1 h2
 exact ⟨h1, h2⟩
theorem zcs.ca_sm (H : zcs a b c d e f) {i : Int} (h : 0 ≤ i ∧ i < (c.length : Int)) : 0 ≤ gI (caV a b c d e f) i ∧ sm 500 (gI (caV a b c d e f) i) ∧ FRz (DV a b c d e f) (gI (caV a b c d e f) i) := by
 rw [caV_get h]
 exact H.part_sm _ (Nat.le_refl _)
theorem zcs.th_zero (H : zcs a b c d e f) {i : Int} (h : 0 ≤ i ∧ i < (c.length : Int)) (hu : usT c i = false) : gI (thW a b c d e f) i = 0 := by
 rw [thW_get h]
 unfold zdC
 refine zfm fun k hk => ?_
 obtain ⟨h1, h2⟩ := List.mem_filter.1 hk
 have h1 := zet.1 h1
 unfold zdG at h2
 simp at h2
 exfalso
 rcases (H.tk h1 h2.1).to with h | h | h
 ·omega
 ·rw [← h2.2.2, h.2] at hu; cases hu
 ·omega
theorem zcs.ca_zero (H : zcs a b c d e f) {i : Int} (h : 0 ≤ i ∧ i < (c.length : Int)) (hu : usT c i = false) : gI (caV a b c d e f) i = 0 := by
 rw [caV_get h]
 unfold zdC
 refine zfm fun k hk => ?_
 obtain ⟨_, h2⟩ := List.mem_filter.1 hk
 unfold onT at h2
 rw [List.contains_iff_mem] at h2
 rw [(H.tail_facts k).2.1 i h2] at hu
 cases hu
end
def zE_b122 : Int → (Int × (List ((List Int) × List Int))) → RT (Int × (List ((List Int) × List Int))) (List ((List Int) × List Int))
| x15, (x16, r4) =>
 .rq 1 (.ite (decide (x16 < x15))
 (.rq 5 (.req (inB r4 x16) (.rq 3 (.again (w64 (x16 + 1), sI r4 x16 ([], zcf B32 1))))))
 (.done r4))
def zE_p122 : zcd := ⟨122, true, [tI, .sl tB, .sl yK, .sl yH, .sl yL, .sl tI, tI, .sl (.pair (.sl tV) (.sl tV))], [tI, .sl (.pair (.sl tV) (.sl tV))], ⟨[.keep [1, 3, 4, 15, 16], .gc, .nilRow 3 800003 41 (.pair (.sl tV) (.sl tV)), .nilRow 4 800004 41 (.pair (.sl tV) (.sl tV)), .ren 3 700003, .ren 4 700004, .ren 3 900003, .ren 4 900004, .gc], [1, 3, 4, 15, 16], [.lf (qp 16), .lf (qr 900003), .lf (qr 900004), .lf (qi 0), .lf (qm 0)], [(16, true, .cells [qi 1, qi 2, qi 3, qi 4, qi 5, qi 6]), (900003, true, .arr 41 (qi 7)), (900004, true, .arr 41 (qm 1))]⟩, [⟨2, ⟨[.keep [1, 3, 4], .gc, .nilRow 3 800003 41 (.pair (.sl tV) (.sl tV)), .nilRow 4 800004 41 (.pair (.sl tV) (.sl tV)), .ren 3 700003, .ren 4 700004, .ren 3 900003, .ren 4 900004, .gc], [1, 3, 4], [.lf (qp 16), .lf (qr 900003), .lf (qr 900004)], [(16, true, .cells [qi 1, qi 2, qi 3, qi 4, qi 5, qi 6]), (900003, true, .arr 41 (qi 7)), (900004, true, .arr 41 (qm 0))]⟩, [.sl (.pair (.sl tV) (.sl tV))]⟩], (fun i => zE_b122 i.1)⟩
def ziw : (Int × Int × (List ((List Int) × List Int)) × (List Int)) → (Int × (List ((List Int) × List Int))) → RT (Int × (List ((List Int) × List Int))) (List ((List Int) × List Int))
| (i, x32, r3, r31), (x33, r4) =>
 .rq 1 (.ite (decide (x33 < x32))
 (.req (inB r31 x33) (.rq 6 (let t0 := inB r4 (gI r31 x33);
 .req t0 (.rq 3 (.req (inB r3 i) (.rq 2 (let t1 := gI r4 (gI r31 x33);
 let t2 := [(t1.1, t1.2), ((gI r3 i).1, (gI r3 i).2)];
 .req (okS t2) (.req t0 (.rq 3 (let t3 := rq (sumQ t2);
 .again (w64 (x33 + 1), sI r4 (gI r31 x33) (t3.1, t3.2))))))))))))
 (.done r4))
def zE_p64102 : zcd := ⟨64102, true, [tI, tI, tI, tI, .sl tB, .sl yK, .sl yH, .sl yL, .sl tI, tI, .sl (.pair (.sl tV) (.sl tV)), .sl tI], [tI, .sl (.pair (.sl tV) (.sl tV))], ⟨[.keep [1, 3, 4, 6, 25, 26, 31, 32, 33], .gc, .nilRow 3 800003 41 (.pair (.sl tV) (.sl tV)), .nilRow 4 800004 41 (.pair (.sl tV) (.sl tV)), .nilRow 31 800031 3 tI, .ren 3 700003, .ren 4 700004, .ren 31 700031, .ren 3 900003, .ren 4 900004, .ren 31 900031, .gc], [1, 3, 4, 6, 25, 26, 31, 32, 33], [.lf (qp 16), .lf (qr 900003), .lf (qr 900004), .lf (qi 0), .lf (qi 1), .lf (qi 2), .lf (qr 900031), .lf (qi 3), .lf (qm 0)], [(16, true, .cells [qi 4, qi 5, qi 6, qi 7, qi 8, qi 9]), (900003, true, .arr 41 (qi 10)), (900004, true, .arr 41 (qm 1)), (900031, true, .arr 3 (qi 11))]⟩, [⟨6, ⟨[.keep [1, 3, 4, 25, 26], .gc, .nilRow 3 800003 41 (.pair (.sl tV) (.sl tV)), .nilRow 4 800004 41 (.pair (.sl tV) (.sl tV)), .ren 3 700003, .ren 4 700004, .ren 3 900003, .ren 4 900004, .gc], [1, 3, 4, 25, 26], [.lf (qp 16), .lf (qr 900003), .lf (qr 900004), .lf (qi 1), .lf (qi 2)], [(16, true, .cells [qi 4, qi 5, qi 6, qi 7, qi 8, qi 9]), (900003, true, .arr 41 (qi 10)), (900004, true, .arr 41 (qm 0))]⟩, [.sl (.pair (.sl tV) (.sl tV))]⟩], (fun i => ziw (i.1, i.2.2.2.1, i.2.2.2.2.2.2.2.2.2.2.1, i.2.2.2.2.2.2.2.2.2.2.2))⟩
def zE_b250 : (Int × (List Bool) × (List Tk) × (List Th) × (List Lk) × (List Int) × Int × (List ((List Int) × List Int))) → (Int × (List ((List Int) × List Int))) → RT (Int × (List ((List Int) × List Int))) (List ((List Int) × List Int))
| (x25, s_0, s_1, s_2, s_3, s_4, s_5, r3), (x26, r4) =>
 .rq 1 (.ite (decide (x26 < x25))
 (.rq 4 (.req ((decide (s_2.length ≤ 1000000) && tailOK s_2 s_3 x26)) (.rq 2 (let t0 := (zed s_2 s_3 x26);
 .call (lo ziw (x26, (t0.length : Int), r3, t0) (0, r4)) default fun v1 =>
 .rq 2 (.again (w64 (x26 + 1), v1))))))
 (.done r4))
def zE_p250 : zcd := ⟨250, true, [tI, .sl tB, .sl yK, .sl yH, .sl yL, .sl tI, tI, .sl (.pair (.sl tV) (.sl tV))], [tI, .sl (.pair (.sl tV) (.sl tV))], ⟨[.keep [1, 3, 4, 25, 26], .gc, .nilRow 3 800003 41 (.pair (.sl tV) (.sl tV)), .nilRow 4 800004 41 (.pair (.sl tV) (.sl tV)), .ren 3 700003, .ren 4 700004, .ren 3 900003, .ren 4 900004, .gc], [1, 3, 4, 25, 26], [.lf (qp 16), .lf (qr 900003), .lf (qr 900004), .lf (qi 0), .lf (qm 0)], [(16, true, .cells [qi 1, qi 2, qi 3, qi 4, qi 5, qi 6]), (900003, true, .arr 41 (qi 7)), (900004, true, .arr 41 (qm 1))]⟩, [⟨4, ⟨[.keep [4], .gc, .nilRow 4 800004 41 (.pair (.sl tV) (.sl tV)), .ren 4 700004, .ren 4 900004, .gc], [4], [.lf (qr 900004)], [(900004, true, .arr 41 (qm 0))]⟩, [.sl (.pair (.sl tV) (.sl tV))]⟩], zE_b250⟩
def zE : ((List Bool) × (List Tk) × (List Th) × (List Lk) × (List Int) × Int) → RT Unit (List ((List Int) × List Int))
| (s_0, s_1, s_2, s_3, s_4, s_5) =>
 .rq 3 (.req ((wOK s_0 s_1 s_2 s_3 s_4 s_5)) (.rq 3 (let t0 := ((thW s_0 s_1 s_2 s_3 s_4 s_5).map rq);
 let t1 := (t0.length : Int);
 .req (mkOK 48 t1) (.rq 4 (let t2 := zdc t1 ([], []);
 .call (lo zE_b122 (t2.length : Int) (0, t2)) default fun v0 =>
 .rq 3 (.call (lo zE_b250 (t1, s_0, s_1, s_2, s_3, s_4, s_5, t0) (0, v0)) default fun v2 =>
 .rq 2 (.done v2)))))))
def F_zE (x : (List Bool) × (List Tk) × (List Th) × (List Lk) × (List Int) × Int) : Option (List ((List Int) × List Int)) := (zE x).run fun _ => none
def io_zE : Io := ⟨n_zE, [.sl tB, .sl yK, .sl yH, .sl yL, .sl tI, tI], [.agg [qm 0, qm 1, qm 2, qm 3, qm 4, qm 5]], [], [[.sl tB, .sl yK, .sl yH, .sl yL, .sl tI, tI]], [.sl (.pair (.sl tV) (.sl tV))], .lf (qr 0), [], [(true, .arr 41 (qm 0))], true⟩
def zE_P : List zcd := [zE_p122, zE_p64102, zE_p250]
def zE_T : zci := tab [e_zt, e_zaf, e_zab, e_zap]
theorem zE_To : zch pg zE_T := zce ⟨e_zt_ok, e_zaf_ok, e_zab_ok, zhh, trivial⟩
theorem zE_k122 : (zE_p122).OK pg (zE_T) (zcz 53 (zE_P)) (zcq f_zE) 53 := ⟨by kernel_rfl, fun i x => by kernel_rfl⟩
theorem zE_k64102 : (zE_p64102).OK pg (zE_T) (zcz 53 (zE_P)) (zcq f_zE) 53 := ⟨by kernel_rfl, fun i x => by kernel_rfl⟩
theorem zE_k250 : (zE_p250).OK pg (zE_T) (zcz 53 (zE_P)) (zcq f_zE) 53 := ⟨by kernel_rfl, fun i x => by kernel_rfl⟩
theorem zE_go : zcu pg (zE_T) io_zE f_zE (zE_P) [.nilRow 2 800002 41 (.pair (.sl tV) (.sl tV)), .ren 2 700002, .ren 2 900002] (zE) := ⟨by kernel_rfl, by kernel_rfl, fun x => by kernel_rfl⟩
theorem ok_zE : io_zE.Okay pg (F_zE) := zcr zcg (zE_To) (zE_go) ⟨zE_k122, zE_k64102, zE_k250, trivial⟩
theorem zero_c (m : Nat) (hm : m ≤ 1000000) : ∀ (n i : Nat), i + n = m → lo zE_b122 (m : Int) ((i : Int), List.replicate i (rq 0) ++ List.replicate n ([], [])) = some (List.replicate m (rq 0))
 | 0, i, h => by
  rw [zco, zE_b122]
  simp only [RT.run]
  rw [if_neg (by simp; omega), show i = m by omega]
  simp
 | n + 1, i, h => by
  rw [zco, zE_b122]
  simp only [RT.run]
  rw [if_pos (by simp; omega), if_pos (zcm.2 ⟨by omega, by simp; omega⟩), zcj (by omega), show (i : Int) + 1 = ((i + 1 : Nat) : Int) by omega, ← rq_zero, sI, Int.toNat_natCast, rep_set, zero_c m hm n (i + 1) (by omega)]
theorem ca_inner (K X : List Rat) (j : Int) (l : List Int) (n : Nat) (hX : X.length = n) (hj : 0 ≤ j ∧ j < (K.length : Int)) (hl : l.Nodup) (hr : ∀ x ∈ l, 0 ≤ x ∧ x < (n : Int)) (hll : l.length ≤ 1000) (hK : 0 ≤ gI K j ∧ sm 500 (gI K j)) (hs : ∀ x ∈ l, 0 ≤ gI X x ∧ sm 500 (gI X x)) : ∀ (m t : Nat), t + m = l.length →
  lo ziw (j, (l.length : Int), K.map rq, l) ((t : Int), ((zcO n).map fun i => gI X i + (if (l.take t).contains i = true then gI K j else 0)).map rq) = some (((zcO n).map fun i => gI X i + (if l.contains i = true then gI K j else 0)).map rq)
 | 0, t, h => by
  rw [zco, ziw]
  simp only [RT.run]
  rw [if_neg (by simp; omega), List.take_of_length_le (by omega)]
 | m + 1, t, h => by
  have ht : t < l.length := by omega
  have hk := hr _ (List.getElem_mem ht)
  obtain ⟨s1, s2⟩ := hs _ (List.getElem_mem ht)
  have hno : (l.take t).contains l[t] = false := by
   rw [← Bool.not_eq_true, List.contains_iff_mem]
   intro hm
   obtain ⟨i, hi, he⟩ := List.mem_iff_getElem.1 hm
   rw [List.getElem_take] at he
   have := (List.nodup_iff_pairwise_ne.1 hl)
   have := (List.pairwise_iff_getElem.1 this) i t (by simp at hi; omega) ht (by simp at hi; omega)
   exact this he
  generalize hY : ((zcO n).map fun i => gI X i + (if (l.take t).contains i = true then gI K j else 0)) = Y
  have hYl : Y.length = n := by rw [← hY, List.length_map, zeA]
  have hYk : gI Y l[t] = gI X l[t] := by rw [← hY, zeZ hk, hno, if_neg (by decide), Rat.add_zero]
  have in1 : inB (Y.map rq) l[t] = true := zcm.2 (by rw [List.length_map, hYl]; exact hk)
  have e1 : gI (Y.map rq) l[t] = rq (gI X l[t]) := by rw [zes rq (by rw [hYl]; exact hk), hYk]
  have e2 : gI (K.map rq) j = rq (gI K j) := zes rq hj
  rw [zco, ziw]
  simp only [RT.run, zcG ht, e1, e2, pe]
  rw [if_pos (by simp; omega), if_pos (zcm.2 ⟨by omega, by omega⟩), if_pos in1, if_pos (zcm.2 (by rw [List.length_map]; exact hj)), okS2 s2 hK.2 (by decide) (by decide), sumQ2 s1 hK.1, if_pos rfl, if_pos in1, sI_map, zcj (by omega), show (t : Int) + 1 = ((t + 1 : Nat) : Int) by omega]
  have : sI Y l[t] (gI X l[t] + gI K j) = (zcO n).map fun i => gI X i + (if (l.take (t + 1)).contains i = true then gI K j else 0) := by
   refine zgD (by rw [sI_len, hYl, List.length_map, zeA]) fun i hi => ?_
   rw [sI_len, hYl] at hi
   rw [zgQ (by rw [hYl]; exact hk) hi.1, zeZ hi]
   by_cases hi' : l[t] = i
   ·rw [if_pos hi', if_pos (show (l.take (t + 1)).contains i = true by rw [List.contains_iff_mem, List.take_add_one, List.getElem?_eq_getElem ht]; simp [hi']), hi']
   ·have e3 : (l.take (t + 1)).contains i = (l.take t).contains i := by
     rw [List.take_add_one, List.getElem?_eq_getElem ht, Bool.eq_iff_iff, List.contains_iff_mem, List.contains_iff_mem, List.mem_append]
     simp [show ¬ i = l[t] from fun h => hi' h.symm]
    rw [if_neg hi', ← hY, zeZ hi, e3]
  rw [this]
  exact ca_inner K X j l n hX hj hl hr hll hK hs m (t + 1) (by omega)
theorem ca_outer {a : List Bool} {b : List Tk} {c : List Th} {d : List Lk} {e : List Int} {f : Int} (H : zcs a b c d e f) : ∀ (m j : Nat), j + m = c.length →
  lo zE_b250 ((c.length : Int), a, b, c, d, e, f, (thW a b c d e f).map rq) ((j : Int), (gPart (thW a b c d e f) (onT c d) c.length j).map rq) = some ((caV a b c d e f).map rq)
 | 0, j, h => by
  rw [zco, zE_b250]
  simp only [RT.run]
  rw [if_neg (by simp; omega), show j = c.length by omega]
  rfl
 | m + 1, j, h => by
  have hlc := H.lenC
  have hj : 0 ≤ (j : Int) ∧ (j : Int) < (c.length : Int) := by omega
  obtain ⟨t1, t2, _, _⟩ := H.tail_facts (j : Int)
  have htl := tailV_len c d (j : Int)
  have hr : ∀ x ∈ zed c d (j : Int), 0 ≤ x ∧ x < (c.length : Int) := fun x hx => zew (t2 x hx)
  have hin := ca_inner (thW a b c d e f) (gPart (thW a b c d e f) (onT c d) c.length j) (j : Int) (zed c d (j : Int)) c.length (by simp [gPart, zcO]) (by rw [thW_len]; exact hj) t1 hr (by omega) (H.th_sm hj) (fun x hx => by
   unfold gPart
   rw [zeZ (hr x hx)]
   obtain ⟨h1, h2, _⟩ := H.part_sm (onT c d x) (m := j) (by omega)
   exact ⟨h1, h2⟩) (zed c d (j : Int)).length 0 (by omega)
  have h0 : (zcO c.length).map (fun i => gI (gPart (thW a b c d e f) (onT c d) c.length j) i + (if ((zed c d (j : Int)).take 0).contains i = true then gI (thW a b c d e f) (j : Int) else 0)) = gPart (thW a b c d e f) (onT c d) c.length j := by
   refine zgD (by simp [gPart]) fun i hi => ?_
   rw [List.length_map, zeA] at hi
   rw [zeZ hi, List.take_zero, if_neg (by simp), Rat.add_zero]
  have h1 : (zcO c.length).map (fun i => gI (gPart (thW a b c d e f) (onT c d) c.length j) i + (if (zed c d (j : Int)).contains i = true then gI (thW a b c d e f) (j : Int) else 0)) = gPart (thW a b c d e f) (onT c d) c.length (j + 1) := by
   refine zgD (by simp [gPart]) fun i hi => ?_
   rw [List.length_map, zeA] at hi
   rw [zeZ hi]
   unfold gPart
   rw [zeZ hi, zeZ hi, sumOf_succ]
   rfl
  rw [h0, h1, show ((0 : Nat) : Int) = 0 from rfl] at hin
  rw [zco, zE_b250]
  simp only [RT.run]
  rw [if_pos (by simp; omega), if_pos (by rw [H.tailOK, decide_eq_true (by omega)]; rfl), hin, Option.bind_some, zcj (by omega), show (j : Int) + 1 = ((j + 1 : Nat) : Int) by omega, ca_outer H m (j + 1) (by omega)]
def e_zE : zcn := io_zE.sp (fun (a, b, c, d, e, f) => (wOK a b c d e f)) (fun (a, b, c, d, e, f) => ((caV a b c d e f).map rq))
theorem sp_zE (h : ∀ (a : List Bool) (b : List Tk) (c : List Th) (d : List Lk) (e : List Int) (f : Int), WfT [.sl tB, .sl yK, .sl yH, .sl yL, .sl tI, tI] (a, b, c, d, e, f) → ((wOK a b c d e f)) = true → (zE (a, b, c, d, e, f)).run (fun _ => none) = some ((caV a b c d e f).map rq)) : e_zE.ok pg := zct ok_zE fun (a, b, c, d, e, f) hw hc => h a b c d e f hw hc
theorem e_zE_ok : e_zE.ok pg := sp_zE fun a b c d e f _ hc => by
 obtain ⟨H, h8⟩ := zdx hc
 have hlc := H.lenC
 have za := zero_c c.length (by omega) c.length 0 (by omega)
 rw [List.replicate_zero, List.nil_append, show ((0 : Nat) : Int) = 0 from rfl] at za
 have hra : ∀ n : Nat, (zdc (n : Int) (([] : List Int), ([] : List Int))) = List.replicate n ([], []) := fun n => by unfold zdc; rw [Int.toNat_natCast]
 have hl := ca_outer H c.length 0 (by omega)
 rw [show ((0 : Nat) : Int) = 0 from rfl] at hl
 rw [zE]
 simp only [RT.run]
 rw [if_pos hc, List.length_map, thW_len, if_pos (zdK.2 ⟨by omega, by omega, by omega⟩), hra, List.length_replicate, za, Option.bind_some]
 have h0 : List.replicate c.length (rq 0) = (gPart (thW a b c d e f) (onT c d) c.length 0).map rq := by
  rw [show List.replicate c.length (rq 0) = (List.replicate c.length 0).map rq from by rw [List.map_replicate]]
  congr 1
  refine zgD (by simp [gPart, zcO]) fun j hj => ?_
  rw [List.length_replicate] at hj
  unfold gPart
  rw [zeZ hj]
  have := gI_rep (α := Rat) (n := c.length) (z := 0) (k := j) hj
  unfold zdc at this
  rw [Int.toNat_natCast] at this
  rw [this]; rfl
 rw [h0, hl]
 rfl
def carry_At : ((List Bool) × (List Tk) × (List Th) × (List Lk) × (List Int) × Int × Int) → RT Unit ((List Int) × (List Int))
| (s_0, s_1, s_2, s_3, s_4, s_5, i) =>
 .rq 13 (.ite (!((zcK s_2 i)).2.2.2.2.2)
 (.rq 2 (.done ([], zcf B32 1)))
 (.rq 1 (.req ((wOK s_0 s_1 s_2 s_3 s_4 s_5)) (.rq 1 (let t0 := ((caV s_0 s_1 s_2 s_3 s_4 s_5).map rq);
 .req (inB t0 i) (.rq 2 (let t1 := gI t0 i;
 .done (t1.1, t1.2))))))))
def zaq_b26 : ((List Th) × Int) → (Int × (List Int)) → RT (Int × (List Int)) (List Int)
| (x6, x7), (x8, r2) =>
 .rq 1 (.ite (decide (x8 < x7))
 (.rq 1 (.req (inB x6 x8) (.rq 12 (let t0 := w64 (x8 + 1);
 .ite (((gI x6 x8).1 == 2) || ((gI x6 x8).1 == 3))
 (.rq 3 (.req (zdF 8 r2 [x8]) (.rq 3 (.again (t0, r2 ++ [x8])))))
 (.rq 2 (.again (t0, r2)))))))
 (.done r2))
def zaq_p26 : zcd := ⟨26, true, [.sl yH, tI], [tI, .sl tI], ⟨[.keep [2, 6, 7, 8], .gc, .nilRow 2 800002 3 tI, .ren 2 700002, .ren 2 900002, .gc], [2, 6, 7, 8], [.lf (qr 900002), .lf (qi 0), .lf (qi 1), .lf (qm 0)], [(900002, true, .arr 3 (qm 1))]⟩, [⟨2, ⟨[.keep [2], .gc, .nilRow 2 800002 3 tI, .ren 2 700002, .ren 2 900002, .gc], [2], [.lf (qr 900002)], [(900002, true, .arr 3 (qm 0))]⟩, [.sl tI]⟩], zaq_b26⟩
def zaq : ((List Bool) × (List Tk) × (List Th) × (List Lk) × (List Int) × Int) → RT Unit (List Int)
| (s_0, s_1, s_2, s_3, s_4, s_5) =>
 .rq 6 (.call (lo zaq_b26 (s_2, (s_2.length : Int)) (0, [])) default fun v0 =>
 .rq 2 (.done v0))
def F_zaq (x : (List Bool) × (List Tk) × (List Th) × (List Lk) × (List Int) × Int) : Option (List Int) := (zaq x).run fun _ => none
def io_zaq : Io := ⟨n_zaq, [.sl tB, .sl yK, .sl yH, .sl yL, .sl tI, tI], [.agg [qm 0, qm 1, qm 2, qm 3, qm 4, qm 5]], [], [[.sl tB, .sl yK, .sl yH, .sl yL, .sl tI, tI]], [.sl tI], .lf (qr 0), [], [(true, .arr 3 (qm 0))], false⟩
def zaq_P : List zcd := [zaq_p26]
def zaq_T : zci := tab []
theorem zaq_To : zch pg zaq_T := zce trivial
theorem zaq_k26 : (zaq_p26).OK pg (zaq_T) (zcz 27 (zaq_P)) (zcq f_zaq) 27 := ⟨by kernel_rfl, fun i x => by kernel_rfl⟩
theorem zaq_go : zcu pg (zaq_T) io_zaq f_zaq (zaq_P) [.nilRow 2 800002 3 tI, .ren 2 700002, .ren 2 900002] (zaq) := ⟨by kernel_rfl, by kernel_rfl, fun x => by kernel_rfl⟩
theorem ok_zaq : io_zaq.Okay pg (F_zaq) := zcr zcg (zaq_To) (zaq_go) ⟨zaq_k26, trivial⟩
def stE (c : List Th) (i : Int) : Bool := (gI c i).1 == 2 || (gI c i).1 == 3
def endsV (c : List Th) : List Int := (zcO c.length).filter (stE c)
theorem range'_cons (i n : Nat) : (List.range' i (n + 1)).map (fun (k : Nat) => (k : Int)) = (i : Int) :: (List.range' (i + 1) n).map (fun (k : Nat) => (k : Int)) := by rw [List.range'_succ, List.map_cons]
theorem ends_loop (c : List Th) (hl : c.length ≤ 1000000) : ∀ (n i : Nat) (r : List Int), i + n = c.length → r.length ≤ i →
  lo zaq_b26 (c, (c.length : Int)) ((i : Int), r) = some (r ++ ((List.range' i n).map fun (k : Nat) => (k : Int)).filter (stE c))
 | 0, i, r, h, _ => by
  rw [zco, zaq_b26]
  simp only [RT.run]
  rw [if_neg (by simp; omega)]
  simp
 | n + 1, i, r, h, hr => by
  rw [zco, zaq_b26]
  simp only [RT.run]
  rw [if_pos (by simp; omega), if_pos (zcm.2 ⟨by omega, by omega⟩), zcj (by omega), show (i : Int) + 1 = ((i + 1 : Nat) : Int) by omega, range'_cons, List.filter_cons]
  by_cases hv : stE c (i : Int) = true
  ·have hv' := hv
   unfold stE at hv'
   rw [if_pos hv', if_pos (zhk (by decide) (by simp; omega)), ends_loop c hl n (i + 1) _ (by omega) (by simp; omega), if_pos hv]
   simp
  ·have hv' := hv
   unfold stE at hv'
   rw [if_neg hv', ends_loop c hl n (i + 1) _ (by omega) (by omega), if_neg hv]
def e_zaq : zcn := io_zaq.sp (fun (a, b, c, d, e, f) => (decide (c.length ≤ 1000000))) (fun (a, b, c, d, e, f) => (endsV c))
theorem sp_zaq (h : ∀ (a : List Bool) (b : List Tk) (c : List Th) (d : List Lk) (e : List Int) (f : Int), WfT [.sl tB, .sl yK, .sl yH, .sl yL, .sl tI, tI] (a, b, c, d, e, f) → ((decide (c.length ≤ 1000000))) = true → (zaq (a, b, c, d, e, f)).run (fun _ => none) = some (endsV c)) : e_zaq.ok pg := zct ok_zaq fun (a, b, c, d, e, f) hw hc => h a b c d e f hw hc
theorem e_zaq_ok : e_zaq.ok pg := sp_zaq fun a b c d e f _ hc => by
 have hl := of_decide_eq_true hc
 rw [zaq]
 simp only [RT.run]
 have := ends_loop c hl c.length 0 [] (by omega) (by simp)
 rw [show ((0 : Nat) : Int) = 0 from rfl, ← List.range_eq_range', List.nil_append] at this
 rw [this]
 rfl
def zH_b3730 : (Int × Bool × Int × Bool × (List Bool) × (List Tk) × (List Th) × (List Lk) × (List Int) × Int) → RT Unit Bool
| (i, near, k, is, s_0, s_1, s_2, s_3, s_4, s_5) =>
 .rq 1 (.ite near
 (.rq 2 (.req ((decide (s_2.length ≤ 1000000) && zfk s_2 s_3)) (.rq 3 (.done (((nextR (zcS s_2 s_3) k)) == i)))))
 (.done is))
def zH_p3730 : zcd := ⟨3730, false, [tI, tB, tI, tB, .sl tB, .sl yK, .sl yH, .sl yL, .sl tI, tI, .sl tI], [], ⟨[.keep [1, 2, 3, 7, 8, 9], .gc], [1, 2, 3, 7, 8, 9], [.lf (qi 0), .lf (qi 1), .lf (qp 48), .lf (qr 900007), .lf (qi 2), .lf (qi 3)], [(48, true, .cells [qi 4, qi 5, qi 6, qi 7, qi 8, qi 9]), (900007, true, .arr 3 (qi 10))]⟩, [⟨0, ⟨[.keep [1, 2, 3, 7, 8, 9], .gc, .nilRow 7 800007 3 tI, .ren 7 700007, .ren 7 900007, .gc], [1, 2, 3, 7, 8, 9], [.lf (qi 0), .lf (qi 1), .lf (qp 48), .lf (qr 900007), .lf (qi 2), .lf (qm 0)], [(48, true, .cells [qi 4, qi 5, qi 6, qi 7, qi 8, qi 9]), (900007, true, .arr 3 (qi 10))]⟩, [tB]⟩], (fun i _ => zH_b3730 (i.1, i.2.1, i.2.2.1, i.2.2.2.1, i.2.2.2.2.1, i.2.2.2.2.2.1, i.2.2.2.2.2.2.1, i.2.2.2.2.2.2.2.1, i.2.2.2.2.2.2.2.2.1, i.2.2.2.2.2.2.2.2.2.1))⟩
def zH_b58 : (Int × Bool × (List Bool) × (List Tk) × (List Th) × (List Lk) × (List Int) × Int) → (Int × (List Int)) → RT (Int × (List Int)) (List Int)
| (i, near, s_0, s_1, s_2, s_3, s_4, s_5), (k, r7) =>
 .rq 10 (.ite ((decide (k < (s_2.length : Int))) && ((inB s_2 i && (gI s_2 i).1 != 0)))
 (.rq 4 (.req ((decide (s_2.length ≤ 1000000) && zfk s_2 s_3)) (.rq 1 (let t0 := (zcS s_2 s_3);
 .req ((decide (t0.length ≤ 4000000) && (decide (0 ≤ (s_2.length : Int)) && decide ((s_2.length : Int) ≤ 1000000)) && (decide (0 ≤ k) && decide (k < (s_2.length : Int))))) (.rq 1 (let t1 := (zeS (s_2.length : Int).toNat t0 k.toNat);
 .req (inB t1 i) (.rq 2 (.call (on zH_b3730 (i, near, k, gI t1 i, s_0, s_1, s_2, s_3, s_4, s_5)) default fun v1 =>
 .rq 1 (let t2 := w64 (k + 1);
 .ite v1
 (.rq 3 (.req (zdF 8 r7 [k]) (.rq 4 (.again (t2, r7 ++ [k])))))
 (.rq 3 (.again (t2, r7))))))))))))
 (.done r7))
def zH_p58 : zcd := ⟨58, true, [tI, tB, .sl tB, .sl yK, .sl yH, .sl yL, .sl tI, tI], [tI, .sl tI], ⟨[.keep [1, 2, 3, 7, 8], .gc, .nilRow 7 800007 3 tI, .ren 7 700007, .ren 7 900007, .gc], [1, 2, 3, 7, 8], [.lf (qi 0), .lf (qi 1), .lf (qp 48), .lf (qr 900007), .lf (qm 0)], [(48, true, .cells [qi 2, qi 3, qi 4, qi 5, qi 6, qi 7]), (900007, true, .arr 3 (qm 1))]⟩, [⟨2, ⟨[.keep [7], .gc, .nilRow 7 800007 3 tI, .ren 7 700007, .ren 7 900007, .gc], [7], [.lf (qr 900007)], [(900007, true, .arr 3 (qm 0))]⟩, [.sl tI]⟩], zH_b58⟩
def zH : ((List Bool) × (List Tk) × (List Th) × (List Lk) × (List Int) × Int × Int × Bool) → RT Unit (List Int)
| (s_0, s_1, s_2, s_3, s_4, s_5, i, near) =>
 .rq 4 (.call (lo zH_b58 (i, near, s_0, s_1, s_2, s_3, s_4, s_5) (0, [])) default fun v2 =>
 .rq 2 (.done v2))
def F_zH (x : (List Bool) × (List Tk) × (List Th) × (List Lk) × (List Int) × Int × Int × Bool) : Option (List Int) := (zH x).run fun _ => none
def io_zH : Io := ⟨n_zH, [.sl tB, .sl yK, .sl yH, .sl yL, .sl tI, tI, tI, tB], [.agg [qm 0, qm 1, qm 2, qm 3, qm 4, qm 5], .lf (qm 6), .lf (qm 7)], [], [[.sl tB, .sl yK, .sl yH, .sl yL, .sl tI, tI], [tI], [tB]], [.sl tI], .lf (qr 0), [], [(true, .arr 3 (qm 0))], false⟩
def zH_P : List zcd := [zH_p3730, zH_p58]
def zH_T : zci := tab [e_zN, e_zaH, e_zi, e_zax]
theorem zH_To : zch pg zH_T := zce ⟨e_zN_ok, e_zaH_ok, e_zi_ok, zhO, trivial⟩
theorem zH_k3730 : (zH_p3730).OK pg (zH_T) (zcz 44 (zH_P)) (zcq f_zH) 44 := ⟨by kernel_rfl, fun i x => by kernel_rfl⟩
theorem zH_k58 : (zH_p58).OK pg (zH_T) (zcz 44 (zH_P)) (zcq f_zH) 44 := ⟨by kernel_rfl, fun i x => by kernel_rfl⟩
theorem zH_go : zcu pg (zH_T) io_zH f_zH (zH_P) [.nilRow 6 800006 3 tI, .ren 6 700006, .ren 6 900006] (zH) := ⟨by kernel_rfl, by kernel_rfl, fun x => by kernel_rfl⟩
theorem ok_zH : io_zH.Okay pg (F_zH) := zcr zcg (zH_To) (zH_go) ⟨zH_k3730, zH_k58, trivial⟩
open Classical in
def wayB (c : List Th) (d : List Lk) (i k : Int) : Bool := decide (Way c.length (zcS c d) k.toNat i.toNat)
def behV (c : List Th) (d : List Lk) (i : Int) : List Int := if usT c i = true then (zcO c.length).filter (wayB c d i) else []
theorem beh_loop (a : List Bool) (b : List Tk) (c : List Th) (d : List Lk) (e : List Int) (f : Int) {i : Int} (hu : usT c i = true) (hl : c.length ≤ 1000000) (hok : zfk c d = true) : ∀ (n k : Nat) (r : List Int), k + n = c.length → r.length ≤ k →
  lo zH_b58 (i, false, a, b, c, d, e, f) ((k : Int), r) = some (r ++ ((List.range' k n).map fun (k : Nat) => (k : Int)).filter (wayB c d i))
 | 0, k, r, h, _ => by
  rw [zco, zH_b58]
  simp only [RT.run]
  rw [if_neg (by simp; omega)]
  simp
 | n + 1, k, r, h, hr => by
  have hin := zew hu
  have ha := thrArr_len c d
  have hlen : (zeS c.length (zcS c d) k).length = c.length := by simp [zeS]
  have zcp : gI (zeS c.length (zcS c d) k) i = wayB c d i (k : Int) := by
   obtain ⟨j, rfl⟩ := Int.eq_ofNat_of_zero_le hin.1
   have hj : j < c.length := by omega
   rw [zcG (by rw [hlen]; exact hj)]
   simp [zeS, wayB]
  have hb : on zH_b3730 (i, false, (k : Int), wayB c d i (k : Int), a, b, c, d, e, f) = some (wayB c d i (k : Int)) := by
   show (zH_b3730 _).run _ = _
   rw [zH_b3730]
   rfl
  rw [zco, zH_b58]
  simp only [RT.run, Int.toNat_natCast]
  have hu' := hu
  unfold usT at hu'
  rw [if_pos (by rw [hu', decide_eq_true (by omega)]; rfl), if_pos (by rw [hok, decide_eq_true hl]; rfl), if_pos (by simp; omega), if_pos (zcm.2 (by rw [hlen]; exact hin)), zcp, hb, Option.bind_some, zcj (by omega), show (k : Int) + 1 = ((k + 1 : Nat) : Int) by omega, range'_cons, List.filter_cons]
  by_cases hv : wayB c d i (k : Int) = true
  ·rw [if_pos hv, if_pos (zhk (by decide) (by simp; omega)), beh_loop a b c d e f hu hl hok n (k + 1) _ (by omega) (by simp; omega), if_pos hv]
   simp
  ·rw [if_neg hv, beh_loop a b c d e f hu hl hok n (k + 1) _ (by omega) (by omega), if_neg hv]
def e_zH : zcn := io_zH.sp (fun (a, b, c, d, e, f, i, near) => ((decide (c.length ≤ 1000000) && zfk c d) && !near)) (fun (a, b, c, d, e, f, i, near) => (behV c d i))
theorem sp_zH (h : ∀ (a : List Bool) (b : List Tk) (c : List Th) (d : List Lk) (e : List Int) (f : Int) (i : Int) (near : Bool), WfT [.sl tB, .sl yK, .sl yH, .sl yL, .sl tI, tI, tI, tB] (a, b, c, d, e, f, i, near) → (((decide (c.length ≤ 1000000) && zfk c d) && !near)) = true → (zH (a, b, c, d, e, f, i, near)).run (fun _ => none) = some (behV c d i)) : e_zH.ok pg := zct ok_zH fun (a, b, c, d, e, f, i, near) hw hc => h a b c d e f i near hw hc
theorem e_zH_ok : e_zH.ok pg := sp_zH fun a b c d e f i near _ hc => by
 simp only [Bool.and_eq_true, decide_eq_true_eq, Bool.not_eq_true'] at hc
 obtain ⟨⟨hl, hok⟩, rfl⟩ := hc
 rw [zH]
 simp only [RT.run]
 unfold behV
 cases hu : usT c i with
 | true =>
  have := beh_loop a b c d e f hu hl hok c.length 0 [] (by omega) (by simp)
  rw [show ((0 : Nat) : Int) = 0 from rfl, ← List.range_eq_range', List.nil_append] at this
  rw [this]
  rfl
 | false =>
  rw [zco, zH_b58]
  simp only [RT.run]
  unfold usT at hu
  rw [if_neg (by rw [hu]; simp)]
  rfl
def zig : ((List Bool) × (List Tk) × (List Th) × (List Lk) × (List Int) × Int × (List Int)) → (Int × (List Int) × (List Int)) → RT (Int × (List Int) × (List Int)) ((List Int) × (List Int))
| (s_0, s_1, s_2, s_3, s_4, s_5, r6), (k, r80, r81) =>
 .rq 4 (.ite (decide (k < (r6.length : Int)))
 (.rq 4 (.req (inB r6 k) (.rq 1 (.req ((wOK s_0 s_1 s_2 s_3 s_4 s_5)) (let t0 := (rQ (zdC (zcx s_0 s_1 s_2 s_3 s_4 s_5).2 (zdG s_1 2 (gI r6 k)) (zcO s_1.length)));
 .req (okq r80 r81 && okq t0.1 t0.2) (.rq 4 (let t1 := rQ (zdu r80 r81 + zdu t0.1 t0.2);
 .again (w64 (k + 1), t1.1, t1.2))))))))
 (.done (r80, r81)))
def zbE_p122 : zcd := ⟨122, true, [.sl tB, .sl yK, .sl yH, .sl yL, .sl tI, tI, .sl tI], [tI, .sl tI, .sl tI], ⟨[.keep [2, 4, 5, 6, 7], .gc, .nilRow 6 800006 3 tI, .ren 6 700006, .ren 6 900006, .cellRow 80 0 600080 3 tI, .cellRow 80 1 600081 3 tI, .cellRen 80 0 600080, .cellRen 80 1 600081, .gc], [2, 4, 5, 6, 7], [.lf (qp 32), .lf (qp 64), .lf (qp 80), .lf (qr 900006), .lf (qm 0)], [(32, true, .cells [qi 0, qi 1, qi 2, qi 3, qi 4, qi 5]), (64, true, .cells [.fix (.nil), .fix (.nil)]), (80, true, .cells [qr 600080, qr 600081]), (900006, true, .arr 3 (qi 6)), (600080, true, .arr 3 (qm 1)), (600081, true, .arr 3 (qm 2))]⟩, [⟨2, ⟨[.keep [4, 5], .gc, .cellRow 80 0 600080 3 tI, .cellRow 80 1 600081 3 tI, .cellRen 80 0 600080, .cellRen 80 1 600081, .gc], [4, 5], [.lf (qp 64), .lf (qp 80)], [(64, true, .cells [.fix (.nil), .fix (.nil)]), (80, true, .cells [qr 600080, qr 600081]), (600080, true, .arr 3 (qm 0)), (600081, true, .arr 3 (qm 1))]⟩, [.sl tI, .sl tI]⟩], zig⟩
def zbE : ((List Bool) × (List Tk) × (List Th) × (List Lk) × (List Int) × Int × Int) → RT Unit ((List Int) × (List Int))
| (s_0, s_1, s_2, s_3, s_4, s_5, i) =>
 .rq 4 (.req ((wOK s_0 s_1 s_2 s_3 s_4 s_5)) (.rq 4 (.req (((decide (s_2.length ≤ 1000000) && zfk s_2 s_3) && !false)) (.rq 2 (let t0 := (rQ (zdC (zcx s_0 s_1 s_2 s_3 s_4 s_5).2 (zdG s_1 2 i) (zcO s_1.length)));
 .call (lo zig (s_0, s_1, s_2, s_3, s_4, s_5, (behV s_2 s_3 i)) (0, t0.1, t0.2)) default fun v0 =>
 .rq 2 (.done (v0.1, v0.2)))))))
def F_zbE (x : (List Bool) × (List Tk) × (List Th) × (List Lk) × (List Int) × Int × Int) : Option ((List Int) × (List Int)) := (zbE x).run fun _ => none
def io_zbE : Io := ⟨n_zbE, [.sl tB, .sl yK, .sl yH, .sl yL, .sl tI, tI, tI], [.agg [qm 0, qm 1, qm 2, qm 3, qm 4, qm 5], .lf (qm 6)], [], [[.sl tB, .sl yK, .sl yH, .sl yL, .sl tI, tI], [tI]], [.sl tI, .sl tI], .agg [qr 0, qr 1], [], [(true, .arr 3 (qm 0)), (true, .arr 3 (qm 1))], false⟩
def zbE_P : List zcd := [zbE_p122]
def zbE_T : zci := tab [e_zH, e_zag, e_zbT]
theorem zbE_To : zch pg zbE_T := zce ⟨e_zH_ok, e_zag_ok, e_zbT_ok, trivial⟩
theorem zbE_k122 : (zbE_p122).OK pg (zbE_T) (zcz 29 (zbE_P)) (zcq f_zbE) 29 := ⟨by kernel_rfl, fun i x => by kernel_rfl⟩
theorem zbE_go : zcu pg (zbE_T) io_zbE f_zbE (zbE_P) [.cellRow 64 0 600064 3 tI, .cellRow 64 1 600065 3 tI, .cellRen 64 0 600064, .cellRen 64 1 600065] (zbE) := ⟨by kernel_rfl, by kernel_rfl, fun x => by kernel_rfl⟩
theorem ok_zbE : io_zbE.Okay pg (F_zbE) := zcr zcg (zbE_To) (zbE_go) ⟨zbE_k122, trivial⟩
theorem atR_loop {a : List Bool} {b : List Tk} {c : List Th} {d : List Lk} {e : List Int} {f : Int} (hw : wOK a b c d e f = true) (l : List Int) (hl : l.length ≤ 1000) (hs : ∀ k ∈ l, 0 ≤ k ∧ k < (c.length : Int)) : ∀ (n i m : Nat) (q : Rat), i + n = l.length → 0 ≤ q → sm m q → m + 501 * n ≤ 100000000 →
  lo zig (a, b, c, d, e, f, l) ((i : Int), (rQ q).1, (rQ q).2) = some (rQ (q + zcI ((l.drop i).map (gI (thW a b c d e f)))))
 | 0, i, m, q, h, _, _, _ => by
  rw [zco, zig]
  simp only [RT.run]
  rw [if_neg (by simp; omega), List.drop_eq_nil_of_le (by omega)]
  show some (rQ q) = some (rQ (q + 0))
  rw [Rat.add_zero]
 | n + 1, i, m, q, h, h0, hm, hb => by
  obtain ⟨H, h8⟩ := zdx hw
  have hi : i < l.length := by omega
  have hk := hs _ (List.getElem_mem hi)
  obtain ⟨s2, s3⟩ := H.th_sm hk
  have ih := atR_loop hw l hl hs n (i + 1) _ (q + gI (thW a b c d e f) l[i]) (by omega) (Rat.add_nonneg h0 s2) (sm_add h0 s2 hm s3) (by omega)
  rw [zco, zig]
  simp only [RT.run]
  rw [if_pos (by simp; omega), if_pos (zcm.2 ⟨by omega, by omega⟩), zcG hi, hw, if_pos rfl, ← thW_get hk, zgL hm (by omega), zgL s3 (by decide), if_pos (by decide), zcj (by omega), show (i : Int) + 1 = ((i + 1 : Nat) : Int) by omega, zfz h0, zfz s2]
  show lo zig _ (_, (rQ (q + gI (thW a b c d e f) l[i])).1, (rQ (q + gI (thW a b c d e f) l[i])).2) = _
  rw [ih, List.drop_eq_getElem_cons hi, List.map_cons, zcQ, Rat.add_assoc]
open Classical in
theorem ca_behind {a : List Bool} {b : List Tk} {c : List Th} {d : List Lk} {e : List Int} {f : Int} (H : zcs a b c d e f) {i : Int} (hi : 0 ≤ i ∧ i < (c.length : Int)) : gI (thW a b c d e f) i + zcI ((behV c d i).map (gI (thW a b c d e f))) = gI (caV a b c d e f) i := by
 cases hu : usT c i with
 | false =>
  have : behV c d i = [] := by unfold behV; rw [hu]; rfl
  rw [this, H.th_zero hi hu, H.ca_zero hi hu]
  exact Rat.add_zero 0
 | true =>
  have hb : behV c d i = (zcO c.length).filter (wayB c d i) := by unfold behV; rw [if_pos hu]
  rw [caV_get hi, hb]
  unfold zdC
  have hp : ((zcO c.length).filter (onT c d i)).Perm (i :: (zcO c.length).filter (wayB c d i)) := by
   have hself : wayB c d i i = false := decide_eq_false (no_way H.noT _)
   refine (List.perm_ext_iff_of_nodup (ints_nodup.sublist List.filter_sublist) (List.nodup_cons.2 ⟨fun h => (by
    have := (List.mem_filter.1 h).2
    rw [hself] at this; cases this), ints_nodup.sublist List.filter_sublist⟩)).2 fun k => ?_
   rw [List.mem_filter, List.mem_cons, List.mem_filter, zet]
   have hon : ∀ k : Int, 0 ≤ k ∧ k < (c.length : Int) → (onT c d i k = true ↔ (usT c k = true ∧ (i = k ∨ wayB c d i k = true))) := fun k hk => by
    obtain ⟨_, _, f3, f4⟩ := H.tail_facts k
    unfold onT wayB
    rw [List.contains_iff_mem, decide_eq_true_eq]
    cases huk : usT c k with
    | false => rw [f4 huk]; simp
    | true => rw [f3 huk i hi.1]; simp
   constructor
   ·rintro ⟨h1, h2⟩
    rcases ((hon k h1).1 h2).2 with h | h
    ·exact .inl h.symm
    ·exact .inr ⟨h1, h⟩
   ·rintro (h | ⟨h1, h2⟩)
    ·subst h
     exact ⟨hi, (hon _ hi).2 ⟨hu, .inl rfl⟩⟩
    ·refine ⟨h1, (hon k h1).2 ⟨?_, .inr h2⟩⟩
     have hw : Way c.length (zcS c d) k.toNat i.toNat := of_decide_eq_true h2
     have : usT c ((k.toNat : Nat) : Int) = true := by
      cases hw with
      | one h => exact (arr_next h).2.1
      | more h _ => exact (arr_next h).2.1
     rwa [Int.toNat_of_nonneg h1.1] at this
  rw [rsum_perm (hp.map _), List.map_cons, zcQ]
def e_zbE : zcn := io_zbE.sp (fun (a, b, c, d, e, f, i) => (wOK a b c d e f && inB c i)) (fun (a, b, c, d, e, f, i) => (rQ (gI (caV a b c d e f) i)))
theorem sp_zbE (h : ∀ (a : List Bool) (b : List Tk) (c : List Th) (d : List Lk) (e : List Int) (f : Int) (i : Int), WfT [.sl tB, .sl yK, .sl yH, .sl yL, .sl tI, tI, tI] (a, b, c, d, e, f, i) → ((wOK a b c d e f && inB c i)) = true → (zbE (a, b, c, d, e, f, i)).run (fun _ => none) = some (rQ (gI (caV a b c d e f) i))) : e_zbE.ok pg := zct ok_zbE fun (a, b, c, d, e, f, i) hw hc => h a b c d e f i hw hc
theorem e_zbE_ok : e_zbE.ok pg := sp_zbE fun a b c d e f i _ hc => by
 rw [Bool.and_eq_true] at hc
 obtain ⟨H, h8⟩ := zdx hc.1
 have hi := zcm.1 hc.2
 have hlc := H.lenC
 obtain ⟨s1, s2⟩ := H.th_sm hi
 have hbl : (behV c d i).length ≤ c.length := by
  unfold behV
  split
  ·have := List.length_filter_le (wayB c d i) (zcO c.length)
   rwa [zeA] at this
  ·simp
 have hbm : ∀ k ∈ behV c d i, 0 ≤ k ∧ k < (c.length : Int) := fun k hk => by
  unfold behV at hk
  split at hk
  ·exact zet.1 (List.mem_filter.1 hk).1
  ·cases hk
 have hl := atR_loop hc.1 (behV c d i) (by omega) hbm (behV c d i).length 0 500 (gI (thW a b c d e f) i) (by omega) s1 s2 (by omega)
 rw [show ((0 : Nat) : Int) = 0 from rfl, List.drop_zero, ca_behind H hi] at hl
 rw [zbE]
 simp only [RT.run]
 rw [if_pos hc.1, if_pos (by rw [zia H.ths, decide_eq_true (show c.length ≤ 1000000 by omega)]; rfl), ← thW_get hi, hl]
 rfl
end
end Go.Proofs.YtlfdidaeachpoaaGreat
namespace Go.Proofs.YtlfdidaeachpoaaGreat
open Go Go.RowKit
set_option maxRecDepth 100000
noncomputable section
def wgOne (t : Th) (q : Rat) : Rat := if (t.1 == 2) = true then q * mkRat t.2.2.2.1 t.2.2.2.2.toNat else 0
def wgV (a : List Bool) (b : List Tk) (c : List Th) (d : List Lk) (e : List Int) (f : Int) : List Rat := (zcO c.length).map fun i => wgOne (gI c i) (gI (caV a b c d e f) i)
section
variable {a : List Bool} {b : List Tk} {c : List Th} {d : List Lk} {e : List Int} {f : Int}
theorem wgV_len : (wgV a b c d e f).length = c.length := by simp [wgV, zcO]
theorem wgV_get {i : Int} (h : 0 ≤ i ∧ i < (c.length : Int)) : gI (wgV a b c d e f) i = wgOne (gI c i) (gI (caV a b c d e f) i) := zeZ h
theorem zcs.fact (H : zcs a b c d e f) {i : Int} (hu : usT c i = true) : 1 ≤ (gI c i).2.2.2.1 ∧ (gI c i).2.2.2.1 ≤ 1000 ∧ 1 ≤ (gI c i).2.2.2.2 ∧ (gI c i).2.2.2.2 ≤ 1000 := by
 have h := H.ths
 have hq := H.qua
 unfold usT at hu
 rw [Bool.and_eq_true] at hu
 obtain ⟨hin, hne⟩ := hu
 have hin := zcm.1 hin
 unfold zem at h
 rw [Bool.and_eq_true] at h
 obtain ⟨k, rfl⟩ := Int.eq_ofNat_of_zero_le hin.1
 have h1 := List.all_eq_true.1 h.1 k (List.mem_range.2 (by omega))
 simp only [bne_iff_ne, ne_eq] at hne
 unfold zgo at h1
 rw [if_neg (by simpa using hne)] at h1
 simp only [Bool.not_eq_true', Bool.or_eq_false_iff, Bool.and_eq_false_iff, decide_eq_false_iff_not, Bool.not_eq_false', Bool.and_eq_true, beq_iff_eq] at h1
 omega
theorem zcs.wg_sm (H : zcs a b c d e f) {i : Int} (h : 0 ≤ i ∧ i < (c.length : Int)) : 0 ≤ gI (wgV a b c d e f) i ∧ sm 510 (gI (wgV a b c d e f) i) := by
 rw [wgV_get h]
 unfold wgOne
 split
 ·rename_i h2
  have hu : usT c i = true := by
   unfold usT
   rw [zcm.2 h, beq_iff_eq] at *
   rw [h2]; rfl
  obtain ⟨f1, f2, f3, f4⟩ := H.fact hu
  obtain ⟨s1, s2, _⟩ := H.ca_sm h
  obtain ⟨q, hq⟩ := Int.eq_ofNat_of_zero_le (show 0 ≤ (gI c i).2.2.2.1 by omega)
  rw [hq]
  have m1 := zfJ q (gI c i).2.2.2.2.toNat
  have m2 : sm 10 (mkRat (q : Int) (gI c i).2.2.2.2.toNat) := zgj (by omega) (by omega) (by omega)
  exact ⟨Rat.mul_nonneg s1 m1, sm_mul s1 m1 s2 m2⟩
 ·exact ⟨by decide, sm_zero _ (by decide)⟩
theorem zcs.wg_mem (H : zcs a b c d e f) : ∀ q ∈ wgV a b c d e f, 0 ≤ q ∧ sm 510 q := fun q hq => by
 obtain ⟨i, hi, rfl⟩ := List.mem_map.1 hq
 have := H.wg_sm (zet.1 hi)
 rwa [wgV_get (zet.1 hi)] at this
end
def zbv : (Int × Int × Int × Int × Int) → RT Unit ((List Int) × (List Int))
| (t_0, t_1, t_2, t_3, t_4) =>
 .rq 10 (.ite ((decide (t_3 < 1)) || (decide (t_4 < 1)))
 (.rq 2 (.done ([], zcf B32 1)))
 (.rq 15 (let t0 := mkR (zcv t_3).toNat (zcv t_4).toNat;
 .done (t0.2.1, t0.2.2))))
def F_zbv (x : Int × Int × Int × Int × Int) : Option ((List Int) × (List Int)) := (zbv x).run fun _ => none
def io_zbv : Io := ⟨n_zbv, [tI, tI, tI, tI, tI], [.agg [qm 0, qm 1, qm 2, qm 3, qm 4]], [], [[tI, tI, tI, tI, tI]], [.sl tV, .sl tV], .agg [qr 0, qr 1], [], [(true, .arr 122 (qm 0)), (true, .arr 122 (qm 1))], false⟩
def zbv_P : List zcd := []
def zbv_T : zci := tab [e_zbF, e_zap]
theorem zbv_To : zch pg zbv_T := zce ⟨e_zbF_ok, zhh, trivial⟩
theorem zbv_go : zcu pg (zbv_T) io_zbv f_zbv (zbv_P) [.cellRow 32 0 600032 122 tV, .cellRow 32 1 600033 122 tV, .cellRen 32 0 600032, .cellRen 32 1 600033] (zbv) := ⟨by kernel_rfl, by kernel_rfl, fun x => by kernel_rfl⟩
theorem ok_zbv : io_zbv.Okay pg (F_zbv) := zcr zcg (zbv_To) (zbv_go) trivial
def e_zbv : zcn := io_zbv.en F_zbv
theorem e_zbv_ok : e_zbv.ok pg := zeK ok_zbv
def zB_b58 : ((List Th) × Int) → (Int × (List ((List Int) × List Int))) → RT (Int × (List ((List Int) × List Int))) (List ((List Int) × List Int))
| (x9, x10), (x11, r3) =>
 .rq 1 (.ite (decide (x11 < x10))
 (.rq 1 (.req (inB x9 x11) (.rq 7 (let t0 := w64 (x11 + 1);
 .ite ((gI x9 x11).1 == 2)
 (.rq 4 (.req (inB r3 x11) (.rq 2 (.call (F_zbv ((gI x9 x11).1, (gI x9 x11).2.1, (gI x9 x11).2.2.1, (gI x9 x11).2.2.2.1, (gI x9 x11).2.2.2.2)) default fun v0 =>
 .rq 1 (let t1 := [((gI r3 x11).1, (gI r3 x11).2), (v0.1, v0.2)];
 .req (okS t1) (.req (inB r3 x11) (.rq 3 (let t2 := rq (prodQ t1);
 .again (t0, sI r3 x11 (t2.1, t2.2))))))))))
 (.rq 3 (.req (inB r3 x11) (.rq 3 (.again (t0, sI r3 x11 ([], zcf B32 1))))))))))
 (.done r3))
def zB_p58 : zcd := ⟨58, true, [.sl yH, tI], [tI, .sl (.pair (.sl tV) (.sl tV))], ⟨[.keep [3, 9, 10, 11], .gc, .nilRow 3 800003 41 (.pair (.sl tV) (.sl tV)), .ren 3 700003, .ren 3 900003, .gc], [3, 9, 10, 11], [.lf (qr 900003), .lf (qi 0), .lf (qi 1), .lf (qm 0)], [(900003, true, .arr 41 (qm 1))]⟩, [⟨2, ⟨[.keep [3], .gc, .nilRow 3 800003 41 (.pair (.sl tV) (.sl tV)), .ren 3 700003, .ren 3 900003, .gc], [3], [.lf (qr 900003)], [(900003, true, .arr 41 (qm 0))]⟩, [.sl (.pair (.sl tV) (.sl tV))]⟩], zB_b58⟩
def zB : ((List Bool) × (List Tk) × (List Th) × (List Lk) × (List Int) × Int) → RT Unit (List ((List Int) × List Int))
| (s_0, s_1, s_2, s_3, s_4, s_5) =>
 .rq 3 (.req ((wOK s_0 s_1 s_2 s_3 s_4 s_5)) (.rq 5 (.call (lo zB_b58 (s_2, (s_2.length : Int)) (0, ((caV s_0 s_1 s_2 s_3 s_4 s_5).map rq))) default fun v1 =>
 .rq 2 (.done v1))))
def F_zB (x : (List Bool) × (List Tk) × (List Th) × (List Lk) × (List Int) × Int) : Option (List ((List Int) × List Int)) := (zB x).run fun _ => none
def io_zB : Io := ⟨n_zB, [.sl tB, .sl yK, .sl yH, .sl yL, .sl tI, tI], [.agg [qm 0, qm 1, qm 2, qm 3, qm 4, qm 5]], [], [[.sl tB, .sl yK, .sl yH, .sl yL, .sl tI, tI]], [.sl (.pair (.sl tV) (.sl tV))], .lf (qr 0), [], [(true, .arr 41 (qm 0))], true⟩
def zB_P : List zcd := [zB_p58]
def zB_T : zci := tab [e_zbv, e_zE, e_zal, e_zap]
theorem zB_To : zch pg zB_T := zce ⟨e_zbv_ok, e_zE_ok, e_zal_ok, zhh, trivial⟩
theorem zB_k58 : (zB_p58).OK pg (zB_T) (zcz 36 (zB_P)) (zcq f_zB) 36 := ⟨by kernel_rfl, fun i x => by kernel_rfl⟩
theorem zB_go : zcu pg (zB_T) io_zB f_zB (zB_P) [.nilRow 2 800002 41 (.pair (.sl tV) (.sl tV)), .ren 2 700002, .ren 2 900002] (zB) := ⟨by kernel_rfl, by kernel_rfl, fun x => by kernel_rfl⟩
theorem ok_zB : io_zB.Okay pg (F_zB) := zcr zcg (zB_To) (zB_go) ⟨zB_k58, trivial⟩
theorem wg_loop {a : List Bool} {b : List Tk} {c : List Th} {d : List Lk} {e : List Int} {f : Int} (H : zcs a b c d e f) : ∀ (n i : Nat) (X : List Rat), i + n = c.length → X.length = c.length → (∀ j : Int, 0 ≤ j ∧ j < (c.length : Int) → gI X j = if j < (i : Int) then gI (wgV a b c d e f) j else gI (caV a b c d e f) j) →
  lo zB_b58 (c, (c.length : Int)) ((i : Int), X.map rq) = some ((wgV a b c d e f).map rq)
 | 0, i, X, h, hX, hg => by
  rw [zco, zB_b58]
  simp only [RT.run]
  rw [if_neg (by simp; omega)]
  congr 2
  refine zgD (by rw [hX, wgV_len]) fun j hj => ?_
  rw [hX] at hj
  rw [hg j hj, if_pos (by omega)]
 | n + 1, i, X, h, hX, hg => by
  have hlc := H.lenC
  have hi : 0 ≤ (i : Int) ∧ (i : Int) < (c.length : Int) := by omega
  have hin : inB (X.map rq) (i : Int) = true := zcm.2 (by rw [List.length_map, hX]; exact hi)
  have hXi : gI X (i : Int) = gI (caV a b c d e f) (i : Int) := by rw [hg _ hi, if_neg (by omega)]
  have e1 : gI (X.map rq) (i : Int) = rq (gI (caV a b c d e f) (i : Int)) := by rw [zes rq (by rw [hX]; exact hi), hXi]
  have key : ∀ v, v = gI (wgV a b c d e f) (i : Int) → lo zB_b58 (c, (c.length : Int)) (((i + 1 : Nat) : Int), (sI X (i : Int) v).map rq) = some ((wgV a b c d e f).map rq) := fun v hv => by
   refine wg_loop H n (i + 1) _ (by omega) (by rw [sI_len, hX]) fun j hj => ?_
   rw [zgQ (by rw [hX]; exact hi) hj.1]
   by_cases hij : (i : Int) = j
   ·rw [if_pos hij, if_pos (by omega), hv, hij]
   ·rw [if_neg hij, hg j hj]
    by_cases hlt : j < (i : Int)
    ·rw [if_pos hlt, if_pos (by omega)]
    ·rw [if_neg hlt, if_neg (by omega)]
  rw [zco, zB_b58]
  simp only [RT.run, e1, pe]
  rw [if_pos (by simp; omega), if_pos (zcm.2 hi), zcj (by omega), show (i : Int) + 1 = ((i + 1 : Nat) : Int) by omega, if_pos hin]
  by_cases h2 : ((gI c (i : Int)).1 == 2) = true
  ·have hu : usT c (i : Int) = true := by
    unfold usT
    rw [zcm.2 hi, beq_iff_eq.1 h2]; rfl
   obtain ⟨f1, f2, f3, f4⟩ := H.fact hu
   obtain ⟨s1, s2, _⟩ := H.ca_sm hi
   have hf : F_zbv ((gI c (i : Int)).1, (gI c (i : Int)).2.1, (gI c (i : Int)).2.2.1, (gI c (i : Int)).2.2.2.1, (gI c (i : Int)).2.2.2.2) = some (rq (mkRat (gI c (i : Int)).2.2.2.1 (gI c (i : Int)).2.2.2.2.toNat)) := by
    show (zbv _).run _ = _
    rw [zbv]
    simp only [RT.run, pe]
    rw [if_neg (by simp; omega), zcD (by omega), zcD (by omega), mkR_rq (by omega), Int.toNat_of_nonneg (by omega)]
   obtain ⟨q, hq⟩ := Int.eq_ofNat_of_zero_le (show 0 ≤ (gI c (i : Int)).2.2.2.1 by omega)
   have m1 : 0 ≤ mkRat (gI c (i : Int)).2.2.2.1 (gI c (i : Int)).2.2.2.2.toNat := by rw [hq]; exact zfJ _ _
   have m2 : sm 10 (mkRat (gI c (i : Int)).2.2.2.1 (gI c (i : Int)).2.2.2.2.toNat) := by rw [hq]; exact zgj (by omega) (by omega) (by omega)
   have hf' : F_zbv (gI c (i : Int)) = some (rq (mkRat (gI c (i : Int)).2.2.2.1 (gI c (i : Int)).2.2.2.2.toNat)) := hf
   rw [if_pos h2, hf', Option.bind_some, okS2 s2 m2 (by decide) (by decide), prodQ2 s1 m1, if_pos rfl, if_pos hin, sI_map]
   refine key _ ?_
   rw [wgV_get hi]
   unfold wgOne
   rw [if_pos h2]
  ·rw [if_neg h2, if_pos hin, ← rq_zero, sI_map]
   refine key _ ?_
   rw [wgV_get hi]
   unfold wgOne
   rw [if_neg h2]
def e_zB : zcn := io_zB.sp (fun (a, b, c, d, e, f) => (wOK a b c d e f)) (fun (a, b, c, d, e, f) => ((wgV a b c d e f).map rq))
theorem sp_zB (h : ∀ (a : List Bool) (b : List Tk) (c : List Th) (d : List Lk) (e : List Int) (f : Int), WfT [.sl tB, .sl yK, .sl yH, .sl yL, .sl tI, tI] (a, b, c, d, e, f) → ((wOK a b c d e f)) = true → (zB (a, b, c, d, e, f)).run (fun _ => none) = some ((wgV a b c d e f).map rq)) : e_zB.ok pg := zct ok_zB fun (a, b, c, d, e, f) hw hc => h a b c d e f hw hc
theorem e_zB_ok : e_zB.ok pg := sp_zB fun a b c d e f _ hc => by
 obtain ⟨H, h8⟩ := zdx hc
 have hl := wg_loop H c.length 0 (caV a b c d e f) (by omega) caV_len fun j hj => by rw [if_neg (by omega)]
 rw [show ((0 : Nat) : Int) = 0 from rfl] at hl
 rw [zB]
 simp only [RT.run]
 rw [if_pos hc, hl]
 rfl
def zbl : ((List Bool) × (List Tk) × (List Th) × (List Lk) × (List Int) × Int × Int) → RT Unit ((List Int) × (List Int))
| (s_0, s_1, s_2, s_3, s_4, s_5, i) =>
 .rq 5 (.req (inB s_2 i) (.rq 6 (.ite ((gI s_2 i).1 != 2)
 (.rq 2 (.done ((rQ (((0 : Int).toNat : Nat) : Rat)).1, (rQ (((0 : Int).toNat : Nat) : Rat)).2)))
 (.rq 2 (.req ((wOK s_0 s_1 s_2 s_3 s_4 s_5 && inB s_2 i)) (.rq 6 (let t0 := zcv (gI s_2 i).2.2.2.1;
 let t1 := zcv (gI s_2 i).2.2.2.2;
 .req (decide (t1 ≠ 0)) (let t2 := (rQ (gI (caV s_0 s_1 s_2 s_3 s_4 s_5) i));
 let t3 := rQ (mkRat ((t0.toNat : Nat) : Int) t1.toNat);
 .req (okq t2.1 t2.2 && okq t3.1 t3.2) (.rq 1 (let t4 := rQ (zdu t2.1 t2.2 * zdu t3.1 t3.2);
 .done (t4.1, t4.2)))))))))))
def F_zbl (x : (List Bool) × (List Tk) × (List Th) × (List Lk) × (List Int) × Int × Int) : Option ((List Int) × (List Int)) := (zbl x).run fun _ => none
def io_zbl : Io := ⟨n_zbl, [.sl tB, .sl yK, .sl yH, .sl yL, .sl tI, tI, tI], [.agg [qm 0, qm 1, qm 2, qm 3, qm 4, qm 5], .lf (qm 6)], [], [[.sl tB, .sl yK, .sl yH, .sl yL, .sl tI, tI], [tI]], [.sl tI, .sl tI], .agg [qr 0, qr 1], [], [(true, .arr 3 (qm 0)), (true, .arr 3 (qm 1))], false⟩
def zbl_P : List zcd := []
def zbl_T : zci := tab [e_zbE, e_zbV, e_zbH, e_zbZ]
theorem zbl_To : zch pg zbl_T := zce ⟨e_zbE_ok, e_zbV_ok, e_zbH_ok, e_zbZ_ok, trivial⟩
theorem zbl_go : zcu pg (zbl_T) io_zbl f_zbl (zbl_P) [.cellRow 64 0 600064 3 tI, .cellRow 64 1 600065 3 tI, .cellRen 64 0 600064, .cellRen 64 1 600065] (zbl) := ⟨by kernel_rfl, by kernel_rfl, fun x => by kernel_rfl⟩
theorem ok_zbl : io_zbl.Okay pg (F_zbl) := zcr zcg (zbl_To) (zbl_go) trivial
def e_zbl : zcn := io_zbl.sp (fun (a, b, c, d, e, f, i) => (wOK a b c d e f && inB c i)) (fun (a, b, c, d, e, f, i) => (rQ (gI (wgV a b c d e f) i)))
theorem sp_zbl (h : ∀ (a : List Bool) (b : List Tk) (c : List Th) (d : List Lk) (e : List Int) (f : Int) (i : Int), WfT [.sl tB, .sl yK, .sl yH, .sl yL, .sl tI, tI, tI] (a, b, c, d, e, f, i) → ((wOK a b c d e f && inB c i)) = true → (zbl (a, b, c, d, e, f, i)).run (fun _ => none) = some (rQ (gI (wgV a b c d e f) i))) : e_zbl.ok pg := zct ok_zbl fun (a, b, c, d, e, f, i) hw hc => h a b c d e f i hw hc
theorem e_zbl_ok : e_zbl.ok pg := sp_zbl fun a b c d e f i _ hc => by
 have hc' := hc
 rw [Bool.and_eq_true] at hc'
 obtain ⟨H, h8⟩ := zdx hc'.1
 have hi := zcm.1 hc'.2
 rw [zbl]
 simp only [RT.run]
 rw [if_pos hc'.2, wgV_get hi]
 unfold wgOne
 by_cases h2 : ((gI c i).1 == 2) = true
 ·have hu : usT c i = true := by
   unfold usT
   rw [hc'.2, beq_iff_eq.1 h2]; rfl
  obtain ⟨f1, f2, f3, f4⟩ := H.fact hu
  obtain ⟨s1, s2, _⟩ := H.ca_sm hi
  obtain ⟨q, hq⟩ := Int.eq_ofNat_of_zero_le (show 0 ≤ (gI c i).2.2.2.1 by omega)
  have m1 : 0 ≤ mkRat (gI c i).2.2.2.1 (gI c i).2.2.2.2.toNat := by rw [hq]; exact zfJ _ _
  have m2 : sm 10 (mkRat (gI c i).2.2.2.1 (gI c i).2.2.2.2.toNat) := by rw [hq]; exact zgj (by omega) (by omega) (by omega)
  have e1 : mkRat ((((gI c i).2.2.2.1).toNat : Nat) : Int) (gI c i).2.2.2.2.toNat = mkRat (gI c i).2.2.2.1 (gI c i).2.2.2.2.toNat := by rw [Int.toNat_of_nonneg (by omega)]
  rw [if_neg (by rw [beq_iff_eq] at h2; rw [h2]; decide), if_pos hc, zcD (by omega), zcD (by omega), if_pos (decide_eq_true (by omega)), e1, zgL s2 (by decide), zgL m2 (by decide), if_pos (by decide), zfz s1, zfz m1, if_pos h2]
 ·rw [if_pos (by simpa using h2), if_neg h2]
  rfl
def lcmV (L : List Rat) : Nat := L.foldl (fun m q => Nat.lcm m q.den) 1
def upV (m : Nat) (q : Rat) : Nat := m / q.den * q.num.toNat
def upsV (L : List Rat) : List Nat := L.map (upV (lcmV L))
def i64s (l : List Nat) : List Int := l.map fun (n : Nat) => (n : Int)
def brV (L : List Rat) : Int × Int × Int × List Int :=
 if lcmV L < 18446744073709551616 ∧ (upsV L).sum < 18446744073709551616 then ((lcmV L : Int), ((upsV L).sum : Int), 0, i64s (upsV L)) else (0, 0, 10, [])
theorem lcm_dvd : ∀ (L : List Rat) (m : Nat), m ∣ L.foldl (fun m q => Nat.lcm m q.den) m ∧ ∀ q ∈ L, q.den ∣ L.foldl (fun m q => Nat.lcm m q.den) m
 | [], m => ⟨Nat.dvd_refl _, fun q h => by cases h⟩
 | q :: L, m => by
  obtain ⟨h1, h2⟩ := lcm_dvd L (Nat.lcm m q.den)
  refine ⟨Nat.dvd_trans (Nat.dvd_lcm_left ..) h1, fun p hp => ?_⟩
  rcases List.mem_cons.1 hp with rfl | hp
  ·exact Nat.dvd_trans (Nat.dvd_lcm_right ..) h1
  ·exact h2 p hp
theorem lcm_bound {n : Nat} : ∀ (L : List Rat) (m k : Nat), (∀ q ∈ L, sm n q) → m < 2 ^ k → L.foldl (fun m q => Nat.lcm m q.den) m < 2 ^ (k + n * L.length)
 | [], m, k, _, h => by simpa using h
 | q :: L, m, k, hL, h => by
  have h1 : Nat.lcm m q.den ≤ m * q.den := Nat.div_le_self _ _
  have h2 := Nat.mul_lt_mul'' h (hL q (List.mem_cons_self ..)).2
  rw [← Nat.pow_add] at h2
  have := lcm_bound L (Nat.lcm m q.den) (k + n) (fun p hp => hL p (List.mem_cons_of_mem _ hp)) (Nat.lt_of_le_of_lt h1 h2)
  rw [List.length_cons, Nat.mul_add, Nat.mul_one, show k + (n * L.length + n) = k + n + n * L.length by omega]
  exact this
end
end Go.Proofs.YtlfdidaeachpoaaGreat
namespace Go.Proofs.YtlfdidaeachpoaaGreat
open Go Go.RowKit
set_option maxRecDepth 100000
noncomputable section
theorem zeB {v n : Nat} (h : v < 2 ^ n) : (zcf B32 v).length ≤ n ∧ (zcf B16 v).length ≤ n := ⟨zfQ (by decide) h, zfQ (by decide) h⟩
theorem lt_pow {m n : Nat} (h : m ≤ n) {v : Nat} (hv : v < 2 ^ m) : v < 2 ^ n := Nat.lt_of_lt_of_le hv (Nat.pow_le_pow_right (by decide) h)
theorem zgR (v : Nat) : (zcf B16 v).length ≤ 4 ↔ v < 18446744073709551616 := by
 constructor
 ·intro h
  have h1 := zcM (b := B16) (by decide) (zcP (by decide) v)
  rw [zcy (by decide)] at h1
  exact Nat.lt_of_lt_of_le h1 (Nat.le_trans (Nat.pow_le_pow_right (by decide) h) (by decide))
 ·intro h
  exact zhp (m := 4) (by rw [show B16 ^ 4 = 18446744073709551616 from rfl]; exact h)
theorem take_next {α β : Type} (g : α → β) (l : List α) {i : Nat} (h : i < l.length) : (l.take i).map g ++ [g l[i]] = (l.take (i + 1)).map g := by
 rw [List.take_add_one, List.getElem?_eq_getElem h, List.map_append]
 rfl
theorem lcm_sm {m k n : Nat} {q : Rat} (hm : m < 2 ^ k) (hq : sm n q) : Nat.lcm m q.den < 2 ^ (k + n) := by
 have h1 : Nat.lcm m q.den ≤ m * q.den := Nat.div_le_self _ _
 have h2 := Nat.mul_lt_mul'' hm hq.2
 rw [← Nat.pow_add] at h2
 exact Nat.lt_of_le_of_lt h1 h2
theorem up_sm {m k n : Nat} {q : Rat} (hm : m < 2 ^ k) (hq : sm n q) : upV m q < 2 ^ (k + n) := by
 unfold upV
 have h1 : m / q.den ≤ m := Nat.div_le_self _ _
 have h2 := Nat.mul_lt_mul'' (Nat.lt_of_le_of_lt h1 hm) hq.1
 rwa [← Nat.pow_add] at h2
theorem sum_ge {l : List Nat} {x : Nat} (h : x ∈ l) : x ≤ l.sum := by
 induction l with
 | nil => cases h
 | cons y l ih =>
  rw [List.sum_cons]
  rcases List.mem_cons.1 h with rfl | h
  ·omega
  ·have := ih h; omega
def toI (n : Nat) : Int := (n : Int)
def upD (m : Nat) (q : Rat) : List Int := zcf B32 (upV m q)
def zx_b58 : ((List ((List Int) × List Int)) × Int) → (Int × (List Int)) → RT (Int × (List Int)) (List Int)
| (x14, x15), (x16, r4) =>
 .rq 1 (.ite (decide (x16 < x15))
 (.req (inB x14 x16) (.rq 6 (.req (okL 36 r4 && okL 36 (gI x14 x16).2) (.rq 3 (.again (w64 (x16 + 1), zcf B32 (Nat.lcm (val B32 r4) (val B32 (gI x14 x16).2))))))))
 (.done r4))
def zx_p58 : zcd := ⟨58, true, [.sl (.pair (.sl tV) (.sl tV)), .sl (.pair (.sl tV) (.sl tV)), tI], [tI, .sl tV], ⟨[.keep [0, 4, 14, 15, 16], .gc, .nilRow 4 800004 122 tV, .ren 4 700004, .ren 4 900004, .gc], [0, 4, 14, 15, 16], [.lf (qi 0), .lf (qr 900004), .lf (qi 1), .lf (qi 2), .lf (qm 0)], [(900004, true, .arr 122 (qm 1))]⟩, [⟨2, ⟨[.keep [0, 4], .gc, .nilRow 4 800004 122 tV, .ren 4 700004, .ren 4 900004, .gc], [0, 4], [.lf (qi 0), .lf (qr 900004)], [(900004, true, .arr 122 (qm 0))]⟩, [.sl tV]⟩], (fun i => zx_b58 (i.2.1, i.2.2))⟩
def zx_b250 : ((List ((List Int) × List Int)) × Int × (List Int)) → (Int × (List (List Int))) → RT (Int × (List (List Int))) (List (List Int))
| (x25, x26, r4), (x27, r7) =>
 .rq 1 (.ite (decide (x27 < x26))
 (.req (inB x25 x27) (.rq 6 (.req (okL 38 r4 && okL 38 (gI x25 x27).2) (.rq 12 (let t0 := [(zfb (val B32 r4) (val B32 (gI x25 x27).2)).2.1, (gI x25 x27).1];
 .req (okMs t0) (.rq 1 (let t1 := [zcf B32 (zeN t0)];
 .req (zdF 24 r7 t1) (.rq 3 (.again (w64 (x27 + 1), r7 ++ t1))))))))))
 (.done r7))
def zx_p250 : zcd := ⟨250, true, [.sl (.pair (.sl tV) (.sl tV)), tI, .sl tV], [tI, .sl (.sl tV)], ⟨[.keep [4, 7, 25, 26, 27], .gc, .nilRow 4 800004 122 tV, .nilRow 7 800007 39 (.sl tV), .ren 4 700004, .ren 7 700007, .ren 4 900004, .ren 7 900007, .gc], [4, 7, 25, 26, 27], [.lf (qr 900004), .lf (qr 900007), .lf (qi 0), .lf (qi 1), .lf (qm 0)], [(900004, true, .arr 122 (qi 2)), (900007, true, .arr 39 (qm 1))]⟩, [⟨4, ⟨[.keep [4, 7], .gc, .nilRow 4 800004 122 tV, .nilRow 7 800007 39 (.sl tV), .ren 4 700004, .ren 7 700007, .ren 4 900004, .ren 7 900007, .gc], [4, 7], [.lf (qr 900004), .lf (qr 900007)], [(900004, true, .arr 122 (qi 2)), (900007, true, .arr 39 (qm 0))]⟩, [.sl (.sl tV)]⟩], zx_b250⟩
def zx : (List ((List Int) × List Int)) → RT Unit ((List Int) × (List (List Int)))
| l =>
 .rq 7 (.call (lo zx_b58 (l, (l.length : Int)) (0, zcf B32 (1 : Int).toNat)) default fun v0 =>
 .rq 4 (.call (lo zx_b250 (l, (l.length : Int), v0) (0, [])) default fun v1 =>
 .rq 4 (.done (v0, v1))))
def F_zx (x : (List ((List Int) × List Int))) : Option ((List Int) × (List (List Int))) := (zx x).run fun _ => none
def io_zx : Io := ⟨n_zx, [.sl (.pair (.sl tV) (.sl tV))], [.lf (qm 0)], [], [[.sl (.pair (.sl tV) (.sl tV))]], [.sl tV, .sl (.sl tV)], .tup [(false, [qr 0]), (false, [qr 1])], [], [(true, .arr 122 (qm 0)), (true, .arr 39 (qm 1))], true⟩
def zx_P : List zcd := [zx_p58, zx_p250]
def zx_T : zci := tab [e_zbX, e_zaM, e_zaL, e_zbU]
theorem zx_To : zch pg zx_T := zce ⟨e_zbX_ok, e_zaM_ok, e_zaL_ok, zhM, trivial⟩
theorem zx_k58 : (zx_p58).OK pg (zx_T) (zcz 50 (zx_P)) (zcq f_zx) 50 := ⟨by kernel_rfl, fun i x => by kernel_rfl⟩
theorem zx_k250 : (zx_p250).OK pg (zx_T) (zcz 50 (zx_P)) (zcq f_zx) 50 := ⟨by kernel_rfl, fun i x => by kernel_rfl⟩
theorem zx_go : zcu pg (zx_T) io_zx f_zx (zx_P) [.nilRow 2 800002 122 tV, .nilRow 3 800003 39 (.sl tV), .ren 2 700002, .ren 3 700003, .ren 2 900002, .ren 3 900003] (zx) := ⟨by kernel_rfl, by kernel_rfl, fun x => by kernel_rfl⟩
theorem ok_zx : io_zx.Okay pg (F_zx) := zcr zcg (zx_To) (zx_go) ⟨zx_k58, zx_k250, trivial⟩
section
variable {L : List Rat} (hL : ∀ q ∈ L, 0 ≤ q ∧ sm 5000 q) (hl : L.length ≤ 100)
include hL hl
theorem com_1 : ∀ (n i m k : Nat), i + n = L.length → 0 < m → m < 2 ^ k → k + 5000 * n ≤ 1000000 →
  lo zx_b58 (L.map rq, (L.length : Int)) ((i : Int), zcf B32 m) = some (zcf B32 ((L.drop i).foldl (fun m q => Nat.lcm m q.den) m))
 | 0, i, m, k, h, _, _, _ => by
  rw [zco, zx_b58]
  simp only [RT.run]
  rw [if_neg (by simp; omega), List.drop_eq_nil_of_le (by omega)]
  rfl
 | n + 1, i, m, k, h, h0, hm, hk => by
  have hi : i < L.length := by omega
  have hg : gI (L.map rq) (i : Int) = rq L[i] := by rw [zes rq (by omega), zcG hi]
  obtain ⟨s1, s2⟩ := hL _ (List.getElem_mem hi)
  have hd := (rq_len s2).2
  have hm2 := (zeB hm).1
  have ih := com_1 n (i + 1) (Nat.lcm m L[i].den) (k + 5000) (by omega) (Nat.lcm_pos h0 L[i].den_pos) (by
   exact lcm_sm hm s2) (by omega)
  rw [zco, zx_b58]
  simp only [RT.run]
  rw [if_pos (by simp; omega), if_pos (zcm.2 (by rw [List.length_map]; omega)), hg, if_pos (by rw [Bool.and_eq_true, zeu, zeu]; omega), zcy (by decide), rq_den, zcj (by omega), show (i : Int) + 1 = ((i + 1 : Nat) : Int) by omega, ih, List.drop_eq_getElem_cons hi, List.foldl_cons]
omit hl in
theorem up_bound {m k : Nat} (hm : m < 2 ^ k) {q : Rat} (hq : q ∈ L) : upV m q < 2 ^ (k + 5000) := up_sm hm (hL q hq).2
theorem com_2 {m k : Nat} (hm : m < 2 ^ k) (hk : k ≤ 600000) : ∀ (n i : Nat), i + n = L.length →
  lo zx_b250 (L.map rq, (L.length : Int), zcf B32 m) ((i : Int), (L.take i).map (upD m)) = some (L.map (upD m))
 | 0, i, h => by
  rw [zco, zx_b250]
  simp only [RT.run]
  rw [if_neg (by simp; omega), List.take_of_length_le (by omega)]
 | n + 1, i, h => by
  have hi : i < L.length := by omega
  have hg : gI (L.map rq) (i : Int) = rq L[i] := by rw [zes rq (by omega), zcG hi]
  obtain ⟨s1, s2⟩ := hL _ (List.getElem_mem hi)
  have hd := rq_len s2
  have hm2 := (zeB hm).1
  have hdl := (zeB (Nat.lt_of_le_of_lt (Nat.div_le_self m L[i].den) hm)).1
  have e1 : (zfb m L[i].den).2.1 = zcf B32 (m / L[i].den) := by
   unfold zfb
   rw [if_neg L[i].den_nz]
  have e2 : zcf B32 (zeN [zcf B32 (m / L[i].den), (rq L[i]).1]) = upD m L[i] := by
   rw [prod2, zcy (by decide), rq_num]
   rfl
  rw [zco, zx_b250]
  simp only [RT.run]
  rw [if_pos (by simp; omega), if_pos (zcm.2 (by rw [List.length_map]; omega)), hg, if_pos (by rw [Bool.and_eq_true, zeu, zeu]; omega), zcy (by decide), rq_den, e1, if_pos (by rw [zfx]; simp [lenS]; omega), e2, if_pos (zhk (by decide) (by simp; omega)), zcj (by omega), show (i : Int) + 1 = ((i + 1 : Nat) : Int) by omega, take_next _ _ hi, com_2 hm hk n (i + 1) (by omega)]
omit hl in
theorem lcm_lt : lcmV L < 2 ^ (1 + 5000 * L.length) := lcm_bound (n := 5000) L 1 1 (fun q hq => (hL q hq).2) (by decide)
theorem common_F : F_zx (L.map rq) = some (zcf B32 (lcmV L), L.map (upD (lcmV L))) := by
 show (zx _).run _ = _
 rw [zx]
 simp only [RT.run, List.length_map]
 have h1 := com_1 hL hl L.length 0 1 1 (by omega) (by decide) (by decide) (by omega)
 have h2 := com_2 hL hl (lcm_lt hL) (by omega) L.length 0 (by omega)
 rw [List.drop_zero, show ((0 : Nat) : Int) = 0 from rfl] at h1
 rw [List.take_zero, List.map_nil, show ((0 : Nat) : Int) = 0 from rfl] at h2
 show (lo zx_b58 _ (0, zcf B32 1)).bind _ = _
 rw [h1, Option.bind_some]
 show (lo zx_b250 (_, _, zcf B32 (lcmV L)) _).bind _ = _
 rw [h2]
 rfl
end
def e_zx : zcn := io_zx.en F_zx
theorem e_zx_ok : e_zx.ok pg := zeK ok_zx
def zbM : (Int × Int) → RT Unit (Int × Bool)
| (a, b) =>
 .rq 9 (let t0 := zcv (a + b);
 .ite (decide (t0 < a))
 (.rq 2 (.done (0, false)))
 (.rq 3 (.done (t0, true))))
def F_zbM (x : Int × Int) : Option (Int × Bool) := (zbM x).run fun _ => none
def io_zbM : Io := ⟨n_zbM, [tU, tU], [.lf (qm 0), .lf (qm 1)], [], [[tU], [tU]], [tU, tB], .tup [(false, [qm 0]), (false, [qm 1])], [], [], false⟩
def zbM_P : List zcd := []
def zbM_T : zci := tab []
theorem zbM_To : zch pg zbM_T := zce trivial
theorem zbM_go : zcu pg (zbM_T) io_zbM f_zbM (zbM_P) [] (zbM) := ⟨by kernel_rfl, by kernel_rfl, fun x => by kernel_rfl⟩
theorem ok_zbM : io_zbM.Okay pg (F_zbM) := zcr zcg (zbM_To) (zbM_go) trivial
def e_zbM : zcn := io_zbM.sp (fun (a, b) => true) (fun (a, b) => (if decide (zcv (a + b) < a) = true then (0, false) else (zcv (a + b), true)))
theorem sp_zbM (h : ∀ (a : Int) (b : Int), WfT [tU, tU] (a, b) → (zbM (a, b)).run (fun _ => none) = some (if decide (zcv (a + b) < a) = true then (0, false) else (zcv (a + b), true))) : e_zbM.ok pg := zct ok_zbM fun (a, b) hw hc => h a b hw
theorem e_zbM_ok : e_zbM.ok pg := sp_zbM fun a b _ => by
 rw [zbM]
 simp only [RT.run]
 by_cases h : decide (zcv (a + b) < a) = true
 ·rw [if_pos h, if_pos h]
 ·rw [if_neg h, if_neg h]
def zae_b122 : ((List Int) × Int) → (Int × Int × (List (Int × Int))) → RT (Int × Int × (List (Int × Int))) (LR Unit (List (Int × Int)))
| (x9, x10), (x5, x11, r4) =>
 .rq 1 (.ite (decide (x11 < x10))
 (.req (inB x9 x11) (.rq 7 (let t0 := [(x5, gI x9 x11)];
 .req (zdF 16 r4 t0) (.rq 11 (let t1 := (if decide (zcv (x5 + (gI x9 x11)) < x5) = true then (0, false) else (zcv (x5 + (gI x9 x11)), true));
 .ite (!t1.2)
 (.rq 2 (.done (.ex ())))
 (.rq 2 (.again (t1.1, w64 (x11 + 1), r4 ++ t0))))))))
 (.done (.rt r4)))
def zae_p122 : zcd := ⟨122, true, [.sl tU, tI], [tU, tI, .sl (.pair tU tU)], ⟨[.keep [4, 5, 9, 10, 11], .gc, .nilRow 4 800004 177 (.pair tU tU), .ren 4 700004, .ren 4 900004, .gc], [4, 5, 9, 10, 11], [.lf (qr 900004), .lf (qm 0), .lf (qi 0), .lf (qi 1), .lf (qm 1)], [(900004, true, .arr 177 (qm 2))]⟩, [⟨1, ⟨[.keep [2, 3], .gc], [2, 3], [.lf (.fix (.nil)), .lf (.fix (.bool false))], []⟩, []⟩, ⟨2, ⟨[.keep [4], .gc, .nilRow 4 800004 177 (.pair tU tU), .ren 4 700004, .ren 4 900004, .gc], [4], [.lf (qr 900004)], [(900004, true, .arr 177 (qm 0))]⟩, [.sl (.pair tU tU)]⟩], zae_b122⟩
def zae : (List Int) → RT Unit (Bool × (List (Int × Int)))
| l =>
 .rq 8 (.call (lo zae_b122 (l, (l.length : Int)) (0, 0, [])) default fun v0 =>
 .ite v0.isRt
 (.rq 3 (.done (true, v0.getR)))
 (.done (false, [])))
def F_zae (x : (List Int)) : Option (Bool × (List (Int × Int))) := (zae x).run fun _ => none
def io_zae : Io := ⟨n_zae, [.sl tU], [.lf (qm 0)], [], [[.sl tU]], [tB, .sl (.pair tU tU)], .tup [(false, [qr 0]), (false, [qm 0])], [], [(true, .arr 177 (qm 1))], false⟩
def zae_P : List zcd := [zae_p122]
def zae_T : zci := tab [e_zbM]
theorem zae_To : zch pg zae_T := zce ⟨e_zbM_ok, trivial⟩
theorem zae_k122 : (zae_p122).OK pg (zae_T) (zcz 31 (zae_P)) (zcq f_zae) 31 := ⟨by kernel_rfl, fun i x => by kernel_rfl⟩
theorem zae_go : zcu pg (zae_T) io_zae f_zae (zae_P) [.nilRow 2 800002 177 (.pair tU tU), .ren 2 700002, .ren 2 900002] (zae) := ⟨by kernel_rfl, by kernel_rfl, fun x => by kernel_rfl⟩
theorem ok_zae : io_zae.Okay pg (F_zae) := zcr zcg (zae_To) (zae_go) ⟨zae_k122, trivial⟩
def zeT : Nat → List Nat → List (Int × Int)
 | _, [] => []
 | at_, w :: l => ((at_ : Int), (w : Int)) :: zeT (at_ + w) l
theorem spans_loop (l : List Nat) (hl : l.length ≤ 100000) (hw : ∀ w ∈ l, w < 18446744073709551616) : ∀ (n i s : Nat) (r : List (Int × Int)), i + n = l.length → r.length ≤ i → s < 18446744073709551616 →
  lo zae_b122 (l.map toI, (l.length : Int)) ((s : Int), (i : Int), r) = some (if s + (l.drop i).sum < 18446744073709551616 then .rt (r ++ zeT s (l.drop i)) else .ex ())
 | 0, i, s, r, h, _, hs => by
  rw [zco, zae_b122]
  simp only [RT.run]
  rw [if_neg (by simp; omega), List.drop_eq_nil_of_le (by omega), if_pos (by simpa using hs), zeT, List.append_nil]
 | n + 1, i, s, r, h, hr, hs => by
  have hi : i < l.length := by omega
  have hwi := hw _ (List.getElem_mem hi)
  have hg : gI (l.map toI) (i : Int) = (l[i] : Int) := by rw [zes toI (by omega), zcG hi]; rfl
  rw [zco, zae_b122]
  simp only [RT.run, hg]
  rw [if_pos (by simp; omega), if_pos (zcm.2 (by rw [List.length_map]; omega)), if_pos (zhk (by decide) (by simp; omega)), List.drop_eq_getElem_cons hi, List.sum_cons, zcj (by omega), show (i : Int) + 1 = ((i + 1 : Nat) : Int) by omega]
  by_cases hb : s + l[i] < 18446744073709551616
  ·have e1 : zcv ((s : Int) + (l[i] : Int)) = ((s + l[i] : Nat) : Int) := by rw [zcD (by omega)]; omega
   rw [e1, if_neg (show ¬ decide (((s + l[i] : Nat) : Int) < (s : Int)) = true by simp; omega)]
   simp only [Bool.not_true, Bool.false_eq_true, if_false]
   rw [spans_loop l hl hw n (i + 1) (s + l[i]) (r ++ [((s : Int), (l[i] : Int))]) (by omega) (by simp; omega) hb, zeT, List.append_assoc, Nat.add_assoc]
   rfl
  ·have e1 : zcv ((s : Int) + (l[i] : Int)) < (s : Int) := by rw [wu64_eq]; omega
   rw [decide_eq_true e1, if_pos rfl, if_neg (show ¬ s + (l[i] + (l.drop (i + 1)).sum) < 18446744073709551616 by omega)]
   rfl
theorem spans_F (l : List Nat) (hl : l.length ≤ 100000) (hw : ∀ w ∈ l, w < 18446744073709551616) : F_zae (l.map toI) = some (if l.sum < 18446744073709551616 then (true, zeT 0 l) else (false, [])) := by
 show (zae _).run _ = _
 rw [zae]
 simp only [RT.run, List.length_map]
 have := spans_loop l hl hw l.length 0 0 [] (by omega) (by simp) (by decide)
 rw [List.drop_zero, Nat.zero_add, List.nil_append, show ((0 : Nat) : Int) = 0 from rfl] at this
 rw [this, Option.bind_some]
 by_cases h : l.sum < 18446744073709551616
 ·rw [if_pos h, if_pos h]; rfl
 ·rw [if_neg h, if_neg h]; rfl
def e_zae : zcn := io_zae.en F_zae
theorem e_zae_ok : e_zae.ok pg := zeK ok_zae
theorem ziH : ∀ (l : List Nat) (s : Nat), (zeT s l).length = l.length
 | [], _ => rfl
 | w :: l, s => by rw [zeT, List.length_cons, List.length_cons, ziH l]
theorem spansN_last : ∀ (l : List Nat) (s : Nat), l ≠ [] → ∃ x y : Nat, (zeT s l)[l.length - 1]? = some ((x : Int), (y : Int)) ∧ x + y = s + l.sum
 | [], _, h => absurd rfl h
 | [w], s, _ => ⟨s, w, rfl, by simp⟩
 | w :: v :: l, s, _ => by
  obtain ⟨x, y, h1, h2⟩ := spansN_last (v :: l) (s + w) (by simp)
  refine ⟨x, y, ?_, by rw [h2]; simp [Nat.add_assoc]⟩
  rw [zeT]
  simpa using h1
def zbm : (List Int) → RT Unit (Int × Bool)
| l =>
 .rq 3 (.call (F_zae l) default fun v0 =>
 .rq 12 (let t0 := (v0.2.length : Int);
 .ite ((!v0.1) || (t0 == 0))
 (.rq 3 (.done (0, v0.1)))
 (.rq 4 (let t1 := w64 (t0 - 1);
 .req (inB v0.2 t1) (.rq 10 (let t2 := gI v0.2 t1;
 .done (zcv (t2.1 + t2.2), true)))))))
def F_zbm (x : (List Int)) : Option (Int × Bool) := (zbm x).run fun _ => none
def io_zbm : Io := ⟨n_zbm, [.sl tU], [.lf (qm 0)], [], [[.sl tU]], [tU, tB], .tup [(false, [qm 0]), (false, [qm 1])], [], [], false⟩
def zbm_P : List zcd := []
def zbm_T : zci := tab [e_zae]
theorem zbm_To : zch pg zbm_T := zce ⟨e_zae_ok, trivial⟩
theorem zbm_go : zcu pg (zbm_T) io_zbm f_zbm (zbm_P) [] (zbm) := ⟨by kernel_rfl, by kernel_rfl, fun x => by kernel_rfl⟩
theorem ok_zbm : io_zbm.Okay pg (F_zbm) := zcr zcg (zbm_To) (zbm_go) trivial
theorem total_F (l : List Nat) (hl : l.length ≤ 100000) (hw : ∀ w ∈ l, w < 18446744073709551616) : F_zbm (l.map toI) = some (if l.sum < 18446744073709551616 then ((l.sum : Int), true) else (0, false)) := by
 show (zbm _).run _ = _
 rw [zbm]
 simp only [RT.run]
 rw [spans_F l hl hw, Option.bind_some]
 by_cases h : l.sum < 18446744073709551616
 ·rw [if_pos h, if_pos h]
  simp only [ziH]
  by_cases hn : l = []
  ·subst hn; rfl
  ·have hp : 0 < l.length := List.length_pos_iff.2 hn
   obtain ⟨x, y, h1, h2⟩ := spansN_last l 0 hn
   have hg : gI (zeT 0 l) ((l.length : Int) - 1) = ((x : Int), (y : Int)) := by
    rw [show (l.length : Int) - 1 = ((l.length - 1 : Nat) : Int) by omega, zfj, List.getD_eq_getElem?_getD, h1]
    rfl
   rw [if_neg (by simp; omega), zcj (by omega), if_pos (zcm.2 (by rw [ziH]; omega)), hg]
   simp only
   rw [zcD (by omega)]
   congr 2
   omega
 ·rw [if_neg h, if_neg h]
  rfl
def e_zbm : zcn := io_zbm.en F_zbm
theorem e_zbm_ok : e_zbm.ok pg := zeK ok_zbm
def zY_b506 : (Int × (List (List Int))) → (Int × (List Int)) → RT (Int × (List Int)) (LR Unit (List Int))
| (x29, r28), (x30, r130) =>
 .rq 1 (.ite (decide (x30 < x29))
 (.req (inB r28 x30) (.rq 3 (.req (okL 40 (gI r28 x30)) (.rq 7 (.ite (!(decide (val B32 (gI r28 x30) < 18446744073709551616)))
 (.rq 3 (.done (.ex ())))
 (.rq 4 (let t0 := [if val B32 (gI r28 x30) < 18446744073709551616 then ((val B32 (gI r28 x30) : Nat) : Int) else 0];
 .req (zdF 8 r130 t0) (.rq 4 (.again (w64 (x30 + 1), r130 ++ t0))))))))))
 (.done (.rt r130)))
def zY_p506 : zcd := ⟨506, true, [tI, tU, tU, tU, tU, .sl (.sl tV)], [tI, .sl tU], ⟨[.keep [2, 8, 28, 29, 30], .gc, .nilRow 28 800028 39 (.sl tV), .ren 28 700028, .ren 28 900028, .cellRow 128 2 600130 48 tU, .cellRen 128 2 600130, .gc], [2, 8, 28, 29, 30], [.lf (qp 32), .lf (qp 128), .lf (qr 900028), .lf (qi 0), .lf (qm 0)], [(32, true, .cells [qi 1, qi 2, .fix (.nil)]), (128, true, .cells [qi 3, qi 4, qr 600130]), (900028, true, .arr 39 (qi 5)), (600130, true, .arr 48 (qm 1))]⟩, [⟨1, ⟨[.keep [2, 3], .gc], [2, 3], [.lf (qp 32), .lf (.fix (.int .i64 10))], [(32, true, .cells [.fix (.int .u64 0), .fix (.int .u64 0), .fix (.nil)])]⟩, []⟩, ⟨2, ⟨[.keep [2, 8], .gc, .cellRow 128 2 600130 48 tU, .cellRen 128 2 600130, .gc], [2, 8], [.lf (qp 32), .lf (qp 128)], [(32, true, .cells [qi 1, qi 2, .fix (.nil)]), (128, true, .cells [qi 3, qi 4, qr 600130]), (600130, true, .arr 48 (qm 0))]⟩, [.sl tU]⟩], (fun i => zY_b506 (i.1, i.2.2.2.2.2))⟩
def zY : (List ((List Int) × List Int)) → RT Unit (Int × Int × Int × (List Int))
| l =>
 .rq 3 (.call (F_zx l) default fun v0 =>
 .rq 6 (.req (okL 40 v0.1) (.rq 7 (let t0 := (0, 0, 10, []);
 .ite (!(decide (val B32 v0.1 < 18446744073709551616)))
 (.rq 3 (.done t0))
 (.rq 7 (.call (lo zY_b506 ((v0.2.length : Int), v0.2) (0, [])) default fun v1 =>
 .ite v1.isRt
 (.rq 2 (.call (F_zbm v1.getR) default fun v2 =>
 .rq 8 (.ite (!v2.2)
 (.rq 3 (.done t0))
 (.rq 3 (.done (if val B32 v0.1 < 18446744073709551616 then ((val B32 v0.1 : Nat) : Int) else 0, v2.1, 0, v1.getR))))))
 (.done t0)))))))
def F_zY (x : (List ((List Int) × List Int))) : Option (Int × Int × Int × (List Int)) := (zY x).run fun _ => none
def io_zY : Io := ⟨n_zY, [.sl (.pair (.sl tV) (.sl tV))], [.lf (qm 0)], [], [[.sl (.pair (.sl tV) (.sl tV))]], [tU, tU, tI, .sl tU], .tup [(true, [qm 0, qm 1, qr 0]), (false, [qm 2])], [], [(true, .arr 48 (qm 3))], false⟩
def zY_P : List zcd := [zY_p506]
def zY_T : zci := tab [e_zbm, e_zx, e_zbJ]
theorem zY_To : zch pg zY_T := zce ⟨e_zbm_ok, e_zx_ok, e_zbJ_ok, trivial⟩
theorem zY_k506 : (zY_p506).OK pg (zY_T) (zcz 60 (zY_P)) (zcq f_zY) 60 := ⟨by kernel_rfl, fun i x => by kernel_rfl⟩
theorem zY_go : zcu pg (zY_T) io_zY f_zY (zY_P) [.cellRow 32 2 600034 48 tU, .cellRen 32 2 600034] (zY) := ⟨by kernel_rfl, by kernel_rfl, fun x => by kernel_rfl⟩
theorem ok_zY : io_zY.Okay pg (F_zY) := zcr zcg (zY_To) (zY_go) ⟨zY_k506, trivial⟩
section
variable {L : List Rat} (hL : ∀ q ∈ L, 0 ≤ q ∧ sm 5000 q) (hl : L.length ≤ 100)
include hL hl
theorem br_loop {m k : Nat} (hm : m < 2 ^ k) (hk : k ≤ 600000) : ∀ (n i : Nat), i + n = L.length →
  lo zY_b506 ((L.length : Int), L.map (upD m)) ((i : Int), (L.take i).map fun q => toI (upV m q)) = some (if (∀ q ∈ L.drop i, upV m q < 18446744073709551616) then .rt (L.map fun q => toI (upV m q)) else .ex ())
 | 0, i, h => by
  rw [zco, zY_b506]
  simp only [RT.run]
  rw [if_neg (by simp; omega), List.take_of_length_le (by omega), List.drop_eq_nil_of_le (by omega), if_pos (by simp)]
 | n + 1, i, h => by
  have hi : i < L.length := by omega
  have hg : gI (L.map (upD m)) (i : Int) = upD m L[i] := by rw [zes (upD m) (by omega), zcG hi]
  have hub := (zeB (up_bound hL hm (List.getElem_mem hi))).1
  have hv : val B32 (upD m L[i]) = upV m L[i] := zcy (by decide) _
  rw [zco, zY_b506]
  simp only [RT.run, hg, hv]
  rw [if_pos (by simp; omega), if_pos (zcm.2 (by rw [List.length_map]; omega)), if_pos (by rw [zeu]; exact Nat.le_trans hub (by omega)), List.drop_eq_getElem_cons hi]
  by_cases hb : upV m L[i] < 18446744073709551616
  ·rw [if_neg (by simpa using hb), if_pos hb, if_pos (zhk (by decide) (by simp; omega)), zcj (by omega), show (i : Int) + 1 = ((i + 1 : Nat) : Int) by omega]
   show lo zY_b506 _ (_, (L.take i).map (fun q => toI (upV m q)) ++ [toI (upV m L[i])]) = _
   rw [take_next (fun q => toI (upV m q)) _ hi, br_loop hm hk n (i + 1) (by omega)]
   congr 1
   by_cases ha : ∀ q ∈ L.drop (i + 1), upV m q < 18446744073709551616
   ·rw [if_pos ha, if_pos (by
     intro q hq
     rcases List.mem_cons.1 hq with rfl | hq
     ·exact hb
     ·exact ha q hq)]
   ·rw [if_neg ha, if_neg (fun h' => ha fun q hq => h' q (List.mem_cons_of_mem _ hq))]
  ·rw [if_pos (by simpa using hb), if_neg (fun h' => hb (h' _ (List.mem_cons_self ..)))]
theorem bring_F : F_zY (L.map rq) = some (brV L) := by
 show (zY _).run _ = _
 rw [zY]
 simp only [RT.run]
 rw [common_F hL hl, Option.bind_some]
 have hlt := lcm_lt hL
 have hv : val B32 (zcf B32 (lcmV L)) = lcmV L := zcy (by decide) _
 have hlb := br_loop hL hl hlt (by omega) L.length 0 (by omega)
 rw [List.take_zero, List.map_nil, List.drop_zero, show ((0 : Nat) : Int) = 0 from rfl] at hlb
 simp only [hv, List.length_map]
 rw [if_pos (by rw [zeu]; exact Nat.le_trans (zeB hlt).1 (by omega)), hlb, Option.bind_some]
 unfold brV
 by_cases h1 : lcmV L < 18446744073709551616
 ·rw [if_neg (by simpa using h1)]
  by_cases h2 : ∀ q ∈ L, upV (lcmV L) q < 18446744073709551616
  ·rw [if_pos h2]
   simp only [LR.isRt, LR.getR, if_true]
   have e1 : (L.map fun q => toI (upV (lcmV L) q)) = (upsV L).map toI := by unfold upsV; rw [List.map_map]; rfl
   rw [e1, total_F (upsV L) (by unfold upsV; rw [List.length_map]; omega) (fun w hw => by
    obtain ⟨q, hq, rfl⟩ := List.mem_map.1 hw
    exact h2 q hq), Option.bind_some]
   by_cases h3 : (upsV L).sum < 18446744073709551616
   ·rw [if_pos h3, if_pos h1, if_pos (show lcmV L < 18446744073709551616 ∧ (upsV L).sum < 18446744073709551616 from ⟨h1, h3⟩)]
    rfl
   ·rw [if_neg h3, if_neg (show ¬ (lcmV L < 18446744073709551616 ∧ (upsV L).sum < 18446744073709551616) from fun h => h3 h.2)]
    rfl
  ·rw [if_neg h2, if_neg (show ¬ (lcmV L < 18446744073709551616 ∧ (upsV L).sum < 18446744073709551616) from fun h => h2 fun q hq => Nat.lt_of_le_of_lt (sum_ge (List.mem_map_of_mem hq)) h.2)]
   rfl
 ·rw [if_pos (by simpa using h1), if_neg (fun h => h1 h.1)]
end
def e_zY : zcn := io_zY.en F_zY
theorem e_zY_ok : e_zY.ok pg := zeK ok_zY
end
end Go.Proofs.YtlfdidaeachpoaaGreat
