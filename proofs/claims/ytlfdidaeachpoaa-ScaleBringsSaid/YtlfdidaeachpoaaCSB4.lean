/- The reference's long numbers: comparing, sums, differences, The reference's long numbers: products, quotients, The reference's long numbers: quotients, The reference's numbers of the program's: in, out, common divisors, The reference's fractions, The reference's scale of fractions: what it tells, The program's scale of fractions. -/
import Derived.Test.YtlfdidaeachpoaaCSB3
/- The reference's long numbers: comparing, sums, differences. -/
namespace Go.Proofs.Ytlfdidaeachpoaa
open Go Go.RowKit
set_option maxRecDepth 100000
noncomputable section

abbrev R01_Cmp_T (n : Nat) : CallT := tab [e_R01_digit n]
abbrev R01_Cmp_h0 : Cut := ⟨[.keep [2, 3, 6], .gc], [2, 3, 6]⟩
abbrev R01_Cmp_x0 : Cut := ⟨[.keep [], .gc], []⟩
abbrev R01_Cmp_y0 : Cut := ⟨[.keep [4], .gc], [4]⟩
def R01_Cmp_mk0 (i : ((List Int) × (List Int))) (x : Int) : List TV × List (Nat × Ent) := ([.lf (.ptr 32 0), .lf (.ptr 48 0), .lf (.int IntKind.i64 x)], [(32, ⟨true, .cells [.dat (Ty.int IntKind.i64) i.1]⟩), (48, ⟨true, .cells [.dat (Ty.int IntKind.i64) i.2]⟩)])
def R01_Cmp_pt0 : List TV → List (Nat × Ent) → Option (((List Int) × (List Int)) × Int)
  | [.lf (.ptr 32 0), .lf (.ptr 48 0), .lf (.int IntKind.i64 x6)], [(32, ⟨true, .cells [.dat (Ty.int IntKind.i64) h0_0]⟩), (48, ⟨true, .cells [.dat (Ty.int IntKind.i64) h1_0]⟩)] => some ((h0_0, h1_0), x6)
  | _, _ => none
def R01_Cmp_ev0 (i : ((List Int) × (List Int))) : (LR Unit Int) → PE
  | .ex z => .exit 0 [] []
  | .rt z => .ret [.lf (.int IntKind.i64 z)] []
def R01_Cmp_an0 (i : ((List Int) × (List Int))) (r : (LR Unit Int)) : Tree := .ite r.isRt (.leaf (.ret (spSt 38 [4] [.lf (.int IntKind.i64 r.getR)] []))) (.leaf (.exit 0 (spSt 38 [] [] [])))
def R01_Cmp_b0 (n : Nat) (h0_0 : (List Int)) (h1_0 : (List Int)) (x6 : Int) : RT Int (LR Unit Int) :=
  (.rq 2 (.ite (decide ((0 : Int) ≤ x6))
  (.rq 2 (.req (decide ((0 : Int) ≤ x6))
  (.rq 2 (.req (decide ((0 : Int) ≤ x6))
  (.rq 1 (.ite (decide (dig h0_0 x6 < dig h1_0 x6))
  (.rq 1 (.done (.rt ((-1 : Int)))))
  (.rq 2 (.req (decide ((0 : Int) ≤ x6))
  (.rq 2 (.req (decide ((0 : Int) ≤ x6))
  (.rq 1 (.ite (decide (dig h1_0 x6 < dig h0_0 x6))
  (.rq 1 (.done (.rt ((1 : Int)))))
  (.rq 3 (.again (IntKind.i64.wrap (x6 - (1 : Int)))))))))))))))))
  (.done (.ex ()))))
def R01_Cmp_l0 (n : Nat) (i : ((List Int) × (List Int))) : Nat → Int → Option (LR Unit Int) := loopN (fun rec x => (R01_Cmp_b0 n i.1 i.2 x).run rec)
theorem R01_Cmp_l0_s (n : Nat) (i : ((List Int) × (List Int))) (k : Nat) (x : Int) : R01_Cmp_l0 n i (k + 1) x = (R01_Cmp_b0 n i.1 i.2 x).run (R01_Cmp_l0 n i k) := rfl
def R01_Cmp_t0 (n : Nat) (σ : St) : Option Tree := match seeSt R01_Cmp_h0.plan R01_Cmp_h0.ts 38 σ with
  | some y => (match R01_Cmp_pt0 y.1 y.2 with
    | some x => some (loopAns (R01_Cmp_l0 n x.1 n x.2) (R01_Cmp_an0 x.1))
    | none => none)
  | none => none
def R01_Cmp_told (n : Nat) : Nat → St → Option Tree
  | 0, σ => R01_Cmp_t0 n σ
  | _, _ => none
def R01_Cmp_res (y : Int) : CallRes := ⟨true, .lf (.int IntKind.i64 y), [], [], false⟩
def R01_Cmp (n : Nat) (a0_0 : (List Int)) (a1_0 : (List Int)) : RT Unit Int :=
  (.rq 12 (.ite (decide ((↑a0_0.length : Int) < (↑a1_0.length : Int)))
  (.rq 7 (.call (R01_Cmp_l0 n (a0_0, a1_0) n (IntKind.i64.wrap ((↑a1_0.length : Int) - (1 : Int)))) default fun v0 =>
  (.ite (v0.isRt)
  (.done v0.getR)
  (.rq 1 (.done ((0 : Int)))))))
  (.rq 3 (.call (R01_Cmp_l0 n (a0_0, a1_0) n (IntKind.i64.wrap ((↑a0_0.length : Int) - (1 : Int)))) default fun v0 =>
  (.ite (v0.isRt)
  (.done v0.getR)
  (.rq 1 (.done ((0 : Int)))))))))
def F_R01_Cmp (n : Nat) (x : ((List Int) × (List Int))) : Option Int := (R01_Cmp n x.1 x.2).run fun _ => none
def R01_Cmp_ans (F : ((List Int) × (List Int)) → Option Int) : List TV → List Ent → Option CallRes
  | [.agg [.dat (Ty.int IntKind.i64) a0_0], .agg [.dat (Ty.int IntKind.i64) a1_0]], [] => some (callAns (F (a0_0, a1_0)) R01_Cmp_res)
  | _, _ => none
def en_R01_Cmp (F : ((List Int) × (List Int)) → Option Int) : Entry := .data n_R01_Cmp [[Ty.sl (Ty.int IntKind.i64)], [Ty.sl (Ty.int IntKind.i64)]] (R01_Cmp_ans F)
theorem R01_Cmp_T_ok (n : Nat) : SoundT pg (R01_Cmp_T n) := tab_sound ⟨e_R01_digit_ok n, trivial⟩
theorem R01_Cmp_r0 (n : Nat) (h0_0 : (List Int)) (h1_0 : (List Int)) (x6 : Int) : (evCode pg (R01_Cmp_T n) (loopsTold (R01_Cmp_told n)) 0 (lp 0 (codeOf f_R01_Cmp) 0).2 (spSt 38 R01_Cmp_h0.ts [.lf (.ptr 32 0), .lf (.ptr 48 0), .lf (.int IntKind.i64 x6)] [(32, ⟨true, .cells [.dat (Ty.int IntKind.i64) h0_0]⟩), (48, ⟨true, .cells [.dat (Ty.int IntKind.i64) h1_0]⟩)])).pt (seeEv 38 R01_Cmp_h0 R01_Cmp_x0 R01_Cmp_y0) =
    (R01_Cmp_b0 n h0_0 h1_0 x6).pt (fun x' => .norm (R01_Cmp_mk0 (h0_0, h1_0) x').1 (R01_Cmp_mk0 (h0_0, h1_0) x').2) (R01_Cmp_ev0 (h0_0, h1_0)) := by kernel_rfl
theorem R01_Cmp_pm0 : ∀ vs hp x, R01_Cmp_pt0 vs hp = some x → R01_Cmp_mk0 x.1 x.2 = (vs, hp) := by
  intro vs hp x h
  unfold R01_Cmp_pt0 at h
  split at h <;> first | (cases h; rfl) | cases h
theorem R01_Cmp_k0 (n : Nat) : LoopOK pg (loopsTold (R01_Cmp_told n)) (lp 0 (codeOf f_R01_Cmp) 0) :=
  loop_lift pg_mixed (T := (R01_Cmp_T n)) (R01_Cmp_T_ok n) (b := 0) (len := 38) (body := (lp 0 (codeOf f_R01_Cmp) 0).2) (ch := R01_Cmp_h0) (cx := R01_Cmp_x0) (cr := R01_Cmp_y0) R01_Cmp_mk0 R01_Cmp_ev0 R01_Cmp_an0 (fun i x => R01_Cmp_b0 n i.1 i.2 x) n R01_Cmp_pt0 R01_Cmp_pm0 (fun i r K h => by cases r with | ex z => exact h.2 rfl | rt z => exact h.1 rfl)
    regs_told (loops_told0 (by kernel_rfl)) (fun _ => by kernel_rfl) (fun i x => R01_Cmp_r0 n i.1 i.2 x)
theorem R01_Cmp_e (n : Nat) (a0_0 : (List Int)) (a1_0 : (List Int)) : (evFn pg (R01_Cmp_T n) (loopsTold (R01_Cmp_told n)) f_R01_Cmp (codeOf f_R01_Cmp) [.agg [.dat (Ty.int IntKind.i64) a0_0], .agg [.dat (Ty.int IntKind.i64) a1_0]] []).pt (outEv pg f_R01_Cmp 0 [] false) =
    (R01_Cmp n a0_0 a1_0).pt (fun _ => .norm [] []) (fun y => .out (R01_Cmp_res y)) := by kernel_rfl
theorem R01_Cmp_call (n : Nat) (a0_0 : (List Int)) (a1_0 : (List Int)) (y : Int) (hy : F_R01_Cmp n (a0_0, a1_0) = some y) : Enters pg n_R01_Cmp ∧ CallOK pg n_R01_Cmp [.agg [.dat (Ty.int IntKind.i64) a0_0], .agg [.dat (Ty.int IntKind.i64) a1_0]] [] (R01_Cmp_res y) := fn_lift (fn := f_R01_Cmp) pg_mixed (T := R01_Cmp_T n) (R01_Cmp_T_ok n) (L := loopsTold (R01_Cmp_told n)) (by kernel_rfl) (by kernel_rfl) (by kernel_rfl) regs_told (loops_told1 (by kernel_rfl) (R01_Cmp_k0 n)) (args := [.agg [.dat (Ty.int IntKind.i64) a0_0], .agg [.dat (Ty.int IntKind.i64) a1_0]]) (es := []) R01_Cmp_res [] false (fun _ => rfl) (R01_Cmp n a0_0 a1_0) (R01_Cmp_e n a0_0 a1_0) hy
theorem en_R01_Cmp_ok (n : Nat) : (en_R01_Cmp (F_R01_Cmp n)).ok pg := Entry.data_ok <| by
  intro args es r h hv
  unfold R01_Cmp_ans at h
  simp only at h
  split at h
  · rename_i a0_0 a1_0
    cases h
    exact callAns_ok (fun y hy => R01_Cmp_call n a0_0 a1_0 y hy) hv
  · cases h
/-- The function, by what it is known to tell. -/
def sp_R01_Cmp (C : ((List Int) × (List Int)) → Bool) (V : ((List Int) × (List Int)) → Int) : Entry := .data n_R01_Cmp [[Ty.sl (Ty.int IntKind.i64)], [Ty.sl (Ty.int IntKind.i64)]] fun args es => match args, es with
  | [.agg [.dat (Ty.int IntKind.i64) a0_0], .agg [.dat (Ty.int IntKind.i64) a1_0]], [] => some { R01_Cmp_res (V (a0_0, a1_0)) with vc := C (a0_0, a1_0) }
  | _, _ => none
theorem sp_R01_Cmp_ok {C : ((List Int) × (List Int)) → Bool} {V : ((List Int) × (List Int)) → Int} (H : ∀ x, C x = true → ∃ n, F_R01_Cmp n x = some (V x)) : (sp_R01_Cmp C V).ok pg := Entry.data_ok <| by
  intro args es r h hv
  simp only at h
  split at h
  · rename_i a0_0 a1_0
    cases h
    obtain ⟨n, hn⟩ := H (a0_0, a1_0) hv
    exact ⟨(R01_Cmp_call n a0_0 a1_0 _ hn).1, (R01_Cmp_call n a0_0 a1_0 _ hn).2.vc⟩
  · cases h



theorem cmp16_l (n : Nat) {a b : List Int} : ∀ (m k : Nat), m < k → m ≤ 2 ^ 41 → R01_Cmp_l0 n (a, b) k ((m : Int) - 1) = some (if cmpN a b m = 0 then .ex () else .rt (cmpN a b m))
  | 0, k + 1, _, _ => by
    rw [R01_Cmp_l0_s]
    unfold R01_Cmp_b0
    simp [RT.run, cmpN]
  | m + 1, k + 1, hk, hm => by
    rw [R01_Cmp_l0_s]
    unfold R01_Cmp_b0
    have e0 : (((m + 1 : Nat) : Int) - 1) = (m : Int) := by omega
    have w : IntKind.i64.wrap ((m : Int) - 1) = (m : Int) - 1 := i64_in (by omega)
    simp only [RT.run, e0, w]
    have hp : decide ((0 : Int) ≤ (m : Int)) = true := by simp
    simp only [hp, if_true]
    unfold cmpN
    by_cases h1 : dig a (m : Int) < dig b (m : Int)
    · have : cmpI (dig a (m : Int)) (dig b (m : Int)) = -1 := by unfold cmpI; rw [if_pos h1]
      rw [if_pos (decide_eq_true h1), this]
      simp
    · rw [if_neg (by simpa using h1)]
      by_cases h2 : dig b (m : Int) < dig a (m : Int)
      · have : cmpI (dig a (m : Int)) (dig b (m : Int)) = 1 := by unfold cmpI; rw [if_neg h1, if_pos h2]
        rw [if_pos (decide_eq_true h2), this]
        simp
      · have : cmpI (dig a (m : Int)) (dig b (m : Int)) = 0 := by unfold cmpI; rw [if_neg h1, if_neg h2]
        rw [if_neg (by simpa using h2), this]
        simp only [if_true]
        exact cmp16_l n m k (by omega) (by omega)

theorem cmp16_val {a b : List Int} (ha : wfd B16 a = true) (hb : wfd B16 b = true) {m : Nat} (h1 : a.length ≤ m) (h2 : b.length ≤ m) : cmpN a b m = cmpI (val B16 a : Int) (val B16 b : Int) := by
  rw [cmpN_val (by decide) ha hb, Nat.mod_eq_of_lt (Nat.lt_of_lt_of_le (val_lt (by decide) ha) (Nat.pow_le_pow_right (by decide) h1)), Nat.mod_eq_of_lt (Nat.lt_of_lt_of_le (val_lt (by decide) hb) (Nat.pow_le_pow_right (by decide) h2))]

theorem Cmp16_F {a b : List Int} (ha : okM 40 a = true) (hb : okM 40 b = true) : F_R01_Cmp (a.length + b.length + 1) (a, b) = some (cmpI (val B16 a : Int) (val B16 b : Int)) := by
  rw [okM_iff] at ha hb
  unfold F_R01_Cmp R01_Cmp
  have w1 : IntKind.i64.wrap ((a.length : Int) - 1) = (a.length : Int) - 1 := i64_in (by omega)
  have w2 : IntKind.i64.wrap ((b.length : Int) - 1) = (b.length : Int) - 1 := i64_in (by omega)
  simp only [RT.run, w1, w2, decide_eq_true_eq]
  have fin : ∀ m : Nat, a.length ≤ m → b.length ≤ m → m < a.length + b.length + 1 → m ≤ 2 ^ 41 →
      ((R01_Cmp_l0 (a.length + b.length + 1) (a, b) (a.length + b.length + 1) ((m : Int) - 1)).bind fun v => if v.isRt = true then some v.getR else some 0) = some (cmpI (val B16 a : Int) (val B16 b : Int)) := by
    intro m h1 h2 h3 h4
    rw [cmp16_l _ m _ h3 h4, cmp16_val ha.2 hb.2 h1 h2]
    split
    · rename_i h
      rw [h]; rfl
    · rfl
  split
  · exact fin b.length (by omega) (Nat.le_refl _) (by omega) (by omega)
  · exact fin a.length (Nat.le_refl _) (by omega) (by omega) (by omega)

abbrev e_R01_Cmp (_ : Nat) : Entry := sp_R01_Cmp (fun x => okM 40 x.1 && okM 40 x.2) (fun x => cmpI (val B16 x.1 : Int) (val B16 x.2 : Int))
theorem e_R01_Cmp_ok (n : Nat) : (e_R01_Cmp n).ok pg := sp_R01_Cmp_ok fun x h => by
  rw [Bool.and_eq_true] at h
  exact ⟨_, Cmp16_F h.1 h.2⟩

abbrev R01_Add_T (n : Nat) : CallT := tab [e_R01_digit n, e_R01_Cut n]
abbrev R01_Add_h0 : Cut := ⟨[.keep [2, 3, 4, 5, 6, 7], .gc, .nilRow 5 800005 3 (Ty.int IntKind.i64), .ren 5 700005, .ren 5 900005, .gc], [2, 3, 4, 5, 6, 7]⟩
abbrev R01_Add_x0 : Cut := ⟨[.keep [4, 5], .gc, .nilRow 5 800005 3 (Ty.int IntKind.i64), .ren 5 700005, .ren 5 900005, .gc], [4, 5]⟩
abbrev R01_Add_y0 : Cut := ⟨[.keep [4], .gc], [4]⟩
def R01_Add_mk0 (i : ((List Int) × (List Int))) (x : (Int × (Int × (List Int)))) : List TV × List (Nat × Ent) := ([.lf (.ptr 32 0), .lf (.ptr 48 0), .lf (.ptr 64 0), .lf (.ref 900005), .lf (.int IntKind.i64 x.1), .lf (.int IntKind.i64 x.2.1)], [(32, ⟨true, .cells [.dat (Ty.int IntKind.i64) i.1]⟩), (48, ⟨true, .cells [.dat (Ty.int IntKind.i64) i.2]⟩), (64, ⟨true, .cells [.nil]⟩), (900005, ⟨true, .arr 3 (Ty.int IntKind.i64) x.2.2⟩)])
def R01_Add_pt0 : List TV → List (Nat × Ent) → Option (((List Int) × (List Int)) × (Int × (Int × (List Int))))
  | [.lf (.ptr 32 0), .lf (.ptr 48 0), .lf (.ptr 64 0), .lf (.ref 900005), .lf (.int IntKind.i64 x6), .lf (.int IntKind.i64 x7)], [(32, ⟨true, .cells [.dat (Ty.int IntKind.i64) h0_0]⟩), (48, ⟨true, .cells [.dat (Ty.int IntKind.i64) h1_0]⟩), (64, ⟨true, .cells [.nil]⟩), (900005, ⟨true, .arr 3 (Ty.int IntKind.i64) h3⟩)] => some ((h0_0, h1_0), (x6, x7, h3))
  | _, _ => none
def R01_Add_ev0 (i : ((List Int) × (List Int))) (r : (List Int)) : PE := .exit 0 [.lf (.ptr 64 0), .lf (.ref 900005)] [(64, ⟨true, .cells [.nil]⟩), (900005, ⟨true, .arr 3 (Ty.int IntKind.i64) r⟩)]
def R01_Add_an0 (i : ((List Int) × (List Int))) (r : (List Int)) : Tree := .leaf (.exit 0 (spSt 45 [4, 5] [.lf (.ptr 64 0), .lf (.ref 900005)] [(64, ⟨true, .cells [.nil]⟩), (900005, ⟨true, .arr 3 (Ty.int IntKind.i64) r⟩)]))
def R01_Add_b0 (n : Nat) (h0_0 : (List Int)) (h1_0 : (List Int)) (x6 : Int) (x7 : Int) (h3 : (List Int)) : RT (Int × (Int × (List Int))) (List Int) :=
  (.rq 6 (.ite (decide (x7 < (↑h0_0.length : Int)))
  (.rq 2 (.ite (true)
  (.rq 1 (.ite (true)
  (.rq 2 (.req (decide ((0 : Int) ≤ x7))
  (.rq 2 (.req (decide ((0 : Int) ≤ x7))
  (.rq 8 (.req (decide ((h3.length + ((List.replicate (1 : Nat) (0 : Int)).set (0 : Nat) ((IntKind.i64.wrap (IntKind.i64.wrap (dig h0_0 x7 + dig h1_0 x7) + x6)).tmod (65536 : Int))).length) * (8 : Nat) ≤ (140737488355328 : Nat)) &&
  decide (h3.length + ((List.replicate (1 : Nat) (0 : Int)).set (0 : Nat) ((IntKind.i64.wrap (IntKind.i64.wrap (dig h0_0 x7 + dig h1_0 x7) + x6)).tmod (65536 : Int))).length ≤ (9223372036854775807 : Nat)))
  (.rq 7 (.again ((IntKind.i64.wrap ((IntKind.i64.wrap (IntKind.i64.wrap (dig h0_0 x7 + dig h1_0 x7) + x6)).tdiv (65536 : Int)), IntKind.i64.wrap (x7 + (1 : Int)), h3 ++ (List.replicate (1 : Nat) (0 : Int)).set (0 : Nat) ((IntKind.i64.wrap (IntKind.i64.wrap (dig h0_0 x7 + dig h1_0 x7) + x6)).tmod (65536 : Int))))))))))))
  (.done h3)))
  (.rq 3 (.ite (decide ((0 : Int) < x6))
  (.rq 2 (.req (decide ((0 : Int) ≤ x7))
  (.rq 2 (.req (decide ((0 : Int) ≤ x7))
  (.rq 8 (.req (decide ((h3.length + ((List.replicate (1 : Nat) (0 : Int)).set (0 : Nat) ((IntKind.i64.wrap (IntKind.i64.wrap (dig h0_0 x7 + dig h1_0 x7) + x6)).tmod (65536 : Int))).length) * (8 : Nat) ≤ (140737488355328 : Nat)) &&
  decide (h3.length + ((List.replicate (1 : Nat) (0 : Int)).set (0 : Nat) ((IntKind.i64.wrap (IntKind.i64.wrap (dig h0_0 x7 + dig h1_0 x7) + x6)).tmod (65536 : Int))).length ≤ (9223372036854775807 : Nat)))
  (.rq 7 (.again ((IntKind.i64.wrap ((IntKind.i64.wrap (IntKind.i64.wrap (dig h0_0 x7 + dig h1_0 x7) + x6)).tdiv (65536 : Int)), IntKind.i64.wrap (x7 + (1 : Int)), h3 ++ (List.replicate (1 : Nat) (0 : Int)).set (0 : Nat) ((IntKind.i64.wrap (IntKind.i64.wrap (dig h0_0 x7 + dig h1_0 x7) + x6)).tmod (65536 : Int))))))))))))
  (.done h3)))))
  (.rq 7 (.ite (decide (x7 < (↑h1_0.length : Int)))
  (.rq 1 (.ite (true)
  (.rq 2 (.req (decide ((0 : Int) ≤ x7))
  (.rq 2 (.req (decide ((0 : Int) ≤ x7))
  (.rq 8 (.req (decide ((h3.length + ((List.replicate (1 : Nat) (0 : Int)).set (0 : Nat) ((IntKind.i64.wrap (IntKind.i64.wrap (dig h0_0 x7 + dig h1_0 x7) + x6)).tmod (65536 : Int))).length) * (8 : Nat) ≤ (140737488355328 : Nat)) &&
  decide (h3.length + ((List.replicate (1 : Nat) (0 : Int)).set (0 : Nat) ((IntKind.i64.wrap (IntKind.i64.wrap (dig h0_0 x7 + dig h1_0 x7) + x6)).tmod (65536 : Int))).length ≤ (9223372036854775807 : Nat)))
  (.rq 7 (.again ((IntKind.i64.wrap ((IntKind.i64.wrap (IntKind.i64.wrap (dig h0_0 x7 + dig h1_0 x7) + x6)).tdiv (65536 : Int)), IntKind.i64.wrap (x7 + (1 : Int)), h3 ++ (List.replicate (1 : Nat) (0 : Int)).set (0 : Nat) ((IntKind.i64.wrap (IntKind.i64.wrap (dig h0_0 x7 + dig h1_0 x7) + x6)).tmod (65536 : Int))))))))))))
  (.done h3)))
  (.rq 3 (.ite (decide ((0 : Int) < x6))
  (.rq 2 (.req (decide ((0 : Int) ≤ x7))
  (.rq 2 (.req (decide ((0 : Int) ≤ x7))
  (.rq 8 (.req (decide ((h3.length + ((List.replicate (1 : Nat) (0 : Int)).set (0 : Nat) ((IntKind.i64.wrap (IntKind.i64.wrap (dig h0_0 x7 + dig h1_0 x7) + x6)).tmod (65536 : Int))).length) * (8 : Nat) ≤ (140737488355328 : Nat)) &&
  decide (h3.length + ((List.replicate (1 : Nat) (0 : Int)).set (0 : Nat) ((IntKind.i64.wrap (IntKind.i64.wrap (dig h0_0 x7 + dig h1_0 x7) + x6)).tmod (65536 : Int))).length ≤ (9223372036854775807 : Nat)))
  (.rq 7 (.again ((IntKind.i64.wrap ((IntKind.i64.wrap (IntKind.i64.wrap (dig h0_0 x7 + dig h1_0 x7) + x6)).tdiv (65536 : Int)), IntKind.i64.wrap (x7 + (1 : Int)), h3 ++ (List.replicate (1 : Nat) (0 : Int)).set (0 : Nat) ((IntKind.i64.wrap (IntKind.i64.wrap (dig h0_0 x7 + dig h1_0 x7) + x6)).tmod (65536 : Int))))))))))))
  (.done h3)))))))
def R01_Add_l0 (n : Nat) (i : ((List Int) × (List Int))) : Nat → (Int × (Int × (List Int))) → Option (List Int) := loopN (fun rec x => (R01_Add_b0 n i.1 i.2 x.1 x.2.1 x.2.2).run rec)
theorem R01_Add_l0_s (n : Nat) (i : ((List Int) × (List Int))) (k : Nat) (x : (Int × (Int × (List Int)))) : R01_Add_l0 n i (k + 1) x = (R01_Add_b0 n i.1 i.2 x.1 x.2.1 x.2.2).run (R01_Add_l0 n i k) := rfl
def R01_Add_t0 (n : Nat) (σ : St) : Option Tree := match seeSt R01_Add_h0.plan R01_Add_h0.ts 45 σ with
  | some y => (match R01_Add_pt0 y.1 y.2 with
    | some x => some (loopAns (R01_Add_l0 n x.1 n x.2) (R01_Add_an0 x.1))
    | none => none)
  | none => none
def R01_Add_told (n : Nat) : Nat → St → Option Tree
  | 0, σ => R01_Add_t0 n σ
  | _, _ => none
def R01_Add_res (y : (List Int)) : CallRes := ⟨true, .agg [.ref 0], [], [⟨true, .arr 3 (Ty.int IntKind.i64) y⟩], false⟩
def R01_Add (n : Nat) (a0_0 : (List Int)) (a1_0 : (List Int)) : RT Unit (List Int) :=
  (.rq 6 (.call (R01_Add_l0 n (a0_0, a1_0) n ((0 : Int), (0 : Int), nilD (Ty.int IntKind.i64).den)) default fun v0 =>
  (.rq 1 (.req (okM (40 : Nat) v0)
  (.rq 1 (.done (digs B16 (val B16 v0))))))))
def F_R01_Add (n : Nat) (x : ((List Int) × (List Int))) : Option (List Int) := (R01_Add n x.1 x.2).run fun _ => none
def R01_Add_ans (F : ((List Int) × (List Int)) → Option (List Int)) : List TV → List Ent → Option CallRes
  | [.agg [.dat (Ty.int IntKind.i64) a0_0], .agg [.dat (Ty.int IntKind.i64) a1_0]], [] => some (callAns (F (a0_0, a1_0)) R01_Add_res)
  | _, _ => none
def en_R01_Add (F : ((List Int) × (List Int)) → Option (List Int)) : Entry := .data n_R01_Add [[Ty.sl (Ty.int IntKind.i64)], [Ty.sl (Ty.int IntKind.i64)]] (R01_Add_ans F)
theorem R01_Add_T_ok (n : Nat) : SoundT pg (R01_Add_T n) := tab_sound ⟨e_R01_digit_ok n, e_R01_Cut_ok n, trivial⟩
theorem R01_Add_r0 (n : Nat) (h0_0 : (List Int)) (h1_0 : (List Int)) (x6 : Int) (x7 : Int) (h3 : (List Int)) : (evCode pg (R01_Add_T n) (loopsTold (R01_Add_told n)) 0 (lp 0 (codeOf f_R01_Add) 0).2 (spSt 45 R01_Add_h0.ts [.lf (.ptr 32 0), .lf (.ptr 48 0), .lf (.ptr 64 0), .lf (.ref 900005), .lf (.int IntKind.i64 x6), .lf (.int IntKind.i64 x7)] [(32, ⟨true, .cells [.dat (Ty.int IntKind.i64) h0_0]⟩), (48, ⟨true, .cells [.dat (Ty.int IntKind.i64) h1_0]⟩), (64, ⟨true, .cells [.nil]⟩), (900005, ⟨true, .arr 3 (Ty.int IntKind.i64) h3⟩)])).pt (seeEv 45 R01_Add_h0 R01_Add_x0 R01_Add_y0) =
    (R01_Add_b0 n h0_0 h1_0 x6 x7 h3).pt (fun x' => .norm (R01_Add_mk0 (h0_0, h1_0) x').1 (R01_Add_mk0 (h0_0, h1_0) x').2) (R01_Add_ev0 (h0_0, h1_0)) := by kernel_rfl
theorem R01_Add_pm0 : ∀ vs hp x, R01_Add_pt0 vs hp = some x → R01_Add_mk0 x.1 x.2 = (vs, hp) := by
  intro vs hp x h
  unfold R01_Add_pt0 at h
  split at h <;> first | (cases h; rfl) | cases h
theorem R01_Add_k0 (n : Nat) : LoopOK pg (loopsTold (R01_Add_told n)) (lp 0 (codeOf f_R01_Add) 0) :=
  loop_lift pg_mixed (T := (R01_Add_T n)) (R01_Add_T_ok n) (b := 0) (len := 45) (body := (lp 0 (codeOf f_R01_Add) 0).2) (ch := R01_Add_h0) (cx := R01_Add_x0) (cr := R01_Add_y0) R01_Add_mk0 R01_Add_ev0 R01_Add_an0 (fun i x => R01_Add_b0 n i.1 i.2 x.1 x.2.1 x.2.2) n R01_Add_pt0 R01_Add_pm0 (fun i r K h => h)
    regs_told (loops_told0 (by kernel_rfl)) (fun _ => by kernel_rfl) (fun i x => R01_Add_r0 n i.1 i.2 x.1 x.2.1 x.2.2)
theorem R01_Add_e (n : Nat) (a0_0 : (List Int)) (a1_0 : (List Int)) : (evFn pg (R01_Add_T n) (loopsTold (R01_Add_told n)) f_R01_Add (codeOf f_R01_Add) [.agg [.dat (Ty.int IntKind.i64) a0_0], .agg [.dat (Ty.int IntKind.i64) a1_0]] []).pt (outEv pg f_R01_Add 0 [.cellRow 64 0 600064 3 (Ty.int IntKind.i64), .cellRen 64 0 600064] false) =
    (R01_Add n a0_0 a1_0).pt (fun _ => .norm [] []) (fun y => .out (R01_Add_res y)) := by kernel_rfl
theorem R01_Add_call (n : Nat) (a0_0 : (List Int)) (a1_0 : (List Int)) (y : (List Int)) (hy : F_R01_Add n (a0_0, a1_0) = some y) : Enters pg n_R01_Add ∧ CallOK pg n_R01_Add [.agg [.dat (Ty.int IntKind.i64) a0_0], .agg [.dat (Ty.int IntKind.i64) a1_0]] [] (R01_Add_res y) := fn_lift (fn := f_R01_Add) pg_mixed (T := R01_Add_T n) (R01_Add_T_ok n) (L := loopsTold (R01_Add_told n)) (by kernel_rfl) (by kernel_rfl) (by kernel_rfl) regs_told (loops_told1 (by kernel_rfl) (R01_Add_k0 n)) (args := [.agg [.dat (Ty.int IntKind.i64) a0_0], .agg [.dat (Ty.int IntKind.i64) a1_0]]) (es := []) R01_Add_res [.cellRow 64 0 600064 3 (Ty.int IntKind.i64), .cellRen 64 0 600064] false (fun _ => rfl) (R01_Add n a0_0 a1_0) (R01_Add_e n a0_0 a1_0) hy
theorem en_R01_Add_ok (n : Nat) : (en_R01_Add (F_R01_Add n)).ok pg := Entry.data_ok <| by
  intro args es r h hv
  unfold R01_Add_ans at h
  simp only at h
  split at h
  · rename_i a0_0 a1_0
    cases h
    exact callAns_ok (fun y hy => R01_Add_call n a0_0 a1_0 y hy) hv
  · cases h
/-- The function, by what it is known to tell. -/
def sp_R01_Add (C : ((List Int) × (List Int)) → Bool) (V : ((List Int) × (List Int)) → (List Int)) : Entry := .data n_R01_Add [[Ty.sl (Ty.int IntKind.i64)], [Ty.sl (Ty.int IntKind.i64)]] fun args es => match args, es with
  | [.agg [.dat (Ty.int IntKind.i64) a0_0], .agg [.dat (Ty.int IntKind.i64) a1_0]], [] => some { R01_Add_res (V (a0_0, a1_0)) with vc := C (a0_0, a1_0) }
  | _, _ => none
theorem sp_R01_Add_ok {C : ((List Int) × (List Int)) → Bool} {V : ((List Int) × (List Int)) → (List Int)} (H : ∀ x, C x = true → ∃ n, F_R01_Add n x = some (V x)) : (sp_R01_Add C V).ok pg := Entry.data_ok <| by
  intro args es r h hv
  simp only at h
  split at h
  · rename_i a0_0 a1_0
    cases h
    obtain ⟨n, hn⟩ := H (a0_0, a1_0) hv
    exact ⟨(R01_Add_call n a0_0 a1_0 _ hn).1, (R01_Add_call n a0_0 a1_0 _ hn).2.vc⟩
  · cases h



theorem div_pow_zero {xs : List Int} (h : wfd B16 xs = true) {i : Nat} (hi : xs.length ≤ i) : val B16 xs / B16 ^ i = 0 :=
  Nat.div_eq_of_lt (Nat.lt_of_lt_of_le (val_lt (by decide) h) (Nat.pow_le_pow_right (by decide) hi))

theorem div_step (x i : Nat) : x / B16 ^ i = x / B16 ^ i % B16 + B16 * (x / B16 ^ (i + 1)) := by
  rw [Nat.pow_succ, ← Nat.div_div_eq_div_mul]
  exact (Nat.mod_add_div _ _).symm

theorem add16_l (n : Nat) {a b : List Int} (ha : wfd B16 a = true) (hb : wfd B16 b = true) (la : a.length ≤ 2 ^ 39) (lb : b.length ≤ 2 ^ 39) : ∀ (r i o k : Nat) (out : List Int), r < k → i + r = max a.length b.length + 1 → o ≤ 1 → (r = 0 → o = 0) →
    out.length ≤ i → ∃ D, R01_Add_l0 n (a, b) k ((o : Int), (i : Int), out) = some (out ++ D) ∧ wfd B16 D = true ∧ val B16 D = o + val B16 a / B16 ^ i + val B16 b / B16 ^ i ∧ D.length ≤ r := by
  intro r
  induction r with
  | zero =>
    intro i o k out hk hi ho hz hl
    obtain ⟨k, rfl⟩ : ∃ k', k = k' + 1 := ⟨k - 1, by omega⟩
    have := hz rfl
    subst this
    refine ⟨[], ?_, rfl, by rw [div_pow_zero ha (by omega), div_pow_zero hb (by omega)]; rfl, Nat.le_refl _⟩
    rw [R01_Add_l0_s]
    unfold R01_Add_b0
    simp only [RT.run]
    rw [if_neg (by simp; omega), if_neg (by simp; omega), if_neg (by simp)]
    simp
  | succ r ih =>
    intro i o k out hk hi ho _ hl
    obtain ⟨k, rfl⟩ : ∃ k', k = k' + 1 := ⟨k - 1, by omega⟩
    rw [R01_Add_l0_s]
    unfold R01_Add_b0
    obtain ⟨da, ea, ba, va⟩ := dig16 ha i
    obtain ⟨db, eb, bb, vb⟩ := dig16 hb i
    have w1 : IntKind.i64.wrap ((da : Int) + (db : Int)) = ((da + db : Nat) : Int) := by rw [i64_in] <;> omega
    have w2 : IntKind.i64.wrap (((da + db : Nat) : Int) + (o : Int)) = ((da + db + o : Nat) : Int) := by rw [i64_in] <;> omega
    have w3 : IntKind.i64.wrap (((da + db + o) / 65536 : Nat) : Int) = (((da + db + o) / 65536 : Nat) : Int) := by rw [i64_in]; omega
    have w4 : IntKind.i64.wrap ((i : Int) + 1) = ((i + 1 : Nat) : Int) := by rw [i64_in] <;> omega
    have hp : decide ((0 : Int) ≤ (i : Int)) = true := by simp
    have hq : (decide ((out.length + [(((da + db + o) % 65536 : Nat) : Int)].length) * 8 ≤ 140737488355328) && decide (out.length + [(((da + db + o) % 65536 : Nat) : Int)].length ≤ 9223372036854775807)) = true := by
      simp <;> omega
    simp only [RT.run, ea, eb, w1, w2, w3, w4, hp, if_true, rep1, tdiv16, tmod16, hq]
    have step : ∃ D, R01_Add_l0 n (a, b) k ((((da + db + o) / 65536 : Nat) : Int), ((i + 1 : Nat) : Int), out ++ [(((da + db + o) % 65536 : Nat) : Int)]) = some (out ++ D) ∧ wfd B16 D = true ∧ val B16 D = o + val B16 a / B16 ^ i + val B16 b / B16 ^ i ∧ D.length ≤ r + 1 := by
      obtain ⟨D, h1, h2, h3, h4⟩ := ih (i + 1) ((da + db + o) / 65536) k (out ++ [(((da + db + o) % 65536 : Nat) : Int)]) (by omega) (by omega) (by omega) (fun h => by
        subst h
        have z1 := div_pow_zero ha (i := i) (by omega)
        have z2 := div_pow_zero hb (i := i) (by omega)
        rw [z1] at va
        rw [z2] at vb
        simp at va vb
        omega) (by simp; omega)
      refine ⟨(((da + db + o) % 65536 : Nat) : Int) :: D, by rw [h1, List.append_assoc]; rfl, wfd_cons.2 ⟨⟨Int.natCast_nonneg _, Int.ofNat_lt.2 (Nat.mod_lt _ (by decide))⟩, h2⟩, ?_, by simp; omega⟩
      rw [val, Int.toNat_natCast, h3]
      have s1 := div_step (val B16 a) i
      have s2 := div_step (val B16 b) i
      rw [← va] at s1
      rw [← vb] at s2
      have hB : B16 = 65536 := rfl
      simp only [hB] at *
      omega
    by_cases h1 : (i : Int) < (a.length : Int)
    · rw [if_pos (decide_eq_true h1)]; exact step
    · rw [if_neg (by simpa using h1)]
      by_cases h2 : (i : Int) < (b.length : Int)
      · rw [if_pos (decide_eq_true h2)]; exact step
      · rw [if_neg (by simpa using h2)]
        by_cases h3 : (0 : Int) < (o : Int)
        · rw [if_pos (decide_eq_true h3)]; exact step
        · rw [if_neg (by simpa using h3)]
          refine ⟨[], by simp, rfl, ?_, by simp⟩
          rw [div_pow_zero ha (by omega), div_pow_zero hb (by omega)]
          show 0 = _
          omega

theorem Add16_F {a b : List Int} (ha : okM 39 a = true) (hb : okM 39 b = true) : F_R01_Add (a.length + b.length + 3) (a, b) = some (digs B16 (val B16 a + val B16 b)) := by
  rw [okM_iff] at ha hb
  unfold F_R01_Add R01_Add
  simp only [RT.run, nilD]
  obtain ⟨D, h1, h2, h3, h4⟩ := add16_l (a.length + b.length + 3) ha.2 hb.2 ha.1 hb.1 (max a.length b.length + 1) 0 0 (a.length + b.length + 3) [] (by omega) (by omega) (by omega) (by simp) (by simp)
  change (R01_Add_l0 _ (a, b) _ (((0 : Nat) : Int), ((0 : Nat) : Int), [])).bind _ = _
  rw [h1]
  simp only [Option.bind_some, List.nil_append]
  rw [if_pos (okM_iff.2 ⟨by omega, h2⟩), h3]
  simp

abbrev e_R01_Add (_ : Nat) : Entry := sp_R01_Add (fun x => okM 39 x.1 && okM 39 x.2) (fun x => digs B16 (val B16 x.1 + val B16 x.2))
theorem e_R01_Add_ok (n : Nat) : (e_R01_Add n).ok pg := sp_R01_Add_ok fun x h => by
  rw [Bool.and_eq_true] at h
  exact ⟨_, Add16_F h.1 h.2⟩

abbrev R01_Sub_T (n : Nat) : CallT := tab [e_R01_digit n, e_R01_Cut n]
abbrev R01_Sub_h0 : Cut := ⟨[.keep [2, 3, 4, 5, 6, 7], .gc, .nilRow 5 800005 3 (Ty.int IntKind.i64), .ren 5 700005, .ren 5 900005, .gc], [2, 3, 4, 5, 6, 7]⟩
abbrev R01_Sub_x0 : Cut := ⟨[.keep [4, 5], .gc, .nilRow 5 800005 3 (Ty.int IntKind.i64), .ren 5 700005, .ren 5 900005, .gc], [4, 5]⟩
abbrev R01_Sub_y0 : Cut := ⟨[.keep [4], .gc], [4]⟩
def R01_Sub_mk0 (i : ((List Int) × (List Int))) (x : (Int × (Int × (List Int)))) : List TV × List (Nat × Ent) := ([.lf (.ptr 32 0), .lf (.ptr 48 0), .lf (.ptr 64 0), .lf (.ref 900005), .lf (.int IntKind.i64 x.1), .lf (.int IntKind.i64 x.2.1)], [(32, ⟨true, .cells [.dat (Ty.int IntKind.i64) i.1]⟩), (48, ⟨true, .cells [.dat (Ty.int IntKind.i64) i.2]⟩), (64, ⟨true, .cells [.nil]⟩), (900005, ⟨true, .arr 3 (Ty.int IntKind.i64) x.2.2⟩)])
def R01_Sub_pt0 : List TV → List (Nat × Ent) → Option (((List Int) × (List Int)) × (Int × (Int × (List Int))))
  | [.lf (.ptr 32 0), .lf (.ptr 48 0), .lf (.ptr 64 0), .lf (.ref 900005), .lf (.int IntKind.i64 x6), .lf (.int IntKind.i64 x7)], [(32, ⟨true, .cells [.dat (Ty.int IntKind.i64) h0_0]⟩), (48, ⟨true, .cells [.dat (Ty.int IntKind.i64) h1_0]⟩), (64, ⟨true, .cells [.nil]⟩), (900005, ⟨true, .arr 3 (Ty.int IntKind.i64) h3⟩)] => some ((h0_0, h1_0), (x6, x7, h3))
  | _, _ => none
def R01_Sub_ev0 (i : ((List Int) × (List Int))) (r : (List Int)) : PE := .exit 0 [.lf (.ptr 64 0), .lf (.ref 900005)] [(64, ⟨true, .cells [.nil]⟩), (900005, ⟨true, .arr 3 (Ty.int IntKind.i64) r⟩)]
def R01_Sub_an0 (i : ((List Int) × (List Int))) (r : (List Int)) : Tree := .leaf (.exit 0 (spSt 35 [4, 5] [.lf (.ptr 64 0), .lf (.ref 900005)] [(64, ⟨true, .cells [.nil]⟩), (900005, ⟨true, .arr 3 (Ty.int IntKind.i64) r⟩)]))
def R01_Sub_b0 (n : Nat) (h0_0 : (List Int)) (h1_0 : (List Int)) (x6 : Int) (x7 : Int) (h3 : (List Int)) : RT (Int × (Int × (List Int))) (List Int) :=
  (.rq 5 (.ite (decide (x7 < (↑h0_0.length : Int)))
  (.rq 2 (.req (decide ((0 : Int) ≤ x7))
  (.rq 2 (.req (decide ((0 : Int) ≤ x7))
  (.rq 7 (.ite (decide (IntKind.i64.wrap (IntKind.i64.wrap (dig h0_0 x7 - dig h1_0 x7) - x6) < (0 : Int)))
  (.rq 7 (.req (decide ((h3.length + ((List.replicate (1 : Nat) (0 : Int)).set (0 : Nat) (IntKind.i64.wrap (IntKind.i64.wrap (IntKind.i64.wrap (dig h0_0 x7 - dig h1_0 x7) - x6) + (65536 : Int)))).length) * (8 : Nat) ≤ (140737488355328 : Nat)) &&
  decide (h3.length + ((List.replicate (1 : Nat) (0 : Int)).set (0 : Nat) (IntKind.i64.wrap (IntKind.i64.wrap (IntKind.i64.wrap (dig h0_0 x7 - dig h1_0 x7) - x6) + (65536 : Int)))).length ≤ (9223372036854775807 : Nat)))
  (.rq 4 (.again (((1 : Int), IntKind.i64.wrap (x7 + (1 : Int)), h3 ++ (List.replicate (1 : Nat) (0 : Int)).set (0 : Nat) (IntKind.i64.wrap (IntKind.i64.wrap (IntKind.i64.wrap (dig h0_0 x7 - dig h1_0 x7) - x6) + (65536 : Int)))))))))
  (.rq 3 (.req (decide ((h3.length + ((List.replicate (1 : Nat) (0 : Int)).set (0 : Nat) (IntKind.i64.wrap (IntKind.i64.wrap (dig h0_0 x7 - dig h1_0 x7) - x6))).length) * (8 : Nat) ≤ (140737488355328 : Nat)) &&
  decide (h3.length + ((List.replicate (1 : Nat) (0 : Int)).set (0 : Nat) (IntKind.i64.wrap (IntKind.i64.wrap (dig h0_0 x7 - dig h1_0 x7) - x6))).length ≤ (9223372036854775807 : Nat)))
  (.rq 4 (.again (((0 : Int), IntKind.i64.wrap (x7 + (1 : Int)), h3 ++ (List.replicate (1 : Nat) (0 : Int)).set (0 : Nat) (IntKind.i64.wrap (IntKind.i64.wrap (dig h0_0 x7 - dig h1_0 x7) - x6))))))))))))))
  (.done h3)))
def R01_Sub_l0 (n : Nat) (i : ((List Int) × (List Int))) : Nat → (Int × (Int × (List Int))) → Option (List Int) := loopN (fun rec x => (R01_Sub_b0 n i.1 i.2 x.1 x.2.1 x.2.2).run rec)
theorem R01_Sub_l0_s (n : Nat) (i : ((List Int) × (List Int))) (k : Nat) (x : (Int × (Int × (List Int)))) : R01_Sub_l0 n i (k + 1) x = (R01_Sub_b0 n i.1 i.2 x.1 x.2.1 x.2.2).run (R01_Sub_l0 n i k) := rfl
def R01_Sub_t0 (n : Nat) (σ : St) : Option Tree := match seeSt R01_Sub_h0.plan R01_Sub_h0.ts 35 σ with
  | some y => (match R01_Sub_pt0 y.1 y.2 with
    | some x => some (loopAns (R01_Sub_l0 n x.1 n x.2) (R01_Sub_an0 x.1))
    | none => none)
  | none => none
def R01_Sub_told (n : Nat) : Nat → St → Option Tree
  | 0, σ => R01_Sub_t0 n σ
  | _, _ => none
def R01_Sub_res (y : (List Int)) : CallRes := ⟨true, .agg [.ref 0], [], [⟨true, .arr 3 (Ty.int IntKind.i64) y⟩], false⟩
def R01_Sub (n : Nat) (a0_0 : (List Int)) (a1_0 : (List Int)) : RT Unit (List Int) :=
  (.rq 6 (.call (R01_Sub_l0 n (a0_0, a1_0) n ((0 : Int), (0 : Int), nilD (Ty.int IntKind.i64).den)) default fun v0 =>
  (.rq 1 (.req (okM (40 : Nat) v0)
  (.rq 1 (.done (digs B16 (val B16 v0))))))))
def F_R01_Sub (n : Nat) (x : ((List Int) × (List Int))) : Option (List Int) := (R01_Sub n x.1 x.2).run fun _ => none
def R01_Sub_ans (F : ((List Int) × (List Int)) → Option (List Int)) : List TV → List Ent → Option CallRes
  | [.agg [.dat (Ty.int IntKind.i64) a0_0], .agg [.dat (Ty.int IntKind.i64) a1_0]], [] => some (callAns (F (a0_0, a1_0)) R01_Sub_res)
  | _, _ => none
def en_R01_Sub (F : ((List Int) × (List Int)) → Option (List Int)) : Entry := .data n_R01_Sub [[Ty.sl (Ty.int IntKind.i64)], [Ty.sl (Ty.int IntKind.i64)]] (R01_Sub_ans F)
theorem R01_Sub_T_ok (n : Nat) : SoundT pg (R01_Sub_T n) := tab_sound ⟨e_R01_digit_ok n, e_R01_Cut_ok n, trivial⟩
theorem R01_Sub_r0 (n : Nat) (h0_0 : (List Int)) (h1_0 : (List Int)) (x6 : Int) (x7 : Int) (h3 : (List Int)) : (evCode pg (R01_Sub_T n) (loopsTold (R01_Sub_told n)) 0 (lp 0 (codeOf f_R01_Sub) 0).2 (spSt 35 R01_Sub_h0.ts [.lf (.ptr 32 0), .lf (.ptr 48 0), .lf (.ptr 64 0), .lf (.ref 900005), .lf (.int IntKind.i64 x6), .lf (.int IntKind.i64 x7)] [(32, ⟨true, .cells [.dat (Ty.int IntKind.i64) h0_0]⟩), (48, ⟨true, .cells [.dat (Ty.int IntKind.i64) h1_0]⟩), (64, ⟨true, .cells [.nil]⟩), (900005, ⟨true, .arr 3 (Ty.int IntKind.i64) h3⟩)])).pt (seeEv 35 R01_Sub_h0 R01_Sub_x0 R01_Sub_y0) =
    (R01_Sub_b0 n h0_0 h1_0 x6 x7 h3).pt (fun x' => .norm (R01_Sub_mk0 (h0_0, h1_0) x').1 (R01_Sub_mk0 (h0_0, h1_0) x').2) (R01_Sub_ev0 (h0_0, h1_0)) := by kernel_rfl
theorem R01_Sub_pm0 : ∀ vs hp x, R01_Sub_pt0 vs hp = some x → R01_Sub_mk0 x.1 x.2 = (vs, hp) := by
  intro vs hp x h
  unfold R01_Sub_pt0 at h
  split at h <;> first | (cases h; rfl) | cases h
theorem R01_Sub_k0 (n : Nat) : LoopOK pg (loopsTold (R01_Sub_told n)) (lp 0 (codeOf f_R01_Sub) 0) :=
  loop_lift pg_mixed (T := (R01_Sub_T n)) (R01_Sub_T_ok n) (b := 0) (len := 35) (body := (lp 0 (codeOf f_R01_Sub) 0).2) (ch := R01_Sub_h0) (cx := R01_Sub_x0) (cr := R01_Sub_y0) R01_Sub_mk0 R01_Sub_ev0 R01_Sub_an0 (fun i x => R01_Sub_b0 n i.1 i.2 x.1 x.2.1 x.2.2) n R01_Sub_pt0 R01_Sub_pm0 (fun i r K h => h)
    regs_told (loops_told0 (by kernel_rfl)) (fun _ => by kernel_rfl) (fun i x => R01_Sub_r0 n i.1 i.2 x.1 x.2.1 x.2.2)
theorem R01_Sub_e (n : Nat) (a0_0 : (List Int)) (a1_0 : (List Int)) : (evFn pg (R01_Sub_T n) (loopsTold (R01_Sub_told n)) f_R01_Sub (codeOf f_R01_Sub) [.agg [.dat (Ty.int IntKind.i64) a0_0], .agg [.dat (Ty.int IntKind.i64) a1_0]] []).pt (outEv pg f_R01_Sub 0 [.cellRow 64 0 600064 3 (Ty.int IntKind.i64), .cellRen 64 0 600064] false) =
    (R01_Sub n a0_0 a1_0).pt (fun _ => .norm [] []) (fun y => .out (R01_Sub_res y)) := by kernel_rfl
theorem R01_Sub_call (n : Nat) (a0_0 : (List Int)) (a1_0 : (List Int)) (y : (List Int)) (hy : F_R01_Sub n (a0_0, a1_0) = some y) : Enters pg n_R01_Sub ∧ CallOK pg n_R01_Sub [.agg [.dat (Ty.int IntKind.i64) a0_0], .agg [.dat (Ty.int IntKind.i64) a1_0]] [] (R01_Sub_res y) := fn_lift (fn := f_R01_Sub) pg_mixed (T := R01_Sub_T n) (R01_Sub_T_ok n) (L := loopsTold (R01_Sub_told n)) (by kernel_rfl) (by kernel_rfl) (by kernel_rfl) regs_told (loops_told1 (by kernel_rfl) (R01_Sub_k0 n)) (args := [.agg [.dat (Ty.int IntKind.i64) a0_0], .agg [.dat (Ty.int IntKind.i64) a1_0]]) (es := []) R01_Sub_res [.cellRow 64 0 600064 3 (Ty.int IntKind.i64), .cellRen 64 0 600064] false (fun _ => rfl) (R01_Sub n a0_0 a1_0) (R01_Sub_e n a0_0 a1_0) hy
theorem en_R01_Sub_ok (n : Nat) : (en_R01_Sub (F_R01_Sub n)).ok pg := Entry.data_ok <| by
  intro args es r h hv
  unfold R01_Sub_ans at h
  simp only at h
  split at h
  · rename_i a0_0 a1_0
    cases h
    exact callAns_ok (fun y hy => R01_Sub_call n a0_0 a1_0 y hy) hv
  · cases h
/-- The function, by what it is known to tell. -/
def sp_R01_Sub (C : ((List Int) × (List Int)) → Bool) (V : ((List Int) × (List Int)) → (List Int)) : Entry := .data n_R01_Sub [[Ty.sl (Ty.int IntKind.i64)], [Ty.sl (Ty.int IntKind.i64)]] fun args es => match args, es with
  | [.agg [.dat (Ty.int IntKind.i64) a0_0], .agg [.dat (Ty.int IntKind.i64) a1_0]], [] => some { R01_Sub_res (V (a0_0, a1_0)) with vc := C (a0_0, a1_0) }
  | _, _ => none
theorem sp_R01_Sub_ok {C : ((List Int) × (List Int)) → Bool} {V : ((List Int) × (List Int)) → (List Int)} (H : ∀ x, C x = true → ∃ n, F_R01_Sub n x = some (V x)) : (sp_R01_Sub C V).ok pg := Entry.data_ok <| by
  intro args es r h hv
  simp only at h
  split at h
  · rename_i a0_0 a1_0
    cases h
    obtain ⟨n, hn⟩ := H (a0_0, a1_0) hv
    exact ⟨(R01_Sub_call n a0_0 a1_0 _ hn).1, (R01_Sub_call n a0_0 a1_0 _ hn).2.vc⟩
  · cases h



theorem sub16_l (n : Nat) {a b : List Int} (ha : wfd B16 a = true) (hb : wfd B16 b = true) (la : a.length ≤ 2 ^ 39) : ∀ (r i u k : Nat) (out : List Int), r < k → i + r = a.length → u ≤ 1 → out.length ≤ i →
    ∃ D uf, R01_Sub_l0 n (a, b) k ((u : Int), (i : Int), out) = some (out ++ D) ∧ wfd B16 D = true ∧ D.length = r ∧ uf ≤ 1 ∧ val B16 D + val B16 b / B16 ^ i % B16 ^ r + u = val B16 a / B16 ^ i % B16 ^ r + B16 ^ r * uf := by
  intro r
  induction r with
  | zero =>
    intro i u k out hk hi hu hl
    obtain ⟨k, rfl⟩ : ∃ k', k = k' + 1 := ⟨k - 1, by omega⟩
    refine ⟨[], u, ?_, rfl, rfl, hu, by simp [val, Nat.mod_one]⟩
    rw [R01_Sub_l0_s]
    unfold R01_Sub_b0
    simp only [RT.run]
    rw [if_neg (by simp; omega)]
    simp
  | succ r ih =>
    intro i u k out hk hi hu hl
    obtain ⟨k, rfl⟩ : ∃ k', k = k' + 1 := ⟨k - 1, by omega⟩
    rw [R01_Sub_l0_s]
    unfold R01_Sub_b0
    obtain ⟨da, ea, ba, va⟩ := dig16 ha i
    obtain ⟨db, eb, bb, vb⟩ := dig16 hb i
    have w1 : IntKind.i64.wrap ((da : Int) - (db : Int)) = (da : Int) - (db : Int) := by rw [i64_in]; omega
    have w2 : IntKind.i64.wrap ((da : Int) - (db : Int) - (u : Int)) = (da : Int) - (db : Int) - (u : Int) := by rw [i64_in]; omega
    have w3 : IntKind.i64.wrap ((da : Int) - (db : Int) - (u : Int) + 65536) = (da : Int) - (db : Int) - (u : Int) + 65536 := by rw [i64_in]; omega
    have w4 : IntKind.i64.wrap ((i : Int) + 1) = ((i + 1 : Nat) : Int) := by rw [i64_in] <;> omega
    have hp : decide ((0 : Int) ≤ (i : Int)) = true := by simp
    have hq : ∀ x : Int, (decide ((out.length + [x].length) * 8 ≤ 140737488355328) && decide (out.length + [x].length ≤ 9223372036854775807)) = true := by
      intro x; simp <;> omega
    simp only [RT.run, ea, eb, w1, w2, w3, w4, hp, if_true, rep1, hq]
    rw [if_pos (by simp; omega)]
    have m1 := mod_step B16 (val B16 a / B16 ^ i) r
    have m2 := mod_step B16 (val B16 b / B16 ^ i) r
    rw [Nat.div_div_eq_div_mul, ← Nat.pow_succ, ← va] at m1
    rw [Nat.div_div_eq_div_mul, ← Nat.pow_succ, ← vb] at m2
    have step : ∀ (x u' : Nat), x < 65536 → u' ≤ 1 → x + db + u = da + 65536 * u' → ∃ D uf, R01_Sub_l0 n (a, b) k ((u' : Int), ((i + 1 : Nat) : Int), out ++ [(x : Int)]) = some (out ++ D) ∧ wfd B16 D = true ∧ D.length = r + 1 ∧ uf ≤ 1 ∧
        val B16 D + val B16 b / B16 ^ i % B16 ^ (r + 1) + u = val B16 a / B16 ^ i % B16 ^ (r + 1) + B16 ^ (r + 1) * uf := by
      intro x u' hx hu' hxe
      obtain ⟨D, uf, h1, h2, h3, h4, h5⟩ := ih (i + 1) u' k (out ++ [(x : Int)]) (by omega) (by omega) hu' (by simp; omega)
      refine ⟨(x : Int) :: D, uf, by rw [h1, List.append_assoc]; rfl, wfd_cons.2 ⟨⟨Int.natCast_nonneg _, Int.ofNat_lt.2 hx⟩, h2⟩, by simp [h3], h4, ?_⟩
      have pr : B16 ^ (r + 1) = B16 * B16 ^ r := by rw [Nat.pow_succ, Nat.mul_comm]
      rw [val, Int.toNat_natCast, m1, m2, pr, Nat.mul_assoc, show i.succ = i + 1 from rfl]
      have hB : B16 = 65536 := rfl
      generalize val B16 a / B16 ^ (i + 1) % B16 ^ r = P at *
      generalize val B16 b / B16 ^ (i + 1) % B16 ^ r = Q at *
      generalize B16 ^ r * uf = W at *
      generalize val B16 D = V at *
      rw [hB] at *
      omega
    by_cases h : da < db + u
    · rw [if_pos (by simp; omega)]
      have e : (da : Int) - (db : Int) - (u : Int) + 65536 = ((da + 65536 - db - u : Nat) : Int) := by omega
      rw [e]
      exact step _ 1 (by omega) (by omega) (by omega)
    · rw [if_neg (by simp; omega)]
      have e : (da : Int) - (db : Int) - (u : Int) = ((da - db - u : Nat) : Int) := by omega
      rw [e]
      exact step _ 0 (by omega) (by omega) (by omega)

theorem Sub16_F {a b : List Int} (ha : okM 39 a = true) (hb : okM 39 b = true) (hle : val B16 b ≤ val B16 a) : F_R01_Sub (a.length + 1) (a, b) = some (digs B16 (val B16 a - val B16 b)) := by
  rw [okM_iff] at ha hb
  unfold F_R01_Sub R01_Sub
  simp only [RT.run, nilD]
  obtain ⟨D, uf, h1, h2, h3, h4, h5⟩ := sub16_l (a.length + 1) ha.2 hb.2 ha.1 a.length 0 0 (a.length + 1) [] (by omega) (by omega) (by omega) (by simp)
  change (R01_Sub_l0 _ (a, b) _ (((0 : Nat) : Int), ((0 : Nat) : Int), [])).bind _ = _
  rw [h1]
  simp only [Option.bind_some, List.nil_append]
  have hv := val_lt (by decide : 0 < B16) ha.2
  have hd := val_lt (by decide : 0 < B16) h2
  rw [h3] at hd
  rw [Nat.pow_zero, Nat.div_one, Nat.div_one, Nat.mod_eq_of_lt hv, Nat.mod_eq_of_lt (Nat.lt_of_le_of_lt hle hv)] at h5
  have hz : uf = 0 := by
    have : uf ≠ 1 := by
      rintro rfl
      omega
    omega
  subst hz
  rw [if_pos (okM_iff.2 ⟨by omega, h2⟩), show val B16 D = val B16 a - val B16 b by omega]

abbrev e_R01_Sub (_ : Nat) : Entry := sp_R01_Sub (fun x => okM 39 x.1 && okM 39 x.2 && decide (val B16 x.2 ≤ val B16 x.1)) (fun x => digs B16 (val B16 x.1 - val B16 x.2))
theorem e_R01_Sub_ok (n : Nat) : (e_R01_Sub n).ok pg := sp_R01_Sub_ok fun x h => by
  simp only [Bool.and_eq_true, decide_eq_true_eq] at h
  exact ⟨_, Sub16_F h.1.1 h.1.2 h.2⟩

end
end Go.Proofs.Ytlfdidaeachpoaa

/- The reference's long numbers: products, quotients. -/
namespace Go.Proofs.Ytlfdidaeachpoaa
open Go Go.RowKit
set_option maxRecDepth 100000
noncomputable section

abbrev R01_Mul_T (n : Nat) : CallT := tab [e_R01_digit n, e_R01_Cut n]
abbrev R01_Mul_h2 : Cut := ⟨[.keep [2, 3, 4, 5, 6, 7, 8], .gc, .nilRow 5 800005 3 (Ty.int IntKind.i64), .ren 5 700005, .ren 5 900005, .gc], [2, 3, 4, 5, 6, 7, 8]⟩
abbrev R01_Mul_x2 : Cut := ⟨[.keep [2, 3, 4, 5, 6], .gc, .nilRow 5 800005 3 (Ty.int IntKind.i64), .ren 5 700005, .ren 5 900005, .gc], [2, 3, 4, 5, 6]⟩
abbrev R01_Mul_y2 : Cut := ⟨[.keep [4], .gc], [4]⟩
def R01_Mul_mk2 (i : (Int × ((List Int) × (List Int)))) (x : (Int × (Int × (List Int)))) : List TV × List (Nat × Ent) := ([.lf (.ptr 32 0), .lf (.ptr 48 0), .lf (.ptr 64 0), .lf (.ref 900005), .lf (.int IntKind.i64 i.1), .lf (.int IntKind.i64 x.1), .lf (.int IntKind.i64 x.2.1)], [(32, ⟨true, .cells [.dat (Ty.int IntKind.i64) i.2.1]⟩), (48, ⟨true, .cells [.dat (Ty.int IntKind.i64) i.2.2]⟩), (64, ⟨true, .cells [.nil]⟩), (900005, ⟨true, .arr 3 (Ty.int IntKind.i64) x.2.2⟩)])
def R01_Mul_pt2 : List TV → List (Nat × Ent) → Option ((Int × ((List Int) × (List Int))) × (Int × (Int × (List Int))))
  | [.lf (.ptr 32 0), .lf (.ptr 48 0), .lf (.ptr 64 0), .lf (.ref 900005), .lf (.int IntKind.i64 x6), .lf (.int IntKind.i64 x7), .lf (.int IntKind.i64 x8)], [(32, ⟨true, .cells [.dat (Ty.int IntKind.i64) h0_0]⟩), (48, ⟨true, .cells [.dat (Ty.int IntKind.i64) h1_0]⟩), (64, ⟨true, .cells [.nil]⟩), (900005, ⟨true, .arr 3 (Ty.int IntKind.i64) h3⟩)] => some ((x6, h0_0, h1_0), (x7, x8, h3))
  | _, _ => none
def R01_Mul_ev2 (i : (Int × ((List Int) × (List Int)))) (r : (List Int)) : PE := .exit 2 [.lf (.ptr 32 0), .lf (.ptr 48 0), .lf (.ptr 64 0), .lf (.ref 900005), .lf (.int IntKind.i64 i.1)] [(32, ⟨true, .cells [.dat (Ty.int IntKind.i64) i.2.1]⟩), (48, ⟨true, .cells [.dat (Ty.int IntKind.i64) i.2.2]⟩), (64, ⟨true, .cells [.nil]⟩), (900005, ⟨true, .arr 3 (Ty.int IntKind.i64) r⟩)]
def R01_Mul_an2 (i : (Int × ((List Int) × (List Int)))) (r : (List Int)) : Tree := .leaf (.exit 2 (spSt 66 [2, 3, 4, 5, 6] [.lf (.ptr 32 0), .lf (.ptr 48 0), .lf (.ptr 64 0), .lf (.ref 900005), .lf (.int IntKind.i64 i.1)] [(32, ⟨true, .cells [.dat (Ty.int IntKind.i64) i.2.1]⟩), (48, ⟨true, .cells [.dat (Ty.int IntKind.i64) i.2.2]⟩), (64, ⟨true, .cells [.nil]⟩), (900005, ⟨true, .arr 3 (Ty.int IntKind.i64) r⟩)]))
def R01_Mul_b2 (n : Nat) (x6 : Int) (h0_0 : (List Int)) (h1_0 : (List Int)) (x7 : Int) (x8 : Int) (h3 : (List Int)) : RT (Int × (Int × (List Int))) (List Int) :=
  (.rq 6 (.ite (decide (x8 < (↑h1_0.length : Int)))
  (.rq 1 (.ite (true)
  (.rq 4 (.req (decide ((0 : Int) ≤ IntKind.i64.wrap (x6 + x8)) && decide (IntKind.i64.wrap (x6 + x8) < (↑h3.length : Int)))
  (.rq 4 (.req (decide ((0 : Int) ≤ x6) && decide (x6 < (↑h0_0.length : Int)))
  (.rq 3 (.req (decide ((0 : Int) ≤ x8))
  (.rq 11 (.req (decide ((0 : Int) ≤ IntKind.i64.wrap (x6 + x8)) && decide (IntKind.i64.wrap (x6 + x8) < (↑h3.length : Int)))
  (.rq 7 (.again ((IntKind.i64.wrap ((IntKind.i64.wrap (IntKind.i64.wrap (h3.getD (IntKind.i64.wrap (x6 + x8)).toNat (0 : Int) + IntKind.i64.wrap (h0_0.getD x6.toNat (0 : Int) * dig h1_0 x8)) + x7)).tdiv (65536 : Int)), IntKind.i64.wrap (x8 + (1 : Int)), h3.set (IntKind.i64.wrap (x6 + x8)).toNat ((IntKind.i64.wrap (IntKind.i64.wrap (h3.getD (IntKind.i64.wrap (x6 + x8)).toNat (0 : Int) + IntKind.i64.wrap (h0_0.getD x6.toNat (0 : Int) * dig h1_0 x8)) + x7)).tmod (65536 : Int))))))))))))))
  (.done h3)))
  (.rq 3 (.ite (decide ((0 : Int) < x7))
  (.rq 4 (.req (decide ((0 : Int) ≤ IntKind.i64.wrap (x6 + x8)) && decide (IntKind.i64.wrap (x6 + x8) < (↑h3.length : Int)))
  (.rq 4 (.req (decide ((0 : Int) ≤ x6) && decide (x6 < (↑h0_0.length : Int)))
  (.rq 3 (.req (decide ((0 : Int) ≤ x8))
  (.rq 11 (.req (decide ((0 : Int) ≤ IntKind.i64.wrap (x6 + x8)) && decide (IntKind.i64.wrap (x6 + x8) < (↑h3.length : Int)))
  (.rq 7 (.again ((IntKind.i64.wrap ((IntKind.i64.wrap (IntKind.i64.wrap (h3.getD (IntKind.i64.wrap (x6 + x8)).toNat (0 : Int) + IntKind.i64.wrap (h0_0.getD x6.toNat (0 : Int) * dig h1_0 x8)) + x7)).tdiv (65536 : Int)), IntKind.i64.wrap (x8 + (1 : Int)), h3.set (IntKind.i64.wrap (x6 + x8)).toNat ((IntKind.i64.wrap (IntKind.i64.wrap (h3.getD (IntKind.i64.wrap (x6 + x8)).toNat (0 : Int) + IntKind.i64.wrap (h0_0.getD x6.toNat (0 : Int) * dig h1_0 x8)) + x7)).tmod (65536 : Int))))))))))))))
  (.done h3)))))
def R01_Mul_l2 (n : Nat) (i : (Int × ((List Int) × (List Int)))) : Nat → (Int × (Int × (List Int))) → Option (List Int) := loopN (fun rec x => (R01_Mul_b2 n i.1 i.2.1 i.2.2 x.1 x.2.1 x.2.2).run rec)
theorem R01_Mul_l2_s (n : Nat) (i : (Int × ((List Int) × (List Int)))) (k : Nat) (x : (Int × (Int × (List Int)))) : R01_Mul_l2 n i (k + 1) x = (R01_Mul_b2 n i.1 i.2.1 i.2.2 x.1 x.2.1 x.2.2).run (R01_Mul_l2 n i k) := rfl
def R01_Mul_t2 (n : Nat) (σ : St) : Option Tree := match seeSt R01_Mul_h2.plan R01_Mul_h2.ts 66 σ with
  | some y => (match R01_Mul_pt2 y.1 y.2 with
    | some x => some (loopAns (R01_Mul_l2 n x.1 n x.2) (R01_Mul_an2 x.1))
    | none => none)
  | none => none
abbrev R01_Mul_h0 : Cut := ⟨[.keep [2, 3, 4, 5, 6], .gc, .nilRow 5 800005 3 (Ty.int IntKind.i64), .ren 5 700005, .ren 5 900005, .gc], [2, 3, 4, 5, 6]⟩
abbrev R01_Mul_x0 : Cut := ⟨[.keep [4, 5], .gc, .nilRow 5 800005 3 (Ty.int IntKind.i64), .ren 5 700005, .ren 5 900005, .gc], [4, 5]⟩
abbrev R01_Mul_y0 : Cut := ⟨[.keep [4], .gc], [4]⟩
def R01_Mul_mk0 (i : ((List Int) × (List Int))) (x : (Int × (List Int))) : List TV × List (Nat × Ent) := ([.lf (.ptr 32 0), .lf (.ptr 48 0), .lf (.ptr 64 0), .lf (.ref 900005), .lf (.int IntKind.i64 x.1)], [(32, ⟨true, .cells [.dat (Ty.int IntKind.i64) i.1]⟩), (48, ⟨true, .cells [.dat (Ty.int IntKind.i64) i.2]⟩), (64, ⟨true, .cells [.nil]⟩), (900005, ⟨true, .arr 3 (Ty.int IntKind.i64) x.2⟩)])
def R01_Mul_pt0 : List TV → List (Nat × Ent) → Option (((List Int) × (List Int)) × (Int × (List Int)))
  | [.lf (.ptr 32 0), .lf (.ptr 48 0), .lf (.ptr 64 0), .lf (.ref 900005), .lf (.int IntKind.i64 x6)], [(32, ⟨true, .cells [.dat (Ty.int IntKind.i64) h0_0]⟩), (48, ⟨true, .cells [.dat (Ty.int IntKind.i64) h1_0]⟩), (64, ⟨true, .cells [.nil]⟩), (900005, ⟨true, .arr 3 (Ty.int IntKind.i64) h3⟩)] => some ((h0_0, h1_0), (x6, h3))
  | _, _ => none
def R01_Mul_ev0 (i : ((List Int) × (List Int))) (r : (List Int)) : PE := .exit 0 [.lf (.ptr 64 0), .lf (.ref 900005)] [(64, ⟨true, .cells [.nil]⟩), (900005, ⟨true, .arr 3 (Ty.int IntKind.i64) r⟩)]
def R01_Mul_an0 (i : ((List Int) × (List Int))) (r : (List Int)) : Tree := .leaf (.exit 0 (spSt 66 [4, 5] [.lf (.ptr 64 0), .lf (.ref 900005)] [(64, ⟨true, .cells [.nil]⟩), (900005, ⟨true, .arr 3 (Ty.int IntKind.i64) r⟩)]))
def R01_Mul_b0 (n : Nat) (h0_0 : (List Int)) (h1_0 : (List Int)) (x6 : Int) (h3 : (List Int)) : RT (Int × (List Int)) (List Int) :=
  (.rq 5 (.ite (decide (x6 < (↑h0_0.length : Int)))
  (.rq 2 (.call (R01_Mul_l2 n (x6, h0_0, h1_0) n ((0 : Int), (0 : Int), h3)) default fun v0 =>
  (.rq 3 (.again ((IntKind.i64.wrap (x6 + (1 : Int)), v0))))))
  (.done h3)))
def R01_Mul_l0 (n : Nat) (i : ((List Int) × (List Int))) : Nat → (Int × (List Int)) → Option (List Int) := loopN (fun rec x => (R01_Mul_b0 n i.1 i.2 x.1 x.2).run rec)
theorem R01_Mul_l0_s (n : Nat) (i : ((List Int) × (List Int))) (k : Nat) (x : (Int × (List Int))) : R01_Mul_l0 n i (k + 1) x = (R01_Mul_b0 n i.1 i.2 x.1 x.2).run (R01_Mul_l0 n i k) := rfl
def R01_Mul_t0 (n : Nat) (σ : St) : Option Tree := match seeSt R01_Mul_h0.plan R01_Mul_h0.ts 66 σ with
  | some y => (match R01_Mul_pt0 y.1 y.2 with
    | some x => some (loopAns (R01_Mul_l0 n x.1 n x.2) (R01_Mul_an0 x.1))
    | none => none)
  | none => none
def R01_Mul_told (n : Nat) : Nat → St → Option Tree
  | 2, σ => R01_Mul_t2 n σ
  | 0, σ => R01_Mul_t0 n σ
  | _, _ => none
def R01_Mul_res (y : (List Int)) : CallRes := ⟨true, .agg [.ref 0], [], [⟨true, .arr 3 (Ty.int IntKind.i64) y⟩], false⟩
def R01_Mul (n : Nat) (a0_0 : (List Int)) (a1_0 : (List Int)) : RT Unit (List Int) :=
  (.rq 11 (.req (decide ((0 : Int) ≤ IntKind.i64.wrap (IntKind.i64.wrap ((↑a0_0.length : Int) + (↑a1_0.length : Int)) + (1 : Int))) &&
      decide (IntKind.i64.wrap (IntKind.i64.wrap ((↑a0_0.length : Int) + (↑a1_0.length : Int)) + (1 : Int)) = IntKind.i64.wrap (IntKind.i64.wrap ((↑a0_0.length : Int) + (↑a1_0.length : Int)) + (1 : Int))) &&
    decide ((8 : Int) * IntKind.i64.wrap (IntKind.i64.wrap ((↑a0_0.length : Int) + (↑a1_0.length : Int)) + (1 : Int)) ≤ (281474976710656 : Int)) &&
  decide (IntKind.i64.wrap (IntKind.i64.wrap ((↑a0_0.length : Int) + (↑a1_0.length : Int)) + (1 : Int)) ≤ (9223372036854775807 : Int)))
  (.rq 2 (.call (R01_Mul_l0 n (a0_0, a1_0) n ((0 : Int), List.replicate (IntKind.i64.wrap (IntKind.i64.wrap ((↑a0_0.length : Int) + (↑a1_0.length : Int)) + (1 : Int))).toNat (0 : Int))) default fun v0 =>
  (.rq 1 (.req (okM (40 : Nat) v0)
  (.rq 1 (.done (digs B16 (val B16 v0))))))))))
def F_R01_Mul (n : Nat) (x : ((List Int) × (List Int))) : Option (List Int) := (R01_Mul n x.1 x.2).run fun _ => none
def R01_Mul_ans (F : ((List Int) × (List Int)) → Option (List Int)) : List TV → List Ent → Option CallRes
  | [.agg [.dat (Ty.int IntKind.i64) a0_0], .agg [.dat (Ty.int IntKind.i64) a1_0]], [] => some (callAns (F (a0_0, a1_0)) R01_Mul_res)
  | _, _ => none
def en_R01_Mul (F : ((List Int) × (List Int)) → Option (List Int)) : Entry := .data n_R01_Mul [[Ty.sl (Ty.int IntKind.i64)], [Ty.sl (Ty.int IntKind.i64)]] (R01_Mul_ans F)
theorem R01_Mul_T_ok (n : Nat) : SoundT pg (R01_Mul_T n) := tab_sound ⟨e_R01_digit_ok n, e_R01_Cut_ok n, trivial⟩
theorem R01_Mul_r2 (n : Nat) (x6 : Int) (h0_0 : (List Int)) (h1_0 : (List Int)) (x7 : Int) (x8 : Int) (h3 : (List Int)) : (evCode pg (R01_Mul_T n) (loopsTold (R01_Mul_told n)) 2 (lp 0 (lp 0 (codeOf f_R01_Mul) 0).2 0).2 (spSt 66 R01_Mul_h2.ts [.lf (.ptr 32 0), .lf (.ptr 48 0), .lf (.ptr 64 0), .lf (.ref 900005), .lf (.int IntKind.i64 x6), .lf (.int IntKind.i64 x7), .lf (.int IntKind.i64 x8)] [(32, ⟨true, .cells [.dat (Ty.int IntKind.i64) h0_0]⟩), (48, ⟨true, .cells [.dat (Ty.int IntKind.i64) h1_0]⟩), (64, ⟨true, .cells [.nil]⟩), (900005, ⟨true, .arr 3 (Ty.int IntKind.i64) h3⟩)])).pt (seeEv 66 R01_Mul_h2 R01_Mul_x2 R01_Mul_y2) =
    (R01_Mul_b2 n x6 h0_0 h1_0 x7 x8 h3).pt (fun x' => .norm (R01_Mul_mk2 (x6, h0_0, h1_0) x').1 (R01_Mul_mk2 (x6, h0_0, h1_0) x').2) (R01_Mul_ev2 (x6, h0_0, h1_0)) := by kernel_rfl
theorem R01_Mul_pm2 : ∀ vs hp x, R01_Mul_pt2 vs hp = some x → R01_Mul_mk2 x.1 x.2 = (vs, hp) := by
  intro vs hp x h
  unfold R01_Mul_pt2 at h
  split at h <;> first | (cases h; rfl) | cases h
theorem R01_Mul_k2 (n : Nat) : LoopOK pg (loopsTold (R01_Mul_told n)) (lp 0 (lp 0 (codeOf f_R01_Mul) 0).2 0) :=
  loop_lift pg_mixed (T := (R01_Mul_T n)) (R01_Mul_T_ok n) (b := 2) (len := 66) (body := (lp 0 (lp 0 (codeOf f_R01_Mul) 0).2 0).2) (ch := R01_Mul_h2) (cx := R01_Mul_x2) (cr := R01_Mul_y2) R01_Mul_mk2 R01_Mul_ev2 R01_Mul_an2 (fun i x => R01_Mul_b2 n i.1 i.2.1 i.2.2 x.1 x.2.1 x.2.2) n R01_Mul_pt2 R01_Mul_pm2 (fun i r K h => h)
    regs_told (loops_told0 (by kernel_rfl)) (fun _ => by kernel_rfl) (fun i x => R01_Mul_r2 n i.1 i.2.1 i.2.2 x.1 x.2.1 x.2.2)
theorem R01_Mul_r0 (n : Nat) (h0_0 : (List Int)) (h1_0 : (List Int)) (x6 : Int) (h3 : (List Int)) : (evCode pg (R01_Mul_T n) (loopsTold (R01_Mul_told n)) 0 (lp 0 (codeOf f_R01_Mul) 0).2 (spSt 66 R01_Mul_h0.ts [.lf (.ptr 32 0), .lf (.ptr 48 0), .lf (.ptr 64 0), .lf (.ref 900005), .lf (.int IntKind.i64 x6)] [(32, ⟨true, .cells [.dat (Ty.int IntKind.i64) h0_0]⟩), (48, ⟨true, .cells [.dat (Ty.int IntKind.i64) h1_0]⟩), (64, ⟨true, .cells [.nil]⟩), (900005, ⟨true, .arr 3 (Ty.int IntKind.i64) h3⟩)])).pt (seeEv 66 R01_Mul_h0 R01_Mul_x0 R01_Mul_y0) =
    (R01_Mul_b0 n h0_0 h1_0 x6 h3).pt (fun x' => .norm (R01_Mul_mk0 (h0_0, h1_0) x').1 (R01_Mul_mk0 (h0_0, h1_0) x').2) (R01_Mul_ev0 (h0_0, h1_0)) := by kernel_rfl
theorem R01_Mul_pm0 : ∀ vs hp x, R01_Mul_pt0 vs hp = some x → R01_Mul_mk0 x.1 x.2 = (vs, hp) := by
  intro vs hp x h
  unfold R01_Mul_pt0 at h
  split at h <;> first | (cases h; rfl) | cases h
theorem R01_Mul_k0 (n : Nat) : LoopOK pg (loopsTold (R01_Mul_told n)) (lp 0 (codeOf f_R01_Mul) 0) :=
  loop_lift pg_mixed (T := (R01_Mul_T n)) (R01_Mul_T_ok n) (b := 0) (len := 66) (body := (lp 0 (codeOf f_R01_Mul) 0).2) (ch := R01_Mul_h0) (cx := R01_Mul_x0) (cr := R01_Mul_y0) R01_Mul_mk0 R01_Mul_ev0 R01_Mul_an0 (fun i x => R01_Mul_b0 n i.1 i.2 x.1 x.2) n R01_Mul_pt0 R01_Mul_pm0 (fun i r K h => h)
    regs_told (loops_told1 (by kernel_rfl) (R01_Mul_k2 n)) (fun _ => by kernel_rfl) (fun i x => R01_Mul_r0 n i.1 i.2 x.1 x.2)
theorem R01_Mul_e (n : Nat) (a0_0 : (List Int)) (a1_0 : (List Int)) : (evFn pg (R01_Mul_T n) (loopsTold (R01_Mul_told n)) f_R01_Mul (codeOf f_R01_Mul) [.agg [.dat (Ty.int IntKind.i64) a0_0], .agg [.dat (Ty.int IntKind.i64) a1_0]] []).pt (outEv pg f_R01_Mul 0 [.cellRow 64 0 600064 3 (Ty.int IntKind.i64), .cellRen 64 0 600064] false) =
    (R01_Mul n a0_0 a1_0).pt (fun _ => .norm [] []) (fun y => .out (R01_Mul_res y)) := by kernel_rfl
theorem R01_Mul_call (n : Nat) (a0_0 : (List Int)) (a1_0 : (List Int)) (y : (List Int)) (hy : F_R01_Mul n (a0_0, a1_0) = some y) : Enters pg n_R01_Mul ∧ CallOK pg n_R01_Mul [.agg [.dat (Ty.int IntKind.i64) a0_0], .agg [.dat (Ty.int IntKind.i64) a1_0]] [] (R01_Mul_res y) := fn_lift (fn := f_R01_Mul) pg_mixed (T := R01_Mul_T n) (R01_Mul_T_ok n) (L := loopsTold (R01_Mul_told n)) (by kernel_rfl) (by kernel_rfl) (by kernel_rfl) regs_told (loops_told1 (by kernel_rfl) (R01_Mul_k0 n)) (args := [.agg [.dat (Ty.int IntKind.i64) a0_0], .agg [.dat (Ty.int IntKind.i64) a1_0]]) (es := []) R01_Mul_res [.cellRow 64 0 600064 3 (Ty.int IntKind.i64), .cellRen 64 0 600064] false (fun _ => rfl) (R01_Mul n a0_0 a1_0) (R01_Mul_e n a0_0 a1_0) hy
theorem en_R01_Mul_ok (n : Nat) : (en_R01_Mul (F_R01_Mul n)).ok pg := Entry.data_ok <| by
  intro args es r h hv
  unfold R01_Mul_ans at h
  simp only at h
  split at h
  · rename_i a0_0 a1_0
    cases h
    exact callAns_ok (fun y hy => R01_Mul_call n a0_0 a1_0 y hy) hv
  · cases h
/-- The function, by what it is known to tell. -/
def sp_R01_Mul (C : ((List Int) × (List Int)) → Bool) (V : ((List Int) × (List Int)) → (List Int)) : Entry := .data n_R01_Mul [[Ty.sl (Ty.int IntKind.i64)], [Ty.sl (Ty.int IntKind.i64)]] fun args es => match args, es with
  | [.agg [.dat (Ty.int IntKind.i64) a0_0], .agg [.dat (Ty.int IntKind.i64) a1_0]], [] => some { R01_Mul_res (V (a0_0, a1_0)) with vc := C (a0_0, a1_0) }
  | _, _ => none
theorem sp_R01_Mul_ok {C : ((List Int) × (List Int)) → Bool} {V : ((List Int) × (List Int)) → (List Int)} (H : ∀ x, C x = true → ∃ n, F_R01_Mul n x = some (V x)) : (sp_R01_Mul C V).ok pg := Entry.data_ok <| by
  intro args es r h hv
  simp only at h
  split at h
  · rename_i a0_0 a1_0
    cases h
    obtain ⟨n, hn⟩ := H (a0_0, a1_0) hv
    exact ⟨(R01_Mul_call n a0_0 a1_0 _ hn).1, (R01_Mul_call n a0_0 a1_0 _ hn).2.vc⟩
  · cases h



theorem getD_zero16 {xs : List Int} (h : wfd B16 xs = true) {t s : Nat} (hv : val B16 xs < B16 ^ s) (ht : s ≤ t) : xs.getD t 0 = 0 := by
  rw [← val_digit (by decide : 0 < B16) t h, Nat.div_eq_of_lt (Nat.lt_of_lt_of_le hv (Nat.pow_le_pow_right (by decide) ht))]
  rfl

theorem mul16_in (n : Nat) {a b : List Int} {i : Nat} (ha : wfd B16 a = true) (hb : wfd B16 b = true) (hi : i < a.length) (la : a.length ≤ 2 ^ 38) (lb : b.length ≤ 2 ^ 38) : ∀ (r j o k : Nat) (d : List Int), r < k → j + r = b.length + 1 → o < 65536 → (r = 0 → o = 0) →
    i + b.length + 1 ≤ d.length → d.length ≤ 2 ^ 40 → wfd B16 d = true → (0 < r → d.getD (i + b.length) 0 = 0) →
    ∃ d', R01_Mul_l2 n ((i : Int), a, b) k ((o : Int), (j : Int), d) = some d' ∧ wfd B16 d' = true ∧ d'.length = d.length ∧ val B16 d' = val B16 d + B16 ^ (i + j) * (o + (a.getD i 0).toNat * (val B16 b / B16 ^ j)) := by
  intro r
  induction r with
  | zero =>
    intro j o k d hk hj ho hz hl hl2 hd _
    obtain ⟨k, rfl⟩ : ∃ k', k = k' + 1 := ⟨k - 1, by omega⟩
    have := hz rfl
    subst this
    refine ⟨d, ?_, hd, rfl, by rw [div_pow_zero hb (by omega)]; simp⟩
    rw [R01_Mul_l2_s]
    unfold R01_Mul_b2
    simp only [RT.run]
    rw [if_neg (by simp; omega), if_neg (by simp)]
  | succ r ih =>
    intro j o k d hk hj ho _ hl hl2 hd hzero
    obtain ⟨k, rfl⟩ : ∃ k', k = k' + 1 := ⟨k - 1, by omega⟩
    rw [R01_Mul_l2_s]
    unfold R01_Mul_b2
    obtain ⟨ai, ea, ba⟩ := getD16 ha i
    obtain ⟨db, eb, bb, vb⟩ := dig16 hb j
    obtain ⟨x0, ex, bx⟩ := getD16 hd (i + j)
    have hab : ai * db ≤ 65535 * 65535 := Nat.mul_le_mul (by omega) (by omega)
    have w0 : IntKind.i64.wrap ((i : Int) + (j : Int)) = ((i + j : Nat) : Int) := by rw [i64_in] <;> omega
    have w1 : IntKind.i64.wrap ((ai : Int) * (db : Int)) = ((ai * db : Nat) : Int) := by rw [← Int.natCast_mul, i64_in]; omega
    have w2 : IntKind.i64.wrap ((x0 : Int) + ((ai * db : Nat) : Int)) = ((x0 + ai * db : Nat) : Int) := by rw [← Int.natCast_add, i64_in]; omega
    have w3 : IntKind.i64.wrap (((x0 + ai * db : Nat) : Int) + (o : Int)) = ((x0 + ai * db + o : Nat) : Int) := by rw [← Int.natCast_add, i64_in]; omega
    have w4 : IntKind.i64.wrap (((x0 + ai * db + o) / 65536 : Nat) : Int) = (((x0 + ai * db + o) / 65536 : Nat) : Int) := by rw [i64_in]; omega
    have w5 : IntKind.i64.wrap ((j : Int) + 1) = ((j + 1 : Nat) : Int) := by rw [i64_in] <;> omega
    have q1 : (decide ((0 : Int) ≤ ((i + j : Nat) : Int)) && decide (((i + j : Nat) : Int) < (d.length : Int))) = true := by simp <;> omega
    have q2 : (decide ((0 : Int) ≤ (i : Int)) && decide ((i : Int) < (a.length : Int))) = true := by simp <;> omega
    have q3 : decide ((0 : Int) ≤ (j : Int)) = true := by simp
    simp only [RT.run, w0, q1, q2, q3, if_true, Int.toNat_natCast, ea, eb, ex, w1, w2, w3, w4, w5, tdiv16, tmod16]
    have step : ∃ d', R01_Mul_l2 n ((i : Int), a, b) k ((((x0 + ai * db + o) / 65536 : Nat) : Int), ((j + 1 : Nat) : Int), d.set (i + j) (((x0 + ai * db + o) % 65536 : Nat) : Int)) = some d' ∧ wfd B16 d' = true ∧ d'.length = d.length ∧
        val B16 d' = val B16 d + B16 ^ (i + j) * (o + ai * (val B16 b / B16 ^ j)) := by
      have hlt : (x0 + ai * db + o) / 65536 < 65536 := by omega
      obtain ⟨d', h1, h2, h3, h4⟩ := ih (j + 1) ((x0 + ai * db + o) / 65536) k (d.set (i + j) (((x0 + ai * db + o) % 65536 : Nat) : Int)) (by omega) (by omega) hlt (fun h => by
        -- the last round: nothing is carried
        subst h
        have ej : j = b.length := by omega
        have z := hzero (by omega)
        rw [← ej, ex] at z
        have z2 := div_pow_zero hb (i := j) (by omega)
        rw [z2] at vb
        simp at vb
        subst vb
        have : x0 = 0 := by omega
        subst this
        simp
        omega) (by rw [List.length_set]; omega) (by rw [List.length_set]; omega) (wfd_set hd ⟨Int.natCast_nonneg _, Int.ofNat_lt.2 (Nat.mod_lt _ (by decide))⟩) (fun h => by
        rw [List.getD, List.getElem?_set, if_neg (by omega)]
        exact hzero (by omega))
      refine ⟨d', h1, h2, by rw [h3, List.length_set], ?_⟩
      have hv := val_set (b := B16) (xs := d) (i := i + j) (d := (((x0 + ai * db + o) % 65536 : Nat) : Int)) (by omega)
      rw [ex, Int.toNat_natCast, Int.toNat_natCast] at hv
      rw [h4, ea, Int.toNat_natCast]
      have s2 := div_step (val B16 b) j
      rw [← vb] at s2
      rw [s2, show i + (j + 1) = (i + j) + 1 by omega, Nat.pow_succ]
      have hx := Nat.mod_add_div (x0 + ai * db + o) 65536
      generalize val B16 (d.set (i + j) (((x0 + ai * db + o) % 65536 : Nat) : Int)) = V' at *
      generalize val B16 b / B16 ^ (j + 1) = T at *
      generalize (x0 + ai * db + o) / 65536 = qd at *
      generalize (x0 + ai * db + o) % 65536 = md at *
      generalize B16 ^ (i + j) = P at *
      have hB : B16 = 65536 := rfl
      have e1 : P * (md + 65536 * qd) = P * (x0 + ai * db + o) := by rw [hx]
      simp only [Nat.mul_add, ← Nat.mul_assoc, hB] at e1 hv ⊢
      rw [Nat.mul_right_comm P ai 65536]
      omega
    by_cases h1 : (j : Int) < (b.length : Int)
    · rw [if_pos (decide_eq_true h1)]
      exact step
    · rw [if_neg (by simpa using h1)]
      by_cases h2 : (0 : Int) < (o : Int)
      · rw [if_pos (decide_eq_true h2)]
        exact step
      · rw [if_neg (by simpa using h2)]
        refine ⟨d, rfl, hd, rfl, ?_⟩
        rw [div_pow_zero hb (by omega)]
        have : o = 0 := by omega
        subst this
        simp

theorem mul16_l (n : Nat) {a b : List Int} (ha : wfd B16 a = true) (hb : wfd B16 b = true) (la : a.length ≤ 2 ^ 38) (lb : b.length ≤ 2 ^ 38) (hn : b.length + 1 < n) : ∀ (r i k : Nat) (d : List Int), r < k → i + r = a.length →
    d.length = a.length + b.length + 1 → wfd B16 d = true → val B16 d < B16 ^ (i + b.length) →
    ∃ d', R01_Mul_l0 n (a, b) k ((i : Int), d) = some d' ∧ wfd B16 d' = true ∧ d'.length = d.length ∧ val B16 d' = val B16 d + B16 ^ i * ((val B16 a / B16 ^ i) * val B16 b) := by
  intro r
  induction r with
  | zero =>
    intro i k d hk hi hl hd hv
    obtain ⟨k, rfl⟩ : ∃ k', k = k' + 1 := ⟨k - 1, by omega⟩
    refine ⟨d, ?_, hd, rfl, by rw [div_pow_zero ha (by omega)]; simp⟩
    rw [R01_Mul_l0_s]
    unfold R01_Mul_b0
    simp only [RT.run]
    rw [if_neg (by simp; omega)]
  | succ r ih =>
    intro i k d hk hi hl hd hv
    obtain ⟨k, rfl⟩ : ∃ k', k = k' + 1 := ⟨k - 1, by omega⟩
    rw [R01_Mul_l0_s]
    unfold R01_Mul_b0
    obtain ⟨ai, ea, ba⟩ := getD16 ha i
    have va : val B16 a / B16 ^ i % B16 = ai := by
      have := val_digit (by decide : 0 < B16) i ha
      rw [ea] at this; exact Int.ofNat_inj.1 this
    obtain ⟨d1, g1, g2, g3, g4⟩ := mul16_in n ha hb (i := i) (by omega) la lb (b.length + 1) 0 0 n d hn (by omega) (by omega) (by omega) (by omega) (by omega) hd (fun _ => getD_zero16 hd hv (Nat.le_refl _))
    rw [ea, Int.toNat_natCast, Nat.pow_zero, Nat.div_one, Nat.zero_add, Nat.add_zero] at g4
    have w : IntKind.i64.wrap ((i : Int) + 1) = ((i + 1 : Nat) : Int) := by rw [i64_in] <;> omega
    simp only [RT.run]
    rw [if_pos (by simp; omega)]
    have g1' : R01_Mul_l2 n ((i : Int), a, b) n ((0 : Int), (0 : Int), d) = some d1 := g1
    rw [g1']
    simp only [Option.bind_some, w]
    have hbl := val_lt (by decide : 0 < B16) hb
    have pi : 0 < B16 ^ i := Nat.pow_pos (by decide)
    have hv1 : val B16 d1 < B16 ^ (i + 1 + b.length) := by
      rw [g4]
      have e1 : B16 ^ (i + 1 + b.length) = B16 ^ i * (B16 ^ b.length * B16) := by rw [show i + 1 + b.length = i + (b.length + 1) by omega, Nat.pow_add, Nat.pow_succ]
      have e2 : ai * val B16 b ≤ 65535 * val B16 b := Nat.mul_le_mul_right _ (by omega)
      have e3 : B16 ^ i * (ai * val B16 b) ≤ B16 ^ i * (65535 * B16 ^ b.length) := Nat.mul_le_mul_left _ (Nat.le_trans e2 (Nat.mul_le_mul_left _ (Nat.le_of_lt hbl)))
      rw [Nat.pow_add] at hv
      rw [e1]
      have hB : B16 = 65536 := rfl
      have e4 : B16 ^ i * (B16 ^ b.length * B16) = B16 ^ i * B16 ^ b.length + B16 ^ i * (65535 * B16 ^ b.length) := by
        rw [← Nat.mul_add, Nat.mul_comm (B16 ^ b.length) B16]
        congr 1
        generalize B16 ^ b.length = Z
        rw [hB]
        omega
      omega
    obtain ⟨d', h1, h2, h3, h4⟩ := ih (i + 1) k d1 (by omega) (by omega) (by omega) g2 hv1
    refine ⟨d', h1, h2, by omega, ?_⟩
    have s1 := div_step (val B16 a) i
    rw [va] at s1
    rw [h4, g4, s1, Nat.pow_succ]
    generalize val B16 a / B16 ^ (i + 1) = T
    generalize B16 ^ i = P
    simp only [Nat.add_mul, Nat.mul_add, Nat.mul_assoc, Nat.add_assoc]

theorem Mul16_F {a b : List Int} (ha : okM 38 a = true) (hb : okM 38 b = true) : F_R01_Mul (a.length + b.length + 2) (a, b) = some (digs B16 (val B16 a * val B16 b)) := by
  rw [okM_iff] at ha hb
  unfold F_R01_Mul R01_Mul
  have w1 : IntKind.i64.wrap ((a.length : Int) + (b.length : Int)) = ((a.length + b.length : Nat) : Int) := by rw [i64_in] <;> omega
  have w2 : IntKind.i64.wrap (((a.length + b.length : Nat) : Int) + 1) = ((a.length + b.length + 1 : Nat) : Int) := by rw [i64_in] <;> omega
  simp only [RT.run, w1, w2, Int.toNat_natCast]
  rw [if_pos (by simp only [Bool.and_eq_true, decide_eq_true_eq]; exact ⟨⟨⟨by omega, trivial⟩, by omega⟩, by omega⟩)]
  have z : val B16 (List.replicate (a.length + b.length + 1) 0) = 0 := val_replicate _ _
  obtain ⟨d', h1, h2, h3, h4⟩ := mul16_l (a.length + b.length + 2) ha.2 hb.2 ha.1 hb.1 (by omega) a.length 0 (a.length + b.length + 2) (List.replicate (a.length + b.length + 1) 0) (by omega) (by omega) (by simp) (wfd_replicate (by decide)) (by rw [z]; exact Nat.pow_pos (by decide))
  have h1' : R01_Mul_l0 (a.length + b.length + 2) (a, b) (a.length + b.length + 2) ((0 : Int), List.replicate (a.length + b.length + 1) 0) = some d' := h1
  rw [h1']
  simp only [Option.bind_some]
  rw [List.length_replicate] at h3
  rw [if_pos (okM_iff.2 ⟨by omega, h2⟩), h4, z]
  simp

abbrev e_R01_Mul (_ : Nat) : Entry := sp_R01_Mul (fun x => okM 38 x.1 && okM 38 x.2) (fun x => digs B16 (val B16 x.1 * val B16 x.2))
theorem e_R01_Mul_ok (n : Nat) : (e_R01_Mul n).ok pg := sp_R01_Mul_ok fun x h => by
  rw [Bool.and_eq_true] at h
  exact ⟨_, Mul16_F h.1 h.2⟩

abbrev R01_Div_T (n : Nat) : CallT := tab [e_R01_Cut n, e_R01_Of n, e_R01_Mul n, e_R01_Cmp n, e_R01_Sub n]
abbrev R01_Div_h2 : Cut := ⟨[.keep [2, 3, 4, 5, 6, 7, 8, 9, 10], .gc, .nilRow 6 800006 3 (Ty.int IntKind.i64), .ren 6 700006, .ren 6 900006, .cellRow 112 0 600112 3 (Ty.int IntKind.i64), .cellRen 112 0 600112, .gc], [2, 3, 4, 5, 6, 7, 8, 9, 10]⟩
abbrev R01_Div_x2 : Cut := ⟨[.keep [2, 3, 4, 5, 6, 7, 8, 9], .gc, .nilRow 6 800006 3 (Ty.int IntKind.i64), .ren 6 700006, .ren 6 900006, .cellRow 112 0 600112 3 (Ty.int IntKind.i64), .cellRen 112 0 600112, .gc], [2, 3, 4, 5, 6, 7, 8, 9]⟩
abbrev R01_Div_y2 : Cut := ⟨[.keep [4, 5], .gc], [4, 5]⟩
def R01_Div_mk2 (i : (Int × ((List Int) × ((List Int) × ((List Int) × (List Int)))))) (x : (Int × Int)) : List TV × List (Nat × Ent) := ([.lf (.ptr 32 0), .lf (.ptr 48 0), .lf (.ptr 64 0), .lf (.ptr 80 0), .lf (.ref 900006), .lf (.ptr 112 0), .lf (.int IntKind.i64 i.1), .lf (.int IntKind.i64 x.1), .lf (.int IntKind.i64 x.2)], [(32, ⟨true, .cells [.dat (Ty.int IntKind.i64) i.2.1]⟩), (48, ⟨true, .cells [.dat (Ty.int IntKind.i64) i.2.2.1]⟩), (64, ⟨true, .cells [.nil]⟩), (80, ⟨true, .cells [.nil]⟩), (900006, ⟨true, .arr 3 (Ty.int IntKind.i64) i.2.2.2.1⟩), (112, ⟨true, .cells [.ref 600112]⟩), (600112, ⟨true, .arr 3 (Ty.int IntKind.i64) i.2.2.2.2⟩)])
def R01_Div_pt2 : List TV → List (Nat × Ent) → Option ((Int × ((List Int) × ((List Int) × ((List Int) × (List Int))))) × (Int × Int))
  | [.lf (.ptr 32 0), .lf (.ptr 48 0), .lf (.ptr 64 0), .lf (.ptr 80 0), .lf (.ref 900006), .lf (.ptr 112 0), .lf (.int IntKind.i64 x8), .lf (.int IntKind.i64 x9), .lf (.int IntKind.i64 x10)], [(32, ⟨true, .cells [.dat (Ty.int IntKind.i64) h0_0]⟩), (48, ⟨true, .cells [.dat (Ty.int IntKind.i64) h1_0]⟩), (64, ⟨true, .cells [.nil]⟩), (80, ⟨true, .cells [.nil]⟩), (900006, ⟨true, .arr 3 (Ty.int IntKind.i64) h4⟩), (112, ⟨true, .cells [.ref 600112]⟩), (600112, ⟨true, .arr 3 (Ty.int IntKind.i64) h6⟩)] => some ((x8, h0_0, h1_0, h4, h6), (x9, x10))
  | _, _ => none
def R01_Div_ev2 (i : (Int × ((List Int) × ((List Int) × ((List Int) × (List Int)))))) (r : Int) : PE := .exit 2 [.lf (.ptr 32 0), .lf (.ptr 48 0), .lf (.ptr 64 0), .lf (.ptr 80 0), .lf (.ref 900006), .lf (.ptr 112 0), .lf (.int IntKind.i64 i.1), .lf (.int IntKind.i64 r)] [(32, ⟨true, .cells [.dat (Ty.int IntKind.i64) i.2.1]⟩), (48, ⟨true, .cells [.dat (Ty.int IntKind.i64) i.2.2.1]⟩), (64, ⟨true, .cells [.nil]⟩), (80, ⟨true, .cells [.nil]⟩), (900006, ⟨true, .arr 3 (Ty.int IntKind.i64) i.2.2.2.1⟩), (112, ⟨true, .cells [.ref 600112]⟩), (600112, ⟨true, .arr 3 (Ty.int IntKind.i64) i.2.2.2.2⟩)]
def R01_Div_an2 (i : (Int × ((List Int) × ((List Int) × ((List Int) × (List Int)))))) (r : Int) : Tree := .leaf (.exit 2 (spSt 68 [2, 3, 4, 5, 6, 7, 8, 9] [.lf (.ptr 32 0), .lf (.ptr 48 0), .lf (.ptr 64 0), .lf (.ptr 80 0), .lf (.ref 900006), .lf (.ptr 112 0), .lf (.int IntKind.i64 i.1), .lf (.int IntKind.i64 r)] [(32, ⟨true, .cells [.dat (Ty.int IntKind.i64) i.2.1]⟩), (48, ⟨true, .cells [.dat (Ty.int IntKind.i64) i.2.2.1]⟩), (64, ⟨true, .cells [.nil]⟩), (80, ⟨true, .cells [.nil]⟩), (900006, ⟨true, .arr 3 (Ty.int IntKind.i64) i.2.2.2.1⟩), (112, ⟨true, .cells [.ref 600112]⟩), (600112, ⟨true, .arr 3 (Ty.int IntKind.i64) i.2.2.2.2⟩)]))
def R01_Div_b2 (n : Nat) (x8 : Int) (h0_0 : (List Int)) (h1_0 : (List Int)) (h4 : (List Int)) (h6 : (List Int)) (x9 : Int) (x10 : Int) : RT (Int × Int) Int :=
  (.rq 3 (.ite (decide (x9 < x10))
  (.rq 9 (.req (decide ((0 : Int) ≤ IntKind.u64.wrap (IntKind.i64.wrap ((IntKind.i64.wrap (IntKind.i64.wrap (x9 + x10) + (1 : Int))).tdiv (2 : Int)))) &&
  decide (IntKind.u64.wrap (IntKind.i64.wrap ((IntKind.i64.wrap (IntKind.i64.wrap (x9 + x10) + (1 : Int))).tdiv (2 : Int))) < (18446744073709551616 : Int)))
  (.req (okM (38 : Nat) h1_0 && okM (38 : Nat) (digs B16 (IntKind.u64.wrap (IntKind.i64.wrap ((IntKind.i64.wrap (IntKind.i64.wrap (x9 + x10) + (1 : Int))).tdiv (2 : Int)))).toNat))
  (.rq 1 (.req (okM (40 : Nat) (digs B16 (val B16 h1_0 * val B16 (digs B16 (IntKind.u64.wrap (IntKind.i64.wrap ((IntKind.i64.wrap (IntKind.i64.wrap (x9 + x10) + (1 : Int))).tdiv (2 : Int)))).toNat))) && okM (40 : Nat) h6)
  (.rq 1 (.ite (decide (cmpI (↑(val B16 (digs B16 (val B16 h1_0 * val B16 (digs B16 (IntKind.u64.wrap (IntKind.i64.wrap ((IntKind.i64.wrap (IntKind.i64.wrap (x9 + x10) + (1 : Int))).tdiv (2 : Int)))).toNat)))) : Int) (↑(val B16 h6) : Int) ≤ (0 : Int)))
  (.rq 2 (.again ((IntKind.i64.wrap ((IntKind.i64.wrap (IntKind.i64.wrap (x9 + x10) + (1 : Int))).tdiv (2 : Int)), x10))))
  (.rq 3 (.again ((x9, IntKind.i64.wrap (IntKind.i64.wrap ((IntKind.i64.wrap (IntKind.i64.wrap (x9 + x10) + (1 : Int))).tdiv (2 : Int)) - (1 : Int)))))))))))))
  (.done x9)))
def R01_Div_l2 (n : Nat) (i : (Int × ((List Int) × ((List Int) × ((List Int) × (List Int)))))) : Nat → (Int × Int) → Option Int := loopN (fun rec x => (R01_Div_b2 n i.1 i.2.1 i.2.2.1 i.2.2.2.1 i.2.2.2.2 x.1 x.2).run rec)
theorem R01_Div_l2_s (n : Nat) (i : (Int × ((List Int) × ((List Int) × ((List Int) × (List Int)))))) (k : Nat) (x : (Int × Int)) : R01_Div_l2 n i (k + 1) x = (R01_Div_b2 n i.1 i.2.1 i.2.2.1 i.2.2.2.1 i.2.2.2.2 x.1 x.2).run (R01_Div_l2 n i k) := rfl
def R01_Div_t2 (n : Nat) (σ : St) : Option Tree := match seeSt R01_Div_h2.plan R01_Div_h2.ts 68 σ with
  | some y => (match R01_Div_pt2 y.1 y.2 with
    | some x => some (loopAns (R01_Div_l2 n x.1 n x.2) (R01_Div_an2 x.1))
    | none => none)
  | none => none
abbrev R01_Div_h0 : Cut := ⟨[.keep [2, 3, 4, 5, 6, 7, 8], .gc, .nilRow 6 800006 3 (Ty.int IntKind.i64), .ren 6 700006, .ren 6 900006, .cellRow 112 0 600112 3 (Ty.int IntKind.i64), .cellRen 112 0 600112, .gc], [2, 3, 4, 5, 6, 7, 8]⟩
abbrev R01_Div_x0 : Cut := ⟨[.keep [4, 5, 6, 7], .gc, .nilRow 6 800006 3 (Ty.int IntKind.i64), .ren 6 700006, .ren 6 900006, .cellRow 112 0 600112 3 (Ty.int IntKind.i64), .cellRen 112 0 600112, .gc], [4, 5, 6, 7]⟩
abbrev R01_Div_y0 : Cut := ⟨[.keep [4, 5], .gc], [4, 5]⟩
def R01_Div_mk0 (i : ((List Int) × (List Int))) (x : (Int × ((List Int) × (List Int)))) : List TV × List (Nat × Ent) := ([.lf (.ptr 32 0), .lf (.ptr 48 0), .lf (.ptr 64 0), .lf (.ptr 80 0), .lf (.ref 900006), .lf (.ptr 112 0), .lf (.int IntKind.i64 x.1)], [(32, ⟨true, .cells [.dat (Ty.int IntKind.i64) i.1]⟩), (48, ⟨true, .cells [.dat (Ty.int IntKind.i64) i.2]⟩), (64, ⟨true, .cells [.nil]⟩), (80, ⟨true, .cells [.nil]⟩), (900006, ⟨true, .arr 3 (Ty.int IntKind.i64) x.2.1⟩), (112, ⟨true, .cells [.ref 600112]⟩), (600112, ⟨true, .arr 3 (Ty.int IntKind.i64) x.2.2⟩)])
def R01_Div_pt0 : List TV → List (Nat × Ent) → Option (((List Int) × (List Int)) × (Int × ((List Int) × (List Int))))
  | [.lf (.ptr 32 0), .lf (.ptr 48 0), .lf (.ptr 64 0), .lf (.ptr 80 0), .lf (.ref 900006), .lf (.ptr 112 0), .lf (.int IntKind.i64 x8)], [(32, ⟨true, .cells [.dat (Ty.int IntKind.i64) h0_0]⟩), (48, ⟨true, .cells [.dat (Ty.int IntKind.i64) h1_0]⟩), (64, ⟨true, .cells [.nil]⟩), (80, ⟨true, .cells [.nil]⟩), (900006, ⟨true, .arr 3 (Ty.int IntKind.i64) h4⟩), (112, ⟨true, .cells [.ref 600112]⟩), (600112, ⟨true, .arr 3 (Ty.int IntKind.i64) h6⟩)] => some ((h0_0, h1_0), (x8, h4, h6))
  | _, _ => none
def R01_Div_ev0 (i : ((List Int) × (List Int))) (r : ((List Int) × (List Int))) : PE := .exit 0 [.lf (.ptr 64 0), .lf (.ptr 80 0), .lf (.ref 900006), .lf (.ptr 112 0)] [(64, ⟨true, .cells [.nil]⟩), (80, ⟨true, .cells [.nil]⟩), (900006, ⟨true, .arr 3 (Ty.int IntKind.i64) r.1⟩), (112, ⟨true, .cells [.ref 600112]⟩), (600112, ⟨true, .arr 3 (Ty.int IntKind.i64) r.2⟩)]
def R01_Div_an0 (i : ((List Int) × (List Int))) (r : ((List Int) × (List Int))) : Tree := .leaf (.exit 0 (spSt 68 [4, 5, 6, 7] [.lf (.ptr 64 0), .lf (.ptr 80 0), .lf (.ref 900006), .lf (.ptr 112 0)] [(64, ⟨true, .cells [.nil]⟩), (80, ⟨true, .cells [.nil]⟩), (900006, ⟨true, .arr 3 (Ty.int IntKind.i64) r.1⟩), (112, ⟨true, .cells [.ref 600112]⟩), (600112, ⟨true, .arr 3 (Ty.int IntKind.i64) r.2⟩)]))
def R01_Div_b0 (n : Nat) (h0_0 : (List Int)) (h1_0 : (List Int)) (x8 : Int) (h4 : (List Int)) (h6 : (List Int)) : RT (Int × ((List Int) × (List Int))) ((List Int) × (List Int)) :=
  (.rq 2 (.ite (decide ((0 : Int) ≤ x8))
  (.rq 3 (.req (decide ((0 : Int) ≤ x8) && decide (x8 < (↑h0_0.length : Int)))
  (.rq 4 (.req (decide ((((List.replicate (1 : Nat) (0 : Int)).set (0 : Nat) (h0_0.getD x8.toNat (0 : Int))).length + h6.length) * (8 : Nat) ≤ (140737488355328 : Nat)) &&
  decide (((List.replicate (1 : Nat) (0 : Int)).set (0 : Nat) (h0_0.getD x8.toNat (0 : Int))).length + h6.length ≤ (9223372036854775807 : Nat)))
  (.req (okM (40 : Nat) ((List.replicate (1 : Nat) (0 : Int)).set (0 : Nat) (h0_0.getD x8.toNat (0 : Int)) ++ h6))
  (.rq 3 (.call (R01_Div_l2 n (x8, h0_0, h1_0, h4, digs B16 (val B16 ((List.replicate (1 : Nat) (0 : Int)).set (0 : Nat) (h0_0.getD x8.toNat (0 : Int)) ++ h6))) n ((0 : Int), (65535 : Int))) default fun v0 =>
  (.rq 3 (.req (decide ((0 : Int) ≤ x8) && decide (x8 < (↑h4.length : Int)))
  (.rq 5 (.req (decide ((0 : Int) ≤ IntKind.u64.wrap v0) && decide (IntKind.u64.wrap v0 < (18446744073709551616 : Int)))
  (.req (okM (38 : Nat) h1_0 && okM (38 : Nat) (digs B16 (IntKind.u64.wrap v0).toNat))
  (.req (okM (39 : Nat) (digs B16 (val B16 ((List.replicate (1 : Nat) (0 : Int)).set (0 : Nat) (h0_0.getD x8.toNat (0 : Int)) ++ h6))) && okM (39 : Nat) (digs B16 (val B16 h1_0 * val B16 (digs B16 (IntKind.u64.wrap v0).toNat))) &&
  decide (val B16 (digs B16 (val B16 h1_0 * val B16 (digs B16 (IntKind.u64.wrap v0).toNat))) ≤ val B16 (digs B16 (val B16 ((List.replicate (1 : Nat) (0 : Int)).set (0 : Nat) (h0_0.getD x8.toNat (0 : Int)) ++ h6)))))
  (.rq 4 (.again ((IntKind.i64.wrap (x8 - (1 : Int)), h4.set x8.toNat v0, digs B16 (val B16 (digs B16 (val B16 ((List.replicate (1 : Nat) (0 : Int)).set (0 : Nat) (h0_0.getD x8.toNat (0 : Int)) ++ h6))) - val B16 (digs B16 (val B16 h1_0 * val B16 (digs B16 (IntKind.u64.wrap v0).toNat)))))))))))))))))))))
  (.done ((h4, h6)))))
def R01_Div_l0 (n : Nat) (i : ((List Int) × (List Int))) : Nat → (Int × ((List Int) × (List Int))) → Option ((List Int) × (List Int)) := loopN (fun rec x => (R01_Div_b0 n i.1 i.2 x.1 x.2.1 x.2.2).run rec)
theorem R01_Div_l0_s (n : Nat) (i : ((List Int) × (List Int))) (k : Nat) (x : (Int × ((List Int) × (List Int)))) : R01_Div_l0 n i (k + 1) x = (R01_Div_b0 n i.1 i.2 x.1 x.2.1 x.2.2).run (R01_Div_l0 n i k) := rfl
def R01_Div_t0 (n : Nat) (σ : St) : Option Tree := match seeSt R01_Div_h0.plan R01_Div_h0.ts 68 σ with
  | some y => (match R01_Div_pt0 y.1 y.2 with
    | some x => some (loopAns (R01_Div_l0 n x.1 n x.2) (R01_Div_an0 x.1))
    | none => none)
  | none => none
def R01_Div_told (n : Nat) : Nat → St → Option Tree
  | 2, σ => R01_Div_t2 n σ
  | 0, σ => R01_Div_t0 n σ
  | _, _ => none
def R01_Div_res (y : ((List Int) × (List Int))) : CallRes := ⟨true, .tup [(true, [.ref 0]), (true, [.ref 1])], [], [⟨true, .arr 3 (Ty.int IntKind.i64) y.1⟩, ⟨true, .arr 3 (Ty.int IntKind.i64) y.2⟩], false⟩
def R01_Div (n : Nat) (a0_0 : (List Int)) (a1_0 : (List Int)) : RT Unit ((List Int) × (List Int)) :=
  (.rq 7 (.req (decide ((0 : Int) ≤ (↑a0_0.length : Int)) && decide ((↑a0_0.length : Int) = (↑a0_0.length : Int)) && decide ((8 : Int) * (↑a0_0.length : Int) ≤ (281474976710656 : Int)) && decide ((↑a0_0.length : Int) ≤ (9223372036854775807 : Int)))
  (.rq 9 (.call (R01_Div_l0 n (a0_0, a1_0) n (IntKind.i64.wrap ((↑a0_0.length : Int) - (1 : Int)), List.replicate (↑a0_0.length : Int).toNat (0 : Int), nilD (Ty.int IntKind.i64).den)) default fun v0 =>
  (.rq 1 (.req (okM (40 : Nat) v0.fst)
  (.rq 3 (.done ((digs B16 (val B16 v0.fst), v0.snd))))))))))
def F_R01_Div (n : Nat) (x : ((List Int) × (List Int))) : Option ((List Int) × (List Int)) := (R01_Div n x.1 x.2).run fun _ => none
def R01_Div_ans (F : ((List Int) × (List Int)) → Option ((List Int) × (List Int))) : List TV → List Ent → Option CallRes
  | [.agg [.dat (Ty.int IntKind.i64) a0_0], .agg [.dat (Ty.int IntKind.i64) a1_0]], [] => some (callAns (F (a0_0, a1_0)) R01_Div_res)
  | _, _ => none
def en_R01_Div (F : ((List Int) × (List Int)) → Option ((List Int) × (List Int))) : Entry := .data n_R01_Div [[Ty.sl (Ty.int IntKind.i64)], [Ty.sl (Ty.int IntKind.i64)]] (R01_Div_ans F)
theorem R01_Div_T_ok (n : Nat) : SoundT pg (R01_Div_T n) := tab_sound ⟨e_R01_Cut_ok n, e_R01_Of_ok n, e_R01_Mul_ok n, e_R01_Cmp_ok n, e_R01_Sub_ok n, trivial⟩
theorem R01_Div_r2 (n : Nat) (x8 : Int) (h0_0 : (List Int)) (h1_0 : (List Int)) (h4 : (List Int)) (h6 : (List Int)) (x9 : Int) (x10 : Int) : (evCode pg (R01_Div_T n) (loopsTold (R01_Div_told n)) 2 (lp 0 (lp 0 (codeOf f_R01_Div) 0).2 0).2 (spSt 68 R01_Div_h2.ts [.lf (.ptr 32 0), .lf (.ptr 48 0), .lf (.ptr 64 0), .lf (.ptr 80 0), .lf (.ref 900006), .lf (.ptr 112 0), .lf (.int IntKind.i64 x8), .lf (.int IntKind.i64 x9), .lf (.int IntKind.i64 x10)] [(32, ⟨true, .cells [.dat (Ty.int IntKind.i64) h0_0]⟩), (48, ⟨true, .cells [.dat (Ty.int IntKind.i64) h1_0]⟩), (64, ⟨true, .cells [.nil]⟩), (80, ⟨true, .cells [.nil]⟩), (900006, ⟨true, .arr 3 (Ty.int IntKind.i64) h4⟩), (112, ⟨true, .cells [.ref 600112]⟩), (600112, ⟨true, .arr 3 (Ty.int IntKind.i64) h6⟩)])).pt (seeEv 68 R01_Div_h2 R01_Div_x2 R01_Div_y2) =
    (R01_Div_b2 n x8 h0_0 h1_0 h4 h6 x9 x10).pt (fun x' => .norm (R01_Div_mk2 (x8, h0_0, h1_0, h4, h6) x').1 (R01_Div_mk2 (x8, h0_0, h1_0, h4, h6) x').2) (R01_Div_ev2 (x8, h0_0, h1_0, h4, h6)) := by kernel_rfl
theorem R01_Div_pm2 : ∀ vs hp x, R01_Div_pt2 vs hp = some x → R01_Div_mk2 x.1 x.2 = (vs, hp) := by
  intro vs hp x h
  unfold R01_Div_pt2 at h
  split at h <;> first | (cases h; rfl) | cases h
theorem R01_Div_k2 (n : Nat) : LoopOK pg (loopsTold (R01_Div_told n)) (lp 0 (lp 0 (codeOf f_R01_Div) 0).2 0) :=
  loop_lift pg_mixed (T := (R01_Div_T n)) (R01_Div_T_ok n) (b := 2) (len := 68) (body := (lp 0 (lp 0 (codeOf f_R01_Div) 0).2 0).2) (ch := R01_Div_h2) (cx := R01_Div_x2) (cr := R01_Div_y2) R01_Div_mk2 R01_Div_ev2 R01_Div_an2 (fun i x => R01_Div_b2 n i.1 i.2.1 i.2.2.1 i.2.2.2.1 i.2.2.2.2 x.1 x.2) n R01_Div_pt2 R01_Div_pm2 (fun i r K h => h)
    regs_told (loops_told0 (by kernel_rfl)) (fun _ => by kernel_rfl) (fun i x => R01_Div_r2 n i.1 i.2.1 i.2.2.1 i.2.2.2.1 i.2.2.2.2 x.1 x.2)
theorem R01_Div_r0 (n : Nat) (h0_0 : (List Int)) (h1_0 : (List Int)) (x8 : Int) (h4 : (List Int)) (h6 : (List Int)) : (evCode pg (R01_Div_T n) (loopsTold (R01_Div_told n)) 0 (lp 0 (codeOf f_R01_Div) 0).2 (spSt 68 R01_Div_h0.ts [.lf (.ptr 32 0), .lf (.ptr 48 0), .lf (.ptr 64 0), .lf (.ptr 80 0), .lf (.ref 900006), .lf (.ptr 112 0), .lf (.int IntKind.i64 x8)] [(32, ⟨true, .cells [.dat (Ty.int IntKind.i64) h0_0]⟩), (48, ⟨true, .cells [.dat (Ty.int IntKind.i64) h1_0]⟩), (64, ⟨true, .cells [.nil]⟩), (80, ⟨true, .cells [.nil]⟩), (900006, ⟨true, .arr 3 (Ty.int IntKind.i64) h4⟩), (112, ⟨true, .cells [.ref 600112]⟩), (600112, ⟨true, .arr 3 (Ty.int IntKind.i64) h6⟩)])).pt (seeEv 68 R01_Div_h0 R01_Div_x0 R01_Div_y0) =
    (R01_Div_b0 n h0_0 h1_0 x8 h4 h6).pt (fun x' => .norm (R01_Div_mk0 (h0_0, h1_0) x').1 (R01_Div_mk0 (h0_0, h1_0) x').2) (R01_Div_ev0 (h0_0, h1_0)) := by kernel_rfl
theorem R01_Div_pm0 : ∀ vs hp x, R01_Div_pt0 vs hp = some x → R01_Div_mk0 x.1 x.2 = (vs, hp) := by
  intro vs hp x h
  unfold R01_Div_pt0 at h
  split at h <;> first | (cases h; rfl) | cases h
theorem R01_Div_k0 (n : Nat) : LoopOK pg (loopsTold (R01_Div_told n)) (lp 0 (codeOf f_R01_Div) 0) :=
  loop_lift pg_mixed (T := (R01_Div_T n)) (R01_Div_T_ok n) (b := 0) (len := 68) (body := (lp 0 (codeOf f_R01_Div) 0).2) (ch := R01_Div_h0) (cx := R01_Div_x0) (cr := R01_Div_y0) R01_Div_mk0 R01_Div_ev0 R01_Div_an0 (fun i x => R01_Div_b0 n i.1 i.2 x.1 x.2.1 x.2.2) n R01_Div_pt0 R01_Div_pm0 (fun i r K h => h)
    regs_told (loops_told1 (by kernel_rfl) (R01_Div_k2 n)) (fun _ => by kernel_rfl) (fun i x => R01_Div_r0 n i.1 i.2 x.1 x.2.1 x.2.2)
theorem R01_Div_e (n : Nat) (a0_0 : (List Int)) (a1_0 : (List Int)) : (evFn pg (R01_Div_T n) (loopsTold (R01_Div_told n)) f_R01_Div (codeOf f_R01_Div) [.agg [.dat (Ty.int IntKind.i64) a0_0], .agg [.dat (Ty.int IntKind.i64) a1_0]] []).pt (outEv pg f_R01_Div 0 [.cellRow 64 0 600064 3 (Ty.int IntKind.i64), .cellRow 80 0 600080 3 (Ty.int IntKind.i64), .cellRow 112 0 600112 3 (Ty.int IntKind.i64), .cellRen 64 0 600064, .cellRen 80 0 600080, .cellRen 112 0 600112] false) =
    (R01_Div n a0_0 a1_0).pt (fun _ => .norm [] []) (fun y => .out (R01_Div_res y)) := by kernel_rfl
theorem R01_Div_call (n : Nat) (a0_0 : (List Int)) (a1_0 : (List Int)) (y : ((List Int) × (List Int))) (hy : F_R01_Div n (a0_0, a1_0) = some y) : Enters pg n_R01_Div ∧ CallOK pg n_R01_Div [.agg [.dat (Ty.int IntKind.i64) a0_0], .agg [.dat (Ty.int IntKind.i64) a1_0]] [] (R01_Div_res y) := fn_lift (fn := f_R01_Div) pg_mixed (T := R01_Div_T n) (R01_Div_T_ok n) (L := loopsTold (R01_Div_told n)) (by kernel_rfl) (by kernel_rfl) (by kernel_rfl) regs_told (loops_told1 (by kernel_rfl) (R01_Div_k0 n)) (args := [.agg [.dat (Ty.int IntKind.i64) a0_0], .agg [.dat (Ty.int IntKind.i64) a1_0]]) (es := []) R01_Div_res [.cellRow 64 0 600064 3 (Ty.int IntKind.i64), .cellRow 80 0 600080 3 (Ty.int IntKind.i64), .cellRow 112 0 600112 3 (Ty.int IntKind.i64), .cellRen 64 0 600064, .cellRen 80 0 600080, .cellRen 112 0 600112] false (fun _ => rfl) (R01_Div n a0_0 a1_0) (R01_Div_e n a0_0 a1_0) hy
theorem en_R01_Div_ok (n : Nat) : (en_R01_Div (F_R01_Div n)).ok pg := Entry.data_ok <| by
  intro args es r h hv
  unfold R01_Div_ans at h
  simp only at h
  split at h
  · rename_i a0_0 a1_0
    cases h
    exact callAns_ok (fun y hy => R01_Div_call n a0_0 a1_0 y hy) hv
  · cases h
/-- The function, by what it is known to tell. -/
def sp_R01_Div (C : ((List Int) × (List Int)) → Bool) (V : ((List Int) × (List Int)) → ((List Int) × (List Int))) : Entry := .data n_R01_Div [[Ty.sl (Ty.int IntKind.i64)], [Ty.sl (Ty.int IntKind.i64)]] fun args es => match args, es with
  | [.agg [.dat (Ty.int IntKind.i64) a0_0], .agg [.dat (Ty.int IntKind.i64) a1_0]], [] => some { R01_Div_res (V (a0_0, a1_0)) with vc := C (a0_0, a1_0) }
  | _, _ => none
theorem sp_R01_Div_ok {C : ((List Int) × (List Int)) → Bool} {V : ((List Int) × (List Int)) → ((List Int) × (List Int))} (H : ∀ x, C x = true → ∃ n, F_R01_Div n x = some (V x)) : (sp_R01_Div C V).ok pg := Entry.data_ok <| by
  intro args es r h hv
  simp only at h
  split at h
  · rename_i a0_0 a1_0
    cases h
    obtain ⟨n, hn⟩ := H (a0_0, a1_0) hv
    exact ⟨(R01_Div_call n a0_0 a1_0 _ hn).1, (R01_Div_call n a0_0 a1_0 _ hn).2.vc⟩
  · cases h



end
end Go.Proofs.Ytlfdidaeachpoaa

/- The reference's long numbers: quotients. -/
namespace Go.Proofs.Ytlfdidaeachpoaa
open Go Go.RowKit
set_option maxRecDepth 100000

theorem digs16_lt {x m : Nat} (h : x < B16 ^ m) : (digs B16 x).length ≤ m := by
  by_cases hx : x = 0
  · subst hx
    rw [digs_zero]
    exact Nat.zero_le _
  obtain ⟨k, h1, h2, h3⟩ := digs_size (b := B16) (by decide) (Nat.pos_of_ne_zero hx)
  have := (Nat.pow_lt_pow_iff_right (by decide : 1 < B16)).1 (Nat.lt_of_le_of_lt h2 h)
  omega

theorem okM_lt {x m k : Nat} (h : x < B16 ^ m) (hm : m ≤ 2 ^ k) : okM k (digs B16 x) = true := okM_iff.2 ⟨Nat.le_trans (digs16_lt h) hm, wfd_digs (by decide) _⟩

theorem div16_in (n : Nat) {b : List Int} {x8 : Int} {a q : List Int} {R V : Nat} (hb : wfd B16 b = true) (lb : b.length ≤ 2 ^ 37) (hV : val B16 b = V) (hV0 : 0 < V) (hR : R < B16 * V) : ∀ (s lo hi k : Nat), hi - lo = s → s < k → lo ≤ hi → hi ≤ 65535 → lo * V ≤ R → R < (hi + 1) * V →
    R01_Div_l2 n (x8, a, b, q, digs B16 R) k ((lo : Int), (hi : Int)) = some ((R / V : Nat) : Int) := by
  have hVl : V < B16 ^ b.length := by rw [← hV]; exact val_lt (by decide) hb
  have hRl : R < B16 ^ (b.length + 1) := by
    refine Nat.lt_trans hR ?_
    rw [Nat.pow_succ, Nat.mul_comm (B16 ^ b.length)]
    exact (Nat.mul_lt_mul_left (by decide)).2 hVl
  intro s
  induction s using Nat.strongRecOn with
  | ind s ih =>
    intro lo hi k hs hk hle hhi h1 h2
    obtain ⟨k, rfl⟩ : ∃ k', k = k' + 1 := ⟨k - 1, by omega⟩
    rw [R01_Div_l2_s]
    unfold R01_Div_b2
    by_cases hlt : lo < hi
    · obtain ⟨m, hm⟩ : ∃ m, m = (lo + hi + 1) / 2 := ⟨_, rfl⟩
      have w1 : IntKind.i64.wrap ((lo : Int) + (hi : Int)) = ((lo + hi : Nat) : Int) := by rw [i64_in] <;> omega
      have w2 : IntKind.i64.wrap (((lo + hi : Nat) : Int) + 1) = ((lo + hi + 1 : Nat) : Int) := by rw [i64_in] <;> omega
      have w3 : ((lo + hi + 1 : Nat) : Int).tdiv 2 = (m : Int) := by rw [hm]; exact tdivN _ 2
      have w4 : IntKind.i64.wrap (m : Int) = (m : Int) := i64_in (by omega)
      have w5 : IntKind.u64.wrap (m : Int) = (m : Int) := u64_in (by omega)
      have w6 : IntKind.i64.wrap ((m : Int) - 1) = ((m - 1 : Nat) : Int) := by rw [i64_in] <;> omega
      have hmB : m < B16 := by have hB : B16 = 65536 := rfl; omega
      have hVm : V * m < B16 ^ (b.length + 1) := by
        rw [Nat.pow_succ]
        exact Nat.lt_of_lt_of_le ((Nat.mul_lt_mul_right (by omega)).2 hVl) (Nat.mul_le_mul_left _ (Nat.le_of_lt hmB))
      have vm : val B16 (digs B16 m) = m := val_digs (by decide) _
      have vVm : val B16 (digs B16 (V * m)) = V * m := val_digs (by decide) _
      have vR : val B16 (digs B16 R) = R := val_digs (by decide) _
      have c1 : (decide ((0 : Int) ≤ (m : Int)) && decide ((m : Int) < 18446744073709551616)) = true := by simp <;> omega
      have c2 : (okM 38 b && okM 38 (digs B16 m)) = true := by rw [okM_iff.2 ⟨by omega, hb⟩, okM_lt (m := 1) (by simpa using hmB) (by decide)]; rfl
      have c3 : (okM 40 (digs B16 (V * m)) && okM 40 (digs B16 R)) = true := by rw [okM_lt hVm (by omega), okM_lt hRl (by omega)]; rfl
      simp only [RT.run, w1, w2, w3, w4, w5, w6, Int.toNat_natCast, c1, c2, hV, vm, c3, vVm, vR, if_true]
      rw [if_pos (by simp; omega)]
      by_cases hc : m * V ≤ R
      · rw [if_pos (by
          have : cmpI ((V * m : Nat) : Int) (R : Int) ≤ 0 := by
            unfold cmpI
            rw [Nat.mul_comm]
            split
            · omega
            · rw [if_neg (by omega)]; omega
          simpa using this)]
        exact ih (hi - m) (by omega) m hi k rfl (by omega) (by omega) hhi hc h2
      · rw [if_neg (by
          have : ¬ cmpI ((V * m : Nat) : Int) (R : Int) ≤ 0 := by
            unfold cmpI
            rw [Nat.mul_comm]
            rw [if_neg (by omega), if_pos (by omega)]
            omega
          simpa using this)]
        exact ih (m - 1 - lo) (by omega) lo (m - 1) k rfl (by omega) (by omega) (by omega) h1 (by rw [show m - 1 + 1 = m by omega]; omega)
    · have : lo = hi := by omega
      subst this
      simp only [RT.run]
      rw [if_neg (by simp)]
      congr 2
      rw [Nat.div_eq_of_lt_le h1 h2]

theorem div16_l (n : Nat) {a b : List Int} {V : Nat} (ha : wfd B16 a = true) (hb : wfd B16 b = true) (la : a.length ≤ 2 ^ 37) (lb : b.length ≤ 2 ^ 37) (hV : val B16 b = V) (hV0 : 0 < V) (hn : 65536 < n) : ∀ (m k : Nat) (q : List Int) (R : Nat), m < k → m ≤ a.length →
    R < V → q.length = a.length → wfd B16 q = true → (∀ i, i < m → q.getD i 0 = 0) →
    ∃ q' D, R01_Div_l0 n (a, b) k ((m : Int) - 1, q, digs B16 R) = some (q', digs B16 ((val B16 a % B16 ^ m + B16 ^ m * R) % V)) ∧ wfd B16 q' = true ∧ q'.length = a.length ∧ val B16 q' = val B16 q + D ∧ D = (val B16 a % B16 ^ m + B16 ^ m * R) / V := by
  intro m
  induction m with
  | zero =>
    intro k q R hk _ hR hl hq _
    obtain ⟨k, rfl⟩ : ∃ k', k = k' + 1 := ⟨k - 1, by omega⟩
    refine ⟨q, 0, ?_, hq, hl, rfl, by simp [Nat.mod_one, Nat.div_eq_of_lt hR]⟩
    rw [R01_Div_l0_s]
    unfold R01_Div_b0
    simp [RT.run, Nat.mod_one, Nat.mod_eq_of_lt hR]
  | succ m ih =>
    intro k q R hk hm hR hl hq hz
    obtain ⟨k, rfl⟩ : ∃ k', k = k' + 1 := ⟨k - 1, by omega⟩
    rw [R01_Div_l0_s]
    unfold R01_Div_b0
    obtain ⟨am, ea, ba⟩ := getD16 ha m
    have va : val B16 a / B16 ^ m % B16 = am := by
      have := val_digit (by decide : 0 < B16) m ha
      rw [ea] at this; exact Int.ofNat_inj.1 this
    have hVl : V < B16 ^ b.length := by rw [← hV]; exact val_lt (by decide) hb
    have hB : B16 = 65536 := rfl
    -- the next rest
    obtain ⟨R', hR'⟩ : ∃ R', R' = am + B16 * R := ⟨_, rfl⟩
    have hR'V : R' < B16 * V := by
      have : B16 * (R + 1) ≤ B16 * V := Nat.mul_le_mul_left _ hR
      rw [Nat.mul_add, Nat.mul_one] at this
      omega
    have hR'l : R' < B16 ^ (b.length + 1) := by
      refine Nat.lt_trans hR'V ?_
      rw [Nat.pow_succ, Nat.mul_comm (B16 ^ b.length)]
      exact (Nat.mul_lt_mul_left (by decide)).2 hVl
    have hRl : R < B16 ^ b.length := Nat.lt_trans hR hVl
    have wx : wfd B16 ((am : Int) :: digs B16 R) = true := wfd_cons.2 ⟨⟨Int.natCast_nonneg _, by omega⟩, wfd_digs (by decide) _⟩
    have vx : val B16 ((am : Int) :: digs B16 R) = R' := by rw [val, Int.toNat_natCast, val_digs (by decide), hR']
    have lR := digs16_lt hRl
    obtain ⟨Q, hQ⟩ : ∃ Q, Q = R' / V := ⟨_, rfl⟩
    have hQB : Q < B16 := by rw [hQ, Nat.div_lt_iff_lt_mul hV0]; exact hR'V
    have hdm := Nat.div_add_mod R' V
    rw [← hQ] at hdm
    have hin := div16_in n (x8 := (m : Int)) (a := a) (q := q) hb lb hV hV0 hR'V 65535 0 65535 n rfl (by omega) (by omega) (Nat.le_refl _) (by omega) hR'V
    rw [← hQ] at hin
    have hin' : R01_Div_l2 n ((m : Int), a, b, q, digs B16 R') n ((0 : Int), (65535 : Int)) = some (Q : Int) := hin
    have e0 : (((m + 1 : Nat) : Int) - 1) = (m : Int) := by omega
    have w1 : IntKind.u64.wrap (Q : Int) = (Q : Int) := u64_in (by omega)
    have w2 : IntKind.i64.wrap ((m : Int) - 1) = (m : Int) - 1 := i64_in (by omega)
    have vQ : val B16 (digs B16 Q) = Q := val_digs (by decide) _
    have vVQ : val B16 (digs B16 (V * Q)) = V * Q := val_digs (by decide) _
    have vR' : val B16 (digs B16 R') = R' := val_digs (by decide) _
    have hVQ : V * Q ≤ R' := Nat.le.intro hdm
    have c0 : decide ((0 : Int) ≤ (m : Int)) = true := by simp
    have c1 : (decide ((0 : Int) ≤ (m : Int)) && decide ((m : Int) < (a.length : Int))) = true := by simp <;> omega
    have c2 : (decide (([(am : Int)].length + (digs B16 R).length) * 8 ≤ 140737488355328) && decide ([(am : Int)].length + (digs B16 R).length ≤ 9223372036854775807)) = true := by simp <;> omega
    have c3 : okM 40 ([(am : Int)] ++ digs B16 R) = true := okM_iff.2 ⟨by simp; omega, wx⟩
    have c4 : (decide ((0 : Int) ≤ (m : Int)) && decide ((m : Int) < (q.length : Int))) = true := by simp <;> omega
    have c5 : (decide ((0 : Int) ≤ (Q : Int)) && decide ((Q : Int) < 18446744073709551616)) = true := by simp <;> omega
    have c6 : (okM 38 b && okM 38 (digs B16 Q)) = true := by rw [okM_iff.2 ⟨by omega, hb⟩, okM_lt (m := 1) (by simpa using hQB) (by decide)]; rfl
    have c7 : (okM 39 (digs B16 R') && okM 39 (digs B16 (V * Q)) && decide (V * Q ≤ R')) = true := by
      rw [okM_lt hR'l (by omega), okM_lt (Nat.lt_of_le_of_lt hVQ hR'l) (by omega), decide_eq_true hVQ]; rfl
    have vx' : val B16 ([(am : Int)] ++ digs B16 R) = R' := vx
    simp only [RT.run, e0, Int.toNat_natCast, ea, rep1]
    rw [if_pos c0, if_pos c1, if_pos c2, if_pos c3, vx', hin']
    simp only [Option.bind_some, w1, w2, Int.toNat_natCast, hV, vQ, vVQ, vR']
    rw [if_pos c4, if_pos c5, if_pos c6, if_pos c7]
    have hRm : R' - V * Q = R' % V := by omega
    rw [hRm]
    have hq1 : wfd B16 (q.set m (Q : Int)) = true := wfd_set hq ⟨Int.natCast_nonneg _, Int.ofNat_lt.2 hQB⟩
    have hqv := val_set (b := B16) (xs := q) (i := m) (d := (Q : Int)) (by omega)
    rw [hz m (by omega)] at hqv
    simp only [Int.toNat_natCast, Int.toNat_zero, Nat.mul_zero, Nat.add_zero] at hqv
    obtain ⟨q', D, h1, h2, h3, h4, h5⟩ := ih k (q.set m (Q : Int)) (R' % V) (by omega) (by omega) (Nat.mod_lt _ hV0) (by rw [List.length_set]; exact hl) hq1
      (fun i hi => by rw [List.getD, List.getElem?_set]; rw [if_neg (by omega)]; exact hz i (by omega))
    -- the numbers
    have key : val B16 a % B16 ^ (m + 1) + B16 ^ (m + 1) * R = (val B16 a % B16 ^ m + B16 ^ m * (R' % V)) + B16 ^ m * Q * V := by
      rw [mod_top B16 (val B16 a) m, va, Nat.pow_succ, Nat.mul_assoc (B16 ^ m) B16 R, Nat.mul_assoc (B16 ^ m) Q V]
      have : B16 ^ m * (V * Q + R' % V) = B16 ^ m * (am + B16 * R) := by rw [hdm, hR']
      rw [Nat.mul_add, Nat.mul_add, Nat.mul_comm V Q] at this
      omega
    refine ⟨q', D + B16 ^ m * Q, ?_, h2, h3, by rw [h4]; omega, ?_⟩
    · rw [h1, key, Nat.add_mul_mod_self_right]
    · rw [key, Nat.add_mul_div_right _ _ hV0, h5]

theorem Div16_F {a b : List Int} (ha : okM 37 a = true) (hb : okM 37 b = true) (hV : 0 < val B16 b) : F_R01_Div (a.length + 65537) (a, b) = some (digs B16 (val B16 a / val B16 b), digs B16 (val B16 a % val B16 b)) := by
  rw [okM_iff] at ha hb
  unfold F_R01_Div R01_Div
  have w1 : IntKind.i64.wrap ((a.length : Int) - 1) = (a.length : Int) - 1 := i64_in (by omega)
  simp only [RT.run, w1, Int.toNat_natCast, nilD]
  rw [if_pos (by simp only [Bool.and_eq_true, decide_eq_true_eq]; exact ⟨⟨⟨by omega, trivial⟩, by omega⟩, by omega⟩)]
  obtain ⟨q', D, h1, h2, h3, h4, h5⟩ := div16_l (a.length + 65537) ha.2 hb.2 ha.1 hb.1 rfl hV (by omega) a.length (a.length + 65537) (List.replicate a.length 0) 0 (by omega) (Nat.le_refl _) hV (by simp) (wfd_replicate (by decide)) (fun i hi => by simp [List.getD, hi])
  rw [digs_zero, Nat.mul_zero, Nat.add_zero, Nat.mod_eq_of_lt (val_lt (by decide) ha.2)] at h1
  rw [Nat.mul_zero, Nat.add_zero, Nat.mod_eq_of_lt (val_lt (by decide) ha.2)] at h5
  rw [h1]
  simp only [Option.bind_some]
  rw [if_pos (okM_iff.2 ⟨by omega, h2⟩), h4, val_replicate, Nat.zero_add, h5, Nat.add_zero]

abbrev e_R01_Div (_ : Nat) : Entry := sp_R01_Div (fun x => okM 37 x.1 && okM 37 x.2 && decide (0 < val B16 x.2)) (fun x => (digs B16 (val B16 x.1 / val B16 x.2), digs B16 (val B16 x.1 % val B16 x.2)))
theorem e_R01_Div_ok (n : Nat) : (e_R01_Div n).ok pg := sp_R01_Div_ok fun x h => by
  simp only [Bool.and_eq_true, decide_eq_true_eq] at h
  exact ⟨_, Div16_F h.1.1 h.1.2 h.2⟩

end Go.Proofs.Ytlfdidaeachpoaa

/- The reference's numbers of the program's: in, out, common divisors. -/
namespace Go.Proofs.Ytlfdidaeachpoaa
open Go Go.RowKit
set_option maxRecDepth 100000
noncomputable section

abbrev R03_In_T (n : Nat) : CallT := tab [e_R01_Cut n]
abbrev R03_In_h0 : Cut := ⟨[.keep [0, 2, 3, 4], .gc, .nilRow 3 800003 3 (Ty.int IntKind.i64), .ren 3 700003, .ren 3 900003, .gc], [0, 2, 3, 4]⟩
abbrev R03_In_x0 : Cut := ⟨[.keep [2, 3], .gc, .nilRow 3 800003 3 (Ty.int IntKind.i64), .ren 3 700003, .ren 3 900003, .gc], [2, 3]⟩
abbrev R03_In_y0 : Cut := ⟨[.keep [2], .gc], [2]⟩
def R03_In_mk0 (i : (List Int)) (x : (Int × (List Int))) : List TV × List (Nat × Ent) := ([.lf (.dat (Ty.int IntKind.u32) i), .lf (.ptr 32 0), .lf (.ref 900003), .lf (.int IntKind.i64 x.1)], [(32, ⟨true, .cells [.nil]⟩), (900003, ⟨true, .arr 3 (Ty.int IntKind.i64) x.2⟩)])
def R03_In_pt0 : List TV → List (Nat × Ent) → Option ((List Int) × (Int × (List Int)))
  | [.lf (.dat (Ty.int IntKind.u32) x0), .lf (.ptr 32 0), .lf (.ref 900003), .lf (.int IntKind.i64 x4)], [(32, ⟨true, .cells [.nil]⟩), (900003, ⟨true, .arr 3 (Ty.int IntKind.i64) h1⟩)] => some (x0, (x4, h1))
  | _, _ => none
def R03_In_ev0 (i : (List Int)) (r : (List Int)) : PE := .exit 0 [.lf (.ptr 32 0), .lf (.ref 900003)] [(32, ⟨true, .cells [.nil]⟩), (900003, ⟨true, .arr 3 (Ty.int IntKind.i64) r⟩)]
def R03_In_an0 (i : (List Int)) (r : (List Int)) : Tree := .leaf (.exit 0 (spSt 28 [2, 3] [.lf (.ptr 32 0), .lf (.ref 900003)] [(32, ⟨true, .cells [.nil]⟩), (900003, ⟨true, .arr 3 (Ty.int IntKind.i64) r⟩)]))
def R03_In_b0 (n : Nat) (x0 : (List Int)) (x4 : Int) (h1 : (List Int)) : RT (Int × (List Int)) (List Int) :=
  (.rq 4 (.ite (decide (x4 < (↑x0.length : Int)))
  (.rq 3 (.req (decide ((0 : Int) ≤ x4) && decide (x4 < (↑x0.length : Int)))
  (.rq 5 (.req (decide ((0 : Int) ≤ x4) && decide (x4 < (↑x0.length : Int)))
  (.rq 4 (.req (decide
    ((h1.length +
          (((List.replicate (2 : Nat) (0 : Int)).set (0 : Nat) (IntKind.i64.wrap (Int.tmod (x0.getD x4.toNat (0 : Int)) (65536 : Int)))).set (1 : Nat)
              (IntKind.i64.wrap (IntKind.u32.wrap (Int.tdiv (x0.getD x4.toNat (0 : Int)) (65536 : Int))))).length) *
        (8 : Nat) ≤
      (140737488355328 : Nat)) &&
  decide
    (h1.length +
        (((List.replicate (2 : Nat) (0 : Int)).set (0 : Nat) (IntKind.i64.wrap (Int.tmod (x0.getD x4.toNat (0 : Int)) (65536 : Int)))).set (1 : Nat)
            (IntKind.i64.wrap (IntKind.u32.wrap (Int.tdiv (x0.getD x4.toNat (0 : Int)) (65536 : Int))))).length ≤
      (9223372036854775807 : Nat)))
  (.rq 4 (.again ((IntKind.i64.wrap (x4 + (1 : Int)), h1 ++ ((List.replicate (2 : Nat) (0 : Int)).set (0 : Nat) (IntKind.i64.wrap (Int.tmod (x0.getD x4.toNat (0 : Int)) (65536 : Int)))).set (1 : Nat) (IntKind.i64.wrap (IntKind.u32.wrap (Int.tdiv (x0.getD x4.toNat (0 : Int)) (65536 : Int))))))))))))))
  (.done h1)))
def R03_In_l0 (n : Nat) (i : (List Int)) : Nat → (Int × (List Int)) → Option (List Int) := loopN (fun rec x => (R03_In_b0 n i x.1 x.2).run rec)
theorem R03_In_l0_s (n : Nat) (i : (List Int)) (k : Nat) (x : (Int × (List Int))) : R03_In_l0 n i (k + 1) x = (R03_In_b0 n i x.1 x.2).run (R03_In_l0 n i k) := rfl
def R03_In_t0 (n : Nat) (σ : St) : Option Tree := match seeSt R03_In_h0.plan R03_In_h0.ts 28 σ with
  | some y => (match R03_In_pt0 y.1 y.2 with
    | some x => some (loopAns (R03_In_l0 n x.1 n x.2) (R03_In_an0 x.1))
    | none => none)
  | none => none
def R03_In_told (n : Nat) : Nat → St → Option Tree
  | 0, σ => R03_In_t0 n σ
  | _, _ => none
def R03_In_res (y : (List Int)) : CallRes := ⟨true, .agg [.ref 0], [], [⟨true, .arr 3 (Ty.int IntKind.i64) y⟩], false⟩
def R03_In (n : Nat) (a0 : (List Int)) : RT Unit (List Int) :=
  (.rq 3 (.call (R03_In_l0 n a0 n ((0 : Int), nilD (Ty.int IntKind.i64).den)) default fun v0 =>
  (.rq 1 (.req (okM (40 : Nat) v0)
  (.rq 1 (.done (digs B16 (val B16 v0))))))))
def F_R03_In (n : Nat) (x : (List Int)) : Option (List Int) := (R03_In n x).run fun _ => none
def R03_In_ans (F : (List Int) → Option (List Int)) : List TV → List Ent → Option CallRes
  | [.lf (.dat (Ty.int IntKind.u32) a0)], [] => some (callAns (F a0) R03_In_res)
  | _, _ => none
def en_R03_In (F : (List Int) → Option (List Int)) : Entry := .data n_R03_In [[Ty.sl (Ty.int IntKind.u32)]] (R03_In_ans F)
theorem R03_In_T_ok (n : Nat) : SoundT pg (R03_In_T n) := tab_sound ⟨e_R01_Cut_ok n, trivial⟩
theorem R03_In_r0 (n : Nat) (x0 : (List Int)) (x4 : Int) (h1 : (List Int)) : (evCode pg (R03_In_T n) (loopsTold (R03_In_told n)) 0 (lp 0 (codeOf f_R03_In) 0).2 (spSt 28 R03_In_h0.ts [.lf (.dat (Ty.int IntKind.u32) x0), .lf (.ptr 32 0), .lf (.ref 900003), .lf (.int IntKind.i64 x4)] [(32, ⟨true, .cells [.nil]⟩), (900003, ⟨true, .arr 3 (Ty.int IntKind.i64) h1⟩)])).pt (seeEv 28 R03_In_h0 R03_In_x0 R03_In_y0) =
    (R03_In_b0 n x0 x4 h1).pt (fun x' => .norm (R03_In_mk0 x0 x').1 (R03_In_mk0 x0 x').2) (R03_In_ev0 x0) := by kernel_rfl
theorem R03_In_pm0 : ∀ vs hp x, R03_In_pt0 vs hp = some x → R03_In_mk0 x.1 x.2 = (vs, hp) := by
  intro vs hp x h
  unfold R03_In_pt0 at h
  split at h <;> first | (cases h; rfl) | cases h
theorem R03_In_k0 (n : Nat) : LoopOK pg (loopsTold (R03_In_told n)) (lp 0 (codeOf f_R03_In) 0) :=
  loop_lift pg_mixed (T := (R03_In_T n)) (R03_In_T_ok n) (b := 0) (len := 28) (body := (lp 0 (codeOf f_R03_In) 0).2) (ch := R03_In_h0) (cx := R03_In_x0) (cr := R03_In_y0) R03_In_mk0 R03_In_ev0 R03_In_an0 (fun i x => R03_In_b0 n i x.1 x.2) n R03_In_pt0 R03_In_pm0 (fun i r K h => h)
    regs_told (loops_told0 (by kernel_rfl)) (fun _ => by kernel_rfl) (fun i x => R03_In_r0 n i x.1 x.2)
theorem R03_In_e (n : Nat) (a0 : (List Int)) : (evFn pg (R03_In_T n) (loopsTold (R03_In_told n)) f_R03_In (codeOf f_R03_In) [.lf (.dat (Ty.int IntKind.u32) a0)] []).pt (outEv pg f_R03_In 0 [.cellRow 32 0 600032 3 (Ty.int IntKind.i64), .cellRen 32 0 600032] false) =
    (R03_In n a0).pt (fun _ => .norm [] []) (fun y => .out (R03_In_res y)) := by kernel_rfl
theorem R03_In_call (n : Nat) (a0 : (List Int)) (y : (List Int)) (hy : F_R03_In n a0 = some y) : Enters pg n_R03_In ∧ CallOK pg n_R03_In [.lf (.dat (Ty.int IntKind.u32) a0)] [] (R03_In_res y) := fn_lift (fn := f_R03_In) pg_mixed (T := R03_In_T n) (R03_In_T_ok n) (L := loopsTold (R03_In_told n)) (by kernel_rfl) (by kernel_rfl) (by kernel_rfl) regs_told (loops_told1 (by kernel_rfl) (R03_In_k0 n)) (args := [.lf (.dat (Ty.int IntKind.u32) a0)]) (es := []) R03_In_res [.cellRow 32 0 600032 3 (Ty.int IntKind.i64), .cellRen 32 0 600032] false (fun _ => rfl) (R03_In n a0) (R03_In_e n a0) hy
theorem en_R03_In_ok (n : Nat) : (en_R03_In (F_R03_In n)).ok pg := Entry.data_ok <| by
  intro args es r h hv
  unfold R03_In_ans at h
  simp only at h
  split at h
  · rename_i a0
    cases h
    exact callAns_ok (fun y hy => R03_In_call n a0 y hy) hv
  · cases h
/-- The function, by what it is known to tell. -/
def sp_R03_In (C : (List Int) → Bool) (V : (List Int) → (List Int)) : Entry := .data n_R03_In [[Ty.sl (Ty.int IntKind.u32)]] fun args es => match args, es with
  | [.lf (.dat (Ty.int IntKind.u32) a0)], [] => some { R03_In_res (V a0) with vc := C a0 }
  | _, _ => none
theorem sp_R03_In_ok {C : (List Int) → Bool} {V : (List Int) → (List Int)} (H : ∀ x, C x = true → ∃ n, F_R03_In n x = some (V x)) : (sp_R03_In C V).ok pg := Entry.data_ok <| by
  intro args es r h hv
  simp only at h
  split at h
  · rename_i a0
    cases h
    obtain ⟨n, hn⟩ := H a0 hv
    exact ⟨(R03_In_call n a0 _ hn).1, (R03_In_call n a0 _ hn).2.vc⟩
  · cases h



theorem in16_l (n : Nat) {a : List Int} (ha : wfd B32 a = true) (la : a.length ≤ 2 ^ 36) : ∀ (r i k : Nat) (out : List Int), r < k → i + r = a.length → out.length ≤ 2 * i →
    ∃ D, R03_In_l0 n a k ((i : Int), out) = some (out ++ D) ∧ wfd B16 D = true ∧ D.length = 2 * r ∧ val B16 D = val B32 a / B32 ^ i := by
  intro r
  induction r with
  | zero =>
    intro i k out hk hi _
    obtain ⟨k, rfl⟩ : ∃ k', k = k' + 1 := ⟨k - 1, by omega⟩
    refine ⟨[], ?_, rfl, rfl, ?_⟩
    · rw [R03_In_l0_s]
      unfold R03_In_b0
      simp only [RT.run]
      rw [if_neg (by simp; omega)]
      simp
    · rw [Nat.div_eq_of_lt (Nat.lt_of_lt_of_le (val_lt (by decide) ha) (Nat.pow_le_pow_right (by decide) (by omega)))]
      rfl
  | succ r ih =>
    intro i k out hk hi ho
    obtain ⟨k, rfl⟩ : ∃ k', k = k' + 1 := ⟨k - 1, by omega⟩
    obtain ⟨u, hu, bu⟩ := getD_nat ha i
    have vu : val B32 a / B32 ^ i % B32 = u := by
      have := val_digit (by decide : 0 < B32) i ha
      rw [hu] at this; exact Int.ofNat_inj.1 this
    have w1 : IntKind.i64.wrap ((u % 65536 : Nat) : Int) = ((u % 65536 : Nat) : Int) := i64_in (by omega)
    have w2 : IntKind.u32.wrap ((u / 65536 : Nat) : Int) = ((u / 65536 : Nat) : Int) := u32_in (by omega)
    have w3 : IntKind.i64.wrap ((u / 65536 : Nat) : Int) = ((u / 65536 : Nat) : Int) := i64_in (by omega)
    have w4 : IntKind.i64.wrap ((i : Int) + 1) = ((i + 1 : Nat) : Int) := by rw [i64_in] <;> omega
    have r2 : ((List.replicate 2 (0 : Int)).set 0 ((u % 65536 : Nat) : Int)).set 1 ((u / 65536 : Nat) : Int) = [((u % 65536 : Nat) : Int), ((u / 65536 : Nat) : Int)] := rfl
    have c1 : (decide ((0 : Int) ≤ (i : Int)) && decide ((i : Int) < (a.length : Int))) = true := by simp <;> omega
    obtain ⟨D, h1, h2, h3, h4⟩ := ih (i + 1) k (out ++ [((u % 65536 : Nat) : Int), ((u / 65536 : Nat) : Int)]) (by omega) (by omega) (by simp; omega)
    refine ⟨((u % 65536 : Nat) : Int) :: ((u / 65536 : Nat) : Int) :: D, ?_, ?_, by simp; omega, ?_⟩
    · rw [R03_In_l0_s]
      unfold R03_In_b0
      simp only [RT.run, Int.toNat_natCast, hu, tmod16, tdiv16, w1, w2, w3, w4, r2]
      rw [if_pos (by simp; omega), if_pos c1, if_pos c1, if_pos (by simp <;> omega), h1, List.append_assoc]
      rfl
    · rw [wfd_cons, wfd_cons]
      have hB : ((B16 : Nat) : Int) = 65536 := rfl
      exact ⟨⟨by omega, by omega⟩, ⟨by omega, by omega⟩, h2⟩
    · rw [val, val, Int.toNat_natCast, Int.toNat_natCast, h4, Nat.pow_succ, ← Nat.div_div_eq_div_mul]
      have := Nat.mod_add_div (val B32 a / B32 ^ i) B32
      rw [vu] at this
      have hB : B16 = 65536 := rfl
      have hB2 : B32 = 4294967296 := rfl
      generalize val B32 a / B32 ^ i / B32 = T at *
      rw [hB, ← this, hB2]
      omega

theorem In_F {a : List Int} (h : okN 36 a = true) : F_R03_In (a.length + 1) a = some (digs B16 (val B32 a)) := by
  rw [okN_iff] at h
  unfold F_R03_In R03_In
  simp only [RT.run, nilD]
  obtain ⟨D, h1, h2, h3, h4⟩ := in16_l (a.length + 1) h.2 h.1 a.length 0 (a.length + 1) [] (by omega) (by omega) (by simp)
  have h1' : R03_In_l0 (a.length + 1) a (a.length + 1) ((0 : Int), []) = some D := h1
  rw [h1']
  simp only [Option.bind_some]
  rw [if_pos (okM_iff.2 ⟨by omega, h2⟩), h4, Nat.pow_zero, Nat.div_one]

abbrev e_R03_In (_ : Nat) : Entry := sp_R03_In (fun x => okN 36 x) (fun x => digs B16 (val B32 x))
theorem e_R03_In_ok (n : Nat) : (e_R03_In n).ok pg := sp_R03_In_ok fun x h => ⟨_, In_F h⟩

abbrev R03_Out_T (n : Nat) : CallT := tab []
abbrev R03_Out_h0 : Cut := ⟨[.keep [1, 3, 4], .gc, .nilRow 3 800003 90 (Ty.int IntKind.u32), .ren 3 700003, .ren 3 900003, .gc], [1, 3, 4]⟩
abbrev R03_Out_x0 : Cut := ⟨[.keep [3], .gc, .nilRow 3 800003 90 (Ty.int IntKind.u32), .ren 3 700003, .ren 3 900003, .gc], [3]⟩
abbrev R03_Out_y0 : Cut := ⟨[.keep [2], .gc], [2]⟩
def R03_Out_mk0 (i : (List Int)) (x : (Int × (List Int))) : List TV × List (Nat × Ent) := ([.lf (.ptr 16 0), .lf (.ref 900003), .lf (.int IntKind.i64 x.1)], [(16, ⟨true, .cells [.dat (Ty.int IntKind.i64) i]⟩), (900003, ⟨true, .arr 90 (Ty.int IntKind.u32) x.2⟩)])
def R03_Out_pt0 : List TV → List (Nat × Ent) → Option ((List Int) × (Int × (List Int)))
  | [.lf (.ptr 16 0), .lf (.ref 900003), .lf (.int IntKind.i64 x4)], [(16, ⟨true, .cells [.dat (Ty.int IntKind.i64) h0_0]⟩), (900003, ⟨true, .arr 90 (Ty.int IntKind.u32) h1⟩)] => some (h0_0, (x4, h1))
  | _, _ => none
def R03_Out_ev0 (i : (List Int)) (r : (List Int)) : PE := .exit 0 [.lf (.ref 900003)] [(900003, ⟨true, .arr 90 (Ty.int IntKind.u32) r⟩)]
def R03_Out_an0 (i : (List Int)) (r : (List Int)) : Tree := .leaf (.exit 0 (spSt 40 [3] [.lf (.ref 900003)] [(900003, ⟨true, .arr 90 (Ty.int IntKind.u32) r⟩)]))
def R03_Out_b0 (n : Nat) (h0_0 : (List Int)) (x4 : Int) (h1 : (List Int)) : RT (Int × (List Int)) (List Int) :=
  (.rq 5 (.ite (decide (x4 < (↑h0_0.length : Int)))
  (.rq 3 (.req (decide ((0 : Int) ≤ x4) && decide (x4 < (↑h0_0.length : Int)))
  (.rq 9 (.ite (decide (IntKind.i64.wrap (x4 + (1 : Int)) < (↑h0_0.length : Int)))
  (.rq 5 (.req (decide ((0 : Int) ≤ IntKind.i64.wrap (x4 + (1 : Int))) && decide (IntKind.i64.wrap (x4 + (1 : Int)) < (↑h0_0.length : Int)))
  (.rq 8 (.req (decide
    ((h1.length +
          ((List.replicate (1 : Nat) (0 : Int)).set (0 : Nat)
              (IntKind.u32.wrap (IntKind.u32.wrap (h0_0.getD x4.toNat (0 : Int)) + IntKind.u32.wrap (IntKind.u32.wrap (h0_0.getD (IntKind.i64.wrap (x4 + (1 : Int))).toNat (0 : Int)) * (65536 : Int))))).length) *
        (4 : Nat) ≤
      (140737488355328 : Nat)) &&
  decide
    (h1.length +
        ((List.replicate (1 : Nat) (0 : Int)).set (0 : Nat)
            (IntKind.u32.wrap (IntKind.u32.wrap (h0_0.getD x4.toNat (0 : Int)) + IntKind.u32.wrap (IntKind.u32.wrap (h0_0.getD (IntKind.i64.wrap (x4 + (1 : Int))).toNat (0 : Int)) * (65536 : Int))))).length ≤
      (9223372036854775807 : Nat)))
  (.rq 4 (.again ((IntKind.i64.wrap (x4 + (2 : Int)), h1 ++
  (List.replicate (1 : Nat) (0 : Int)).set (0 : Nat) (IntKind.u32.wrap (IntKind.u32.wrap (h0_0.getD x4.toNat (0 : Int)) + IntKind.u32.wrap (IntKind.u32.wrap (h0_0.getD (IntKind.i64.wrap (x4 + (1 : Int))).toNat (0 : Int)) * (65536 : Int))))))))))))
  (.rq 3 (.req (decide ((h1.length + ((List.replicate (1 : Nat) (0 : Int)).set (0 : Nat) (IntKind.u32.wrap (h0_0.getD x4.toNat (0 : Int)))).length) * (4 : Nat) ≤ (140737488355328 : Nat)) &&
  decide (h1.length + ((List.replicate (1 : Nat) (0 : Int)).set (0 : Nat) (IntKind.u32.wrap (h0_0.getD x4.toNat (0 : Int)))).length ≤ (9223372036854775807 : Nat)))
  (.rq 4 (.again ((IntKind.i64.wrap (x4 + (2 : Int)), h1 ++ (List.replicate (1 : Nat) (0 : Int)).set (0 : Nat) (IntKind.u32.wrap (h0_0.getD x4.toNat (0 : Int)))))))))))))
  (.done h1)))
def R03_Out_l0 (n : Nat) (i : (List Int)) : Nat → (Int × (List Int)) → Option (List Int) := loopN (fun rec x => (R03_Out_b0 n i x.1 x.2).run rec)
theorem R03_Out_l0_s (n : Nat) (i : (List Int)) (k : Nat) (x : (Int × (List Int))) : R03_Out_l0 n i (k + 1) x = (R03_Out_b0 n i x.1 x.2).run (R03_Out_l0 n i k) := rfl
def R03_Out_t0 (n : Nat) (σ : St) : Option Tree := match seeSt R03_Out_h0.plan R03_Out_h0.ts 40 σ with
  | some y => (match R03_Out_pt0 y.1 y.2 with
    | some x => some (loopAns (R03_Out_l0 n x.1 n x.2) (R03_Out_an0 x.1))
    | none => none)
  | none => none
def R03_Out_told (n : Nat) : Nat → St → Option Tree
  | 0, σ => R03_Out_t0 n σ
  | _, _ => none
def R03_Out_res (y : (List Int)) : CallRes := ⟨true, .lf (.ref 0), [], [⟨true, .arr 90 (Ty.int IntKind.u32) y⟩], false⟩
def R03_Out (n : Nat) (a0_0 : (List Int)) : RT Unit (List Int) :=
  (.rq 4 (.call (R03_Out_l0 n a0_0 n ((0 : Int), nilD (Ty.int IntKind.u32).den)) default fun v0 =>
  (.rq 2 (.done v0))))
def F_R03_Out (n : Nat) (x : (List Int)) : Option (List Int) := (R03_Out n x).run fun _ => none
def R03_Out_ans (F : (List Int) → Option (List Int)) : List TV → List Ent → Option CallRes
  | [.agg [.dat (Ty.int IntKind.i64) a0_0]], [] => some (callAns (F a0_0) R03_Out_res)
  | _, _ => none
def en_R03_Out (F : (List Int) → Option (List Int)) : Entry := .data n_R03_Out [[Ty.sl (Ty.int IntKind.i64)]] (R03_Out_ans F)
theorem R03_Out_T_ok (n : Nat) : SoundT pg (R03_Out_T n) := tab_sound trivial
theorem R03_Out_r0 (n : Nat) (h0_0 : (List Int)) (x4 : Int) (h1 : (List Int)) : (evCode pg (R03_Out_T n) (loopsTold (R03_Out_told n)) 0 (lp 0 (codeOf f_R03_Out) 0).2 (spSt 40 R03_Out_h0.ts [.lf (.ptr 16 0), .lf (.ref 900003), .lf (.int IntKind.i64 x4)] [(16, ⟨true, .cells [.dat (Ty.int IntKind.i64) h0_0]⟩), (900003, ⟨true, .arr 90 (Ty.int IntKind.u32) h1⟩)])).pt (seeEv 40 R03_Out_h0 R03_Out_x0 R03_Out_y0) =
    (R03_Out_b0 n h0_0 x4 h1).pt (fun x' => .norm (R03_Out_mk0 h0_0 x').1 (R03_Out_mk0 h0_0 x').2) (R03_Out_ev0 h0_0) := by kernel_rfl
theorem R03_Out_pm0 : ∀ vs hp x, R03_Out_pt0 vs hp = some x → R03_Out_mk0 x.1 x.2 = (vs, hp) := by
  intro vs hp x h
  unfold R03_Out_pt0 at h
  split at h <;> first | (cases h; rfl) | cases h
theorem R03_Out_k0 (n : Nat) : LoopOK pg (loopsTold (R03_Out_told n)) (lp 0 (codeOf f_R03_Out) 0) :=
  loop_lift pg_mixed (T := (R03_Out_T n)) (R03_Out_T_ok n) (b := 0) (len := 40) (body := (lp 0 (codeOf f_R03_Out) 0).2) (ch := R03_Out_h0) (cx := R03_Out_x0) (cr := R03_Out_y0) R03_Out_mk0 R03_Out_ev0 R03_Out_an0 (fun i x => R03_Out_b0 n i x.1 x.2) n R03_Out_pt0 R03_Out_pm0 (fun i r K h => h)
    regs_told (loops_told0 (by kernel_rfl)) (fun _ => by kernel_rfl) (fun i x => R03_Out_r0 n i x.1 x.2)
theorem R03_Out_e (n : Nat) (a0_0 : (List Int)) : (evFn pg (R03_Out_T n) (loopsTold (R03_Out_told n)) f_R03_Out (codeOf f_R03_Out) [.agg [.dat (Ty.int IntKind.i64) a0_0]] []).pt (outEv pg f_R03_Out 0 [.nilRow 2 800002 90 (Ty.int IntKind.u32), .ren 2 700002, .ren 2 900002] false) =
    (R03_Out n a0_0).pt (fun _ => .norm [] []) (fun y => .out (R03_Out_res y)) := by kernel_rfl
theorem R03_Out_call (n : Nat) (a0_0 : (List Int)) (y : (List Int)) (hy : F_R03_Out n a0_0 = some y) : Enters pg n_R03_Out ∧ CallOK pg n_R03_Out [.agg [.dat (Ty.int IntKind.i64) a0_0]] [] (R03_Out_res y) := fn_lift (fn := f_R03_Out) pg_mixed (T := R03_Out_T n) (R03_Out_T_ok n) (L := loopsTold (R03_Out_told n)) (by kernel_rfl) (by kernel_rfl) (by kernel_rfl) regs_told (loops_told1 (by kernel_rfl) (R03_Out_k0 n)) (args := [.agg [.dat (Ty.int IntKind.i64) a0_0]]) (es := []) R03_Out_res [.nilRow 2 800002 90 (Ty.int IntKind.u32), .ren 2 700002, .ren 2 900002] false (fun _ => rfl) (R03_Out n a0_0) (R03_Out_e n a0_0) hy
theorem en_R03_Out_ok (n : Nat) : (en_R03_Out (F_R03_Out n)).ok pg := Entry.data_ok <| by
  intro args es r h hv
  unfold R03_Out_ans at h
  simp only at h
  split at h
  · rename_i a0_0
    cases h
    exact callAns_ok (fun y hy => R03_Out_call n a0_0 y hy) hv
  · cases h
/-- The function, by what it is known to tell. -/
def sp_R03_Out (C : (List Int) → Bool) (V : (List Int) → (List Int)) : Entry := .data n_R03_Out [[Ty.sl (Ty.int IntKind.i64)]] fun args es => match args, es with
  | [.agg [.dat (Ty.int IntKind.i64) a0_0]], [] => some { R03_Out_res (V a0_0) with vc := C a0_0 }
  | _, _ => none
theorem sp_R03_Out_ok {C : (List Int) → Bool} {V : (List Int) → (List Int)} (H : ∀ x, C x = true → ∃ n, F_R03_Out n x = some (V x)) : (sp_R03_Out C V).ok pg := Entry.data_ok <| by
  intro args es r h hv
  simp only at h
  split at h
  · rename_i a0_0
    cases h
    obtain ⟨n, hn⟩ := H a0_0 hv
    exact ⟨(R03_Out_call n a0_0 _ hn).1, (R03_Out_call n a0_0 _ hn).2.vc⟩
  · cases h



theorem out32_l (n : Nat) {a : List Int} (ha : wfd B16 a = true) (la : a.length ≤ 2 ^ 38) : ∀ (r i k : Nat) (out : List Int), r < k → a.length ≤ i + 2 * r → i + 2 * r ≤ a.length + 1 → out.length ≤ i →
    ∃ D, R03_Out_l0 n a k ((i : Int), out) = some (out ++ D) ∧ wfd B32 D = true ∧ D.length = r ∧ val B32 D = val B16 a / B16 ^ i := by
  intro r
  induction r with
  | zero =>
    intro i k out hk hi hi' _
    obtain ⟨k, rfl⟩ : ∃ k', k = k' + 1 := ⟨k - 1, by omega⟩
    refine ⟨[], ?_, rfl, rfl, by rw [div_pow_zero ha (by omega)]; rfl⟩
    rw [R03_Out_l0_s]
    unfold R03_Out_b0
    simp only [RT.run]
    rw [if_neg (by simp; omega)]
    simp
  | succ r ih =>
    intro i k out hk hi hi' ho
    obtain ⟨k, rfl⟩ : ∃ k', k = k' + 1 := ⟨k - 1, by omega⟩
    obtain ⟨d0, h0, b0⟩ := getD16 ha i
    obtain ⟨d1, h1, b1⟩ := getD16 ha (i + 1)
    have v0 : val B16 a / B16 ^ i % B16 = d0 := by
      have := val_digit (by decide : 0 < B16) i ha
      rw [h0] at this; exact Int.ofNat_inj.1 this
    have v1 : val B16 a / B16 ^ (i + 1) % B16 = d1 := by
      have := val_digit (by decide : 0 < B16) (i + 1) ha
      rw [h1] at this; exact Int.ofNat_inj.1 this
    have w0 : IntKind.i64.wrap ((i : Int) + 1) = ((i + 1 : Nat) : Int) := by rw [i64_in] <;> omega
    have w1 : IntKind.i64.wrap ((i : Int) + 2) = ((i + 2 : Nat) : Int) := by rw [i64_in] <;> omega
    have w2 : IntKind.u32.wrap (d0 : Int) = (d0 : Int) := u32_in (by omega)
    have w3 : IntKind.u32.wrap (d1 : Int) = (d1 : Int) := u32_in (by omega)
    have w4 : IntKind.u32.wrap ((d1 : Int) * 65536) = ((d1 * 65536 : Nat) : Int) := by rw [u32_in] <;> omega
    have w5 : IntKind.u32.wrap ((d0 : Int) + ((d1 * 65536 : Nat) : Int)) = ((d0 + d1 * 65536 : Nat) : Int) := by rw [u32_in] <;> omega
    have c1 : (decide ((0 : Int) ≤ (i : Int)) && decide ((i : Int) < (a.length : Int))) = true := by simp <;> omega
    have s0 := div_step (val B16 a) i
    have s1 := div_step (val B16 a) (i + 1)
    rw [v0] at s0
    rw [v1] at s1
    have hB : B16 = 65536 := rfl
    have hB2 : B32 = 4294967296 := rfl
    have step : ∀ x : Nat, x < 4294967296 → x + 4294967296 * (val B16 a / B16 ^ (i + 2)) = val B16 a / B16 ^ i → ∃ D, R03_Out_l0 n a k (((i + 2 : Nat) : Int), out ++ [(x : Int)]) = some (out ++ D) ∧ wfd B32 D = true ∧ D.length = r + 1 ∧ val B32 D = val B16 a / B16 ^ i := by
      intro x hx hxe
      obtain ⟨D, g1, g2, g3, g4⟩ := ih (i + 2) k (out ++ [(x : Int)]) (by omega) (by omega) (by omega) (by simp; omega)
      refine ⟨(x : Int) :: D, by rw [g1, List.append_assoc]; rfl, wfd_cons.2 ⟨⟨Int.natCast_nonneg _, by omega⟩, g2⟩, by simp [g3], ?_⟩
      rw [val, Int.toNat_natCast, g4, hB2]
      exact hxe
    rw [R03_Out_l0_s]
    unfold R03_Out_b0
    simp only [RT.run, Int.toNat_natCast, w0, w1, h0, h1, w2, w3, w4, w5, rep1]
    rw [if_pos (by simp; omega), if_pos c1]
    by_cases hlast : i + 1 < a.length
    · rw [if_pos (by simp; omega), if_pos (by simp <;> omega), if_pos (by simp <;> omega)]
      refine step _ (by omega) ?_
      have t0 : val B16 a / B16 ^ i = d0 + 65536 * (val B16 a / B16 ^ (i + 1)) := s0
      have t1 : val B16 a / B16 ^ (i + 1) = d1 + 65536 * (val B16 a / B16 ^ (i + 2)) := s1
      rw [t0, t1]
      omega
    · rw [if_neg (by simp; omega), if_pos (by simp <;> omega)]
      refine step _ (by omega) ?_
      have z := div_pow_zero ha (i := i + 1) (by omega)
      have z2 := div_pow_zero ha (i := i + 2) (by omega)
      have t0 : val B16 a / B16 ^ i = d0 + 65536 * (val B16 a / B16 ^ (i + 1)) := s0
      rw [t0, z, z2]

theorem pow_B32 (k : Nat) : B32 ^ k = B16 ^ (2 * k) := by rw [Nat.pow_mul, show B16 ^ 2 = B32 by decide]

theorem digs_half (v : Nat) : (digs B32 v).length = ((digs B16 v).length + 1) / 2 := by
  by_cases hv : v = 0
  · subst hv; rfl
  obtain ⟨m, h1, h2, h3⟩ := digs_size (b := B16) (by decide) (Nat.pos_of_ne_zero hv)
  obtain ⟨k, h4, h5, h6⟩ := digs_size (b := B32) (by decide) (Nat.pos_of_ne_zero hv)
  rw [pow_B32] at h5 h6
  have a := (Nat.pow_lt_pow_iff_right (by decide : 1 < B16)).1 (Nat.lt_of_le_of_lt h5 h3)
  have b := (Nat.pow_lt_pow_iff_right (by decide : 1 < B16)).1 (Nat.lt_of_le_of_lt h2 h6)
  omega

theorem Out_F {v n : Nat} (h : (digs B16 v).length ≤ 2 ^ 38) (hn : (digs B16 v).length < n) : F_R03_Out n (digs B16 v) = some (digs B32 v) := by
  have hw := wfd_digs (b := B16) (by decide) v
  unfold F_R03_Out R03_Out
  simp only [RT.run, nilD]
  obtain ⟨D, h1, h2, h3, h4⟩ := out32_l n hw h (((digs B16 v).length + 1) / 2) 0 n [] (by omega) (by omega) (by omega) (by simp)
  have h1' : R03_Out_l0 n (digs B16 v) n ((0 : Int), []) = some D := h1
  rw [h1']
  simp only [Option.bind_some]
  rw [Nat.pow_zero, Nat.div_one, val_digs (by decide)] at h4
  have e1 := fixd_eq (b := B32) (by decide) h2
  have e2 := fixd_eq (b := B32) (by decide) (wfd_digs (b := B32) (by decide) v)
  rw [val_digs (by decide), digs_half] at e2
  rw [h4, h3] at e1
  rw [← e1, e2]

/-- A number of the reference, as it is made. -/
def isM (k : Nat) (x : List Int) : Bool := decide (x.length ≤ 2 ^ k) && decide (digs B16 (val B16 x) = x)

theorem isM_iff {k : Nat} {x : List Int} : isM k x = true ↔ x.length ≤ 2 ^ k ∧ digs B16 (val B16 x) = x := by simp [isM]

theorem isM_digs {k v : Nat} (h : (digs B16 v).length ≤ 2 ^ k) : isM k (digs B16 v) = true := isM_iff.2 ⟨h, by rw [val_digs (by decide)]⟩

theorem isM_wfd {k : Nat} {x : List Int} (h : isM k x = true) : wfd B16 x = true := by
  rw [isM_iff] at h
  rw [← h.2]
  exact wfd_digs (by decide) _

abbrev e_R03_Out (_ : Nat) : Entry := sp_R03_Out (fun x => isM 38 x) (fun x => digs B32 (val B16 x))
theorem e_R03_Out_ok (n : Nat) : (e_R03_Out n).ok pg := sp_R03_Out_ok fun x h => by
  rw [isM_iff] at h
  refine ⟨x.length + 1, ?_⟩
  have := Out_F (v := val B16 x) (n := x.length + 1) (by rw [h.2]; exact h.1) (by rw [h.2]; exact Nat.lt_succ_self _)
  rw [h.2] at this
  exact this

abbrev R03_Same_T (n : Nat) : CallT := tab []
abbrev R03_Same_h0 : Cut := ⟨[.keep [0, 1, 5], .gc], [0, 1, 5]⟩
abbrev R03_Same_x0 : Cut := ⟨[.keep [], .gc], []⟩
abbrev R03_Same_y0 : Cut := ⟨[.keep [4], .gc], [4]⟩
def R03_Same_mk0 (i : ((List Int) × (List Int))) (x : Int) : List TV × List (Nat × Ent) := ([.lf (.dat (Ty.int IntKind.u32) i.1), .lf (.dat (Ty.int IntKind.u32) i.2), .lf (.int IntKind.i64 x)], [])
def R03_Same_pt0 : List TV → List (Nat × Ent) → Option (((List Int) × (List Int)) × Int)
  | [.lf (.dat (Ty.int IntKind.u32) x0), .lf (.dat (Ty.int IntKind.u32) x1), .lf (.int IntKind.i64 x5)], [] => some ((x0, x1), x5)
  | _, _ => none
def R03_Same_ev0 (i : ((List Int) × (List Int))) : (LR Unit Bool) → PE
  | .ex z => .exit 0 [] []
  | .rt z => .ret [.lf (.bool z)] []
def R03_Same_an0 (i : ((List Int) × (List Int))) (r : (LR Unit Bool)) : Tree := .ite r.isRt (.leaf (.ret (spSt 26 [4] [.lf (.bool r.getR)] []))) (.leaf (.exit 0 (spSt 26 [] [] [])))
def R03_Same_b0 (n : Nat) (x0 : (List Int)) (x1 : (List Int)) (x5 : Int) : RT Int (LR Unit Bool) :=
  (.rq 4 (.ite (decide (x5 < (↑x0.length : Int)))
  (.rq 2 (.req (decide ((0 : Int) ≤ x5) && decide (x5 < (↑x0.length : Int)))
  (.rq 3 (.req (decide ((0 : Int) ≤ x5) && decide (x5 < (↑x1.length : Int)))
  (.rq 2 (.ite (x0.getD x5.toNat (0 : Int) != x1.getD x5.toNat (0 : Int))
  (.rq 1 (.done (.rt false)))
  (.rq 3 (.again (IntKind.i64.wrap (x5 + (1 : Int)))))))))))
  (.done (.ex ()))))
def R03_Same_l0 (n : Nat) (i : ((List Int) × (List Int))) : Nat → Int → Option (LR Unit Bool) := loopN (fun rec x => (R03_Same_b0 n i.1 i.2 x).run rec)
theorem R03_Same_l0_s (n : Nat) (i : ((List Int) × (List Int))) (k : Nat) (x : Int) : R03_Same_l0 n i (k + 1) x = (R03_Same_b0 n i.1 i.2 x).run (R03_Same_l0 n i k) := rfl
def R03_Same_t0 (n : Nat) (σ : St) : Option Tree := match seeSt R03_Same_h0.plan R03_Same_h0.ts 26 σ with
  | some y => (match R03_Same_pt0 y.1 y.2 with
    | some x => some (loopAns (R03_Same_l0 n x.1 n x.2) (R03_Same_an0 x.1))
    | none => none)
  | none => none
def R03_Same_told (n : Nat) : Nat → St → Option Tree
  | 0, σ => R03_Same_t0 n σ
  | _, _ => none
def R03_Same_res (y : Bool) : CallRes := ⟨true, .lf (.bool y), [], [], false⟩
def R03_Same (n : Nat) (a0 : (List Int)) (a1 : (List Int)) : RT Unit Bool :=
  (.rq 6 (.ite ((↑a0.length : Int) != (↑a1.length : Int))
  (.rq 1 (.done false))
  (.rq 1 (.call (R03_Same_l0 n (a0, a1) n (0 : Int)) default fun v0 =>
  (.ite (v0.isRt)
  (.done v0.getR)
  (.rq 1 (.done true)))))))
def F_R03_Same (n : Nat) (x : ((List Int) × (List Int))) : Option Bool := (R03_Same n x.1 x.2).run fun _ => none
def R03_Same_ans (F : ((List Int) × (List Int)) → Option Bool) : List TV → List Ent → Option CallRes
  | [.lf (.dat (Ty.int IntKind.u32) a0), .lf (.dat (Ty.int IntKind.u32) a1)], [] => some (callAns (F (a0, a1)) R03_Same_res)
  | _, _ => none
def en_R03_Same (F : ((List Int) × (List Int)) → Option Bool) : Entry := .data n_R03_Same [[Ty.sl (Ty.int IntKind.u32)], [Ty.sl (Ty.int IntKind.u32)]] (R03_Same_ans F)
theorem R03_Same_T_ok (n : Nat) : SoundT pg (R03_Same_T n) := tab_sound trivial
theorem R03_Same_r0 (n : Nat) (x0 : (List Int)) (x1 : (List Int)) (x5 : Int) : (evCode pg (R03_Same_T n) (loopsTold (R03_Same_told n)) 0 (lp 0 (codeOf f_R03_Same) 0).2 (spSt 26 R03_Same_h0.ts [.lf (.dat (Ty.int IntKind.u32) x0), .lf (.dat (Ty.int IntKind.u32) x1), .lf (.int IntKind.i64 x5)] [])).pt (seeEv 26 R03_Same_h0 R03_Same_x0 R03_Same_y0) =
    (R03_Same_b0 n x0 x1 x5).pt (fun x' => .norm (R03_Same_mk0 (x0, x1) x').1 (R03_Same_mk0 (x0, x1) x').2) (R03_Same_ev0 (x0, x1)) := by kernel_rfl
theorem R03_Same_pm0 : ∀ vs hp x, R03_Same_pt0 vs hp = some x → R03_Same_mk0 x.1 x.2 = (vs, hp) := by
  intro vs hp x h
  unfold R03_Same_pt0 at h
  split at h <;> first | (cases h; rfl) | cases h
theorem R03_Same_k0 (n : Nat) : LoopOK pg (loopsTold (R03_Same_told n)) (lp 0 (codeOf f_R03_Same) 0) :=
  loop_lift pg_mixed (T := (R03_Same_T n)) (R03_Same_T_ok n) (b := 0) (len := 26) (body := (lp 0 (codeOf f_R03_Same) 0).2) (ch := R03_Same_h0) (cx := R03_Same_x0) (cr := R03_Same_y0) R03_Same_mk0 R03_Same_ev0 R03_Same_an0 (fun i x => R03_Same_b0 n i.1 i.2 x) n R03_Same_pt0 R03_Same_pm0 (fun i r K h => by cases r with | ex z => exact h.2 rfl | rt z => exact h.1 rfl)
    regs_told (loops_told0 (by kernel_rfl)) (fun _ => by kernel_rfl) (fun i x => R03_Same_r0 n i.1 i.2 x)
theorem R03_Same_e (n : Nat) (a0 : (List Int)) (a1 : (List Int)) : (evFn pg (R03_Same_T n) (loopsTold (R03_Same_told n)) f_R03_Same (codeOf f_R03_Same) [.lf (.dat (Ty.int IntKind.u32) a0), .lf (.dat (Ty.int IntKind.u32) a1)] []).pt (outEv pg f_R03_Same 0 [] false) =
    (R03_Same n a0 a1).pt (fun _ => .norm [] []) (fun y => .out (R03_Same_res y)) := by kernel_rfl
theorem R03_Same_call (n : Nat) (a0 : (List Int)) (a1 : (List Int)) (y : Bool) (hy : F_R03_Same n (a0, a1) = some y) : Enters pg n_R03_Same ∧ CallOK pg n_R03_Same [.lf (.dat (Ty.int IntKind.u32) a0), .lf (.dat (Ty.int IntKind.u32) a1)] [] (R03_Same_res y) := fn_lift (fn := f_R03_Same) pg_mixed (T := R03_Same_T n) (R03_Same_T_ok n) (L := loopsTold (R03_Same_told n)) (by kernel_rfl) (by kernel_rfl) (by kernel_rfl) regs_told (loops_told1 (by kernel_rfl) (R03_Same_k0 n)) (args := [.lf (.dat (Ty.int IntKind.u32) a0), .lf (.dat (Ty.int IntKind.u32) a1)]) (es := []) R03_Same_res [] false (fun _ => rfl) (R03_Same n a0 a1) (R03_Same_e n a0 a1) hy
theorem en_R03_Same_ok (n : Nat) : (en_R03_Same (F_R03_Same n)).ok pg := Entry.data_ok <| by
  intro args es r h hv
  unfold R03_Same_ans at h
  simp only at h
  split at h
  · rename_i a0 a1
    cases h
    exact callAns_ok (fun y hy => R03_Same_call n a0 a1 y hy) hv
  · cases h
/-- The function, by what it is known to tell. -/
def sp_R03_Same (C : ((List Int) × (List Int)) → Bool) (V : ((List Int) × (List Int)) → Bool) : Entry := .data n_R03_Same [[Ty.sl (Ty.int IntKind.u32)], [Ty.sl (Ty.int IntKind.u32)]] fun args es => match args, es with
  | [.lf (.dat (Ty.int IntKind.u32) a0), .lf (.dat (Ty.int IntKind.u32) a1)], [] => some { R03_Same_res (V (a0, a1)) with vc := C (a0, a1) }
  | _, _ => none
theorem sp_R03_Same_ok {C : ((List Int) × (List Int)) → Bool} {V : ((List Int) × (List Int)) → Bool} (H : ∀ x, C x = true → ∃ n, F_R03_Same n x = some (V x)) : (sp_R03_Same C V).ok pg := Entry.data_ok <| by
  intro args es r h hv
  simp only at h
  split at h
  · rename_i a0 a1
    cases h
    obtain ⟨n, hn⟩ := H (a0, a1) hv
    exact ⟨(R03_Same_call n a0 a1 _ hn).1, (R03_Same_call n a0 a1 _ hn).2.vc⟩
  · cases h



theorem same_l (n : Nat) {a b : List Int} (hl : a.length = b.length) (la : a.length ≤ 2 ^ 60) : ∀ (r i k : Nat), r < k → i + r = a.length → R03_Same_l0 n (a, b) k (i : Int) = some (if a.drop i = b.drop i then .ex () else .rt false) := by
  intro r
  induction r with
  | zero =>
    intro i k hk hi
    obtain ⟨k, rfl⟩ : ∃ k', k = k' + 1 := ⟨k - 1, by omega⟩
    rw [R03_Same_l0_s]
    unfold R03_Same_b0
    simp only [RT.run]
    rw [if_neg (by simp; omega), if_pos (by rw [List.drop_of_length_le (by omega), List.drop_of_length_le (by omega)])]
  | succ r ih =>
    intro i k hk hi
    obtain ⟨k, rfl⟩ : ∃ k', k = k' + 1 := ⟨k - 1, by omega⟩
    have w : IntKind.i64.wrap ((i : Int) + 1) = ((i + 1 : Nat) : Int) := by rw [i64_in] <;> omega
    have ha : a.drop i = a.getD i 0 :: a.drop (i + 1) := by rw [List.drop_eq_getElem_cons (by omega)]; simp [List.getD, show i < a.length by omega]
    have hb : b.drop i = b.getD i 0 :: b.drop (i + 1) := by rw [List.drop_eq_getElem_cons (by omega)]; simp [List.getD, show i < b.length by omega]
    rw [R03_Same_l0_s, ha, hb]
    unfold R03_Same_b0
    simp only [RT.run, Int.toNat_natCast, w]
    rw [if_pos (by simp; omega), if_pos (by simp <;> omega), if_pos (by simp <;> omega)]
    by_cases h : a.getD i 0 = b.getD i 0
    · rw [h]
      simp only [bne_self_eq_false, Bool.false_eq_true, if_false, List.cons.injEq, true_and]
      exact ih (i + 1) k (by omega) (by omega)
    · rw [if_pos (by simpa using h), if_neg (fun e => h (List.cons.inj e).1)]

theorem Same_F {a b : List Int} (la : a.length ≤ 2 ^ 60) (n : Nat) (hn : a.length < n) : F_R03_Same n (a, b) = some (decide (a = b)) := by
  unfold F_R03_Same R03_Same
  simp only [RT.run]
  by_cases hl : a.length = b.length
  · rw [if_neg (by simp; omega)]
    have := same_l n hl la a.length 0 n hn (by omega)
    have h' : R03_Same_l0 n (a, b) n (0 : Int) = _ := this
    rw [h']
    simp only [List.drop_zero]
    by_cases h : a = b
    · rw [if_pos h]; simp [h, LR.isRt]
    · rw [if_neg h]; simp [h, LR.isRt, LR.getR]
  · rw [if_pos (by simp; omega)]
    have : a ≠ b := fun e => hl (by rw [e])
    simp [this]

abbrev e_R03_Same (_ : Nat) : Entry := sp_R03_Same (fun x => decide (x.1.length ≤ 2 ^ 60)) (fun x => decide (x.1 = x.2))
theorem e_R03_Same_ok (n : Nat) : (e_R03_Same n).ok pg := sp_R03_Same_ok fun x h => ⟨_, Same_F (of_decide_eq_true h) _ (Nat.lt_succ_self _)⟩

abbrev R07_Words_T (n : Nat) : CallT := tab []
abbrev R07_Words_h0 : Cut := ⟨[.keep [0, 1, 5], .gc], [0, 1, 5]⟩
abbrev R07_Words_x0 : Cut := ⟨[.keep [], .gc], []⟩
abbrev R07_Words_y0 : Cut := ⟨[.keep [4], .gc], [4]⟩
def R07_Words_mk0 (i : ((List Int) × (List Int))) (x : Int) : List TV × List (Nat × Ent) := ([.lf (.dat (Ty.int IntKind.u64) i.1), .lf (.dat (Ty.int IntKind.u64) i.2), .lf (.int IntKind.i64 x)], [])
def R07_Words_pt0 : List TV → List (Nat × Ent) → Option (((List Int) × (List Int)) × Int)
  | [.lf (.dat (Ty.int IntKind.u64) x0), .lf (.dat (Ty.int IntKind.u64) x1), .lf (.int IntKind.i64 x5)], [] => some ((x0, x1), x5)
  | _, _ => none
def R07_Words_ev0 (i : ((List Int) × (List Int))) : (LR Unit Bool) → PE
  | .ex z => .exit 0 [] []
  | .rt z => .ret [.lf (.bool z)] []
def R07_Words_an0 (i : ((List Int) × (List Int))) (r : (LR Unit Bool)) : Tree := .ite r.isRt (.leaf (.ret (spSt 26 [4] [.lf (.bool r.getR)] []))) (.leaf (.exit 0 (spSt 26 [] [] [])))
def R07_Words_b0 (n : Nat) (x0 : (List Int)) (x1 : (List Int)) (x5 : Int) : RT Int (LR Unit Bool) :=
  (.rq 4 (.ite (decide (x5 < (↑x0.length : Int)))
  (.rq 2 (.req (decide ((0 : Int) ≤ x5) && decide (x5 < (↑x0.length : Int)))
  (.rq 3 (.req (decide ((0 : Int) ≤ x5) && decide (x5 < (↑x1.length : Int)))
  (.rq 2 (.ite (x0.getD x5.toNat (0 : Int) != x1.getD x5.toNat (0 : Int))
  (.rq 1 (.done (.rt false)))
  (.rq 3 (.again (IntKind.i64.wrap (x5 + (1 : Int)))))))))))
  (.done (.ex ()))))
def R07_Words_l0 (n : Nat) (i : ((List Int) × (List Int))) : Nat → Int → Option (LR Unit Bool) := loopN (fun rec x => (R07_Words_b0 n i.1 i.2 x).run rec)
theorem R07_Words_l0_s (n : Nat) (i : ((List Int) × (List Int))) (k : Nat) (x : Int) : R07_Words_l0 n i (k + 1) x = (R07_Words_b0 n i.1 i.2 x).run (R07_Words_l0 n i k) := rfl
def R07_Words_t0 (n : Nat) (σ : St) : Option Tree := match seeSt R07_Words_h0.plan R07_Words_h0.ts 26 σ with
  | some y => (match R07_Words_pt0 y.1 y.2 with
    | some x => some (loopAns (R07_Words_l0 n x.1 n x.2) (R07_Words_an0 x.1))
    | none => none)
  | none => none
def R07_Words_told (n : Nat) : Nat → St → Option Tree
  | 0, σ => R07_Words_t0 n σ
  | _, _ => none
def R07_Words_res (y : Bool) : CallRes := ⟨true, .lf (.bool y), [], [], false⟩
def R07_Words (n : Nat) (a0 : (List Int)) (a1 : (List Int)) : RT Unit Bool :=
  (.rq 6 (.ite ((↑a0.length : Int) != (↑a1.length : Int))
  (.rq 1 (.done false))
  (.rq 1 (.call (R07_Words_l0 n (a0, a1) n (0 : Int)) default fun v0 =>
  (.ite (v0.isRt)
  (.done v0.getR)
  (.rq 1 (.done true)))))))
def F_R07_Words (n : Nat) (x : ((List Int) × (List Int))) : Option Bool := (R07_Words n x.1 x.2).run fun _ => none
def R07_Words_ans (F : ((List Int) × (List Int)) → Option Bool) : List TV → List Ent → Option CallRes
  | [.lf (.dat (Ty.int IntKind.u64) a0), .lf (.dat (Ty.int IntKind.u64) a1)], [] => some (callAns (F (a0, a1)) R07_Words_res)
  | _, _ => none
def en_R07_Words (F : ((List Int) × (List Int)) → Option Bool) : Entry := .data n_R07_Words [[Ty.sl (Ty.int IntKind.u64)], [Ty.sl (Ty.int IntKind.u64)]] (R07_Words_ans F)
theorem R07_Words_T_ok (n : Nat) : SoundT pg (R07_Words_T n) := tab_sound trivial
theorem R07_Words_r0 (n : Nat) (x0 : (List Int)) (x1 : (List Int)) (x5 : Int) : (evCode pg (R07_Words_T n) (loopsTold (R07_Words_told n)) 0 (lp 0 (codeOf f_R07_Words) 0).2 (spSt 26 R07_Words_h0.ts [.lf (.dat (Ty.int IntKind.u64) x0), .lf (.dat (Ty.int IntKind.u64) x1), .lf (.int IntKind.i64 x5)] [])).pt (seeEv 26 R07_Words_h0 R07_Words_x0 R07_Words_y0) =
    (R07_Words_b0 n x0 x1 x5).pt (fun x' => .norm (R07_Words_mk0 (x0, x1) x').1 (R07_Words_mk0 (x0, x1) x').2) (R07_Words_ev0 (x0, x1)) := by kernel_rfl
theorem R07_Words_pm0 : ∀ vs hp x, R07_Words_pt0 vs hp = some x → R07_Words_mk0 x.1 x.2 = (vs, hp) := by
  intro vs hp x h
  unfold R07_Words_pt0 at h
  split at h <;> first | (cases h; rfl) | cases h
theorem R07_Words_k0 (n : Nat) : LoopOK pg (loopsTold (R07_Words_told n)) (lp 0 (codeOf f_R07_Words) 0) :=
  loop_lift pg_mixed (T := (R07_Words_T n)) (R07_Words_T_ok n) (b := 0) (len := 26) (body := (lp 0 (codeOf f_R07_Words) 0).2) (ch := R07_Words_h0) (cx := R07_Words_x0) (cr := R07_Words_y0) R07_Words_mk0 R07_Words_ev0 R07_Words_an0 (fun i x => R07_Words_b0 n i.1 i.2 x) n R07_Words_pt0 R07_Words_pm0 (fun i r K h => by cases r with | ex z => exact h.2 rfl | rt z => exact h.1 rfl)
    regs_told (loops_told0 (by kernel_rfl)) (fun _ => by kernel_rfl) (fun i x => R07_Words_r0 n i.1 i.2 x)
theorem R07_Words_e (n : Nat) (a0 : (List Int)) (a1 : (List Int)) : (evFn pg (R07_Words_T n) (loopsTold (R07_Words_told n)) f_R07_Words (codeOf f_R07_Words) [.lf (.dat (Ty.int IntKind.u64) a0), .lf (.dat (Ty.int IntKind.u64) a1)] []).pt (outEv pg f_R07_Words 0 [] false) =
    (R07_Words n a0 a1).pt (fun _ => .norm [] []) (fun y => .out (R07_Words_res y)) := by kernel_rfl
theorem R07_Words_call (n : Nat) (a0 : (List Int)) (a1 : (List Int)) (y : Bool) (hy : F_R07_Words n (a0, a1) = some y) : Enters pg n_R07_Words ∧ CallOK pg n_R07_Words [.lf (.dat (Ty.int IntKind.u64) a0), .lf (.dat (Ty.int IntKind.u64) a1)] [] (R07_Words_res y) := fn_lift (fn := f_R07_Words) pg_mixed (T := R07_Words_T n) (R07_Words_T_ok n) (L := loopsTold (R07_Words_told n)) (by kernel_rfl) (by kernel_rfl) (by kernel_rfl) regs_told (loops_told1 (by kernel_rfl) (R07_Words_k0 n)) (args := [.lf (.dat (Ty.int IntKind.u64) a0), .lf (.dat (Ty.int IntKind.u64) a1)]) (es := []) R07_Words_res [] false (fun _ => rfl) (R07_Words n a0 a1) (R07_Words_e n a0 a1) hy
theorem en_R07_Words_ok (n : Nat) : (en_R07_Words (F_R07_Words n)).ok pg := Entry.data_ok <| by
  intro args es r h hv
  unfold R07_Words_ans at h
  simp only at h
  split at h
  · rename_i a0 a1
    cases h
    exact callAns_ok (fun y hy => R07_Words_call n a0 a1 y hy) hv
  · cases h
/-- The function, by what it is known to tell. -/
def sp_R07_Words (C : ((List Int) × (List Int)) → Bool) (V : ((List Int) × (List Int)) → Bool) : Entry := .data n_R07_Words [[Ty.sl (Ty.int IntKind.u64)], [Ty.sl (Ty.int IntKind.u64)]] fun args es => match args, es with
  | [.lf (.dat (Ty.int IntKind.u64) a0), .lf (.dat (Ty.int IntKind.u64) a1)], [] => some { R07_Words_res (V (a0, a1)) with vc := C (a0, a1) }
  | _, _ => none
theorem sp_R07_Words_ok {C : ((List Int) × (List Int)) → Bool} {V : ((List Int) × (List Int)) → Bool} (H : ∀ x, C x = true → ∃ n, F_R07_Words n x = some (V x)) : (sp_R07_Words C V).ok pg := Entry.data_ok <| by
  intro args es r h hv
  simp only at h
  split at h
  · rename_i a0 a1
    cases h
    obtain ⟨n, hn⟩ := H (a0, a1) hv
    exact ⟨(R07_Words_call n a0 a1 _ hn).1, (R07_Words_call n a0 a1 _ hn).2.vc⟩
  · cases h



theorem words_l (n : Nat) {a b : List Int} (hl : a.length = b.length) (la : a.length ≤ 2 ^ 60) : ∀ (r i k : Nat), r < k → i + r = a.length → R07_Words_l0 n (a, b) k (i : Int) = some (if a.drop i = b.drop i then .ex () else .rt false) := by
  intro r
  induction r with
  | zero =>
    intro i k hk hi
    obtain ⟨k, rfl⟩ : ∃ k', k = k' + 1 := ⟨k - 1, by omega⟩
    rw [R07_Words_l0_s]
    unfold R07_Words_b0
    simp only [RT.run]
    rw [if_neg (by simp; omega), if_pos (by rw [List.drop_of_length_le (by omega), List.drop_of_length_le (by omega)])]
  | succ r ih =>
    intro i k hk hi
    obtain ⟨k, rfl⟩ : ∃ k', k = k' + 1 := ⟨k - 1, by omega⟩
    have w : IntKind.i64.wrap ((i : Int) + 1) = ((i + 1 : Nat) : Int) := by rw [i64_in] <;> omega
    have ha : a.drop i = a.getD i 0 :: a.drop (i + 1) := by rw [List.drop_eq_getElem_cons (by omega)]; simp [List.getD, show i < a.length by omega]
    have hb : b.drop i = b.getD i 0 :: b.drop (i + 1) := by rw [List.drop_eq_getElem_cons (by omega)]; simp [List.getD, show i < b.length by omega]
    rw [R07_Words_l0_s, ha, hb]
    unfold R07_Words_b0
    simp only [RT.run, Int.toNat_natCast, w]
    rw [if_pos (by simp; omega), if_pos (by simp <;> omega), if_pos (by simp <;> omega)]
    by_cases h : a.getD i 0 = b.getD i 0
    · rw [h]
      simp only [bne_self_eq_false, Bool.false_eq_true, if_false, List.cons.injEq, true_and]
      exact ih (i + 1) k (by omega) (by omega)
    · rw [if_pos (by simpa using h), if_neg (fun e => h (List.cons.inj e).1)]

theorem Words_F {a b : List Int} (la : a.length ≤ 2 ^ 60) (n : Nat) (hn : a.length < n) : F_R07_Words n (a, b) = some (decide (a = b)) := by
  unfold F_R07_Words R07_Words
  simp only [RT.run]
  by_cases hl : a.length = b.length
  · rw [if_neg (by simp; omega)]
    have := words_l n hl la a.length 0 n hn (by omega)
    have h' : R07_Words_l0 n (a, b) n (0 : Int) = _ := this
    rw [h']
    simp only [List.drop_zero]
    by_cases h : a = b
    · rw [if_pos h]; simp [h, LR.isRt]
    · rw [if_neg h]; simp [h, LR.isRt, LR.getR]
  · rw [if_pos (by simp; omega)]
    have : a ≠ b := fun e => hl (by rw [e])
    simp [this]

abbrev e_R07_Words (_ : Nat) : Entry := sp_R07_Words (fun x => decide (x.1.length ≤ 2 ^ 60)) (fun x => decide (x.1 = x.2))
theorem e_R07_Words_ok (n : Nat) : (e_R07_Words n).ok pg := sp_R07_Words_ok fun x h => ⟨_, Words_F (of_decide_eq_true h) _ (Nat.lt_succ_self _)⟩

abbrev R03_Gcd_T (n : Nat) : CallT := tab [e_R01_Div n]
abbrev R03_Gcd_h0 : Cut := ⟨[.keep [2, 3, 4], .gc, .cellDat 48, .cellDen 48 [Ty.sl (Ty.int IntKind.i64), Ty.bool, Ty.bool, Ty.bool, Ty.bool, Ty.bool, Ty.bool, Ty.bool, Ty.bool, Ty.bool, Ty.bool, Ty.bool, Ty.bool, Ty.bool, Ty.bool, Ty.bool], .gc], [2, 3, 4]⟩
abbrev R03_Gcd_x0 : Cut := ⟨[.keep [2, 4], .gc], [2, 4]⟩
abbrev R03_Gcd_y0 : Cut := ⟨[.keep [4], .gc], [4]⟩
def R03_Gcd_mk0 (i : Unit) (x : ((List Int) × (List Int))) : List TV × List (Nat × Ent) := ([.lf (.ptr 32 0), .lf (.ptr 48 0), .lf (.ptr 64 0)], [(32, ⟨true, .cells [.dat (Ty.int IntKind.i64) x.1]⟩), (48, ⟨true, .cells [.dat (Ty.int IntKind.i64) x.2]⟩), (64, ⟨true, .cells [.nil]⟩)])
def R03_Gcd_pt0 : List TV → List (Nat × Ent) → Option (Unit × ((List Int) × (List Int)))
  | [.lf (.ptr 32 0), .lf (.ptr 48 0), .lf (.ptr 64 0)], [(32, ⟨true, .cells [.dat (Ty.int IntKind.i64) h0_0]⟩), (48, ⟨true, .cells [.dat (Ty.int IntKind.i64) h1_0]⟩), (64, ⟨true, .cells [.nil]⟩)] => some ((), (h0_0, h1_0))
  | _, _ => none
def R03_Gcd_ev0 (i : Unit) (r : (List Int)) : PE := .exit 0 [.lf (.ptr 32 0), .lf (.ptr 64 0)] [(32, ⟨true, .cells [.dat (Ty.int IntKind.i64) r]⟩), (64, ⟨true, .cells [.nil]⟩)]
def R03_Gcd_an0 (i : Unit) (r : (List Int)) : Tree := .leaf (.exit 0 (spSt 20 [2, 4] [.lf (.ptr 32 0), .lf (.ptr 64 0)] [(32, ⟨true, .cells [.dat (Ty.int IntKind.i64) r]⟩), (64, ⟨true, .cells [.nil]⟩)]))
def R03_Gcd_b0 (n : Nat) (h0_0 : (List Int)) (h1_0 : (List Int)) : RT ((List Int) × (List Int)) (List Int) :=
  (.rq 4 (.ite (decide ((0 : Int) < (↑h1_0.length : Int)))
  (.rq 2 (.req (okM (37 : Nat) h0_0 && okM (37 : Nat) h1_0 && decide ((0 : Nat) < val B16 h1_0))
  (.rq 11 (.again ((h1_0, digs B16 (val B16 h0_0 % val B16 h1_0)))))))
  (.done h0_0)))
def R03_Gcd_l0 (n : Nat) (i : Unit) : Nat → ((List Int) × (List Int)) → Option (List Int) := loopN (fun rec x => (R03_Gcd_b0 n x.1 x.2).run rec)
theorem R03_Gcd_l0_s (n : Nat) (i : Unit) (k : Nat) (x : ((List Int) × (List Int))) : R03_Gcd_l0 n i (k + 1) x = (R03_Gcd_b0 n x.1 x.2).run (R03_Gcd_l0 n i k) := rfl
def R03_Gcd_t0 (n : Nat) (σ : St) : Option Tree := match seeSt R03_Gcd_h0.plan R03_Gcd_h0.ts 20 σ with
  | some y => (match R03_Gcd_pt0 y.1 y.2 with
    | some x => some (loopAns (R03_Gcd_l0 n x.1 n x.2) (R03_Gcd_an0 x.1))
    | none => none)
  | none => none
def R03_Gcd_told (n : Nat) : Nat → St → Option Tree
  | 0, σ => R03_Gcd_t0 n σ
  | _, _ => none
def R03_Gcd_res (y : (List Int)) : CallRes := ⟨true, .agg [.dat (Ty.int IntKind.i64) y], [], [], true⟩
def R03_Gcd (n : Nat) (a0_0 : (List Int)) (a1_0 : (List Int)) : RT Unit (List Int) :=
  (.rq 3 (.call (R03_Gcd_l0 n () n (a0_0, a1_0)) default fun v0 =>
  (.rq 2 (.done v0))))
def F_R03_Gcd (n : Nat) (x : ((List Int) × (List Int))) : Option (List Int) := (R03_Gcd n x.1 x.2).run fun _ => none
def R03_Gcd_ans (F : ((List Int) × (List Int)) → Option (List Int)) : List TV → List Ent → Option CallRes
  | [.agg [.dat (Ty.int IntKind.i64) a0_0], .agg [.dat (Ty.int IntKind.i64) a1_0]], [] => some (callAns (F (a0_0, a1_0)) R03_Gcd_res)
  | _, _ => none
def en_R03_Gcd (F : ((List Int) × (List Int)) → Option (List Int)) : Entry := .data n_R03_Gcd [[Ty.sl (Ty.int IntKind.i64)], [Ty.sl (Ty.int IntKind.i64)]] (R03_Gcd_ans F)
theorem R03_Gcd_T_ok (n : Nat) : SoundT pg (R03_Gcd_T n) := tab_sound ⟨e_R01_Div_ok n, trivial⟩
theorem R03_Gcd_r0 (n : Nat) (h0_0 : (List Int)) (h1_0 : (List Int)) : (evCode pg (R03_Gcd_T n) (loopsTold (R03_Gcd_told n)) 0 (lp 0 (codeOf f_R03_Gcd) 0).2 (spSt 20 R03_Gcd_h0.ts [.lf (.ptr 32 0), .lf (.ptr 48 0), .lf (.ptr 64 0)] [(32, ⟨true, .cells [.dat (Ty.int IntKind.i64) h0_0]⟩), (48, ⟨true, .cells [.dat (Ty.int IntKind.i64) h1_0]⟩), (64, ⟨true, .cells [.nil]⟩)])).pt (seeEv 20 R03_Gcd_h0 R03_Gcd_x0 R03_Gcd_y0) =
    (R03_Gcd_b0 n h0_0 h1_0).pt (fun x' => .norm (R03_Gcd_mk0 () x').1 (R03_Gcd_mk0 () x').2) (R03_Gcd_ev0 ()) := by kernel_rfl
theorem R03_Gcd_pm0 : ∀ vs hp x, R03_Gcd_pt0 vs hp = some x → R03_Gcd_mk0 x.1 x.2 = (vs, hp) := by
  intro vs hp x h
  unfold R03_Gcd_pt0 at h
  split at h <;> first | (cases h; rfl) | cases h
theorem R03_Gcd_k0 (n : Nat) : LoopOK pg (loopsTold (R03_Gcd_told n)) (lp 0 (codeOf f_R03_Gcd) 0) :=
  loop_lift pg_mixed (T := (R03_Gcd_T n)) (R03_Gcd_T_ok n) (b := 0) (len := 20) (body := (lp 0 (codeOf f_R03_Gcd) 0).2) (ch := R03_Gcd_h0) (cx := R03_Gcd_x0) (cr := R03_Gcd_y0) R03_Gcd_mk0 R03_Gcd_ev0 R03_Gcd_an0 (fun i x => R03_Gcd_b0 n x.1 x.2) n R03_Gcd_pt0 R03_Gcd_pm0 (fun i r K h => h)
    regs_told (loops_told0 (by kernel_rfl)) (fun _ => by kernel_rfl) (fun i x => R03_Gcd_r0 n x.1 x.2)
theorem R03_Gcd_e (n : Nat) (a0_0 : (List Int)) (a1_0 : (List Int)) : (evFn pg (R03_Gcd_T n) (loopsTold (R03_Gcd_told n)) f_R03_Gcd (codeOf f_R03_Gcd) [.agg [.dat (Ty.int IntKind.i64) a0_0], .agg [.dat (Ty.int IntKind.i64) a1_0]] []).pt (outEv pg f_R03_Gcd 0 [] true) =
    (R03_Gcd n a0_0 a1_0).pt (fun _ => .norm [] []) (fun y => .out (R03_Gcd_res y)) := by kernel_rfl
theorem R03_Gcd_call (n : Nat) (a0_0 : (List Int)) (a1_0 : (List Int)) (y : (List Int)) (hy : F_R03_Gcd n (a0_0, a1_0) = some y) : Enters pg n_R03_Gcd ∧ CallOK pg n_R03_Gcd [.agg [.dat (Ty.int IntKind.i64) a0_0], .agg [.dat (Ty.int IntKind.i64) a1_0]] [] (R03_Gcd_res y) := fn_lift (fn := f_R03_Gcd) pg_mixed (T := R03_Gcd_T n) (R03_Gcd_T_ok n) (L := loopsTold (R03_Gcd_told n)) (by kernel_rfl) (by kernel_rfl) (by kernel_rfl) regs_told (loops_told1 (by kernel_rfl) (R03_Gcd_k0 n)) (args := [.agg [.dat (Ty.int IntKind.i64) a0_0], .agg [.dat (Ty.int IntKind.i64) a1_0]]) (es := []) R03_Gcd_res [] true (fun _ => rfl) (R03_Gcd n a0_0 a1_0) (R03_Gcd_e n a0_0 a1_0) hy
theorem en_R03_Gcd_ok (n : Nat) : (en_R03_Gcd (F_R03_Gcd n)).ok pg := Entry.data_ok <| by
  intro args es r h hv
  unfold R03_Gcd_ans at h
  simp only at h
  split at h
  · rename_i a0_0 a1_0
    cases h
    exact callAns_ok (fun y hy => R03_Gcd_call n a0_0 a1_0 y hy) hv
  · cases h
/-- The function, by what it is known to tell. -/
def sp_R03_Gcd (C : ((List Int) × (List Int)) → Bool) (V : ((List Int) × (List Int)) → (List Int)) : Entry := .data n_R03_Gcd [[Ty.sl (Ty.int IntKind.i64)], [Ty.sl (Ty.int IntKind.i64)]] fun args es => match args, es with
  | [.agg [.dat (Ty.int IntKind.i64) a0_0], .agg [.dat (Ty.int IntKind.i64) a1_0]], [] => some { R03_Gcd_res (V (a0_0, a1_0)) with vc := C (a0_0, a1_0) }
  | _, _ => none
theorem sp_R03_Gcd_ok {C : ((List Int) × (List Int)) → Bool} {V : ((List Int) × (List Int)) → (List Int)} (H : ∀ x, C x = true → ∃ n, F_R03_Gcd n x = some (V x)) : (sp_R03_Gcd C V).ok pg := Entry.data_ok <| by
  intro args es r h hv
  simp only at h
  split at h
  · rename_i a0_0 a1_0
    cases h
    obtain ⟨n, hn⟩ := H (a0_0, a1_0) hv
    exact ⟨(R03_Gcd_call n a0_0 a1_0 _ hn).1, (R03_Gcd_call n a0_0 a1_0 _ hn).2.vc⟩
  · cases h



theorem gcd16_l (n : Nat) {m : Nat} (hm : m ≤ 2 ^ 37) : ∀ (V A k : Nat), V < k → A < B16 ^ m → V < B16 ^ m → R03_Gcd_l0 n () k (digs B16 A, digs B16 V) = some (digs B16 (Nat.gcd A V)) := by
  intro V
  induction V using Nat.strongRecOn with
  | ind V ih =>
    intro A k hk hA hV
    obtain ⟨k, rfl⟩ : ∃ k', k = k' + 1 := ⟨k - 1, by omega⟩
    rw [R03_Gcd_l0_s]
    unfold R03_Gcd_b0
    simp only [RT.run]
    by_cases h : V = 0
    · subst h
      rw [if_neg (by simp [digs_zero]), Nat.gcd_zero_right]
    · have hV0 := Nat.pos_of_ne_zero h
      have hl : 0 < (digs B16 V).length := by rw [digs_pos (by decide) hV0]; simp
      have hml := Nat.mod_lt A hV0
      rw [val_digs (by decide), val_digs (by decide)]
      rw [if_pos (by simp only [decide_eq_true_eq]; omega), if_pos (by rw [okM_lt hA hm, okM_lt hV hm, decide_eq_true hV0]; rfl)]
      rw [ih (A % V) hml V k (by omega) hV (Nat.lt_trans hml hV), Nat.gcd_comm A V, Nat.gcd_rec V A, Nat.gcd_comm]

abbrev e_R03_Gcd (_ : Nat) : Entry := sp_R03_Gcd (fun x => isM 37 x.1 && isM 37 x.2) (fun x => digs B16 (Nat.gcd (val B16 x.1) (val B16 x.2)))
theorem e_R03_Gcd_ok (n : Nat) : (e_R03_Gcd n).ok pg := sp_R03_Gcd_ok fun x h => by
  rw [Bool.and_eq_true] at h
  have w1 := isM_wfd h.1
  have w2 := isM_wfd h.2
  rw [isM_iff, isM_iff] at h
  refine ⟨val B16 x.2 + 1, ?_⟩
  unfold F_R03_Gcd R03_Gcd
  simp only [RT.run]
  have l1 : val B16 x.1 < B16 ^ (max x.1.length x.2.length) := Nat.lt_of_lt_of_le (val_lt (by decide) w1) (Nat.pow_le_pow_right (by decide) (by omega))
  have l2 : val B16 x.2 < B16 ^ (max x.1.length x.2.length) := Nat.lt_of_lt_of_le (val_lt (by decide) w2) (Nat.pow_le_pow_right (by decide) (by omega))
  have := gcd16_l (val B16 x.2 + 1) (m := max x.1.length x.2.length) (by omega) (val B16 x.2) (val B16 x.1) (val B16 x.2 + 1) (Nat.lt_succ_self _) l1 l2
  rw [h.1.2, h.2.2] at this
  rw [this]
  rfl

abbrev R03_Lcm_T (n : Nat) : CallT := tab [e_R01_Mul n, e_R03_Gcd n, e_R01_Div n]
def R03_Lcm_told (n : Nat) : Nat → St → Option Tree := fun _ _ => none
def R03_Lcm_res (y : (List Int)) : CallRes := ⟨true, .agg [.ref 0], [], [⟨true, .arr 3 (Ty.int IntKind.i64) y⟩], false⟩
def R03_Lcm (n : Nat) (a0_0 : (List Int)) (a1_0 : (List Int)) : RT Unit (List Int) :=
  (.rq 8 (.ite ((↑a0_0.length : Int) == (0 : Int))
  (.rq 1 (.ite (true)
  (.rq 2 (.done (nilD (Ty.int IntKind.i64).den)))
  (.rq 2 (.req (okM (38 : Nat) a0_0 && okM (38 : Nat) a1_0)
  (.rq 2 (.req (isM (37 : Nat) a0_0 && isM (37 : Nat) a1_0)
  (.req (okM (37 : Nat) (digs B16 (val B16 a0_0 * val B16 a1_0)) && okM (37 : Nat) (digs B16 ((val B16 a0_0).gcd (val B16 a1_0))) && decide ((0 : Nat) < val B16 (digs B16 ((val B16 a0_0).gcd (val B16 a1_0)))))
  (.rq 9 (.done (digs B16 (val B16 (digs B16 (val B16 a0_0 * val B16 a1_0)) / val B16 (digs B16 ((val B16 a0_0).gcd (val B16 a1_0))))))))))))))
  (.rq 5 (.ite ((↑a1_0.length : Int) == (0 : Int))
  (.rq 2 (.done (nilD (Ty.int IntKind.i64).den)))
  (.rq 2 (.req (okM (38 : Nat) a0_0 && okM (38 : Nat) a1_0)
  (.rq 2 (.req (isM (37 : Nat) a0_0 && isM (37 : Nat) a1_0)
  (.req (okM (37 : Nat) (digs B16 (val B16 a0_0 * val B16 a1_0)) && okM (37 : Nat) (digs B16 ((val B16 a0_0).gcd (val B16 a1_0))) && decide ((0 : Nat) < val B16 (digs B16 ((val B16 a0_0).gcd (val B16 a1_0)))))
  (.rq 9 (.done (digs B16 (val B16 (digs B16 (val B16 a0_0 * val B16 a1_0)) / val B16 (digs B16 ((val B16 a0_0).gcd (val B16 a1_0))))))))))))))))
def F_R03_Lcm (n : Nat) (x : ((List Int) × (List Int))) : Option (List Int) := (R03_Lcm n x.1 x.2).run fun _ => none
def R03_Lcm_ans (F : ((List Int) × (List Int)) → Option (List Int)) : List TV → List Ent → Option CallRes
  | [.agg [.dat (Ty.int IntKind.i64) a0_0], .agg [.dat (Ty.int IntKind.i64) a1_0]], [] => some (callAns (F (a0_0, a1_0)) R03_Lcm_res)
  | _, _ => none
def en_R03_Lcm (F : ((List Int) × (List Int)) → Option (List Int)) : Entry := .data n_R03_Lcm [[Ty.sl (Ty.int IntKind.i64)], [Ty.sl (Ty.int IntKind.i64)]] (R03_Lcm_ans F)
theorem R03_Lcm_T_ok (n : Nat) : SoundT pg (R03_Lcm_T n) := tab_sound ⟨e_R01_Mul_ok n, e_R03_Gcd_ok n, e_R01_Div_ok n, trivial⟩
theorem R03_Lcm_e (n : Nat) (a0_0 : (List Int)) (a1_0 : (List Int)) : (evFn pg (R03_Lcm_T n) (loopsTold (R03_Lcm_told n)) f_R03_Lcm (codeOf f_R03_Lcm) [.agg [.dat (Ty.int IntKind.i64) a0_0], .agg [.dat (Ty.int IntKind.i64) a1_0]] []).pt (outEv pg f_R03_Lcm 0 [.cellRow 64 0 600064 3 (Ty.int IntKind.i64), .cellRen 64 0 600064] false) =
    (R03_Lcm n a0_0 a1_0).pt (fun _ => .norm [] []) (fun y => .out (R03_Lcm_res y)) := by kernel_rfl
theorem R03_Lcm_call (n : Nat) (a0_0 : (List Int)) (a1_0 : (List Int)) (y : (List Int)) (hy : F_R03_Lcm n (a0_0, a1_0) = some y) : Enters pg n_R03_Lcm ∧ CallOK pg n_R03_Lcm [.agg [.dat (Ty.int IntKind.i64) a0_0], .agg [.dat (Ty.int IntKind.i64) a1_0]] [] (R03_Lcm_res y) := fn_lift (fn := f_R03_Lcm) pg_mixed (T := R03_Lcm_T n) (R03_Lcm_T_ok n) (L := loopsTold (R03_Lcm_told n)) (by kernel_rfl) (by kernel_rfl) (by kernel_rfl) regs_told (loops_told0 (by kernel_rfl)) (args := [.agg [.dat (Ty.int IntKind.i64) a0_0], .agg [.dat (Ty.int IntKind.i64) a1_0]]) (es := []) R03_Lcm_res [.cellRow 64 0 600064 3 (Ty.int IntKind.i64), .cellRen 64 0 600064] false (fun _ => rfl) (R03_Lcm n a0_0 a1_0) (R03_Lcm_e n a0_0 a1_0) hy
theorem en_R03_Lcm_ok (n : Nat) : (en_R03_Lcm (F_R03_Lcm n)).ok pg := Entry.data_ok <| by
  intro args es r h hv
  unfold R03_Lcm_ans at h
  simp only at h
  split at h
  · rename_i a0_0 a1_0
    cases h
    exact callAns_ok (fun y hy => R03_Lcm_call n a0_0 a1_0 y hy) hv
  · cases h
/-- The function, by what it is known to tell. -/
def sp_R03_Lcm (C : ((List Int) × (List Int)) → Bool) (V : ((List Int) × (List Int)) → (List Int)) : Entry := .data n_R03_Lcm [[Ty.sl (Ty.int IntKind.i64)], [Ty.sl (Ty.int IntKind.i64)]] fun args es => match args, es with
  | [.agg [.dat (Ty.int IntKind.i64) a0_0], .agg [.dat (Ty.int IntKind.i64) a1_0]], [] => some { R03_Lcm_res (V (a0_0, a1_0)) with vc := C (a0_0, a1_0) }
  | _, _ => none
theorem sp_R03_Lcm_ok {C : ((List Int) × (List Int)) → Bool} {V : ((List Int) × (List Int)) → (List Int)} (H : ∀ x, C x = true → ∃ n, F_R03_Lcm n x = some (V x)) : (sp_R03_Lcm C V).ok pg := Entry.data_ok <| by
  intro args es r h hv
  simp only at h
  split at h
  · rename_i a0_0 a1_0
    cases h
    obtain ⟨n, hn⟩ := H (a0_0, a1_0) hv
    exact ⟨(R03_Lcm_call n a0_0 a1_0 _ hn).1, (R03_Lcm_call n a0_0 a1_0 _ hn).2.vc⟩
  · cases h



abbrev e_R03_Lcm (_ : Nat) : Entry := sp_R03_Lcm (fun x => isM 30 x.1 && isM 30 x.2 && decide (0 < val B16 x.1) && decide (0 < val B16 x.2)) (fun x => digs B16 (Nat.lcm (val B16 x.1) (val B16 x.2)))
theorem e_R03_Lcm_ok (n : Nat) : (e_R03_Lcm n).ok pg := sp_R03_Lcm_ok fun x h => by
  simp only [Bool.and_eq_true, decide_eq_true_eq] at h
  obtain ⟨⟨⟨h1, h2⟩, h3⟩, h4⟩ := h
  have w1 := isM_wfd h1
  have w2 := isM_wfd h2
  rw [isM_iff] at h1 h2
  refine ⟨0, ?_⟩
  unfold F_R03_Lcm R03_Lcm
  have n1 : x.1.length ≠ 0 := fun e => by
    rw [List.eq_nil_of_length_eq_zero e] at h3
    exact Nat.lt_irrefl _ h3
  have n2 : x.2.length ≠ 0 := fun e => by
    rw [List.eq_nil_of_length_eq_zero e] at h4
    exact Nat.lt_irrefl _ h4
  have hg := Nat.gcd_pos_of_pos_left (val B16 x.2) h3
  have lt1 := val_lt (by decide : 0 < B16) w1
  have lt2 := val_lt (by decide : 0 < B16) w2
  have lp : val B16 x.1 * val B16 x.2 < B16 ^ (x.1.length + x.2.length) := by
    rw [Nat.pow_add]
    exact Nat.mul_lt_mul'' lt1 lt2
  have lg : Nat.gcd (val B16 x.1) (val B16 x.2) < B16 ^ x.1.length := Nat.lt_of_le_of_lt (Nat.gcd_le_left _ h3) lt1
  simp only [RT.run]
  rw [if_neg (by simpa using n1), if_neg (by simpa using n2)]
  rw [if_pos (by rw [okM_iff.2 ⟨by omega, w1⟩, okM_iff.2 ⟨by omega, w2⟩]; rfl), if_pos (by rw [isM_iff.2 ⟨by omega, h1.2⟩, isM_iff.2 ⟨by omega, h2.2⟩]; rfl)]
  rw [val_digs (by decide), val_digs (by decide)]
  rw [if_pos (by rw [okM_lt lp (by omega), okM_lt lg (by omega), decide_eq_true hg]; rfl)]
  rfl

end
end Go.Proofs.Ytlfdidaeachpoaa

/- The reference's fractions. -/
namespace Go.Proofs.Ytlfdidaeachpoaa
open Go Go.RowKit
set_option maxRecDepth 100000
noncomputable section

abbrev R04_In_T (n : Nat) : CallT := tab [e_R03_In n]
def R04_In_told (n : Nat) : Nat → St → Option Tree := fun _ _ => none
def R04_In_res (y : ((List Int) × (List Int))) : CallRes := ⟨true, .agg [.ref 0, .ref 1], [], [⟨true, .arr 3 (Ty.int IntKind.i64) y.1⟩, ⟨true, .arr 3 (Ty.int IntKind.i64) y.2⟩], false⟩
def R04_In (n : Nat) (a0_0 : (List Int)) (a0_1 : (List Int)) : RT Unit ((List Int) × (List Int)) :=
  (.rq 4 (.req (okN (36 : Nat) a0_0)
  (.rq 2 (.req (okN (36 : Nat) a0_1)
  (.rq 2 (.done ((digs B16 (val B32 a0_0), digs B16 (val B32 a0_1)))))))))
def F_R04_In (n : Nat) (x : ((List Int) × (List Int))) : Option ((List Int) × (List Int)) := (R04_In n x.1 x.2).run fun _ => none
def R04_In_ans (F : ((List Int) × (List Int)) → Option ((List Int) × (List Int))) : List TV → List Ent → Option CallRes
  | [.agg [.dat (Ty.int IntKind.u32) a0_0, .dat (Ty.int IntKind.u32) a0_1]], [] => some (callAns (F (a0_0, a0_1)) R04_In_res)
  | _, _ => none
def en_R04_In (F : ((List Int) × (List Int)) → Option ((List Int) × (List Int))) : Entry := .data n_R04_In [[Ty.sl (Ty.int IntKind.u32), Ty.sl (Ty.int IntKind.u32)]] (R04_In_ans F)
abbrev e_R04_In (n : Nat) : Entry := en_R04_In (F_R04_In n)
theorem R04_In_T_ok (n : Nat) : SoundT pg (R04_In_T n) := tab_sound ⟨e_R03_In_ok n, trivial⟩
theorem R04_In_e (n : Nat) (a0_0 : (List Int)) (a0_1 : (List Int)) : (evFn pg (R04_In_T n) (loopsTold (R04_In_told n)) f_R04_In (codeOf f_R04_In) [.agg [.dat (Ty.int IntKind.u32) a0_0, .dat (Ty.int IntKind.u32) a0_1]] []).pt (outEv pg f_R04_In 0 [.cellRow 32 0 600032 3 (Ty.int IntKind.i64), .cellRow 32 1 600033 3 (Ty.int IntKind.i64), .cellRen 32 0 600032, .cellRen 32 1 600033] false) =
    (R04_In n a0_0 a0_1).pt (fun _ => .norm [] []) (fun y => .out (R04_In_res y)) := by kernel_rfl
theorem R04_In_call (n : Nat) (a0_0 : (List Int)) (a0_1 : (List Int)) (y : ((List Int) × (List Int))) (hy : F_R04_In n (a0_0, a0_1) = some y) : Enters pg n_R04_In ∧ CallOK pg n_R04_In [.agg [.dat (Ty.int IntKind.u32) a0_0, .dat (Ty.int IntKind.u32) a0_1]] [] (R04_In_res y) := fn_lift (fn := f_R04_In) pg_mixed (T := R04_In_T n) (R04_In_T_ok n) (L := loopsTold (R04_In_told n)) (by kernel_rfl) (by kernel_rfl) (by kernel_rfl) regs_told (loops_told0 (by kernel_rfl)) (args := [.agg [.dat (Ty.int IntKind.u32) a0_0, .dat (Ty.int IntKind.u32) a0_1]]) (es := []) R04_In_res [.cellRow 32 0 600032 3 (Ty.int IntKind.i64), .cellRow 32 1 600033 3 (Ty.int IntKind.i64), .cellRen 32 0 600032, .cellRen 32 1 600033] false (fun _ => rfl) (R04_In n a0_0 a0_1) (R04_In_e n a0_0 a0_1) hy
theorem en_R04_In_ok (n : Nat) : (en_R04_In (F_R04_In n)).ok pg := Entry.data_ok <| by
  intro args es r h hv
  unfold R04_In_ans at h
  simp only at h
  split at h
  · rename_i a0_0 a0_1
    cases h
    exact callAns_ok (fun y hy => R04_In_call n a0_0 a0_1 y hy) hv
  · cases h
/-- The function, by what it is known to tell. -/
def sp_R04_In (C : ((List Int) × (List Int)) → Bool) (V : ((List Int) × (List Int)) → ((List Int) × (List Int))) : Entry := .data n_R04_In [[Ty.sl (Ty.int IntKind.u32), Ty.sl (Ty.int IntKind.u32)]] fun args es => match args, es with
  | [.agg [.dat (Ty.int IntKind.u32) a0_0, .dat (Ty.int IntKind.u32) a0_1]], [] => some { R04_In_res (V (a0_0, a0_1)) with vc := C (a0_0, a0_1) }
  | _, _ => none
theorem sp_R04_In_ok {C : ((List Int) × (List Int)) → Bool} {V : ((List Int) × (List Int)) → ((List Int) × (List Int))} (H : ∀ x, C x = true → ∃ n, F_R04_In n x = some (V x)) : (sp_R04_In C V).ok pg := Entry.data_ok <| by
  intro args es r h hv
  simp only at h
  split at h
  · rename_i a0_0 a0_1
    cases h
    obtain ⟨n, hn⟩ := H (a0_0, a0_1) hv
    exact ⟨(R04_In_call n a0_0 a0_1 _ hn).1, (R04_In_call n a0_0 a0_1 _ hn).2.vc⟩
  · cases h
theorem e_R04_In_ok (n : Nat) : (e_R04_In n).ok pg := en_R04_In_ok n


abbrev R04_Out_T (n : Nat) : CallT := tab [e_R03_Out n]
def R04_Out_told (n : Nat) : Nat → St → Option Tree := fun _ _ => none
def R04_Out_res (y : ((List Int) × (List Int))) : CallRes := ⟨true, .agg [.ref 0, .ref 1], [], [⟨true, .arr 90 (Ty.int IntKind.u32) y.1⟩, ⟨true, .arr 90 (Ty.int IntKind.u32) y.2⟩], false⟩
def R04_Out (n : Nat) (a0_0 : (List Int)) (a0_1 : (List Int)) : RT Unit ((List Int) × (List Int)) :=
  (.rq 4 (.req (isM (38 : Nat) a0_0)
  (.rq 2 (.req (isM (38 : Nat) a0_1)
  (.rq 2 (.done ((digs B32 (val B16 a0_0), digs B32 (val B16 a0_1)))))))))
def F_R04_Out (n : Nat) (x : ((List Int) × (List Int))) : Option ((List Int) × (List Int)) := (R04_Out n x.1 x.2).run fun _ => none
def R04_Out_ans (F : ((List Int) × (List Int)) → Option ((List Int) × (List Int))) : List TV → List Ent → Option CallRes
  | [.agg [.dat (Ty.int IntKind.i64) a0_0, .dat (Ty.int IntKind.i64) a0_1]], [] => some (callAns (F (a0_0, a0_1)) R04_Out_res)
  | _, _ => none
def en_R04_Out (F : ((List Int) × (List Int)) → Option ((List Int) × (List Int))) : Entry := .data n_R04_Out [[Ty.sl (Ty.int IntKind.i64), Ty.sl (Ty.int IntKind.i64)]] (R04_Out_ans F)
abbrev e_R04_Out (n : Nat) : Entry := en_R04_Out (F_R04_Out n)
theorem R04_Out_T_ok (n : Nat) : SoundT pg (R04_Out_T n) := tab_sound ⟨e_R03_Out_ok n, trivial⟩
theorem R04_Out_e (n : Nat) (a0_0 : (List Int)) (a0_1 : (List Int)) : (evFn pg (R04_Out_T n) (loopsTold (R04_Out_told n)) f_R04_Out (codeOf f_R04_Out) [.agg [.dat (Ty.int IntKind.i64) a0_0, .dat (Ty.int IntKind.i64) a0_1]] []).pt (outEv pg f_R04_Out 0 [.cellRow 32 0 600032 90 (Ty.int IntKind.u32), .cellRow 32 1 600033 90 (Ty.int IntKind.u32), .cellRen 32 0 600032, .cellRen 32 1 600033] false) =
    (R04_Out n a0_0 a0_1).pt (fun _ => .norm [] []) (fun y => .out (R04_Out_res y)) := by kernel_rfl
theorem R04_Out_call (n : Nat) (a0_0 : (List Int)) (a0_1 : (List Int)) (y : ((List Int) × (List Int))) (hy : F_R04_Out n (a0_0, a0_1) = some y) : Enters pg n_R04_Out ∧ CallOK pg n_R04_Out [.agg [.dat (Ty.int IntKind.i64) a0_0, .dat (Ty.int IntKind.i64) a0_1]] [] (R04_Out_res y) := fn_lift (fn := f_R04_Out) pg_mixed (T := R04_Out_T n) (R04_Out_T_ok n) (L := loopsTold (R04_Out_told n)) (by kernel_rfl) (by kernel_rfl) (by kernel_rfl) regs_told (loops_told0 (by kernel_rfl)) (args := [.agg [.dat (Ty.int IntKind.i64) a0_0, .dat (Ty.int IntKind.i64) a0_1]]) (es := []) R04_Out_res [.cellRow 32 0 600032 90 (Ty.int IntKind.u32), .cellRow 32 1 600033 90 (Ty.int IntKind.u32), .cellRen 32 0 600032, .cellRen 32 1 600033] false (fun _ => rfl) (R04_Out n a0_0 a0_1) (R04_Out_e n a0_0 a0_1) hy
theorem en_R04_Out_ok (n : Nat) : (en_R04_Out (F_R04_Out n)).ok pg := Entry.data_ok <| by
  intro args es r h hv
  unfold R04_Out_ans at h
  simp only at h
  split at h
  · rename_i a0_0 a0_1
    cases h
    exact callAns_ok (fun y hy => R04_Out_call n a0_0 a0_1 y hy) hv
  · cases h
/-- The function, by what it is known to tell. -/
def sp_R04_Out (C : ((List Int) × (List Int)) → Bool) (V : ((List Int) × (List Int)) → ((List Int) × (List Int))) : Entry := .data n_R04_Out [[Ty.sl (Ty.int IntKind.i64), Ty.sl (Ty.int IntKind.i64)]] fun args es => match args, es with
  | [.agg [.dat (Ty.int IntKind.i64) a0_0, .dat (Ty.int IntKind.i64) a0_1]], [] => some { R04_Out_res (V (a0_0, a0_1)) with vc := C (a0_0, a0_1) }
  | _, _ => none
theorem sp_R04_Out_ok {C : ((List Int) × (List Int)) → Bool} {V : ((List Int) × (List Int)) → ((List Int) × (List Int))} (H : ∀ x, C x = true → ∃ n, F_R04_Out n x = some (V x)) : (sp_R04_Out C V).ok pg := Entry.data_ok <| by
  intro args es r h hv
  simp only at h
  split at h
  · rename_i a0_0 a0_1
    cases h
    obtain ⟨n, hn⟩ := H (a0_0, a0_1) hv
    exact ⟨(R04_Out_call n a0_0 a0_1 _ hn).1, (R04_Out_call n a0_0 a0_1 _ hn).2.vc⟩
  · cases h
theorem e_R04_Out_ok (n : Nat) : (e_R04_Out n).ok pg := en_R04_Out_ok n


abbrev R04_Low_T (n : Nat) : CallT := tab [e_R03_Gcd n, e_R01_Div n]
def R04_Low_told (n : Nat) : Nat → St → Option Tree := fun _ _ => none
def R04_Low_res (y : ((List Int) × (List Int))) : CallRes := ⟨true, .agg [.ref 0, .ref 1], [], [⟨true, .arr 3 (Ty.int IntKind.i64) y.1⟩, ⟨true, .arr 3 (Ty.int IntKind.i64) y.2⟩], false⟩
def R04_Low (n : Nat) (a0_0 : (List Int)) (a0_1 : (List Int)) : RT Unit ((List Int) × (List Int)) :=
  (.rq 6 (.req (isM (37 : Nat) a0_0 && isM (37 : Nat) a0_1)
  (.rq 5 (.req (okM (37 : Nat) a0_0 && okM (37 : Nat) (digs B16 ((val B16 a0_0).gcd (val B16 a0_1))) && decide ((0 : Nat) < val B16 (digs B16 ((val B16 a0_0).gcd (val B16 a0_1)))))
  (.rq 10 (.req (okM (37 : Nat) a0_1 && okM (37 : Nat) (digs B16 ((val B16 a0_0).gcd (val B16 a0_1))) && decide ((0 : Nat) < val B16 (digs B16 ((val B16 a0_0).gcd (val B16 a0_1)))))
  (.rq 11 (.done ((digs B16 (val B16 a0_0 / val B16 (digs B16 ((val B16 a0_0).gcd (val B16 a0_1)))), digs B16 (val B16 a0_1 / val B16 (digs B16 ((val B16 a0_0).gcd (val B16 a0_1))))))))))))))
def F_R04_Low (n : Nat) (x : ((List Int) × (List Int))) : Option ((List Int) × (List Int)) := (R04_Low n x.1 x.2).run fun _ => none
def R04_Low_ans (F : ((List Int) × (List Int)) → Option ((List Int) × (List Int))) : List TV → List Ent → Option CallRes
  | [.agg [.dat (Ty.int IntKind.i64) a0_0, .dat (Ty.int IntKind.i64) a0_1]], [] => some (callAns (F (a0_0, a0_1)) R04_Low_res)
  | _, _ => none
def en_R04_Low (F : ((List Int) × (List Int)) → Option ((List Int) × (List Int))) : Entry := .data n_R04_Low [[Ty.sl (Ty.int IntKind.i64), Ty.sl (Ty.int IntKind.i64)]] (R04_Low_ans F)
abbrev e_R04_Low (n : Nat) : Entry := en_R04_Low (F_R04_Low n)
theorem R04_Low_T_ok (n : Nat) : SoundT pg (R04_Low_T n) := tab_sound ⟨e_R03_Gcd_ok n, e_R01_Div_ok n, trivial⟩
theorem R04_Low_e (n : Nat) (a0_0 : (List Int)) (a0_1 : (List Int)) : (evFn pg (R04_Low_T n) (loopsTold (R04_Low_told n)) f_R04_Low (codeOf f_R04_Low) [.agg [.dat (Ty.int IntKind.i64) a0_0, .dat (Ty.int IntKind.i64) a0_1]] []).pt (outEv pg f_R04_Low 0 [.cellRow 32 0 600032 3 (Ty.int IntKind.i64), .cellRow 32 1 600033 3 (Ty.int IntKind.i64), .cellRow 64 0 600064 3 (Ty.int IntKind.i64), .cellRow 80 0 600080 3 (Ty.int IntKind.i64), .cellRow 96 0 600096 3 (Ty.int IntKind.i64), .cellRow 112 0 600112 3 (Ty.int IntKind.i64), .cellRen 32 0 600032, .cellRen 32 1 600033, .cellRen 64 0 600064, .cellRen 80 0 600080, .cellRen 96 0 600096, .cellRen 112 0 600112] false) =
    (R04_Low n a0_0 a0_1).pt (fun _ => .norm [] []) (fun y => .out (R04_Low_res y)) := by kernel_rfl
theorem R04_Low_call (n : Nat) (a0_0 : (List Int)) (a0_1 : (List Int)) (y : ((List Int) × (List Int))) (hy : F_R04_Low n (a0_0, a0_1) = some y) : Enters pg n_R04_Low ∧ CallOK pg n_R04_Low [.agg [.dat (Ty.int IntKind.i64) a0_0, .dat (Ty.int IntKind.i64) a0_1]] [] (R04_Low_res y) := fn_lift (fn := f_R04_Low) pg_mixed (T := R04_Low_T n) (R04_Low_T_ok n) (L := loopsTold (R04_Low_told n)) (by kernel_rfl) (by kernel_rfl) (by kernel_rfl) regs_told (loops_told0 (by kernel_rfl)) (args := [.agg [.dat (Ty.int IntKind.i64) a0_0, .dat (Ty.int IntKind.i64) a0_1]]) (es := []) R04_Low_res [.cellRow 32 0 600032 3 (Ty.int IntKind.i64), .cellRow 32 1 600033 3 (Ty.int IntKind.i64), .cellRow 64 0 600064 3 (Ty.int IntKind.i64), .cellRow 80 0 600080 3 (Ty.int IntKind.i64), .cellRow 96 0 600096 3 (Ty.int IntKind.i64), .cellRow 112 0 600112 3 (Ty.int IntKind.i64), .cellRen 32 0 600032, .cellRen 32 1 600033, .cellRen 64 0 600064, .cellRen 80 0 600080, .cellRen 96 0 600096, .cellRen 112 0 600112] false (fun _ => rfl) (R04_Low n a0_0 a0_1) (R04_Low_e n a0_0 a0_1) hy
theorem en_R04_Low_ok (n : Nat) : (en_R04_Low (F_R04_Low n)).ok pg := Entry.data_ok <| by
  intro args es r h hv
  unfold R04_Low_ans at h
  simp only at h
  split at h
  · rename_i a0_0 a0_1
    cases h
    exact callAns_ok (fun y hy => R04_Low_call n a0_0 a0_1 y hy) hv
  · cases h
/-- The function, by what it is known to tell. -/
def sp_R04_Low (C : ((List Int) × (List Int)) → Bool) (V : ((List Int) × (List Int)) → ((List Int) × (List Int))) : Entry := .data n_R04_Low [[Ty.sl (Ty.int IntKind.i64), Ty.sl (Ty.int IntKind.i64)]] fun args es => match args, es with
  | [.agg [.dat (Ty.int IntKind.i64) a0_0, .dat (Ty.int IntKind.i64) a0_1]], [] => some { R04_Low_res (V (a0_0, a0_1)) with vc := C (a0_0, a0_1) }
  | _, _ => none
theorem sp_R04_Low_ok {C : ((List Int) × (List Int)) → Bool} {V : ((List Int) × (List Int)) → ((List Int) × (List Int))} (H : ∀ x, C x = true → ∃ n, F_R04_Low n x = some (V x)) : (sp_R04_Low C V).ok pg := Entry.data_ok <| by
  intro args es r h hv
  simp only at h
  split at h
  · rename_i a0_0 a0_1
    cases h
    obtain ⟨n, hn⟩ := H (a0_0, a0_1) hv
    exact ⟨(R04_Low_call n a0_0 a0_1 _ hn).1, (R04_Low_call n a0_0 a0_1 _ hn).2.vc⟩
  · cases h
theorem e_R04_Low_ok (n : Nat) : (e_R04_Low n).ok pg := en_R04_Low_ok n


abbrev R04_Of_T (n : Nat) : CallT := tab [e_R01_Of n, e_R04_Low n]
def R04_Of_told (n : Nat) : Nat → St → Option Tree := fun _ _ => none
def R04_Of_res (y : ((List Int) × (List Int))) : CallRes := ⟨true, .agg [.ref 0, .ref 1], [], [⟨true, .arr 3 (Ty.int IntKind.i64) y.1⟩, ⟨true, .arr 3 (Ty.int IntKind.i64) y.2⟩], false⟩
def R04_Of (n : Nat) (a0 : Int) (a1 : Int) : RT Unit ((List Int) × (List Int)) :=
  (.rq 2 (.req (decide ((0 : Int) ≤ a0) && decide (a0 < (18446744073709551616 : Int)))
  (.rq 1 (.req (decide ((0 : Int) ≤ a1) && decide (a1 < (18446744073709551616 : Int)))
  (.rq 1 (.call (F_R04_Low n (digs B16 a0.toNat, digs B16 a1.toNat)) default fun v0 =>
  (.rq 1 (.done ((v0.fst, v0.snd))))))))))
def F_R04_Of (n : Nat) (x : (Int × Int)) : Option ((List Int) × (List Int)) := (R04_Of n x.1 x.2).run fun _ => none
def R04_Of_ans (F : (Int × Int) → Option ((List Int) × (List Int))) : List TV → List Ent → Option CallRes
  | [.lf (.int IntKind.u64 a0), .lf (.int IntKind.u64 a1)], [] => some (callAns (F (a0, a1)) R04_Of_res)
  | _, _ => none
def en_R04_Of (F : (Int × Int) → Option ((List Int) × (List Int))) : Entry := .data n_R04_Of [[Ty.int IntKind.u64], [Ty.int IntKind.u64]] (R04_Of_ans F)
abbrev e_R04_Of (n : Nat) : Entry := en_R04_Of (F_R04_Of n)
theorem R04_Of_T_ok (n : Nat) : SoundT pg (R04_Of_T n) := tab_sound ⟨e_R01_Of_ok n, e_R04_Low_ok n, trivial⟩
theorem R04_Of_e (n : Nat) (a0 : Int) (a1 : Int) : (evFn pg (R04_Of_T n) (loopsTold (R04_Of_told n)) f_R04_Of (codeOf f_R04_Of) [.lf (.int IntKind.u64 a0), .lf (.int IntKind.u64 a1)] []).pt (outEv pg f_R04_Of 0 [.cellRow 64 0 600064 3 (Ty.int IntKind.i64), .cellRow 64 1 600065 3 (Ty.int IntKind.i64), .cellRen 64 0 600064, .cellRen 64 1 600065] false) =
    (R04_Of n a0 a1).pt (fun _ => .norm [] []) (fun y => .out (R04_Of_res y)) := by kernel_rfl
theorem R04_Of_call (n : Nat) (a0 : Int) (a1 : Int) (y : ((List Int) × (List Int))) (hy : F_R04_Of n (a0, a1) = some y) : Enters pg n_R04_Of ∧ CallOK pg n_R04_Of [.lf (.int IntKind.u64 a0), .lf (.int IntKind.u64 a1)] [] (R04_Of_res y) := fn_lift (fn := f_R04_Of) pg_mixed (T := R04_Of_T n) (R04_Of_T_ok n) (L := loopsTold (R04_Of_told n)) (by kernel_rfl) (by kernel_rfl) (by kernel_rfl) regs_told (loops_told0 (by kernel_rfl)) (args := [.lf (.int IntKind.u64 a0), .lf (.int IntKind.u64 a1)]) (es := []) R04_Of_res [.cellRow 64 0 600064 3 (Ty.int IntKind.i64), .cellRow 64 1 600065 3 (Ty.int IntKind.i64), .cellRen 64 0 600064, .cellRen 64 1 600065] false (fun _ => rfl) (R04_Of n a0 a1) (R04_Of_e n a0 a1) hy
theorem en_R04_Of_ok (n : Nat) : (en_R04_Of (F_R04_Of n)).ok pg := Entry.data_ok <| by
  intro args es r h hv
  unfold R04_Of_ans at h
  simp only at h
  split at h
  · rename_i a0 a1
    cases h
    exact callAns_ok (fun y hy => R04_Of_call n a0 a1 y hy) hv
  · cases h
/-- The function, by what it is known to tell. -/
def sp_R04_Of (C : (Int × Int) → Bool) (V : (Int × Int) → ((List Int) × (List Int))) : Entry := .data n_R04_Of [[Ty.int IntKind.u64], [Ty.int IntKind.u64]] fun args es => match args, es with
  | [.lf (.int IntKind.u64 a0), .lf (.int IntKind.u64 a1)], [] => some { R04_Of_res (V (a0, a1)) with vc := C (a0, a1) }
  | _, _ => none
theorem sp_R04_Of_ok {C : (Int × Int) → Bool} {V : (Int × Int) → ((List Int) × (List Int))} (H : ∀ x, C x = true → ∃ n, F_R04_Of n x = some (V x)) : (sp_R04_Of C V).ok pg := Entry.data_ok <| by
  intro args es r h hv
  simp only at h
  split at h
  · rename_i a0 a1
    cases h
    obtain ⟨n, hn⟩ := H (a0, a1) hv
    exact ⟨(R04_Of_call n a0 a1 _ hn).1, (R04_Of_call n a0 a1 _ hn).2.vc⟩
  · cases h
theorem e_R04_Of_ok (n : Nat) : (e_R04_Of n).ok pg := en_R04_Of_ok n


abbrev R04_Right_T (n : Nat) : CallT := tab [e_R04_In n, e_R03_Out n, e_R03_Same n, e_R03_Gcd n, e_R01_Of n, e_R01_Cmp n]
def R04_Right_told (n : Nat) : Nat → St → Option Tree := fun _ _ => none
def R04_Right_res (y : Bool) : CallRes := ⟨true, .lf (.bool y), [], [], false⟩
def R04_Right (n : Nat) (a0_0 : (List Int)) (a0_1 : (List Int)) : RT Unit Bool :=
  (.rq 3 (.call (F_R04_In n (a0_0, a0_1)) default fun v0 =>
  (.rq 8 (.ite ((↑v0.snd.length : Int) == (0 : Int))
  (.rq 2 (.ite (true)
  (.rq 1 (.ite (true)
  (.rq 1 (.done false))
  (.rq 4 (.req (isM (37 : Nat) v0.fst && isM (37 : Nat) v0.snd)
  (.rq 1 (.req (okM (40 : Nat) (digs B16 ((val B16 v0.fst).gcd (val B16 v0.snd))) && okM (40 : Nat) (digs B16 (1 : Nat)))
  (.rq 2 (.done (cmpI (↑(val B16 (digs B16 ((val B16 v0.fst).gcd (val B16 v0.snd)))) : Int) (1 : Int) == (0 : Int))))))))))
  (.rq 4 (.req (isM (38 : Nat) v0.snd)
  (.req (decide (a0_1.length ≤ (1152921504606846976 : Nat)))
  (.rq 2 (.ite (!decide (a0_1 = digs B32 (val B16 v0.snd)))
  (.rq 1 (.done false))
  (.rq 4 (.req (isM (37 : Nat) v0.fst && isM (37 : Nat) v0.snd)
  (.rq 1 (.req (okM (40 : Nat) (digs B16 ((val B16 v0.fst).gcd (val B16 v0.snd))) && okM (40 : Nat) (digs B16 (1 : Nat)))
  (.rq 2 (.done (cmpI (↑(val B16 (digs B16 ((val B16 v0.fst).gcd (val B16 v0.snd)))) : Int) (1 : Int) == (0 : Int)))))))))))))))
  (.rq 4 (.req (isM (38 : Nat) v0.fst)
  (.req (decide (a0_0.length ≤ (1152921504606846976 : Nat)))
  (.rq 3 (.ite (!decide (a0_0 = digs B32 (val B16 v0.fst)))
  (.rq 1 (.ite (true)
  (.rq 1 (.done false))
  (.rq 4 (.req (isM (37 : Nat) v0.fst && isM (37 : Nat) v0.snd)
  (.rq 1 (.req (okM (40 : Nat) (digs B16 ((val B16 v0.fst).gcd (val B16 v0.snd))) && okM (40 : Nat) (digs B16 (1 : Nat)))
  (.rq 2 (.done (cmpI (↑(val B16 (digs B16 ((val B16 v0.fst).gcd (val B16 v0.snd)))) : Int) (1 : Int) == (0 : Int))))))))))
  (.rq 4 (.req (isM (38 : Nat) v0.snd)
  (.req (decide (a0_1.length ≤ (1152921504606846976 : Nat)))
  (.rq 2 (.ite (!decide (a0_1 = digs B32 (val B16 v0.snd)))
  (.rq 1 (.done false))
  (.rq 4 (.req (isM (37 : Nat) v0.fst && isM (37 : Nat) v0.snd)
  (.rq 1 (.req (okM (40 : Nat) (digs B16 ((val B16 v0.fst).gcd (val B16 v0.snd))) && okM (40 : Nat) (digs B16 (1 : Nat)))
  (.rq 2 (.done (cmpI (↑(val B16 (digs B16 ((val B16 v0.fst).gcd (val B16 v0.snd)))) : Int) (1 : Int) == (0 : Int))))))))))))))))))))))
def F_R04_Right (n : Nat) (x : ((List Int) × (List Int))) : Option Bool := (R04_Right n x.1 x.2).run fun _ => none
def R04_Right_ans (F : ((List Int) × (List Int)) → Option Bool) : List TV → List Ent → Option CallRes
  | [.agg [.dat (Ty.int IntKind.u32) a0_0, .dat (Ty.int IntKind.u32) a0_1]], [] => some (callAns (F (a0_0, a0_1)) R04_Right_res)
  | _, _ => none
def en_R04_Right (F : ((List Int) × (List Int)) → Option Bool) : Entry := .data n_R04_Right [[Ty.sl (Ty.int IntKind.u32), Ty.sl (Ty.int IntKind.u32)]] (R04_Right_ans F)
abbrev e_R04_Right (n : Nat) : Entry := en_R04_Right (F_R04_Right n)
theorem R04_Right_T_ok (n : Nat) : SoundT pg (R04_Right_T n) := tab_sound ⟨e_R04_In_ok n, e_R03_Out_ok n, e_R03_Same_ok n, e_R03_Gcd_ok n, e_R01_Of_ok n, e_R01_Cmp_ok n, trivial⟩
theorem R04_Right_e (n : Nat) (a0_0 : (List Int)) (a0_1 : (List Int)) : (evFn pg (R04_Right_T n) (loopsTold (R04_Right_told n)) f_R04_Right (codeOf f_R04_Right) [.agg [.dat (Ty.int IntKind.u32) a0_0, .dat (Ty.int IntKind.u32) a0_1]] []).pt (outEv pg f_R04_Right 0 [.cellRow 48 0 600048 3 (Ty.int IntKind.i64), .cellRow 48 1 600049 3 (Ty.int IntKind.i64), .cellRen 48 0 600048, .cellRen 48 1 600049] false) =
    (R04_Right n a0_0 a0_1).pt (fun _ => .norm [] []) (fun y => .out (R04_Right_res y)) := by kernel_rfl
theorem R04_Right_call (n : Nat) (a0_0 : (List Int)) (a0_1 : (List Int)) (y : Bool) (hy : F_R04_Right n (a0_0, a0_1) = some y) : Enters pg n_R04_Right ∧ CallOK pg n_R04_Right [.agg [.dat (Ty.int IntKind.u32) a0_0, .dat (Ty.int IntKind.u32) a0_1]] [] (R04_Right_res y) := fn_lift (fn := f_R04_Right) pg_mixed (T := R04_Right_T n) (R04_Right_T_ok n) (L := loopsTold (R04_Right_told n)) (by kernel_rfl) (by kernel_rfl) (by kernel_rfl) regs_told (loops_told0 (by kernel_rfl)) (args := [.agg [.dat (Ty.int IntKind.u32) a0_0, .dat (Ty.int IntKind.u32) a0_1]]) (es := []) R04_Right_res [.cellRow 48 0 600048 3 (Ty.int IntKind.i64), .cellRow 48 1 600049 3 (Ty.int IntKind.i64), .cellRen 48 0 600048, .cellRen 48 1 600049] false (fun _ => rfl) (R04_Right n a0_0 a0_1) (R04_Right_e n a0_0 a0_1) hy
theorem en_R04_Right_ok (n : Nat) : (en_R04_Right (F_R04_Right n)).ok pg := Entry.data_ok <| by
  intro args es r h hv
  unfold R04_Right_ans at h
  simp only at h
  split at h
  · rename_i a0_0 a0_1
    cases h
    exact callAns_ok (fun y hy => R04_Right_call n a0_0 a0_1 y hy) hv
  · cases h
/-- The function, by what it is known to tell. -/
def sp_R04_Right (C : ((List Int) × (List Int)) → Bool) (V : ((List Int) × (List Int)) → Bool) : Entry := .data n_R04_Right [[Ty.sl (Ty.int IntKind.u32), Ty.sl (Ty.int IntKind.u32)]] fun args es => match args, es with
  | [.agg [.dat (Ty.int IntKind.u32) a0_0, .dat (Ty.int IntKind.u32) a0_1]], [] => some { R04_Right_res (V (a0_0, a0_1)) with vc := C (a0_0, a0_1) }
  | _, _ => none
theorem sp_R04_Right_ok {C : ((List Int) × (List Int)) → Bool} {V : ((List Int) × (List Int)) → Bool} (H : ∀ x, C x = true → ∃ n, F_R04_Right n x = some (V x)) : (sp_R04_Right C V).ok pg := Entry.data_ok <| by
  intro args es r h hv
  simp only at h
  split at h
  · rename_i a0_0 a0_1
    cases h
    obtain ⟨n, hn⟩ := H (a0_0, a0_1) hv
    exact ⟨(R04_Right_call n a0_0 a0_1 _ hn).1, (R04_Right_call n a0_0 a0_1 _ hn).2.vc⟩
  · cases h
theorem e_R04_Right_ok (n : Nat) : (e_R04_Right n).ok pg := en_R04_Right_ok n


abbrev R04_Up_T (n : Nat) : CallT := tab [e_R01_Mul n, e_R01_Div n]
def R04_Up_told (n : Nat) : Nat → St → Option Tree := fun _ _ => none
def R04_Up_res (y : (List Int)) : CallRes := ⟨true, .agg [.ref 0], [], [⟨true, .arr 3 (Ty.int IntKind.i64) y⟩], false⟩
def R04_Up (n : Nat) (a0_0 : (List Int)) (a0_1 : (List Int)) (a1_0 : (List Int)) : RT Unit (List Int) :=
  (.rq 6 (.req (okM (38 : Nat) a0_0 && okM (38 : Nat) a1_0)
  (.rq 2 (.req (okM (37 : Nat) (digs B16 (val B16 a0_0 * val B16 a1_0)) && okM (37 : Nat) a0_1 && decide ((0 : Nat) < val B16 a0_1))
  (.rq 9 (.done (digs B16 (val B16 (digs B16 (val B16 a0_0 * val B16 a1_0)) / val B16 a0_1))))))))
def F_R04_Up (n : Nat) (x : ((List Int) × ((List Int) × (List Int)))) : Option (List Int) := (R04_Up n x.1 x.2.1 x.2.2).run fun _ => none
def R04_Up_ans (F : ((List Int) × ((List Int) × (List Int))) → Option (List Int)) : List TV → List Ent → Option CallRes
  | [.agg [.dat (Ty.int IntKind.i64) a0_0, .dat (Ty.int IntKind.i64) a0_1], .agg [.dat (Ty.int IntKind.i64) a1_0]], [] => some (callAns (F (a0_0, a0_1, a1_0)) R04_Up_res)
  | _, _ => none
def en_R04_Up (F : ((List Int) × ((List Int) × (List Int))) → Option (List Int)) : Entry := .data n_R04_Up [[Ty.sl (Ty.int IntKind.i64), Ty.sl (Ty.int IntKind.i64)], [Ty.sl (Ty.int IntKind.i64)]] (R04_Up_ans F)
abbrev e_R04_Up (n : Nat) : Entry := en_R04_Up (F_R04_Up n)
theorem R04_Up_T_ok (n : Nat) : SoundT pg (R04_Up_T n) := tab_sound ⟨e_R01_Mul_ok n, e_R01_Div_ok n, trivial⟩
theorem R04_Up_e (n : Nat) (a0_0 : (List Int)) (a0_1 : (List Int)) (a1_0 : (List Int)) : (evFn pg (R04_Up_T n) (loopsTold (R04_Up_told n)) f_R04_Up (codeOf f_R04_Up) [.agg [.dat (Ty.int IntKind.i64) a0_0, .dat (Ty.int IntKind.i64) a0_1], .agg [.dat (Ty.int IntKind.i64) a1_0]] []).pt (outEv pg f_R04_Up 0 [.cellRow 64 0 600064 3 (Ty.int IntKind.i64), .cellRow 80 0 600080 3 (Ty.int IntKind.i64), .cellRow 96 0 600096 3 (Ty.int IntKind.i64), .cellRen 64 0 600064, .cellRen 80 0 600080, .cellRen 96 0 600096] false) =
    (R04_Up n a0_0 a0_1 a1_0).pt (fun _ => .norm [] []) (fun y => .out (R04_Up_res y)) := by kernel_rfl
theorem R04_Up_call (n : Nat) (a0_0 : (List Int)) (a0_1 : (List Int)) (a1_0 : (List Int)) (y : (List Int)) (hy : F_R04_Up n (a0_0, a0_1, a1_0) = some y) : Enters pg n_R04_Up ∧ CallOK pg n_R04_Up [.agg [.dat (Ty.int IntKind.i64) a0_0, .dat (Ty.int IntKind.i64) a0_1], .agg [.dat (Ty.int IntKind.i64) a1_0]] [] (R04_Up_res y) := fn_lift (fn := f_R04_Up) pg_mixed (T := R04_Up_T n) (R04_Up_T_ok n) (L := loopsTold (R04_Up_told n)) (by kernel_rfl) (by kernel_rfl) (by kernel_rfl) regs_told (loops_told0 (by kernel_rfl)) (args := [.agg [.dat (Ty.int IntKind.i64) a0_0, .dat (Ty.int IntKind.i64) a0_1], .agg [.dat (Ty.int IntKind.i64) a1_0]]) (es := []) R04_Up_res [.cellRow 64 0 600064 3 (Ty.int IntKind.i64), .cellRow 80 0 600080 3 (Ty.int IntKind.i64), .cellRow 96 0 600096 3 (Ty.int IntKind.i64), .cellRen 64 0 600064, .cellRen 80 0 600080, .cellRen 96 0 600096] false (fun _ => rfl) (R04_Up n a0_0 a0_1 a1_0) (R04_Up_e n a0_0 a0_1 a1_0) hy
theorem en_R04_Up_ok (n : Nat) : (en_R04_Up (F_R04_Up n)).ok pg := Entry.data_ok <| by
  intro args es r h hv
  unfold R04_Up_ans at h
  simp only at h
  split at h
  · rename_i a0_0 a0_1 a1_0
    cases h
    exact callAns_ok (fun y hy => R04_Up_call n a0_0 a0_1 a1_0 y hy) hv
  · cases h
/-- The function, by what it is known to tell. -/
def sp_R04_Up (C : ((List Int) × ((List Int) × (List Int))) → Bool) (V : ((List Int) × ((List Int) × (List Int))) → (List Int)) : Entry := .data n_R04_Up [[Ty.sl (Ty.int IntKind.i64), Ty.sl (Ty.int IntKind.i64)], [Ty.sl (Ty.int IntKind.i64)]] fun args es => match args, es with
  | [.agg [.dat (Ty.int IntKind.i64) a0_0, .dat (Ty.int IntKind.i64) a0_1], .agg [.dat (Ty.int IntKind.i64) a1_0]], [] => some { R04_Up_res (V (a0_0, a0_1, a1_0)) with vc := C (a0_0, a0_1, a1_0) }
  | _, _ => none
theorem sp_R04_Up_ok {C : ((List Int) × ((List Int) × (List Int))) → Bool} {V : ((List Int) × ((List Int) × (List Int))) → (List Int)} (H : ∀ x, C x = true → ∃ n, F_R04_Up n x = some (V x)) : (sp_R04_Up C V).ok pg := Entry.data_ok <| by
  intro args es r h hv
  simp only at h
  split at h
  · rename_i a0_0 a0_1 a1_0
    cases h
    obtain ⟨n, hn⟩ := H (a0_0, a0_1, a1_0) hv
    exact ⟨(R04_Up_call n a0_0 a0_1 a1_0 _ hn).1, (R04_Up_call n a0_0 a0_1 a1_0 _ hn).2.vc⟩
  · cases h
theorem e_R04_Up_ok (n : Nat) : (e_R04_Up n).ok pg := en_R04_Up_ok n


abbrev R04_Lcm_T (n : Nat) : CallT := tab [e_R01_Of n, e_R03_Lcm n]
abbrev R04_Lcm_h0 : Cut := ⟨[.keep [0, 2, 3, 4], .gc, .cellRow 48 0 600048 3 (Ty.int IntKind.i64), .cellRen 48 0 600048, .gc], [0, 2, 3, 4]⟩
abbrev R04_Lcm_x0 : Cut := ⟨[.keep [2, 3], .gc, .cellRow 48 0 600048 3 (Ty.int IntKind.i64), .cellRen 48 0 600048, .gc], [2, 3]⟩
abbrev R04_Lcm_y0 : Cut := ⟨[.keep [2], .gc], [2]⟩
def R04_Lcm_mk0 (i : (List ((List Int) × (List Int)))) (x : (Int × (List Int))) : List TV × List (Nat × Ent) := ([.lf (.dat (Ty.pair (Ty.sl (Ty.int IntKind.i64)) (Ty.sl (Ty.int IntKind.i64))) i), .lf (.ptr 32 0), .lf (.ptr 48 0), .lf (.int IntKind.i64 x.1)], [(32, ⟨true, .cells [.nil]⟩), (48, ⟨true, .cells [.ref 600048]⟩), (600048, ⟨true, .arr 3 (Ty.int IntKind.i64) x.2⟩)])
def R04_Lcm_pt0 : List TV → List (Nat × Ent) → Option ((List ((List Int) × (List Int))) × (Int × (List Int)))
  | [.lf (.dat (Ty.pair (Ty.sl (Ty.int IntKind.i64)) (Ty.sl (Ty.int IntKind.i64))) x0), .lf (.ptr 32 0), .lf (.ptr 48 0), .lf (.int IntKind.i64 x4)], [(32, ⟨true, .cells [.nil]⟩), (48, ⟨true, .cells [.ref 600048]⟩), (600048, ⟨true, .arr 3 (Ty.int IntKind.i64) h2⟩)] => some (x0, (x4, h2))
  | _, _ => none
def R04_Lcm_ev0 (i : (List ((List Int) × (List Int)))) (r : (List Int)) : PE := .exit 0 [.lf (.ptr 32 0), .lf (.ptr 48 0)] [(32, ⟨true, .cells [.nil]⟩), (48, ⟨true, .cells [.ref 600048]⟩), (600048, ⟨true, .arr 3 (Ty.int IntKind.i64) r⟩)]
def R04_Lcm_an0 (i : (List ((List Int) × (List Int)))) (r : (List Int)) : Tree := .leaf (.exit 0 (spSt 20 [2, 3] [.lf (.ptr 32 0), .lf (.ptr 48 0)] [(32, ⟨true, .cells [.nil]⟩), (48, ⟨true, .cells [.ref 600048]⟩), (600048, ⟨true, .arr 3 (Ty.int IntKind.i64) r⟩)]))
def R04_Lcm_b0 (n : Nat) (x0 : (List ((List Int) × (List Int)))) (x4 : Int) (h2 : (List Int)) : RT (Int × (List Int)) (List Int) :=
  (.rq 4 (.ite (decide (x4 < (↑x0.length : Int)))
  (.rq 3 (.req (decide ((0 : Int) ≤ x4) && decide (x4 < (↑x0.length : Int)))
  (.rq 2 (.req (isM (30 : Nat) h2 && isM (30 : Nat) (x0.getD x4.toNat ((Ty.int IntKind.i64).sl.pair (Ty.int IntKind.i64).sl).dflt).snd && decide ((0 : Nat) < val B16 h2) &&
  decide ((0 : Nat) < val B16 (x0.getD x4.toNat ((Ty.int IntKind.i64).sl.pair (Ty.int IntKind.i64).sl).dflt).snd))
  (.rq 4 (.again ((IntKind.i64.wrap (x4 + (1 : Int)), digs B16 ((val B16 h2).lcm (val B16 (x0.getD x4.toNat ((Ty.int IntKind.i64).sl.pair (Ty.int IntKind.i64).sl).dflt).snd))))))))))
  (.done h2)))
def R04_Lcm_l0 (n : Nat) (i : (List ((List Int) × (List Int)))) : Nat → (Int × (List Int)) → Option (List Int) := loopN (fun rec x => (R04_Lcm_b0 n i x.1 x.2).run rec)
theorem R04_Lcm_l0_s (n : Nat) (i : (List ((List Int) × (List Int)))) (k : Nat) (x : (Int × (List Int))) : R04_Lcm_l0 n i (k + 1) x = (R04_Lcm_b0 n i x.1 x.2).run (R04_Lcm_l0 n i k) := rfl
def R04_Lcm_t0 (n : Nat) (σ : St) : Option Tree := match seeSt R04_Lcm_h0.plan R04_Lcm_h0.ts 20 σ with
  | some y => (match R04_Lcm_pt0 y.1 y.2 with
    | some x => some (loopAns (R04_Lcm_l0 n x.1 n x.2) (R04_Lcm_an0 x.1))
    | none => none)
  | none => none
def R04_Lcm_told (n : Nat) : Nat → St → Option Tree
  | 0, σ => R04_Lcm_t0 n σ
  | _, _ => none
def R04_Lcm_res (y : (List Int)) : CallRes := ⟨true, .agg [.ref 0], [], [⟨true, .arr 3 (Ty.int IntKind.i64) y⟩], false⟩
def R04_Lcm (n : Nat) (a0 : (List ((List Int) × (List Int)))) : RT Unit (List Int) :=
  (.rq 5 (.call (R04_Lcm_l0 n a0 n ((0 : Int), digs B16 (1 : Nat))) default fun v0 =>
  (.rq 2 (.done v0))))
def F_R04_Lcm (n : Nat) (x : (List ((List Int) × (List Int)))) : Option (List Int) := (R04_Lcm n x).run fun _ => none
def R04_Lcm_ans (F : (List ((List Int) × (List Int))) → Option (List Int)) : List TV → List Ent → Option CallRes
  | [.lf (.dat (Ty.pair (Ty.sl (Ty.int IntKind.i64)) (Ty.sl (Ty.int IntKind.i64))) a0)], [] => some (callAns (F a0) R04_Lcm_res)
  | _, _ => none
def en_R04_Lcm (F : (List ((List Int) × (List Int))) → Option (List Int)) : Entry := .data n_R04_Lcm [[Ty.sl (Ty.pair (Ty.sl (Ty.int IntKind.i64)) (Ty.sl (Ty.int IntKind.i64)))]] (R04_Lcm_ans F)
abbrev e_R04_Lcm (n : Nat) : Entry := en_R04_Lcm (F_R04_Lcm n)
theorem R04_Lcm_T_ok (n : Nat) : SoundT pg (R04_Lcm_T n) := tab_sound ⟨e_R01_Of_ok n, e_R03_Lcm_ok n, trivial⟩
theorem R04_Lcm_r0 (n : Nat) (x0 : (List ((List Int) × (List Int)))) (x4 : Int) (h2 : (List Int)) : (evCode pg (R04_Lcm_T n) (loopsTold (R04_Lcm_told n)) 0 (lp 0 (codeOf f_R04_Lcm) 0).2 (spSt 20 R04_Lcm_h0.ts [.lf (.dat (Ty.pair (Ty.sl (Ty.int IntKind.i64)) (Ty.sl (Ty.int IntKind.i64))) x0), .lf (.ptr 32 0), .lf (.ptr 48 0), .lf (.int IntKind.i64 x4)] [(32, ⟨true, .cells [.nil]⟩), (48, ⟨true, .cells [.ref 600048]⟩), (600048, ⟨true, .arr 3 (Ty.int IntKind.i64) h2⟩)])).pt (seeEv 20 R04_Lcm_h0 R04_Lcm_x0 R04_Lcm_y0) =
    (R04_Lcm_b0 n x0 x4 h2).pt (fun x' => .norm (R04_Lcm_mk0 x0 x').1 (R04_Lcm_mk0 x0 x').2) (R04_Lcm_ev0 x0) := by kernel_rfl
theorem R04_Lcm_pm0 : ∀ vs hp x, R04_Lcm_pt0 vs hp = some x → R04_Lcm_mk0 x.1 x.2 = (vs, hp) := by
  intro vs hp x h
  unfold R04_Lcm_pt0 at h
  split at h <;> first | (cases h; rfl) | cases h
theorem R04_Lcm_k0 (n : Nat) : LoopOK pg (loopsTold (R04_Lcm_told n)) (lp 0 (codeOf f_R04_Lcm) 0) :=
  loop_lift pg_mixed (T := (R04_Lcm_T n)) (R04_Lcm_T_ok n) (b := 0) (len := 20) (body := (lp 0 (codeOf f_R04_Lcm) 0).2) (ch := R04_Lcm_h0) (cx := R04_Lcm_x0) (cr := R04_Lcm_y0) R04_Lcm_mk0 R04_Lcm_ev0 R04_Lcm_an0 (fun i x => R04_Lcm_b0 n i x.1 x.2) n R04_Lcm_pt0 R04_Lcm_pm0 (fun i r K h => h)
    regs_told (loops_told0 (by kernel_rfl)) (fun _ => by kernel_rfl) (fun i x => R04_Lcm_r0 n i x.1 x.2)
theorem R04_Lcm_e (n : Nat) (a0 : (List ((List Int) × (List Int)))) : (evFn pg (R04_Lcm_T n) (loopsTold (R04_Lcm_told n)) f_R04_Lcm (codeOf f_R04_Lcm) [.lf (.dat (Ty.pair (Ty.sl (Ty.int IntKind.i64)) (Ty.sl (Ty.int IntKind.i64))) a0)] []).pt (outEv pg f_R04_Lcm 0 [.cellRow 32 0 600032 3 (Ty.int IntKind.i64), .cellRow 48 0 600048 3 (Ty.int IntKind.i64), .cellRen 32 0 600032, .cellRen 48 0 600048] false) =
    (R04_Lcm n a0).pt (fun _ => .norm [] []) (fun y => .out (R04_Lcm_res y)) := by kernel_rfl
theorem R04_Lcm_call (n : Nat) (a0 : (List ((List Int) × (List Int)))) (y : (List Int)) (hy : F_R04_Lcm n a0 = some y) : Enters pg n_R04_Lcm ∧ CallOK pg n_R04_Lcm [.lf (.dat (Ty.pair (Ty.sl (Ty.int IntKind.i64)) (Ty.sl (Ty.int IntKind.i64))) a0)] [] (R04_Lcm_res y) := fn_lift (fn := f_R04_Lcm) pg_mixed (T := R04_Lcm_T n) (R04_Lcm_T_ok n) (L := loopsTold (R04_Lcm_told n)) (by kernel_rfl) (by kernel_rfl) (by kernel_rfl) regs_told (loops_told1 (by kernel_rfl) (R04_Lcm_k0 n)) (args := [.lf (.dat (Ty.pair (Ty.sl (Ty.int IntKind.i64)) (Ty.sl (Ty.int IntKind.i64))) a0)]) (es := []) R04_Lcm_res [.cellRow 32 0 600032 3 (Ty.int IntKind.i64), .cellRow 48 0 600048 3 (Ty.int IntKind.i64), .cellRen 32 0 600032, .cellRen 48 0 600048] false (fun _ => rfl) (R04_Lcm n a0) (R04_Lcm_e n a0) hy
theorem en_R04_Lcm_ok (n : Nat) : (en_R04_Lcm (F_R04_Lcm n)).ok pg := Entry.data_ok <| by
  intro args es r h hv
  unfold R04_Lcm_ans at h
  simp only at h
  split at h
  · rename_i a0
    cases h
    exact callAns_ok (fun y hy => R04_Lcm_call n a0 y hy) hv
  · cases h
/-- The function, by what it is known to tell. -/
def sp_R04_Lcm (C : (List ((List Int) × (List Int))) → Bool) (V : (List ((List Int) × (List Int))) → (List Int)) : Entry := .data n_R04_Lcm [[Ty.sl (Ty.pair (Ty.sl (Ty.int IntKind.i64)) (Ty.sl (Ty.int IntKind.i64)))]] fun args es => match args, es with
  | [.lf (.dat (Ty.pair (Ty.sl (Ty.int IntKind.i64)) (Ty.sl (Ty.int IntKind.i64))) a0)], [] => some { R04_Lcm_res (V a0) with vc := C a0 }
  | _, _ => none
theorem sp_R04_Lcm_ok {C : (List ((List Int) × (List Int))) → Bool} {V : (List ((List Int) × (List Int))) → (List Int)} (H : ∀ x, C x = true → ∃ n, F_R04_Lcm n x = some (V x)) : (sp_R04_Lcm C V).ok pg := Entry.data_ok <| by
  intro args es r h hv
  simp only at h
  split at h
  · rename_i a0
    cases h
    obtain ⟨n, hn⟩ := H a0 hv
    exact ⟨(R04_Lcm_call n a0 _ hn).1, (R04_Lcm_call n a0 _ hn).2.vc⟩
  · cases h
theorem e_R04_Lcm_ok (n : Nat) : (e_R04_Lcm n).ok pg := en_R04_Lcm_ok n


abbrev R21_Bring_T (n : Nat) : CallT := tab [e_R04_Lcm n, e_R01_Word n, e_R04_Up n, e_R01_Add n]
abbrev R21_Bring_h0 : Cut := ⟨[.keep [0, 2, 4, 5, 6, 7, 8, 9], .gc, .nilRow 8 800008 25 (Ty.int IntKind.u64), .ren 8 700008, .ren 8 900008, .cellRow 64 0 600064 3 (Ty.int IntKind.i64), .cellRow 112 0 600112 3 (Ty.int IntKind.i64), .cellRen 64 0 600064, .cellRen 112 0 600112, .gc], [0, 2, 4, 5, 6, 7, 8, 9]⟩
abbrev R21_Bring_x0 : Cut := ⟨[.keep [2, 5, 6, 7, 8], .gc, .nilRow 8 800008 25 (Ty.int IntKind.u64), .ren 8 700008, .ren 8 900008, .cellRow 64 0 600064 3 (Ty.int IntKind.i64), .cellRow 112 0 600112 3 (Ty.int IntKind.i64), .cellRen 64 0 600064, .cellRen 112 0 600112, .gc], [2, 5, 6, 7, 8]⟩
abbrev R21_Bring_y0 : Cut := ⟨[.keep [2, 3], .gc], [2, 3]⟩
def R21_Bring_mk0 (i : ((List ((List Int) × (List Int))) × (Int × (Bool × (Int × (Int × (List Int))))))) (x : (Int × ((List Int) × (List Int)))) : List TV × List (Nat × Ent) := ([.lf (.dat (Ty.pair (Ty.sl (Ty.int IntKind.i64)) (Ty.sl (Ty.int IntKind.i64))) i.1), .lf (.ptr 32 0), .lf (.ptr 64 0), .lf (.int IntKind.u64 i.2.1), .lf (.bool i.2.2.1), .lf (.ptr 112 0), .lf (.ref 900008), .lf (.int IntKind.i64 x.1)], [(32, ⟨true, .cells [.int IntKind.u64 i.2.2.2.1, .int IntKind.u64 i.2.2.2.2.1, .nil]⟩), (64, ⟨true, .cells [.ref 600064]⟩), (112, ⟨true, .cells [.ref 600112]⟩), (900008, ⟨true, .arr 25 (Ty.int IntKind.u64) x.2.1⟩), (600064, ⟨true, .arr 3 (Ty.int IntKind.i64) i.2.2.2.2.2⟩), (600112, ⟨true, .arr 3 (Ty.int IntKind.i64) x.2.2⟩)])
def R21_Bring_pt0 : List TV → List (Nat × Ent) → Option (((List ((List Int) × (List Int))) × (Int × (Bool × (Int × (Int × (List Int)))))) × (Int × ((List Int) × (List Int))))
  | [.lf (.dat (Ty.pair (Ty.sl (Ty.int IntKind.i64)) (Ty.sl (Ty.int IntKind.i64))) x0), .lf (.ptr 32 0), .lf (.ptr 64 0), .lf (.int IntKind.u64 x5), .lf (.bool x6), .lf (.ptr 112 0), .lf (.ref 900008), .lf (.int IntKind.i64 x9)], [(32, ⟨true, .cells [.int IntKind.u64 h0_0, .int IntKind.u64 h0_1, .nil]⟩), (64, ⟨true, .cells [.ref 600064]⟩), (112, ⟨true, .cells [.ref 600112]⟩), (900008, ⟨true, .arr 25 (Ty.int IntKind.u64) h3⟩), (600064, ⟨true, .arr 3 (Ty.int IntKind.i64) h4⟩), (600112, ⟨true, .arr 3 (Ty.int IntKind.i64) h5⟩)] => some ((x0, x5, x6, h0_0, h0_1, h4), (x9, h3, h5))
  | _, _ => none
def R21_Bring_ev0 (i : ((List ((List Int) × (List Int))) × (Int × (Bool × (Int × (Int × (List Int))))))) (r : ((List Int) × (List Int))) : PE := .exit 0 [.lf (.ptr 32 0), .lf (.int IntKind.u64 i.2.1), .lf (.bool i.2.2.1), .lf (.ptr 112 0), .lf (.ref 900008)] [(32, ⟨true, .cells [.int IntKind.u64 i.2.2.2.1, .int IntKind.u64 i.2.2.2.2.1, .nil]⟩), (112, ⟨true, .cells [.ref 600112]⟩), (900008, ⟨true, .arr 25 (Ty.int IntKind.u64) r.1⟩), (600112, ⟨true, .arr 3 (Ty.int IntKind.i64) r.2⟩)]
def R21_Bring_an0 (i : ((List ((List Int) × (List Int))) × (Int × (Bool × (Int × (Int × (List Int))))))) (r : ((List Int) × (List Int))) : Tree := .leaf (.exit 0 (spSt 63 [2, 5, 6, 7, 8] [.lf (.ptr 32 0), .lf (.int IntKind.u64 i.2.1), .lf (.bool i.2.2.1), .lf (.ptr 112 0), .lf (.ref 900008)] [(32, ⟨true, .cells [.int IntKind.u64 i.2.2.2.1, .int IntKind.u64 i.2.2.2.2.1, .nil]⟩), (112, ⟨true, .cells [.ref 600112]⟩), (900008, ⟨true, .arr 25 (Ty.int IntKind.u64) r.1⟩), (600112, ⟨true, .arr 3 (Ty.int IntKind.i64) r.2⟩)]))
def R21_Bring_b0 (n : Nat) (x0 : (List ((List Int) × (List Int)))) (x5 : Int) (x6 : Bool) (h0_0 : Int) (h0_1 : Int) (h4 : (List Int)) (x9 : Int) (h3 : (List Int)) (h5 : (List Int)) : RT (Int × ((List Int) × (List Int))) ((List Int) × (List Int)) :=
  (.rq 4 (.ite (decide (x9 < (↑x0.length : Int)))
  (.rq 2 (.req (decide ((0 : Int) ≤ x9) && decide (x9 < (↑x0.length : Int)))
  (.rq 2 (.call (F_R04_Up n ((x0.getD x9.toNat ((Ty.int IntKind.i64).sl.pair (Ty.int IntKind.i64).sl).dflt).fst, (x0.getD x9.toNat ((Ty.int IntKind.i64).sl.pair (Ty.int IntKind.i64).sl).dflt).snd, h4)) default fun v0 =>
  (.rq 4 (.req (okM (39 : Nat) h5 && okM (39 : Nat) v0)
  (.rq 2 (.req (wfd B16 v0)
  (.rq 8 (.req (decide ((h3.length + ((List.replicate (1 : Nat) (0 : Int)).set (0 : Nat) (if v0.length ≤ (4 : Nat) then ((↑(val B16 v0) : Int), true) else ((0 : Int), false)).fst).length) * (8 : Nat) ≤ (140737488355328 : Nat)) &&
  decide (h3.length + ((List.replicate (1 : Nat) (0 : Int)).set (0 : Nat) (if v0.length ≤ (4 : Nat) then ((↑(val B16 v0) : Int), true) else ((0 : Int), false)).fst).length ≤ (9223372036854775807 : Nat)))
  (.rq 4 (.again ((IntKind.i64.wrap (x9 + (1 : Int)), h3 ++ (List.replicate (1 : Nat) (0 : Int)).set (0 : Nat) (if v0.length ≤ (4 : Nat) then ((↑(val B16 v0) : Int), true) else ((0 : Int), false)).fst, digs B16 (val B16 h5 + val B16 v0)))))))))))))))
  (.done ((h3, h5)))))
def R21_Bring_l0 (n : Nat) (i : ((List ((List Int) × (List Int))) × (Int × (Bool × (Int × (Int × (List Int))))))) : Nat → (Int × ((List Int) × (List Int))) → Option ((List Int) × (List Int)) := loopN (fun rec x => (R21_Bring_b0 n i.1 i.2.1 i.2.2.1 i.2.2.2.1 i.2.2.2.2.1 i.2.2.2.2.2 x.1 x.2.1 x.2.2).run rec)
theorem R21_Bring_l0_s (n : Nat) (i : ((List ((List Int) × (List Int))) × (Int × (Bool × (Int × (Int × (List Int))))))) (k : Nat) (x : (Int × ((List Int) × (List Int)))) : R21_Bring_l0 n i (k + 1) x = (R21_Bring_b0 n i.1 i.2.1 i.2.2.1 i.2.2.2.1 i.2.2.2.2.1 i.2.2.2.2.2 x.1 x.2.1 x.2.2).run (R21_Bring_l0 n i k) := rfl
def R21_Bring_t0 (n : Nat) (σ : St) : Option Tree := match seeSt R21_Bring_h0.plan R21_Bring_h0.ts 63 σ with
  | some y => (match R21_Bring_pt0 y.1 y.2 with
    | some x => some (loopAns (R21_Bring_l0 n x.1 n x.2) (R21_Bring_an0 x.1))
    | none => none)
  | none => none
def R21_Bring_told (n : Nat) : Nat → St → Option Tree
  | 0, σ => R21_Bring_t0 n σ
  | _, _ => none
def R21_Bring_res (y : (Int × (Int × (Int × (List Int))))) : CallRes := ⟨true, .tup [(true, [.int IntKind.u64 y.1, .int IntKind.u64 y.2.1, .ref 0]), (false, [.int IntKind.i64 y.2.2.1])], [], [⟨true, .arr 25 (Ty.int IntKind.u64) y.2.2.2⟩], false⟩
def R21_Bring (n : Nat) (a0 : (List ((List Int) × (List Int)))) : RT Unit (Int × (Int × (Int × (List Int)))) :=
  (.rq 3 (.call (F_R04_Lcm n a0) default fun v0 =>
  (.rq 3 (.req (wfd B16 v0)
  (.rq 10 (.call (R21_Bring_l0 n (a0, (if v0.length ≤ (4 : Nat) then ((↑(val B16 v0) : Int), true) else ((0 : Int), false)).fst, (if v0.length ≤ (4 : Nat) then ((↑(val B16 v0) : Int), true) else ((0 : Int), false)).snd, (0 : Int), (0 : Int), v0) n
  ((0 : Int), nilD (Ty.int IntKind.u64).den, nilD (Ty.int IntKind.i64).den)) default fun v1 =>
  (.rq 1 (.req (wfd B16 v1.snd)
  (.rq 8 (.ite (!(if v0.length ≤ (4 : Nat) then ((↑(val B16 v0) : Int), true) else ((0 : Int), false)).snd)
  (.rq 1 (.ite (true)
  (.rq 3 (.done (((0 : Int), (0 : Int), (10 : Int), nilD (Ty.int IntKind.u64).den))))
  (.rq 6 (.done (((if v0.length ≤ (4 : Nat) then ((↑(val B16 v0) : Int), true) else ((0 : Int), false)).fst, (if v1.snd.length ≤ (4 : Nat) then ((↑(val B16 v1.snd) : Int), true) else ((0 : Int), false)).fst, (0 : Int), v1.fst))))))
  (.rq 3 (.ite (!(if v1.snd.length ≤ (4 : Nat) then ((↑(val B16 v1.snd) : Int), true) else ((0 : Int), false)).snd)
  (.rq 3 (.done (((0 : Int), (0 : Int), (10 : Int), nilD (Ty.int IntKind.u64).den))))
  (.rq 6 (.done (((if v0.length ≤ (4 : Nat) then ((↑(val B16 v0) : Int), true) else ((0 : Int), false)).fst, (if v1.snd.length ≤ (4 : Nat) then ((↑(val B16 v1.snd) : Int), true) else ((0 : Int), false)).fst, (0 : Int), v1.fst))))))))))))))))
def F_R21_Bring (n : Nat) (x : (List ((List Int) × (List Int)))) : Option (Int × (Int × (Int × (List Int)))) := (R21_Bring n x).run fun _ => none
def R21_Bring_ans (F : (List ((List Int) × (List Int))) → Option (Int × (Int × (Int × (List Int))))) : List TV → List Ent → Option CallRes
  | [.lf (.dat (Ty.pair (Ty.sl (Ty.int IntKind.i64)) (Ty.sl (Ty.int IntKind.i64))) a0)], [] => some (callAns (F a0) R21_Bring_res)
  | _, _ => none
def en_R21_Bring (F : (List ((List Int) × (List Int))) → Option (Int × (Int × (Int × (List Int))))) : Entry := .data n_R21_Bring [[Ty.sl (Ty.pair (Ty.sl (Ty.int IntKind.i64)) (Ty.sl (Ty.int IntKind.i64)))]] (R21_Bring_ans F)
abbrev e_R21_Bring (n : Nat) : Entry := en_R21_Bring (F_R21_Bring n)
theorem R21_Bring_T_ok (n : Nat) : SoundT pg (R21_Bring_T n) := tab_sound ⟨e_R04_Lcm_ok n, e_R01_Word_ok n, e_R04_Up_ok n, e_R01_Add_ok n, trivial⟩
theorem R21_Bring_r0 (n : Nat) (x0 : (List ((List Int) × (List Int)))) (x5 : Int) (x6 : Bool) (h0_0 : Int) (h0_1 : Int) (h4 : (List Int)) (x9 : Int) (h3 : (List Int)) (h5 : (List Int)) : (evCode pg (R21_Bring_T n) (loopsTold (R21_Bring_told n)) 0 (lp 0 (codeOf f_R21_Bring) 0).2 (spSt 63 R21_Bring_h0.ts [.lf (.dat (Ty.pair (Ty.sl (Ty.int IntKind.i64)) (Ty.sl (Ty.int IntKind.i64))) x0), .lf (.ptr 32 0), .lf (.ptr 64 0), .lf (.int IntKind.u64 x5), .lf (.bool x6), .lf (.ptr 112 0), .lf (.ref 900008), .lf (.int IntKind.i64 x9)] [(32, ⟨true, .cells [.int IntKind.u64 h0_0, .int IntKind.u64 h0_1, .nil]⟩), (64, ⟨true, .cells [.ref 600064]⟩), (112, ⟨true, .cells [.ref 600112]⟩), (900008, ⟨true, .arr 25 (Ty.int IntKind.u64) h3⟩), (600064, ⟨true, .arr 3 (Ty.int IntKind.i64) h4⟩), (600112, ⟨true, .arr 3 (Ty.int IntKind.i64) h5⟩)])).pt (seeEv 63 R21_Bring_h0 R21_Bring_x0 R21_Bring_y0) =
    (R21_Bring_b0 n x0 x5 x6 h0_0 h0_1 h4 x9 h3 h5).pt (fun x' => .norm (R21_Bring_mk0 (x0, x5, x6, h0_0, h0_1, h4) x').1 (R21_Bring_mk0 (x0, x5, x6, h0_0, h0_1, h4) x').2) (R21_Bring_ev0 (x0, x5, x6, h0_0, h0_1, h4)) := by kernel_rfl
theorem R21_Bring_pm0 : ∀ vs hp x, R21_Bring_pt0 vs hp = some x → R21_Bring_mk0 x.1 x.2 = (vs, hp) := by
  intro vs hp x h
  unfold R21_Bring_pt0 at h
  split at h <;> first | (cases h; rfl) | cases h
theorem R21_Bring_k0 (n : Nat) : LoopOK pg (loopsTold (R21_Bring_told n)) (lp 0 (codeOf f_R21_Bring) 0) :=
  loop_lift pg_mixed (T := (R21_Bring_T n)) (R21_Bring_T_ok n) (b := 0) (len := 63) (body := (lp 0 (codeOf f_R21_Bring) 0).2) (ch := R21_Bring_h0) (cx := R21_Bring_x0) (cr := R21_Bring_y0) R21_Bring_mk0 R21_Bring_ev0 R21_Bring_an0 (fun i x => R21_Bring_b0 n i.1 i.2.1 i.2.2.1 i.2.2.2.1 i.2.2.2.2.1 i.2.2.2.2.2 x.1 x.2.1 x.2.2) n R21_Bring_pt0 R21_Bring_pm0 (fun i r K h => h)
    regs_told (loops_told0 (by kernel_rfl)) (fun _ => by kernel_rfl) (fun i x => R21_Bring_r0 n i.1 i.2.1 i.2.2.1 i.2.2.2.1 i.2.2.2.2.1 i.2.2.2.2.2 x.1 x.2.1 x.2.2)
theorem R21_Bring_e (n : Nat) (a0 : (List ((List Int) × (List Int)))) : (evFn pg (R21_Bring_T n) (loopsTold (R21_Bring_told n)) f_R21_Bring (codeOf f_R21_Bring) [.lf (.dat (Ty.pair (Ty.sl (Ty.int IntKind.i64)) (Ty.sl (Ty.int IntKind.i64))) a0)] []).pt (outEv pg f_R21_Bring 0 [.cellRow 32 2 600034 25 (Ty.int IntKind.u64), .cellRow 112 0 600112 3 (Ty.int IntKind.i64), .cellRen 32 2 600034, .cellRen 112 0 600112] false) =
    (R21_Bring n a0).pt (fun _ => .norm [] []) (fun y => .out (R21_Bring_res y)) := by kernel_rfl
theorem R21_Bring_call (n : Nat) (a0 : (List ((List Int) × (List Int)))) (y : (Int × (Int × (Int × (List Int))))) (hy : F_R21_Bring n a0 = some y) : Enters pg n_R21_Bring ∧ CallOK pg n_R21_Bring [.lf (.dat (Ty.pair (Ty.sl (Ty.int IntKind.i64)) (Ty.sl (Ty.int IntKind.i64))) a0)] [] (R21_Bring_res y) := fn_lift (fn := f_R21_Bring) pg_mixed (T := R21_Bring_T n) (R21_Bring_T_ok n) (L := loopsTold (R21_Bring_told n)) (by kernel_rfl) (by kernel_rfl) (by kernel_rfl) regs_told (loops_told1 (by kernel_rfl) (R21_Bring_k0 n)) (args := [.lf (.dat (Ty.pair (Ty.sl (Ty.int IntKind.i64)) (Ty.sl (Ty.int IntKind.i64))) a0)]) (es := []) R21_Bring_res [.cellRow 32 2 600034 25 (Ty.int IntKind.u64), .cellRow 112 0 600112 3 (Ty.int IntKind.i64), .cellRen 32 2 600034, .cellRen 112 0 600112] false (fun _ => rfl) (R21_Bring n a0) (R21_Bring_e n a0) hy
theorem en_R21_Bring_ok (n : Nat) : (en_R21_Bring (F_R21_Bring n)).ok pg := Entry.data_ok <| by
  intro args es r h hv
  unfold R21_Bring_ans at h
  simp only at h
  split at h
  · rename_i a0
    cases h
    exact callAns_ok (fun y hy => R21_Bring_call n a0 y hy) hv
  · cases h
/-- The function, by what it is known to tell. -/
def sp_R21_Bring (C : (List ((List Int) × (List Int))) → Bool) (V : (List ((List Int) × (List Int))) → (Int × (Int × (Int × (List Int))))) : Entry := .data n_R21_Bring [[Ty.sl (Ty.pair (Ty.sl (Ty.int IntKind.i64)) (Ty.sl (Ty.int IntKind.i64)))]] fun args es => match args, es with
  | [.lf (.dat (Ty.pair (Ty.sl (Ty.int IntKind.i64)) (Ty.sl (Ty.int IntKind.i64))) a0)], [] => some { R21_Bring_res (V a0) with vc := C a0 }
  | _, _ => none
theorem sp_R21_Bring_ok {C : (List ((List Int) × (List Int))) → Bool} {V : (List ((List Int) × (List Int))) → (Int × (Int × (Int × (List Int))))} (H : ∀ x, C x = true → ∃ n, F_R21_Bring n x = some (V x)) : (sp_R21_Bring C V).ok pg := Entry.data_ok <| by
  intro args es r h hv
  simp only at h
  split at h
  · rename_i a0
    cases h
    obtain ⟨n, hn⟩ := H a0 hv
    exact ⟨(R21_Bring_call n a0 _ hn).1, (R21_Bring_call n a0 _ hn).2.vc⟩
  · cases h
theorem e_R21_Bring_ok (n : Nat) : (e_R21_Bring n).ok pg := en_R21_Bring_ok n



end
end Go.Proofs.Ytlfdidaeachpoaa

/- The reference's scale of fractions: what it tells. -/
namespace Go.Proofs.Ytlfdidaeachpoaa
open Go Go.RowKit
set_option maxRecDepth 100000

/-- Fractions as pairs of numbers: not too great, and not by 0. -/
structure Good (ns : List (Nat × Nat)) : Prop where
  len : ns.length ≤ 12
  num : ∀ x ∈ ns, x.1 < B16 ^ 12
  den : ∀ x ∈ ns, x.2 < B16 ^ 12
  pos : ∀ x ∈ ns, 0 < x.2

def qs (ns : List (Nat × Nat)) : List (List Int × List Int) := ns.map fun x => (digs B16 x.1, digs B16 x.2)
def rs (ns : List (Nat × Nat)) : List (List Int × List Int) := ns.map fun x => (digs B32 x.1, digs B32 x.2)

def lcmF (m : Nat) : List (Nat × Nat) → Nat
  | [] => m
  | x :: l => lcmF (Nat.lcm m x.2) l
def lcmL (ns : List (Nat × Nat)) : Nat := lcmF 1 ns
def up (m : Nat) (x : Nat × Nat) : Nat := x.1 * m / x.2
def sumU (m : Nat) : List (Nat × Nat) → Nat
  | [] => 0
  | x :: l => up m x + sumU m l

theorem qs_len (ns : List (Nat × Nat)) : (qs ns).length = ns.length := by simp [qs]
theorem rs_len (ns : List (Nat × Nat)) : (rs ns).length = ns.length := by simp [rs]
theorem qs_get {ns : List (Nat × Nat)} {i : Nat} (h : i < ns.length) (d : List Int × List Int) : (qs ns).getD i d = (digs B16 ns[i].1, digs B16 ns[i].2) := by
  simp [qs, List.getD, h]
theorem rs_get {ns : List (Nat × Nat)} {i : Nat} (h : i < ns.length) (d : List Int × List Int) : (rs ns).getD i d = (digs B32 ns[i].1, digs B32 ns[i].2) := by
  simp [rs, List.getD, h]

theorem Good.at {ns : List (Nat × Nat)} (G : Good ns) {i : Nat} (h : i < ns.length) : ns[i].1 < B16 ^ 12 ∧ ns[i].2 < B16 ^ 12 ∧ 0 < ns[i].2 :=
  ⟨G.num _ (List.getElem_mem h), G.den _ (List.getElem_mem h), G.pos _ (List.getElem_mem h)⟩

theorem lcm_bd {m d c : Nat} (hm : m < B16 ^ c) (hm0 : 0 < m) (hd : d < B16 ^ 12) (hd0 : 0 < d) : Nat.lcm m d < B16 ^ (c + 12) ∧ 0 < Nat.lcm m d := by
  refine ⟨?_, Nat.lcm_pos hm0 hd0⟩
  rw [Nat.pow_add]
  refine Nat.lt_of_le_of_lt ?_ (Nat.mul_lt_mul'' hm hd)
  unfold Nat.lcm
  exact Nat.div_le_self _ _

theorem lcm16_l (n : Nat) {ns : List (Nat × Nat)} (G : Good ns) : ∀ (r i m k : Nat), r < k → i + r = ns.length → m < B16 ^ (12 * i + 1) → 0 < m → R04_Lcm_l0 n (qs ns) k ((i : Int), digs B16 m) = some (digs B16 (lcmF m (ns.drop i))) := by
  intro r
  induction r with
  | zero =>
    intro i m k hk hi _ _
    obtain ⟨k, rfl⟩ : ∃ k', k = k' + 1 := ⟨k - 1, by omega⟩
    rw [R04_Lcm_l0_s]
    unfold R04_Lcm_b0
    simp only [RT.run]
    rw [if_neg (by simp [qs_len]; omega), List.drop_of_length_le (by omega)]
    rfl
  | succ r ih =>
    intro i m k hk hi hm hm0
    obtain ⟨k, rfl⟩ : ∃ k', k = k' + 1 := ⟨k - 1, by omega⟩
    have hlen := G.len
    have hi' : i < ns.length := by omega
    obtain ⟨g1, g2, g3⟩ := G.at hi'
    have w : IntKind.i64.wrap ((i : Int) + 1) = ((i + 1 : Nat) : Int) := by rw [i64_in] <;> omega
    have b := lcm_bd hm hm0 g2 g3
    have l1 := digs16_lt hm
    have l2 := digs16_lt g2
    rw [R04_Lcm_l0_s]
    unfold R04_Lcm_b0
    simp only [RT.run, Int.toNat_natCast, w, qs_get hi']
    rw [val_digs (by decide), val_digs (by decide)]
    rw [if_pos (by simp [qs_len]; omega), if_pos (by simp [qs_len]; omega), if_pos (by
      rw [isM_digs (by omega), isM_digs (by omega), decide_eq_true hm0, decide_eq_true g3]; rfl)]
    rw [ih (i + 1) (Nat.lcm m ns[i].2) k (by omega) (by omega) (by rw [show 12 * (i + 1) + 1 = 12 * i + 1 + 12 by omega]; exact b.1) b.2, List.drop_eq_getElem_cons hi']
    rfl

theorem lcmF_bd : ∀ (l : List (Nat × Nat)) (m c : Nat), (∀ x ∈ l, x.2 < B16 ^ 12) → (∀ x ∈ l, 0 < x.2) → m < B16 ^ c → 0 < m → lcmF m l < B16 ^ (c + 12 * l.length) ∧ 0 < lcmF m l
  | [], m, c, _, _, hm, h0 => ⟨hm, h0⟩
  | x :: l, m, c, h1, h2, hm, h0 => by
    have b := lcm_bd hm h0 (h1 x (List.mem_cons_self ..)) (h2 x (List.mem_cons_self ..))
    have := lcmF_bd l (Nat.lcm m x.2) (c + 12) (fun y hy => h1 y (List.mem_cons_of_mem _ hy)) (fun y hy => h2 y (List.mem_cons_of_mem _ hy)) b.1 b.2
    rw [List.length_cons, show c + 12 * (l.length + 1) = c + 12 + 12 * l.length by omega]
    exact this

theorem lcmL_bd {ns : List (Nat × Nat)} (G : Good ns) : lcmL ns < B16 ^ 145 ∧ 0 < lcmL ns := by
  have := lcmF_bd ns 1 1 G.den G.pos (by decide) (by decide)
  have hl := G.len
  exact ⟨Nat.lt_of_lt_of_le this.1 (Nat.pow_le_pow_right (by decide) (by omega)), this.2⟩

theorem up_bd {ns : List (Nat × Nat)} (G : Good ns) {x : Nat × Nat} (hx : x ∈ ns) : up (lcmL ns) x < B16 ^ 157 := by
  unfold up
  refine Nat.lt_of_le_of_lt (Nat.div_le_self _ _) ?_
  rw [show 157 = 12 + 145 from rfl, Nat.pow_add]
  exact Nat.mul_lt_mul'' (G.num x hx) (lcmL_bd G).1

theorem sumU_bd (m : Nat) : ∀ (l : List (Nat × Nat)), (∀ x ∈ l, up m x < B16 ^ 157) → sumU m l ≤ l.length * B16 ^ 157
  | [], _ => Nat.zero_le _
  | x :: l, h => by
    have := sumU_bd m l fun y hy => h y (List.mem_cons_of_mem _ hy)
    have h1 := h x (List.mem_cons_self ..)
    rw [sumU, List.length_cons, Nat.add_mul, Nat.one_mul]
    omega

theorem pow64 : B16 ^ 4 = 2 ^ 64 := by decide

theorem digs16_le4 {v : Nat} : (digs B16 v).length ≤ 4 ↔ v < 2 ^ 64 := by
  constructor
  · intro h
    have h1 := val_lt (b := B16) (by decide) (wfd_digs (by decide) v)
    rw [val_digs (by decide)] at h1
    rw [← pow64]
    exact Nat.lt_of_lt_of_le h1 (Nat.pow_le_pow_right (by decide) h)
  · intro h
    exact digs16_lt (by rw [pow64]; exact h)

/-- A word, or 0. -/
def word0 (v : Nat) : Int := if v < 2 ^ 64 then (v : Int) else 0

theorem word_if (v : Nat) : (if (digs B16 v).length ≤ 4 then ((val B16 (digs B16 v) : Int), true) else ((0 : Int), false)) = (word0 v, decide (v < 2 ^ 64)) := by
  unfold word0
  rw [val_digs (by decide)]
  by_cases h : v < 2 ^ 64
  · rw [if_pos (digs16_le4.2 h), if_pos h, decide_eq_true h]
  · rw [if_neg (fun h' => h (digs16_le4.1 h')), if_neg h, decide_eq_false h]

theorem Up_F {m : Nat} {x : Nat × Nat} (hm : m < B16 ^ 145) (h1 : x.1 < B16 ^ 12) (h2 : x.2 < B16 ^ 12) (h3 : 0 < x.2) (n : Nat) : F_R04_Up n (digs B16 x.1, digs B16 x.2, digs B16 m) = some (digs B16 (up m x)) := by
  unfold F_R04_Up R04_Up
  have hp : x.1 * m < B16 ^ (12 + 145) := by rw [Nat.pow_add]; exact Nat.mul_lt_mul'' h1 hm
  simp only [RT.run]
  rw [val_digs (by decide), val_digs (by decide), val_digs (by decide), val_digs (by decide)]
  rw [if_pos (by rw [okM_lt h1 (by decide), okM_lt hm (by decide)]; rfl), if_pos (by rw [okM_lt hp (by decide), okM_lt h2 (by decide), decide_eq_true h3]; rfl)]
  rfl

theorem bring16_l (n : Nat) {ns : List (Nat × Nat)} (G : Good ns) (c : Int) (q : Bool) : ∀ (r i S k : Nat) (out : List Int), r < k → i + r = ns.length → S ≤ i * B16 ^ 157 → out.length ≤ i →
    R21_Bring_l0 n (qs ns, c, q, 0, 0, digs B16 (lcmL ns)) k ((i : Int), out, digs B16 S) = some (out ++ (ns.drop i).map (fun x => word0 (up (lcmL ns) x)), digs B16 (S + sumU (lcmL ns) (ns.drop i))) := by
  intro r
  induction r with
  | zero =>
    intro i S k out hk hi _ _
    obtain ⟨k, rfl⟩ : ∃ k', k = k' + 1 := ⟨k - 1, by omega⟩
    rw [R21_Bring_l0_s]
    unfold R21_Bring_b0
    simp only [RT.run]
    rw [if_neg (by simp [qs_len]; omega), List.drop_of_length_le (by omega)]
    simp [sumU]
  | succ r ih =>
    intro i S k out hk hi hS ho
    obtain ⟨k, rfl⟩ : ∃ k', k = k' + 1 := ⟨k - 1, by omega⟩
    have hlen := G.len
    have hi' : i < ns.length := by omega
    obtain ⟨g1, g2, g3⟩ := G.at hi'
    have w : IntKind.i64.wrap ((i : Int) + 1) = ((i + 1 : Nat) : Int) := by rw [i64_in] <;> omega
    have hu := up_bd G (List.getElem_mem hi')
    have hSb : S < B16 ^ 158 := by
      have e1 : B16 ^ 158 = B16 ^ 157 * 65536 := Nat.pow_succ ..
      have p1 : 0 < B16 ^ 157 := Nat.pow_pos (by decide)
      have e2 : i * B16 ^ 157 ≤ 12 * B16 ^ 157 := Nat.mul_le_mul_right _ (by omega)
      rw [e1]
      generalize B16 ^ 157 = Z at *
      omega
    rw [R21_Bring_l0_s]
    unfold R21_Bring_b0
    simp only [RT.run, Int.toNat_natCast, w, qs_get hi', Up_F (lcmL_bd G).1 g1 g2 g3, Option.bind_some, word_if, rep1]
    rw [val_digs (by decide), val_digs (by decide)]
    rw [if_pos (by simp [qs_len]; omega), if_pos (by simp [qs_len]; omega), if_pos (by rw [okM_lt hSb (by decide), okM_lt hu (by decide)]; rfl), if_pos (wfd_digs (by decide) _), if_pos (by simp <;> omega)]
    rw [ih (i + 1) (S + up (lcmL ns) ns[i]) k _ (by omega) (by omega) (by rw [Nat.add_mul, Nat.one_mul]; omega) (by simp; omega), List.drop_eq_getElem_cons hi', List.append_assoc]
    simp only [List.map_cons, sumU, List.cons_append, List.nil_append, Nat.add_assoc]

/-- The scale of fractions, as numbers: the common number, the sum, whether there is one, the weights. -/
def scaleN (ns : List (Nat × Nat)) : Int × Int × Int × List Int :=
  if lcmL ns < 2 ^ 64 ∧ sumU (lcmL ns) ns < 2 ^ 64 then ((lcmL ns : Int), (sumU (lcmL ns) ns : Int), 0, ns.map fun x => (up (lcmL ns) x : Int)) else (0, 0, 10, [])

theorem sumU_le (m : Nat) : ∀ (l : List (Nat × Nat)) (x : Nat × Nat), x ∈ l → up m x ≤ sumU m l
  | y :: l, x, h => by
    rw [sumU]
    rcases List.mem_cons.1 h with rfl | h
    · omega
    · have := sumU_le m l x h
      omega

theorem Bring16_F {ns : List (Nat × Nat)} (G : Good ns) (n : Nat) (hn : 12 < n) : F_R21_Bring n (qs ns) = some (scaleN ns) := by
  have hlen := G.len
  have hL : F_R04_Lcm n (qs ns) = some (digs B16 (lcmL ns)) := by
    unfold F_R04_Lcm R04_Lcm
    simp only [RT.run]
    have := lcm16_l n G ns.length 0 1 n (by omega) (by omega) (by decide) (by decide)
    have h' : R04_Lcm_l0 n (qs ns) n ((0 : Int), digs B16 1) = _ := this
    rw [h']
    rfl
  unfold F_R21_Bring R21_Bring
  simp only [RT.run, hL, Option.bind_some, nilD, word_if]
  rw [if_pos (wfd_digs (by decide) _)]
  have hb := bring16_l n G (word0 (lcmL ns)) (decide (lcmL ns < 2 ^ 64)) ns.length 0 0 n [] (by omega) (by omega) (by omega) (by simp)
  have hb' : R21_Bring_l0 n (qs ns, word0 (lcmL ns), decide (lcmL ns < 2 ^ 64), (0 : Int), (0 : Int), digs B16 (lcmL ns)) n ((0 : Int), [], []) = _ := hb
  rw [hb']
  simp only [Option.bind_some, List.drop_zero, List.nil_append, Nat.zero_add, word_if]
  rw [if_pos (wfd_digs (by decide) _)]
  unfold scaleN
  by_cases h1 : lcmL ns < 2 ^ 64
  · rw [if_neg (by simpa using h1)]
    by_cases h2 : sumU (lcmL ns) ns < 2 ^ 64
    · rw [if_neg (by simpa using h2), if_pos ⟨h1, h2⟩]
      have e1 : word0 (lcmL ns) = (lcmL ns : Int) := if_pos h1
      have e2 : word0 (sumU (lcmL ns) ns) = (sumU (lcmL ns) ns : Int) := if_pos h2
      have e3 : (ns.map fun x => word0 (up (lcmL ns) x)) = ns.map fun x => (up (lcmL ns) x : Int) := by
        apply List.map_congr_left
        intro x hx
        exact if_pos (Nat.lt_of_le_of_lt (sumU_le _ _ _ hx) h2)
      rw [e1, e2, e3]
    · rw [if_pos (by simpa using h2), if_neg fun h => h2 h.2]
  · rw [if_pos (by simpa using h1), if_pos trivial, if_neg fun h => h1 h.1]

end Go.Proofs.Ytlfdidaeachpoaa

/- The program's scale of fractions. -/
namespace Go.Proofs.Ytlfdidaeachpoaa
open Go Go.RowKit
set_option maxRecDepth 100000
noncomputable section

theorem lcm_divg {a b : Nat} : a / Nat.gcd a b * b = Nat.lcm a b := by
  unfold Nat.lcm
  rw [Nat.div_mul_right_comm (Nat.gcd_dvd_left a b)]

abbrev e_nat_Lcm (_ : Nat) : Entry := sp_nat_Lcm (fun x => okN 24 x.1 && okN 24 x.2 && decide (0 < val B32 x.1)) (fun x => digs B32 (Nat.lcm (val B32 x.1) (val B32 x.2)))
theorem e_nat_Lcm_ok (n : Nat) : (e_nat_Lcm n).ok pg := sp_nat_Lcm_ok fun x h => by
  simp only [Bool.and_eq_true, decide_eq_true_eq] at h
  obtain ⟨⟨h1, h2⟩, h3⟩ := h
  have o1 := okN_iff.1 h1
  have o2 := okN_iff.1 h2
  refine ⟨0, ?_⟩
  unfold F_nat_Lcm nat_Lcm
  have hg := Nat.gcd_pos_of_pos_left (val B32 x.2) h3
  have lg : (digs B32 (Nat.gcd (val B32 x.1) (val B32 x.2))).length ≤ x.1.length := Nat.le_trans (digs_len_mono (Nat.gcd_le_left _ h3)) (digs_len_le o1.2)
  have lq : (digs B32 (val B32 x.1 / Nat.gcd (val B32 x.1) (val B32 x.2))).length ≤ x.1.length := Nat.le_trans (digs_len_mono (Nat.div_le_self _ _)) (digs_len_le o1.2)
  have hd : divRes (val B32 x.1) (Nat.gcd (val B32 x.1) (val B32 x.2)) = (digs B32 (val B32 x.1 / Nat.gcd (val B32 x.1) (val B32 x.2)), digs B32 (val B32 x.1 % Nat.gcd (val B32 x.1) (val B32 x.2)), true) := if_neg (by omega)
  simp only [RT.run]
  rw [val_digs (by decide), hd]
  rw [if_pos (by rw [okN_iff.2 ⟨by omega, o1.2⟩, okN_iff.2 ⟨by omega, o2.2⟩]; rfl), if_pos (by rw [okN_iff.2 ⟨by omega, o1.2⟩, okN_iff.2 ⟨by omega, wfd_digs (by decide) _⟩]; rfl), if_neg (by simp)]
  have e : ((List.replicate 2 (nilD (Ty.int IntKind.u32).den)).set 0 (digs B32 (val B32 x.1 / Nat.gcd (val B32 x.1) (val B32 x.2)))).set 1 x.2 = [digs B32 (val B32 x.1 / Nat.gcd (val B32 x.1) (val B32 x.2)), x.2] := rfl
  simp only [e]
  rw [if_pos (by
    simp only [lens, List.map_cons, List.map_nil, List.sum_cons, List.sum_nil, List.length_cons, List.length_nil, List.all_cons, List.all_nil, Bool.and_true, Bool.and_eq_true, decide_eq_true_eq]
    exact ⟨⟨by omega, by omega⟩, wfd_digs (by decide) _, o2.2⟩)]
  simp only [prodv, List.foldl_cons, List.foldl_nil, val_digs (show 2 ≤ B32 by decide), Nat.one_mul]
  rw [← lcm_divg]

abbrev ratio_Common_T (n : Nat) : CallT := tab [e_nat_Of n, e_nat_Lcm n, e_nat_Div n, e_nat_Mul n]
abbrev ratio_Common_h0 : Cut := ⟨[.keep [0, 4, 14, 15, 16], .gc], [0, 4, 14, 15, 16]⟩
abbrev ratio_Common_x0 : Cut := ⟨[.keep [0, 4], .gc], [0, 4]⟩
abbrev ratio_Common_y0 : Cut := ⟨[.keep [2, 3], .gc], [2, 3]⟩
def ratio_Common_mk0 (i : ((List ((List Int) × (List Int))) × ((List ((List Int) × (List Int))) × Int))) (x : ((List Int) × Int)) : List TV × List (Nat × Ent) := ([.lf (.dat (Ty.pair (Ty.sl (Ty.int IntKind.u32)) (Ty.sl (Ty.int IntKind.u32))) i.1), .lf (.dat (Ty.int IntKind.u32) x.1), .lf (.dat (Ty.pair (Ty.sl (Ty.int IntKind.u32)) (Ty.sl (Ty.int IntKind.u32))) i.2.1), .lf (.int IntKind.i64 i.2.2), .lf (.int IntKind.i64 x.2)], [])
def ratio_Common_pt0 : List TV → List (Nat × Ent) → Option (((List ((List Int) × (List Int))) × ((List ((List Int) × (List Int))) × Int)) × ((List Int) × Int))
  | [.lf (.dat (Ty.pair (Ty.sl (Ty.int IntKind.u32)) (Ty.sl (Ty.int IntKind.u32))) x0), .lf (.dat (Ty.int IntKind.u32) x4), .lf (.dat (Ty.pair (Ty.sl (Ty.int IntKind.u32)) (Ty.sl (Ty.int IntKind.u32))) x14), .lf (.int IntKind.i64 x15), .lf (.int IntKind.i64 x16)], [] => some ((x0, x14, x15), (x4, x16))
  | _, _ => none
def ratio_Common_ev0 (i : ((List ((List Int) × (List Int))) × ((List ((List Int) × (List Int))) × Int))) (r : (List Int)) : PE := .exit 0 [.lf (.dat (Ty.pair (Ty.sl (Ty.int IntKind.u32)) (Ty.sl (Ty.int IntKind.u32))) i.1), .lf (.dat (Ty.int IntKind.u32) r)] []
def ratio_Common_an0 (i : ((List ((List Int) × (List Int))) × ((List ((List Int) × (List Int))) × Int))) (r : (List Int)) : Tree := .leaf (.exit 0 (spSt 50 [0, 4] [.lf (.dat (Ty.pair (Ty.sl (Ty.int IntKind.u32)) (Ty.sl (Ty.int IntKind.u32))) i.1), .lf (.dat (Ty.int IntKind.u32) r)] []))
def ratio_Common_b0 (n : Nat) (x0 : (List ((List Int) × (List Int)))) (x14 : (List ((List Int) × (List Int)))) (x15 : Int) (x4 : (List Int)) (x16 : Int) : RT ((List Int) × Int) (List Int) :=
  (.rq 1 (.ite (decide (x16 < x15))
  (.req (decide ((0 : Int) ≤ x16) && decide (x16 < (↑x14.length : Int)))
  (.rq 6 (.req (okN (24 : Nat) x4 && okN (24 : Nat) (x14.getD x16.toNat ((Ty.int IntKind.u32).sl.pair (Ty.int IntKind.u32).sl).dflt).snd && decide ((0 : Nat) < val B32 x4))
  (.rq 3 (.again ((digs B32 ((val B32 x4).lcm (val B32 (x14.getD x16.toNat ((Ty.int IntKind.u32).sl.pair (Ty.int IntKind.u32).sl).dflt).snd)), IntKind.i64.wrap (x16 + (1 : Int)))))))))
  (.done x4)))
def ratio_Common_l0 (n : Nat) (i : ((List ((List Int) × (List Int))) × ((List ((List Int) × (List Int))) × Int))) : Nat → ((List Int) × Int) → Option (List Int) := loopN (fun rec x => (ratio_Common_b0 n i.1 i.2.1 i.2.2 x.1 x.2).run rec)
theorem ratio_Common_l0_s (n : Nat) (i : ((List ((List Int) × (List Int))) × ((List ((List Int) × (List Int))) × Int))) (k : Nat) (x : ((List Int) × Int)) : ratio_Common_l0 n i (k + 1) x = (ratio_Common_b0 n i.1 i.2.1 i.2.2 x.1 x.2).run (ratio_Common_l0 n i k) := rfl
def ratio_Common_t0 (n : Nat) (σ : St) : Option Tree := match seeSt ratio_Common_h0.plan ratio_Common_h0.ts 50 σ with
  | some y => (match ratio_Common_pt0 y.1 y.2 with
    | some x => some (loopAns (ratio_Common_l0 n x.1 n x.2) (ratio_Common_an0 x.1))
    | none => none)
  | none => none
abbrev ratio_Common_h2 : Cut := ⟨[.keep [4, 7, 25, 26, 27], .gc, .nilRow 7 800007 41 (Ty.sl (Ty.int IntKind.u32)), .ren 7 700007, .ren 7 900007, .gc], [4, 7, 25, 26, 27]⟩
abbrev ratio_Common_x2 : Cut := ⟨[.keep [4, 7], .gc, .nilRow 7 800007 41 (Ty.sl (Ty.int IntKind.u32)), .ren 7 700007, .ren 7 900007, .gc], [4, 7]⟩
abbrev ratio_Common_y2 : Cut := ⟨[.keep [2, 3], .gc], [2, 3]⟩
def ratio_Common_mk2 (i : ((List Int) × ((List ((List Int) × (List Int))) × Int))) (x : (Int × (List (List Int)))) : List TV × List (Nat × Ent) := ([.lf (.dat (Ty.int IntKind.u32) i.1), .lf (.ref 900007), .lf (.dat (Ty.pair (Ty.sl (Ty.int IntKind.u32)) (Ty.sl (Ty.int IntKind.u32))) i.2.1), .lf (.int IntKind.i64 i.2.2), .lf (.int IntKind.i64 x.1)], [(900007, ⟨true, .arr 41 (Ty.sl (Ty.int IntKind.u32)) x.2⟩)])
def ratio_Common_pt2 : List TV → List (Nat × Ent) → Option (((List Int) × ((List ((List Int) × (List Int))) × Int)) × (Int × (List (List Int))))
  | [.lf (.dat (Ty.int IntKind.u32) x4), .lf (.ref 900007), .lf (.dat (Ty.pair (Ty.sl (Ty.int IntKind.u32)) (Ty.sl (Ty.int IntKind.u32))) x25), .lf (.int IntKind.i64 x26), .lf (.int IntKind.i64 x27)], [(900007, ⟨true, .arr 41 (Ty.sl (Ty.int IntKind.u32)) h0⟩)] => some ((x4, x25, x26), (x27, h0))
  | _, _ => none
def ratio_Common_ev2 (i : ((List Int) × ((List ((List Int) × (List Int))) × Int))) (r : (List (List Int))) : PE := .exit 2 [.lf (.dat (Ty.int IntKind.u32) i.1), .lf (.ref 900007)] [(900007, ⟨true, .arr 41 (Ty.sl (Ty.int IntKind.u32)) r⟩)]
def ratio_Common_an2 (i : ((List Int) × ((List ((List Int) × (List Int))) × Int))) (r : (List (List Int))) : Tree := .leaf (.exit 2 (spSt 50 [4, 7] [.lf (.dat (Ty.int IntKind.u32) i.1), .lf (.ref 900007)] [(900007, ⟨true, .arr 41 (Ty.sl (Ty.int IntKind.u32)) r⟩)]))
def ratio_Common_b2 (n : Nat) (x4 : (List Int)) (x25 : (List ((List Int) × (List Int)))) (x26 : Int) (x27 : Int) (h0 : (List (List Int))) : RT (Int × (List (List Int))) (List (List Int)) :=
  (.rq 1 (.ite (decide (x27 < x26))
  (.req (decide ((0 : Int) ≤ x27) && decide (x27 < (↑x25.length : Int)))
  (.rq 6 (.req (okN (38 : Nat) x4 && okN (38 : Nat) (x25.getD x27.toNat ((Ty.int IntKind.u32).sl.pair (Ty.int IntKind.u32).sl).dflt).snd)
  (.rq 12 (.req (decide
      ((((List.replicate (2 : Nat) (nilD (Ty.int IntKind.u32).den)).set (0 : Nat) (divRes (val B32 x4) (val B32 (x25.getD x27.toNat ((Ty.int IntKind.u32).sl.pair (Ty.int IntKind.u32).sl).dflt).snd)).fst).set (1 : Nat)
            (x25.getD x27.toNat ((Ty.int IntKind.u32).sl.pair (Ty.int IntKind.u32).sl).dflt).fst).length ≤
        (1048576 : Nat)) &&
    decide
      (lens
          (((List.replicate (2 : Nat) (nilD (Ty.int IntKind.u32).den)).set (0 : Nat) (divRes (val B32 x4) (val B32 (x25.getD x27.toNat ((Ty.int IntKind.u32).sl.pair (Ty.int IntKind.u32).sl).dflt).snd)).fst).set (1 : Nat)
            (x25.getD x27.toNat ((Ty.int IntKind.u32).sl.pair (Ty.int IntKind.u32).sl).dflt).fst) ≤
        (1073741824 : Nat)) &&
  (((List.replicate (2 : Nat) (nilD (Ty.int IntKind.u32).den)).set (0 : Nat) (divRes (val B32 x4) (val B32 (x25.getD x27.toNat ((Ty.int IntKind.u32).sl.pair (Ty.int IntKind.u32).sl).dflt).snd)).fst).set (1 : Nat)
        (x25.getD x27.toNat ((Ty.int IntKind.u32).sl.pair (Ty.int IntKind.u32).sl).dflt).fst).all
    (wfd B32))
  (.rq 1 (.req (decide
    ((h0.length +
          ((List.replicate (1 : Nat) (nilD (Ty.int IntKind.u32).den)).set (0 : Nat)
              (digs B32
                (prodv
                  (((List.replicate (2 : Nat) (nilD (Ty.int IntKind.u32).den)).set (0 : Nat) (divRes (val B32 x4) (val B32 (x25.getD x27.toNat ((Ty.int IntKind.u32).sl.pair (Ty.int IntKind.u32).sl).dflt).snd)).fst).set (1 : Nat)
                    (x25.getD x27.toNat ((Ty.int IntKind.u32).sl.pair (Ty.int IntKind.u32).sl).dflt).fst)))).length) *
        (24 : Nat) ≤
      (140737488355328 : Nat)) &&
  decide
    (h0.length +
        ((List.replicate (1 : Nat) (nilD (Ty.int IntKind.u32).den)).set (0 : Nat)
            (digs B32
              (prodv
                (((List.replicate (2 : Nat) (nilD (Ty.int IntKind.u32).den)).set (0 : Nat) (divRes (val B32 x4) (val B32 (x25.getD x27.toNat ((Ty.int IntKind.u32).sl.pair (Ty.int IntKind.u32).sl).dflt).snd)).fst).set (1 : Nat)
                  (x25.getD x27.toNat ((Ty.int IntKind.u32).sl.pair (Ty.int IntKind.u32).sl).dflt).fst)))).length ≤
      (9223372036854775807 : Nat)))
  (.rq 3 (.again ((IntKind.i64.wrap (x27 + (1 : Int)), h0 ++
  (List.replicate (1 : Nat) (nilD (Ty.int IntKind.u32).den)).set (0 : Nat)
    (digs B32
      (prodv
        (((List.replicate (2 : Nat) (nilD (Ty.int IntKind.u32).den)).set (0 : Nat) (divRes (val B32 x4) (val B32 (x25.getD x27.toNat ((Ty.int IntKind.u32).sl.pair (Ty.int IntKind.u32).sl).dflt).snd)).fst).set (1 : Nat)
          (x25.getD x27.toNat ((Ty.int IntKind.u32).sl.pair (Ty.int IntKind.u32).sl).dflt).fst))))))))))))))
  (.done h0)))
def ratio_Common_l2 (n : Nat) (i : ((List Int) × ((List ((List Int) × (List Int))) × Int))) : Nat → (Int × (List (List Int))) → Option (List (List Int)) := loopN (fun rec x => (ratio_Common_b2 n i.1 i.2.1 i.2.2 x.1 x.2).run rec)
theorem ratio_Common_l2_s (n : Nat) (i : ((List Int) × ((List ((List Int) × (List Int))) × Int))) (k : Nat) (x : (Int × (List (List Int)))) : ratio_Common_l2 n i (k + 1) x = (ratio_Common_b2 n i.1 i.2.1 i.2.2 x.1 x.2).run (ratio_Common_l2 n i k) := rfl
def ratio_Common_t2 (n : Nat) (σ : St) : Option Tree := match seeSt ratio_Common_h2.plan ratio_Common_h2.ts 50 σ with
  | some y => (match ratio_Common_pt2 y.1 y.2 with
    | some x => some (loopAns (ratio_Common_l2 n x.1 n x.2) (ratio_Common_an2 x.1))
    | none => none)
  | none => none
def ratio_Common_told (n : Nat) : Nat → St → Option Tree
  | 0, σ => ratio_Common_t0 n σ
  | 2, σ => ratio_Common_t2 n σ
  | _, _ => none
def ratio_Common_res (y : ((List Int) × (List (List Int)))) : CallRes := ⟨true, .tup [(false, [.dat (Ty.int IntKind.u32) y.1]), (false, [.ref 0])], [], [⟨true, .arr 41 (Ty.sl (Ty.int IntKind.u32)) y.2⟩], true⟩
def ratio_Common (n : Nat) (a0 : (List ((List Int) × (List Int)))) : RT Unit ((List Int) × (List (List Int))) :=
  (.rq 7 (.call (ratio_Common_l0 n (a0, a0, (↑a0.length : Int)) n (digs B32 (1 : Nat), (0 : Int))) default fun v0 =>
  (.rq 4 (.call (ratio_Common_l2 n (v0, a0, (↑a0.length : Int)) n ((0 : Int), nilD (Ty.int IntKind.u32).sl.den)) default fun v1 =>
  (.rq 4 (.done ((v0, v1))))))))
def F_ratio_Common (n : Nat) (x : (List ((List Int) × (List Int)))) : Option ((List Int) × (List (List Int))) := (ratio_Common n x).run fun _ => none
def ratio_Common_ans (F : (List ((List Int) × (List Int))) → Option ((List Int) × (List (List Int)))) : List TV → List Ent → Option CallRes
  | [.lf (.dat (Ty.pair (Ty.sl (Ty.int IntKind.u32)) (Ty.sl (Ty.int IntKind.u32))) a0)], [] => some (callAns (F a0) ratio_Common_res)
  | _, _ => none
def en_ratio_Common (F : (List ((List Int) × (List Int))) → Option ((List Int) × (List (List Int)))) : Entry := .data n_ratio_Common [[Ty.sl (Ty.pair (Ty.sl (Ty.int IntKind.u32)) (Ty.sl (Ty.int IntKind.u32)))]] (ratio_Common_ans F)
abbrev e_ratio_Common (n : Nat) : Entry := en_ratio_Common (F_ratio_Common n)
theorem ratio_Common_T_ok (n : Nat) : SoundT pg (ratio_Common_T n) := tab_sound ⟨e_nat_Of_ok n, e_nat_Lcm_ok n, e_nat_Div_ok n, e_nat_Mul_ok n, trivial⟩
theorem ratio_Common_r0 (n : Nat) (x0 : (List ((List Int) × (List Int)))) (x14 : (List ((List Int) × (List Int)))) (x15 : Int) (x4 : (List Int)) (x16 : Int) : (evCode pg (ratio_Common_T n) (loopsTold (ratio_Common_told n)) 0 (lp 0 (codeOf f_ratio_Common) 0).2 (spSt 50 ratio_Common_h0.ts [.lf (.dat (Ty.pair (Ty.sl (Ty.int IntKind.u32)) (Ty.sl (Ty.int IntKind.u32))) x0), .lf (.dat (Ty.int IntKind.u32) x4), .lf (.dat (Ty.pair (Ty.sl (Ty.int IntKind.u32)) (Ty.sl (Ty.int IntKind.u32))) x14), .lf (.int IntKind.i64 x15), .lf (.int IntKind.i64 x16)] [])).pt (seeEv 50 ratio_Common_h0 ratio_Common_x0 ratio_Common_y0) =
    (ratio_Common_b0 n x0 x14 x15 x4 x16).pt (fun x' => .norm (ratio_Common_mk0 (x0, x14, x15) x').1 (ratio_Common_mk0 (x0, x14, x15) x').2) (ratio_Common_ev0 (x0, x14, x15)) := by kernel_rfl
theorem ratio_Common_pm0 : ∀ vs hp x, ratio_Common_pt0 vs hp = some x → ratio_Common_mk0 x.1 x.2 = (vs, hp) := by
  intro vs hp x h
  unfold ratio_Common_pt0 at h
  split at h <;> first | (cases h; rfl) | cases h
theorem ratio_Common_k0 (n : Nat) : LoopOK pg (loopsTold (ratio_Common_told n)) (lp 0 (codeOf f_ratio_Common) 0) :=
  loop_lift pg_mixed (T := (ratio_Common_T n)) (ratio_Common_T_ok n) (b := 0) (len := 50) (body := (lp 0 (codeOf f_ratio_Common) 0).2) (ch := ratio_Common_h0) (cx := ratio_Common_x0) (cr := ratio_Common_y0) ratio_Common_mk0 ratio_Common_ev0 ratio_Common_an0 (fun i x => ratio_Common_b0 n i.1 i.2.1 i.2.2 x.1 x.2) n ratio_Common_pt0 ratio_Common_pm0 (fun i r K h => h)
    regs_told (loops_told0 (by kernel_rfl)) (fun _ => by kernel_rfl) (fun i x => ratio_Common_r0 n i.1 i.2.1 i.2.2 x.1 x.2)
theorem ratio_Common_r2 (n : Nat) (x4 : (List Int)) (x25 : (List ((List Int) × (List Int)))) (x26 : Int) (x27 : Int) (h0 : (List (List Int))) : (evCode pg (ratio_Common_T n) (loopsTold (ratio_Common_told n)) 2 (lp 0 (codeOf f_ratio_Common) 1).2 (spSt 50 ratio_Common_h2.ts [.lf (.dat (Ty.int IntKind.u32) x4), .lf (.ref 900007), .lf (.dat (Ty.pair (Ty.sl (Ty.int IntKind.u32)) (Ty.sl (Ty.int IntKind.u32))) x25), .lf (.int IntKind.i64 x26), .lf (.int IntKind.i64 x27)] [(900007, ⟨true, .arr 41 (Ty.sl (Ty.int IntKind.u32)) h0⟩)])).pt (seeEv 50 ratio_Common_h2 ratio_Common_x2 ratio_Common_y2) =
    (ratio_Common_b2 n x4 x25 x26 x27 h0).pt (fun x' => .norm (ratio_Common_mk2 (x4, x25, x26) x').1 (ratio_Common_mk2 (x4, x25, x26) x').2) (ratio_Common_ev2 (x4, x25, x26)) := by kernel_rfl
theorem ratio_Common_pm2 : ∀ vs hp x, ratio_Common_pt2 vs hp = some x → ratio_Common_mk2 x.1 x.2 = (vs, hp) := by
  intro vs hp x h
  unfold ratio_Common_pt2 at h
  split at h <;> first | (cases h; rfl) | cases h
theorem ratio_Common_k2 (n : Nat) : LoopOK pg (loopsTold (ratio_Common_told n)) (lp 0 (codeOf f_ratio_Common) 1) :=
  loop_lift pg_mixed (T := (ratio_Common_T n)) (ratio_Common_T_ok n) (b := 2) (len := 50) (body := (lp 0 (codeOf f_ratio_Common) 1).2) (ch := ratio_Common_h2) (cx := ratio_Common_x2) (cr := ratio_Common_y2) ratio_Common_mk2 ratio_Common_ev2 ratio_Common_an2 (fun i x => ratio_Common_b2 n i.1 i.2.1 i.2.2 x.1 x.2) n ratio_Common_pt2 ratio_Common_pm2 (fun i r K h => h)
    regs_told (loops_told0 (by kernel_rfl)) (fun _ => by kernel_rfl) (fun i x => ratio_Common_r2 n i.1 i.2.1 i.2.2 x.1 x.2)
theorem ratio_Common_e (n : Nat) (a0 : (List ((List Int) × (List Int)))) : (evFn pg (ratio_Common_T n) (loopsTold (ratio_Common_told n)) f_ratio_Common (codeOf f_ratio_Common) [.lf (.dat (Ty.pair (Ty.sl (Ty.int IntKind.u32)) (Ty.sl (Ty.int IntKind.u32))) a0)] []).pt (outEv pg f_ratio_Common 0 [.nilRow 3 800003 41 (Ty.sl (Ty.int IntKind.u32)), .ren 3 700003, .ren 3 900003] true) =
    (ratio_Common n a0).pt (fun _ => .norm [] []) (fun y => .out (ratio_Common_res y)) := by kernel_rfl
theorem ratio_Common_call (n : Nat) (a0 : (List ((List Int) × (List Int)))) (y : ((List Int) × (List (List Int)))) (hy : F_ratio_Common n a0 = some y) : Enters pg n_ratio_Common ∧ CallOK pg n_ratio_Common [.lf (.dat (Ty.pair (Ty.sl (Ty.int IntKind.u32)) (Ty.sl (Ty.int IntKind.u32))) a0)] [] (ratio_Common_res y) := fn_lift (fn := f_ratio_Common) pg_mixed (T := ratio_Common_T n) (ratio_Common_T_ok n) (L := loopsTold (ratio_Common_told n)) (by kernel_rfl) (by kernel_rfl) (by kernel_rfl) regs_told (loops_told2 (by kernel_rfl) (ratio_Common_k0 n) (ratio_Common_k2 n)) (args := [.lf (.dat (Ty.pair (Ty.sl (Ty.int IntKind.u32)) (Ty.sl (Ty.int IntKind.u32))) a0)]) (es := []) ratio_Common_res [.nilRow 3 800003 41 (Ty.sl (Ty.int IntKind.u32)), .ren 3 700003, .ren 3 900003] true (fun _ => rfl) (ratio_Common n a0) (ratio_Common_e n a0) hy
theorem en_ratio_Common_ok (n : Nat) : (en_ratio_Common (F_ratio_Common n)).ok pg := Entry.data_ok <| by
  intro args es r h hv
  unfold ratio_Common_ans at h
  simp only at h
  split at h
  · rename_i a0
    cases h
    exact callAns_ok (fun y hy => ratio_Common_call n a0 y hy) hv
  · cases h
/-- The function, by what it is known to tell. -/
def sp_ratio_Common (C : (List ((List Int) × (List Int))) → Bool) (V : (List ((List Int) × (List Int))) → ((List Int) × (List (List Int)))) : Entry := .data n_ratio_Common [[Ty.sl (Ty.pair (Ty.sl (Ty.int IntKind.u32)) (Ty.sl (Ty.int IntKind.u32)))]] fun args es => match args, es with
  | [.lf (.dat (Ty.pair (Ty.sl (Ty.int IntKind.u32)) (Ty.sl (Ty.int IntKind.u32))) a0)], [] => some { ratio_Common_res (V a0) with vc := C a0 }
  | _, _ => none
theorem sp_ratio_Common_ok {C : (List ((List Int) × (List Int))) → Bool} {V : (List ((List Int) × (List Int))) → ((List Int) × (List (List Int)))} (H : ∀ x, C x = true → ∃ n, F_ratio_Common n x = some (V x)) : (sp_ratio_Common C V).ok pg := Entry.data_ok <| by
  intro args es r h hv
  simp only at h
  split at h
  · rename_i a0
    cases h
    obtain ⟨n, hn⟩ := H a0 hv
    exact ⟨(ratio_Common_call n a0 _ hn).1, (ratio_Common_call n a0 _ hn).2.vc⟩
  · cases h
theorem e_ratio_Common_ok (n : Nat) : (e_ratio_Common n).ok pg := en_ratio_Common_ok n


abbrev span_Spans_T (n : Nat) : CallT := tab [e_wide_Add n]
abbrev span_Spans_h0 : Cut := ⟨[.keep [4, 5, 9, 10, 11], .gc, .nilRow 4 800004 137 (Ty.pair (Ty.int IntKind.u64) (Ty.int IntKind.u64)), .ren 4 700004, .ren 4 900004, .gc], [4, 5, 9, 10, 11]⟩
abbrev span_Spans_x0 : Cut := ⟨[.keep [4], .gc, .nilRow 4 800004 137 (Ty.pair (Ty.int IntKind.u64) (Ty.int IntKind.u64)), .ren 4 700004, .ren 4 900004, .gc], [4]⟩
abbrev span_Spans_y0 : Cut := ⟨[.keep [2, 3], .gc], [2, 3]⟩
def span_Spans_mk0 (i : ((List Int) × Int)) (x : (Int × (Int × (List (Int × Int))))) : List TV × List (Nat × Ent) := ([.lf (.ref 900004), .lf (.int IntKind.u64 x.1), .lf (.dat (Ty.int IntKind.u64) i.1), .lf (.int IntKind.i64 i.2), .lf (.int IntKind.i64 x.2.1)], [(900004, ⟨true, .arr 137 (Ty.pair (Ty.int IntKind.u64) (Ty.int IntKind.u64)) x.2.2⟩)])
def span_Spans_pt0 : List TV → List (Nat × Ent) → Option (((List Int) × Int) × (Int × (Int × (List (Int × Int)))))
  | [.lf (.ref 900004), .lf (.int IntKind.u64 x5), .lf (.dat (Ty.int IntKind.u64) x9), .lf (.int IntKind.i64 x10), .lf (.int IntKind.i64 x11)], [(900004, ⟨true, .arr 137 (Ty.pair (Ty.int IntKind.u64) (Ty.int IntKind.u64)) h0⟩)] => some ((x9, x10), (x5, x11, h0))
  | _, _ => none
def span_Spans_ev0 (i : ((List Int) × Int)) : (LR (List (Int × Int)) Bool) → PE
  | .ex z => .exit 0 [.lf (.ref 900004)] [(900004, ⟨true, .arr 137 (Ty.pair (Ty.int IntKind.u64) (Ty.int IntKind.u64)) z⟩)]
  | .rt z => .ret [.lf (.nil), .lf (.bool z)] []
def span_Spans_an0 (i : ((List Int) × Int)) (r : (LR (List (Int × Int)) Bool)) : Tree := .ite r.isRt (.leaf (.ret (spSt 31 [2, 3] [.lf (.nil), .lf (.bool r.getR)] []))) (.leaf (.exit 0 (spSt 31 [4] [.lf (.ref 900004)] [(900004, ⟨true, .arr 137 (Ty.pair (Ty.int IntKind.u64) (Ty.int IntKind.u64)) r.getX⟩)])))
def span_Spans_b0 (n : Nat) (x9 : (List Int)) (x10 : Int) (x5 : Int) (x11 : Int) (h0 : (List (Int × Int))) : RT (Int × (Int × (List (Int × Int)))) (LR (List (Int × Int)) Bool) :=
  (.rq 1 (.ite (decide (x11 < x10))
  (.req (decide ((0 : Int) ≤ x11) && decide (x11 < (↑x9.length : Int)))
  (.rq 7 (.req (decide ((h0.length + ((List.replicate (1 : Nat) ((0 : Int), (0 : Int))).set (0 : Nat) (x5, x9.getD x11.toNat (0 : Int))).length) * (16 : Nat) ≤ (140737488355328 : Nat)) &&
  decide (h0.length + ((List.replicate (1 : Nat) ((0 : Int), (0 : Int))).set (0 : Nat) (x5, x9.getD x11.toNat (0 : Int))).length ≤ (9223372036854775807 : Nat)))
  (.rq 3 (.call (F_wide_Add n (x5, x9.getD x11.toNat (0 : Int))) default fun v0 =>
  (.rq 7 (.ite (!v0.snd)
  (.rq 2 (.done (.rt false)))
  (.rq 2 (.again ((v0.fst, IntKind.i64.wrap (x11 + (1 : Int)), h0 ++ (List.replicate (1 : Nat) ((0 : Int), (0 : Int))).set (0 : Nat) (x5, x9.getD x11.toNat (0 : Int)))))))))))))
  (.done (.ex h0))))
def span_Spans_l0 (n : Nat) (i : ((List Int) × Int)) : Nat → (Int × (Int × (List (Int × Int)))) → Option (LR (List (Int × Int)) Bool) := loopN (fun rec x => (span_Spans_b0 n i.1 i.2 x.1 x.2.1 x.2.2).run rec)
theorem span_Spans_l0_s (n : Nat) (i : ((List Int) × Int)) (k : Nat) (x : (Int × (Int × (List (Int × Int))))) : span_Spans_l0 n i (k + 1) x = (span_Spans_b0 n i.1 i.2 x.1 x.2.1 x.2.2).run (span_Spans_l0 n i k) := rfl
def span_Spans_t0 (n : Nat) (σ : St) : Option Tree := match seeSt span_Spans_h0.plan span_Spans_h0.ts 31 σ with
  | some y => (match span_Spans_pt0 y.1 y.2 with
    | some x => some (loopAns (span_Spans_l0 n x.1 n x.2) (span_Spans_an0 x.1))
    | none => none)
  | none => none
def span_Spans_told (n : Nat) : Nat → St → Option Tree
  | 0, σ => span_Spans_t0 n σ
  | _, _ => none
def span_Spans_res (y : (Bool × (List (Int × Int)))) : CallRes := ⟨true, .tup [(false, [.ref 0]), (false, [.bool y.1])], [], [⟨true, .arr 137 (Ty.pair (Ty.int IntKind.u64) (Ty.int IntKind.u64)) y.2⟩], false⟩
def span_Spans (n : Nat) (a0 : (List Int)) : RT Unit (Bool × (List (Int × Int))) :=
  (.rq 8 (.call (span_Spans_l0 n (a0, (↑a0.length : Int)) n ((0 : Int), (0 : Int), nilD ((Ty.int IntKind.u64).pair (Ty.int IntKind.u64)).den)) default fun v0 =>
  (.ite (v0.isRt)
  (.done ((v0.getR, nilD ((Ty.int IntKind.u64).pair (Ty.int IntKind.u64)).den)))
  (.rq 3 (.done ((true, LR.rec (fun x => x) (fun y => default) v0)))))))
def F_span_Spans (n : Nat) (x : (List Int)) : Option (Bool × (List (Int × Int))) := (span_Spans n x).run fun _ => none
def span_Spans_ans (F : (List Int) → Option (Bool × (List (Int × Int)))) : List TV → List Ent → Option CallRes
  | [.lf (.dat (Ty.int IntKind.u64) a0)], [] => some (callAns (F a0) span_Spans_res)
  | _, _ => none
def en_span_Spans (F : (List Int) → Option (Bool × (List (Int × Int)))) : Entry := .data n_span_Spans [[Ty.sl (Ty.int IntKind.u64)]] (span_Spans_ans F)
abbrev e_span_Spans (n : Nat) : Entry := en_span_Spans (F_span_Spans n)
theorem span_Spans_T_ok (n : Nat) : SoundT pg (span_Spans_T n) := tab_sound ⟨e_wide_Add_ok n, trivial⟩
theorem span_Spans_r0 (n : Nat) (x9 : (List Int)) (x10 : Int) (x5 : Int) (x11 : Int) (h0 : (List (Int × Int))) : (evCode pg (span_Spans_T n) (loopsTold (span_Spans_told n)) 0 (lp 0 (codeOf f_span_Spans) 0).2 (spSt 31 span_Spans_h0.ts [.lf (.ref 900004), .lf (.int IntKind.u64 x5), .lf (.dat (Ty.int IntKind.u64) x9), .lf (.int IntKind.i64 x10), .lf (.int IntKind.i64 x11)] [(900004, ⟨true, .arr 137 (Ty.pair (Ty.int IntKind.u64) (Ty.int IntKind.u64)) h0⟩)])).pt (seeEv 31 span_Spans_h0 span_Spans_x0 span_Spans_y0) =
    (span_Spans_b0 n x9 x10 x5 x11 h0).pt (fun x' => .norm (span_Spans_mk0 (x9, x10) x').1 (span_Spans_mk0 (x9, x10) x').2) (span_Spans_ev0 (x9, x10)) := by kernel_rfl
theorem span_Spans_pm0 : ∀ vs hp x, span_Spans_pt0 vs hp = some x → span_Spans_mk0 x.1 x.2 = (vs, hp) := by
  intro vs hp x h
  unfold span_Spans_pt0 at h
  split at h <;> first | (cases h; rfl) | cases h
theorem span_Spans_k0 (n : Nat) : LoopOK pg (loopsTold (span_Spans_told n)) (lp 0 (codeOf f_span_Spans) 0) :=
  loop_lift pg_mixed (T := (span_Spans_T n)) (span_Spans_T_ok n) (b := 0) (len := 31) (body := (lp 0 (codeOf f_span_Spans) 0).2) (ch := span_Spans_h0) (cx := span_Spans_x0) (cr := span_Spans_y0) span_Spans_mk0 span_Spans_ev0 span_Spans_an0 (fun i x => span_Spans_b0 n i.1 i.2 x.1 x.2.1 x.2.2) n span_Spans_pt0 span_Spans_pm0 (fun i r K h => by cases r with | ex z => exact h.2 rfl | rt z => exact h.1 rfl)
    regs_told (loops_told0 (by kernel_rfl)) (fun _ => by kernel_rfl) (fun i x => span_Spans_r0 n i.1 i.2 x.1 x.2.1 x.2.2)
theorem span_Spans_e (n : Nat) (a0 : (List Int)) : (evFn pg (span_Spans_T n) (loopsTold (span_Spans_told n)) f_span_Spans (codeOf f_span_Spans) [.lf (.dat (Ty.int IntKind.u64) a0)] []).pt (outEv pg f_span_Spans 0 [.nilRow 2 800002 137 (Ty.pair (Ty.int IntKind.u64) (Ty.int IntKind.u64)), .ren 2 700002, .ren 2 900002] false) =
    (span_Spans n a0).pt (fun _ => .norm [] []) (fun y => .out (span_Spans_res y)) := by kernel_rfl
theorem span_Spans_call (n : Nat) (a0 : (List Int)) (y : (Bool × (List (Int × Int)))) (hy : F_span_Spans n a0 = some y) : Enters pg n_span_Spans ∧ CallOK pg n_span_Spans [.lf (.dat (Ty.int IntKind.u64) a0)] [] (span_Spans_res y) := fn_lift (fn := f_span_Spans) pg_mixed (T := span_Spans_T n) (span_Spans_T_ok n) (L := loopsTold (span_Spans_told n)) (by kernel_rfl) (by kernel_rfl) (by kernel_rfl) regs_told (loops_told1 (by kernel_rfl) (span_Spans_k0 n)) (args := [.lf (.dat (Ty.int IntKind.u64) a0)]) (es := []) span_Spans_res [.nilRow 2 800002 137 (Ty.pair (Ty.int IntKind.u64) (Ty.int IntKind.u64)), .ren 2 700002, .ren 2 900002] false (fun _ => rfl) (span_Spans n a0) (span_Spans_e n a0) hy
theorem en_span_Spans_ok (n : Nat) : (en_span_Spans (F_span_Spans n)).ok pg := Entry.data_ok <| by
  intro args es r h hv
  unfold span_Spans_ans at h
  simp only at h
  split at h
  · rename_i a0
    cases h
    exact callAns_ok (fun y hy => span_Spans_call n a0 y hy) hv
  · cases h
/-- The function, by what it is known to tell. -/
def sp_span_Spans (C : (List Int) → Bool) (V : (List Int) → (Bool × (List (Int × Int)))) : Entry := .data n_span_Spans [[Ty.sl (Ty.int IntKind.u64)]] fun args es => match args, es with
  | [.lf (.dat (Ty.int IntKind.u64) a0)], [] => some { span_Spans_res (V a0) with vc := C a0 }
  | _, _ => none
theorem sp_span_Spans_ok {C : (List Int) → Bool} {V : (List Int) → (Bool × (List (Int × Int)))} (H : ∀ x, C x = true → ∃ n, F_span_Spans n x = some (V x)) : (sp_span_Spans C V).ok pg := Entry.data_ok <| by
  intro args es r h hv
  simp only at h
  split at h
  · rename_i a0
    cases h
    obtain ⟨n, hn⟩ := H a0 hv
    exact ⟨(span_Spans_call n a0 _ hn).1, (span_Spans_call n a0 _ hn).2.vc⟩
  · cases h
theorem e_span_Spans_ok (n : Nat) : (e_span_Spans n).ok pg := en_span_Spans_ok n


abbrev span_Total_T (n : Nat) : CallT := tab [e_span_Spans n]
def span_Total_told (n : Nat) : Nat → St → Option Tree := fun _ _ => none
def span_Total_res (y : (Int × Bool)) : CallRes := ⟨true, .tup [(false, [.int IntKind.u64 y.1]), (false, [.bool y.2])], [], [], false⟩
def span_Total (n : Nat) (a0 : (List Int)) : RT Unit (Int × Bool) :=
  (.rq 3 (.call (F_span_Spans n a0) default fun v0 =>
  (.rq 8 (.ite (!v0.fst)
  (.rq 1 (.ite (true)
  (.rq 3 (.done (((0 : Int), v0.fst))))
  (.rq 4 (.req (decide ((0 : Int) ≤ IntKind.i64.wrap ((↑v0.snd.length : Int) - (1 : Int))) && decide (IntKind.i64.wrap ((↑v0.snd.length : Int) - (1 : Int)) < (↑v0.snd.length : Int)))
  (.rq 10 (.done ((IntKind.u64.wrap
  ((v0.snd.getD (IntKind.i64.wrap ((↑v0.snd.length : Int) - (1 : Int))).toNat ((Ty.int IntKind.u64).pair (Ty.int IntKind.u64)).dflt).fst +
    (v0.snd.getD (IntKind.i64.wrap ((↑v0.snd.length : Int) - (1 : Int))).toNat ((Ty.int IntKind.u64).pair (Ty.int IntKind.u64)).dflt).snd), true))))))))
  (.rq 4 (.ite ((↑v0.snd.length : Int) == (0 : Int))
  (.rq 3 (.done (((0 : Int), v0.fst))))
  (.rq 4 (.req (decide ((0 : Int) ≤ IntKind.i64.wrap ((↑v0.snd.length : Int) - (1 : Int))) && decide (IntKind.i64.wrap ((↑v0.snd.length : Int) - (1 : Int)) < (↑v0.snd.length : Int)))
  (.rq 10 (.done ((IntKind.u64.wrap
  ((v0.snd.getD (IntKind.i64.wrap ((↑v0.snd.length : Int) - (1 : Int))).toNat ((Ty.int IntKind.u64).pair (Ty.int IntKind.u64)).dflt).fst +
    (v0.snd.getD (IntKind.i64.wrap ((↑v0.snd.length : Int) - (1 : Int))).toNat ((Ty.int IntKind.u64).pair (Ty.int IntKind.u64)).dflt).snd), true))))))))))))
def F_span_Total (n : Nat) (x : (List Int)) : Option (Int × Bool) := (span_Total n x).run fun _ => none
def span_Total_ans (F : (List Int) → Option (Int × Bool)) : List TV → List Ent → Option CallRes
  | [.lf (.dat (Ty.int IntKind.u64) a0)], [] => some (callAns (F a0) span_Total_res)
  | _, _ => none
def en_span_Total (F : (List Int) → Option (Int × Bool)) : Entry := .data n_span_Total [[Ty.sl (Ty.int IntKind.u64)]] (span_Total_ans F)
abbrev e_span_Total (n : Nat) : Entry := en_span_Total (F_span_Total n)
theorem span_Total_T_ok (n : Nat) : SoundT pg (span_Total_T n) := tab_sound ⟨e_span_Spans_ok n, trivial⟩
theorem span_Total_e (n : Nat) (a0 : (List Int)) : (evFn pg (span_Total_T n) (loopsTold (span_Total_told n)) f_span_Total (codeOf f_span_Total) [.lf (.dat (Ty.int IntKind.u64) a0)] []).pt (outEv pg f_span_Total 0 [] false) =
    (span_Total n a0).pt (fun _ => .norm [] []) (fun y => .out (span_Total_res y)) := by kernel_rfl
theorem span_Total_call (n : Nat) (a0 : (List Int)) (y : (Int × Bool)) (hy : F_span_Total n a0 = some y) : Enters pg n_span_Total ∧ CallOK pg n_span_Total [.lf (.dat (Ty.int IntKind.u64) a0)] [] (span_Total_res y) := fn_lift (fn := f_span_Total) pg_mixed (T := span_Total_T n) (span_Total_T_ok n) (L := loopsTold (span_Total_told n)) (by kernel_rfl) (by kernel_rfl) (by kernel_rfl) regs_told (loops_told0 (by kernel_rfl)) (args := [.lf (.dat (Ty.int IntKind.u64) a0)]) (es := []) span_Total_res [] false (fun _ => rfl) (span_Total n a0) (span_Total_e n a0) hy
theorem en_span_Total_ok (n : Nat) : (en_span_Total (F_span_Total n)).ok pg := Entry.data_ok <| by
  intro args es r h hv
  unfold span_Total_ans at h
  simp only at h
  split at h
  · rename_i a0
    cases h
    exact callAns_ok (fun y hy => span_Total_call n a0 y hy) hv
  · cases h
/-- The function, by what it is known to tell. -/
def sp_span_Total (C : (List Int) → Bool) (V : (List Int) → (Int × Bool)) : Entry := .data n_span_Total [[Ty.sl (Ty.int IntKind.u64)]] fun args es => match args, es with
  | [.lf (.dat (Ty.int IntKind.u64) a0)], [] => some { span_Total_res (V a0) with vc := C a0 }
  | _, _ => none
theorem sp_span_Total_ok {C : (List Int) → Bool} {V : (List Int) → (Int × Bool)} (H : ∀ x, C x = true → ∃ n, F_span_Total n x = some (V x)) : (sp_span_Total C V).ok pg := Entry.data_ok <| by
  intro args es r h hv
  simp only at h
  split at h
  · rename_i a0
    cases h
    obtain ⟨n, hn⟩ := H a0 hv
    exact ⟨(span_Total_call n a0 _ hn).1, (span_Total_call n a0 _ hn).2.vc⟩
  · cases h
theorem e_span_Total_ok (n : Nat) : (e_span_Total n).ok pg := en_span_Total_ok n


abbrev scale_Bring_T (n : Nat) : CallT := tab [e_ratio_Common n, e_nat_Word n, e_span_Total n]
abbrev scale_Bring_h0 : Cut := ⟨[.keep [2, 8, 28, 29, 30], .gc, .nilRow 28 800028 41 (Ty.sl (Ty.int IntKind.u32)), .ren 28 700028, .ren 28 900028, .cellRow 128 2 600130 25 (Ty.int IntKind.u64), .cellRen 128 2 600130, .gc], [2, 8, 28, 29, 30]⟩
abbrev scale_Bring_x0 : Cut := ⟨[.keep [2, 8], .gc, .cellRow 128 2 600130 25 (Ty.int IntKind.u64), .cellRen 128 2 600130, .gc], [2, 8]⟩
abbrev scale_Bring_y0 : Cut := ⟨[.keep [2, 3], .gc, .cellRow 128 2 600130 25 (Ty.int IntKind.u64), .cellRen 128 2 600130, .gc], [2, 3]⟩
def scale_Bring_mk0 (i : (Int × (Int × (Int × (Int × (Int × (List (List Int)))))))) (x : (Int × (List Int))) : List TV × List (Nat × Ent) := ([.lf (.ptr 32 0), .lf (.ptr 128 0), .lf (.ref 900028), .lf (.int IntKind.i64 i.1), .lf (.int IntKind.i64 x.1)], [(32, ⟨true, .cells [.int IntKind.u64 i.2.1, .int IntKind.u64 i.2.2.1, .nil]⟩), (128, ⟨true, .cells [.int IntKind.u64 i.2.2.2.1, .int IntKind.u64 i.2.2.2.2.1, .ref 600130]⟩), (900028, ⟨true, .arr 41 (Ty.sl (Ty.int IntKind.u32)) i.2.2.2.2.2⟩), (600130, ⟨true, .arr 25 (Ty.int IntKind.u64) x.2⟩)])
def scale_Bring_pt0 : List TV → List (Nat × Ent) → Option ((Int × (Int × (Int × (Int × (Int × (List (List Int))))))) × (Int × (List Int)))
  | [.lf (.ptr 32 0), .lf (.ptr 128 0), .lf (.ref 900028), .lf (.int IntKind.i64 x29), .lf (.int IntKind.i64 x30)], [(32, ⟨true, .cells [.int IntKind.u64 h0_0, .int IntKind.u64 h0_1, .nil]⟩), (128, ⟨true, .cells [.int IntKind.u64 h1_0, .int IntKind.u64 h1_1, .ref 600130]⟩), (900028, ⟨true, .arr 41 (Ty.sl (Ty.int IntKind.u32)) h2⟩), (600130, ⟨true, .arr 25 (Ty.int IntKind.u64) h3⟩)] => some ((x29, h0_0, h0_1, h1_0, h1_1, h2), (x30, h3))
  | _, _ => none
def scale_Bring_ev0 (i : (Int × (Int × (Int × (Int × (Int × (List (List Int)))))))) : (LR (List Int) (Int × (Int × Int))) → PE
  | .ex z => .exit 0 [.lf (.ptr 32 0), .lf (.ptr 128 0)] [(32, ⟨true, .cells [.int IntKind.u64 i.2.1, .int IntKind.u64 i.2.2.1, .nil]⟩), (128, ⟨true, .cells [.int IntKind.u64 i.2.2.2.1, .int IntKind.u64 i.2.2.2.2.1, .ref 600130]⟩), (600130, ⟨true, .arr 25 (Ty.int IntKind.u64) z⟩)]
  | .rt z => .ret [.lf (.ptr 32 0), .lf (.int IntKind.i64 z.1)] [(32, ⟨true, .cells [.int IntKind.u64 z.2.1, .int IntKind.u64 z.2.2, .nil]⟩)]
def scale_Bring_an0 (i : (Int × (Int × (Int × (Int × (Int × (List (List Int)))))))) (r : (LR (List Int) (Int × (Int × Int)))) : Tree := .ite r.isRt (.leaf (.ret (spSt 60 [2, 3] [.lf (.ptr 32 0), .lf (.int IntKind.i64 r.getR.1)] [(32, ⟨true, .cells [.int IntKind.u64 r.getR.2.1, .int IntKind.u64 r.getR.2.2, .nil]⟩)]))) (.leaf (.exit 0 (spSt 60 [2, 8] [.lf (.ptr 32 0), .lf (.ptr 128 0)] [(32, ⟨true, .cells [.int IntKind.u64 i.2.1, .int IntKind.u64 i.2.2.1, .nil]⟩), (128, ⟨true, .cells [.int IntKind.u64 i.2.2.2.1, .int IntKind.u64 i.2.2.2.2.1, .ref 600130]⟩), (600130, ⟨true, .arr 25 (Ty.int IntKind.u64) r.getX⟩)])))
def scale_Bring_b0 (n : Nat) (x29 : Int) (h0_0 : Int) (h0_1 : Int) (h1_0 : Int) (h1_1 : Int) (h2 : (List (List Int))) (x30 : Int) (h3 : (List Int)) : RT (Int × (List Int)) (LR (List Int) (Int × (Int × Int))) :=
  (.rq 1 (.ite (decide (x30 < x29))
  (.req (decide ((0 : Int) ≤ x30) && decide (x30 < (↑h2.length : Int)))
  (.rq 3 (.req (decide (List.length (h2.getD x30.toNat (nilD (Ty.int IntKind.u32).den)) ≤ (1099511627776 : Nat)) && wfd B32 (h2.getD x30.toNat (nilD (Ty.int IntKind.u32).den)))
  (.rq 7 (.ite (!decide (val B32 (h2.getD x30.toNat (nilD (Ty.int IntKind.u32).den)) < (18446744073709551616 : Nat)))
  (.rq 3 (.done (.rt (((10 : Int), (0 : Int), (0 : Int))))))
  (.rq 4 (.req (decide
    ((h3.length +
          ((List.replicate (1 : Nat) (0 : Int)).set (0 : Nat)
              (if val B32 (h2.getD x30.toNat (nilD (Ty.int IntKind.u32).den)) < (18446744073709551616 : Nat) then (↑(val B32 (h2.getD x30.toNat (nilD (Ty.int IntKind.u32).den))) : Int) else (0 : Int))).length) *
        (8 : Nat) ≤
      (140737488355328 : Nat)) &&
  decide
    (h3.length +
        ((List.replicate (1 : Nat) (0 : Int)).set (0 : Nat)
            (if val B32 (h2.getD x30.toNat (nilD (Ty.int IntKind.u32).den)) < (18446744073709551616 : Nat) then (↑(val B32 (h2.getD x30.toNat (nilD (Ty.int IntKind.u32).den))) : Int) else (0 : Int))).length ≤
      (9223372036854775807 : Nat)))
  (.rq 4 (.again ((IntKind.i64.wrap (x30 + (1 : Int)), h3 ++
  (List.replicate (1 : Nat) (0 : Int)).set (0 : Nat) (if val B32 (h2.getD x30.toNat (nilD (Ty.int IntKind.u32).den)) < (18446744073709551616 : Nat) then (↑(val B32 (h2.getD x30.toNat (nilD (Ty.int IntKind.u32).den))) : Int) else (0 : Int)))))))))))))
  (.done (.ex h3))))
def scale_Bring_l0 (n : Nat) (i : (Int × (Int × (Int × (Int × (Int × (List (List Int)))))))) : Nat → (Int × (List Int)) → Option (LR (List Int) (Int × (Int × Int))) := loopN (fun rec x => (scale_Bring_b0 n i.1 i.2.1 i.2.2.1 i.2.2.2.1 i.2.2.2.2.1 i.2.2.2.2.2 x.1 x.2).run rec)
theorem scale_Bring_l0_s (n : Nat) (i : (Int × (Int × (Int × (Int × (Int × (List (List Int)))))))) (k : Nat) (x : (Int × (List Int))) : scale_Bring_l0 n i (k + 1) x = (scale_Bring_b0 n i.1 i.2.1 i.2.2.1 i.2.2.2.1 i.2.2.2.2.1 i.2.2.2.2.2 x.1 x.2).run (scale_Bring_l0 n i k) := rfl
def scale_Bring_t0 (n : Nat) (σ : St) : Option Tree := match seeSt scale_Bring_h0.plan scale_Bring_h0.ts 60 σ with
  | some y => (match scale_Bring_pt0 y.1 y.2 with
    | some x => some (loopAns (scale_Bring_l0 n x.1 n x.2) (scale_Bring_an0 x.1))
    | none => none)
  | none => none
def scale_Bring_told (n : Nat) : Nat → St → Option Tree
  | 0, σ => scale_Bring_t0 n σ
  | _, _ => none
def scale_Bring_res (y : (Int × (Int × (Int × (List Int))))) : CallRes := ⟨true, .tup [(true, [.int IntKind.u64 y.1, .int IntKind.u64 y.2.1, .ref 0]), (false, [.int IntKind.i64 y.2.2.1])], [], [⟨true, .arr 25 (Ty.int IntKind.u64) y.2.2.2⟩], false⟩
def scale_Bring (n : Nat) (a0 : (List ((List Int) × (List Int)))) : RT Unit (Int × (Int × (Int × (List Int)))) :=
  (.rq 3 (.call (F_ratio_Common n a0) default fun v0 =>
  (.rq 6 (.req (decide (v0.fst.length ≤ (1099511627776 : Nat)) && wfd B32 v0.fst)
  (.rq 7 (.ite (!decide (val B32 v0.fst < (18446744073709551616 : Nat)))
  (.rq 3 (.done (((0 : Int), (0 : Int), (10 : Int), nilD (Ty.int IntKind.u64).den))))
  (.rq 7 (.call (scale_Bring_l0 n ((↑v0.snd.length : Int), (0 : Int), (0 : Int), if val B32 v0.fst < (18446744073709551616 : Nat) then (↑(val B32 v0.fst) : Int) else (0 : Int), (0 : Int), v0.snd) n ((0 : Int), nilD (Ty.int IntKind.u64).den)) default fun v1 =>
  (.ite (v1.isRt)
  (.done ((v1.getR.snd.fst, v1.getR.snd.snd, v1.getR.fst, nilD (Ty.int IntKind.u64).den)))
  (.rq 2 (.call (F_span_Total n v1.getX) default fun v2 =>
  (.rq 8 (.ite (!v2.snd)
  (.rq 3 (.done (((0 : Int), (0 : Int), (10 : Int), nilD (Ty.int IntKind.u64).den))))
  (.rq 3 (.done ((if val B32 v0.fst < (18446744073709551616 : Nat) then (↑(val B32 v0.fst) : Int) else (0 : Int), v2.fst, (0 : Int), v1.getX)))))))))))))))))
def F_scale_Bring (n : Nat) (x : (List ((List Int) × (List Int)))) : Option (Int × (Int × (Int × (List Int)))) := (scale_Bring n x).run fun _ => none
def scale_Bring_ans (F : (List ((List Int) × (List Int))) → Option (Int × (Int × (Int × (List Int))))) : List TV → List Ent → Option CallRes
  | [.lf (.dat (Ty.pair (Ty.sl (Ty.int IntKind.u32)) (Ty.sl (Ty.int IntKind.u32))) a0)], [] => some (callAns (F a0) scale_Bring_res)
  | _, _ => none
def en_scale_Bring (F : (List ((List Int) × (List Int))) → Option (Int × (Int × (Int × (List Int))))) : Entry := .data n_scale_Bring [[Ty.sl (Ty.pair (Ty.sl (Ty.int IntKind.u32)) (Ty.sl (Ty.int IntKind.u32)))]] (scale_Bring_ans F)
abbrev e_scale_Bring (n : Nat) : Entry := en_scale_Bring (F_scale_Bring n)
theorem scale_Bring_T_ok (n : Nat) : SoundT pg (scale_Bring_T n) := tab_sound ⟨e_ratio_Common_ok n, e_nat_Word_ok n, e_span_Total_ok n, trivial⟩
theorem scale_Bring_r0 (n : Nat) (x29 : Int) (h0_0 : Int) (h0_1 : Int) (h1_0 : Int) (h1_1 : Int) (h2 : (List (List Int))) (x30 : Int) (h3 : (List Int)) : (evCode pg (scale_Bring_T n) (loopsTold (scale_Bring_told n)) 0 (lp 0 (codeOf f_scale_Bring) 0).2 (spSt 60 scale_Bring_h0.ts [.lf (.ptr 32 0), .lf (.ptr 128 0), .lf (.ref 900028), .lf (.int IntKind.i64 x29), .lf (.int IntKind.i64 x30)] [(32, ⟨true, .cells [.int IntKind.u64 h0_0, .int IntKind.u64 h0_1, .nil]⟩), (128, ⟨true, .cells [.int IntKind.u64 h1_0, .int IntKind.u64 h1_1, .ref 600130]⟩), (900028, ⟨true, .arr 41 (Ty.sl (Ty.int IntKind.u32)) h2⟩), (600130, ⟨true, .arr 25 (Ty.int IntKind.u64) h3⟩)])).pt (seeEv 60 scale_Bring_h0 scale_Bring_x0 scale_Bring_y0) =
    (scale_Bring_b0 n x29 h0_0 h0_1 h1_0 h1_1 h2 x30 h3).pt (fun x' => .norm (scale_Bring_mk0 (x29, h0_0, h0_1, h1_0, h1_1, h2) x').1 (scale_Bring_mk0 (x29, h0_0, h0_1, h1_0, h1_1, h2) x').2) (scale_Bring_ev0 (x29, h0_0, h0_1, h1_0, h1_1, h2)) := by kernel_rfl
theorem scale_Bring_pm0 : ∀ vs hp x, scale_Bring_pt0 vs hp = some x → scale_Bring_mk0 x.1 x.2 = (vs, hp) := by
  intro vs hp x h
  unfold scale_Bring_pt0 at h
  split at h <;> first | (cases h; rfl) | cases h
theorem scale_Bring_k0 (n : Nat) : LoopOK pg (loopsTold (scale_Bring_told n)) (lp 0 (codeOf f_scale_Bring) 0) :=
  loop_lift pg_mixed (T := (scale_Bring_T n)) (scale_Bring_T_ok n) (b := 0) (len := 60) (body := (lp 0 (codeOf f_scale_Bring) 0).2) (ch := scale_Bring_h0) (cx := scale_Bring_x0) (cr := scale_Bring_y0) scale_Bring_mk0 scale_Bring_ev0 scale_Bring_an0 (fun i x => scale_Bring_b0 n i.1 i.2.1 i.2.2.1 i.2.2.2.1 i.2.2.2.2.1 i.2.2.2.2.2 x.1 x.2) n scale_Bring_pt0 scale_Bring_pm0 (fun i r K h => by cases r with | ex z => exact h.2 rfl | rt z => exact h.1 rfl)
    regs_told (loops_told0 (by kernel_rfl)) (fun _ => by kernel_rfl) (fun i x => scale_Bring_r0 n i.1 i.2.1 i.2.2.1 i.2.2.2.1 i.2.2.2.2.1 i.2.2.2.2.2 x.1 x.2)
theorem scale_Bring_e (n : Nat) (a0 : (List ((List Int) × (List Int)))) : (evFn pg (scale_Bring_T n) (loopsTold (scale_Bring_told n)) f_scale_Bring (codeOf f_scale_Bring) [.lf (.dat (Ty.pair (Ty.sl (Ty.int IntKind.u32)) (Ty.sl (Ty.int IntKind.u32))) a0)] []).pt (outEv pg f_scale_Bring 0 [.cellRow 32 2 600034 25 (Ty.int IntKind.u64), .cellRen 32 2 600034] false) =
    (scale_Bring n a0).pt (fun _ => .norm [] []) (fun y => .out (scale_Bring_res y)) := by kernel_rfl
theorem scale_Bring_call (n : Nat) (a0 : (List ((List Int) × (List Int)))) (y : (Int × (Int × (Int × (List Int))))) (hy : F_scale_Bring n a0 = some y) : Enters pg n_scale_Bring ∧ CallOK pg n_scale_Bring [.lf (.dat (Ty.pair (Ty.sl (Ty.int IntKind.u32)) (Ty.sl (Ty.int IntKind.u32))) a0)] [] (scale_Bring_res y) := fn_lift (fn := f_scale_Bring) pg_mixed (T := scale_Bring_T n) (scale_Bring_T_ok n) (L := loopsTold (scale_Bring_told n)) (by kernel_rfl) (by kernel_rfl) (by kernel_rfl) regs_told (loops_told1 (by kernel_rfl) (scale_Bring_k0 n)) (args := [.lf (.dat (Ty.pair (Ty.sl (Ty.int IntKind.u32)) (Ty.sl (Ty.int IntKind.u32))) a0)]) (es := []) scale_Bring_res [.cellRow 32 2 600034 25 (Ty.int IntKind.u64), .cellRen 32 2 600034] false (fun _ => rfl) (scale_Bring n a0) (scale_Bring_e n a0) hy
theorem en_scale_Bring_ok (n : Nat) : (en_scale_Bring (F_scale_Bring n)).ok pg := Entry.data_ok <| by
  intro args es r h hv
  unfold scale_Bring_ans at h
  simp only at h
  split at h
  · rename_i a0
    cases h
    exact callAns_ok (fun y hy => scale_Bring_call n a0 y hy) hv
  · cases h
/-- The function, by what it is known to tell. -/
def sp_scale_Bring (C : (List ((List Int) × (List Int))) → Bool) (V : (List ((List Int) × (List Int))) → (Int × (Int × (Int × (List Int))))) : Entry := .data n_scale_Bring [[Ty.sl (Ty.pair (Ty.sl (Ty.int IntKind.u32)) (Ty.sl (Ty.int IntKind.u32)))]] fun args es => match args, es with
  | [.lf (.dat (Ty.pair (Ty.sl (Ty.int IntKind.u32)) (Ty.sl (Ty.int IntKind.u32))) a0)], [] => some { scale_Bring_res (V a0) with vc := C a0 }
  | _, _ => none
theorem sp_scale_Bring_ok {C : (List ((List Int) × (List Int))) → Bool} {V : (List ((List Int) × (List Int))) → (Int × (Int × (Int × (List Int))))} (H : ∀ x, C x = true → ∃ n, F_scale_Bring n x = some (V x)) : (sp_scale_Bring C V).ok pg := Entry.data_ok <| by
  intro args es r h hv
  simp only at h
  split at h
  · rename_i a0
    cases h
    obtain ⟨n, hn⟩ := H a0 hv
    exact ⟨(scale_Bring_call n a0 _ hn).1, (scale_Bring_call n a0 _ hn).2.vc⟩
  · cases h
theorem e_scale_Bring_ok (n : Nat) : (e_scale_Bring n).ok pg := en_scale_Bring_ok n


abbrev scale_Fits_T (n : Nat) : CallT := tab [e_scale_Bring n]
def scale_Fits_told (n : Nat) : Nat → St → Option Tree := fun _ _ => none
def scale_Fits_res (y : Bool) : CallRes := ⟨true, .lf (.bool y), [], [], false⟩
def scale_Fits (n : Nat) (a0 : (List ((List Int) × (List Int)))) : RT Unit Bool :=
  (.rq 2 (.call (F_scale_Bring n a0) default fun v0 =>
  (.rq 9 (.done (v0.snd.snd.fst == (0 : Int))))))
def F_scale_Fits (n : Nat) (x : (List ((List Int) × (List Int)))) : Option Bool := (scale_Fits n x).run fun _ => none
def scale_Fits_ans (F : (List ((List Int) × (List Int))) → Option Bool) : List TV → List Ent → Option CallRes
  | [.lf (.dat (Ty.pair (Ty.sl (Ty.int IntKind.u32)) (Ty.sl (Ty.int IntKind.u32))) a0)], [] => some (callAns (F a0) scale_Fits_res)
  | _, _ => none
def en_scale_Fits (F : (List ((List Int) × (List Int))) → Option Bool) : Entry := .data n_scale_Fits [[Ty.sl (Ty.pair (Ty.sl (Ty.int IntKind.u32)) (Ty.sl (Ty.int IntKind.u32)))]] (scale_Fits_ans F)
abbrev e_scale_Fits (n : Nat) : Entry := en_scale_Fits (F_scale_Fits n)
theorem scale_Fits_T_ok (n : Nat) : SoundT pg (scale_Fits_T n) := tab_sound ⟨e_scale_Bring_ok n, trivial⟩
theorem scale_Fits_e (n : Nat) (a0 : (List ((List Int) × (List Int)))) : (evFn pg (scale_Fits_T n) (loopsTold (scale_Fits_told n)) f_scale_Fits (codeOf f_scale_Fits) [.lf (.dat (Ty.pair (Ty.sl (Ty.int IntKind.u32)) (Ty.sl (Ty.int IntKind.u32))) a0)] []).pt (outEv pg f_scale_Fits 0 [.cellRow 48 2 600050 25 (Ty.int IntKind.u64), .cellRen 48 2 600050] false) =
    (scale_Fits n a0).pt (fun _ => .norm [] []) (fun y => .out (scale_Fits_res y)) := by kernel_rfl
theorem scale_Fits_call (n : Nat) (a0 : (List ((List Int) × (List Int)))) (y : Bool) (hy : F_scale_Fits n a0 = some y) : Enters pg n_scale_Fits ∧ CallOK pg n_scale_Fits [.lf (.dat (Ty.pair (Ty.sl (Ty.int IntKind.u32)) (Ty.sl (Ty.int IntKind.u32))) a0)] [] (scale_Fits_res y) := fn_lift (fn := f_scale_Fits) pg_mixed (T := scale_Fits_T n) (scale_Fits_T_ok n) (L := loopsTold (scale_Fits_told n)) (by kernel_rfl) (by kernel_rfl) (by kernel_rfl) regs_told (loops_told0 (by kernel_rfl)) (args := [.lf (.dat (Ty.pair (Ty.sl (Ty.int IntKind.u32)) (Ty.sl (Ty.int IntKind.u32))) a0)]) (es := []) scale_Fits_res [.cellRow 48 2 600050 25 (Ty.int IntKind.u64), .cellRen 48 2 600050] false (fun _ => rfl) (scale_Fits n a0) (scale_Fits_e n a0) hy
theorem en_scale_Fits_ok (n : Nat) : (en_scale_Fits (F_scale_Fits n)).ok pg := Entry.data_ok <| by
  intro args es r h hv
  unfold scale_Fits_ans at h
  simp only at h
  split at h
  · rename_i a0
    cases h
    exact callAns_ok (fun y hy => scale_Fits_call n a0 y hy) hv
  · cases h
/-- The function, by what it is known to tell. -/
def sp_scale_Fits (C : (List ((List Int) × (List Int))) → Bool) (V : (List ((List Int) × (List Int))) → Bool) : Entry := .data n_scale_Fits [[Ty.sl (Ty.pair (Ty.sl (Ty.int IntKind.u32)) (Ty.sl (Ty.int IntKind.u32)))]] fun args es => match args, es with
  | [.lf (.dat (Ty.pair (Ty.sl (Ty.int IntKind.u32)) (Ty.sl (Ty.int IntKind.u32))) a0)], [] => some { scale_Fits_res (V a0) with vc := C a0 }
  | _, _ => none
theorem sp_scale_Fits_ok {C : (List ((List Int) × (List Int))) → Bool} {V : (List ((List Int) × (List Int))) → Bool} (H : ∀ x, C x = true → ∃ n, F_scale_Fits n x = some (V x)) : (sp_scale_Fits C V).ok pg := Entry.data_ok <| by
  intro args es r h hv
  simp only at h
  split at h
  · rename_i a0
    cases h
    obtain ⟨n, hn⟩ := H a0 hv
    exact ⟨(scale_Fits_call n a0 _ hn).1, (scale_Fits_call n a0 _ hn).2.vc⟩
  · cases h
theorem e_scale_Fits_ok (n : Nat) : (e_scale_Fits n).ok pg := en_scale_Fits_ok n



end
end Go.Proofs.Ytlfdidaeachpoaa
