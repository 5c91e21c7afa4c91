/- Long numbers: products, Long numbers: products of many, Dividing by one digit, with no program in sight, Long numbers: dividing by one digit, Rows of so many digits; shifting, with no program in sight, Long numbers: shifting up, Shifting down, with no program in sight, Long numbers: shifting down, Long numbers: leading zeros, The contracts so far, under the functions' names, Long division: its parts, by the tool, Taking a multiple away from a window of digits, with no program in sight, Guessing a digit of a quotient, with no program in sight, Long division, its parts: what the plain functions tell, Long division: the guess, Long division: the loop and the whole, Long division: the whole, Common divisors, Wide numbers, by the tool, The reference's long numbers: what they tell. -/
import Derived.Test.YtlfdidaeachpoaaCSB2
/- Long numbers: products. -/
namespace Go.Proofs.Ytlfdidaeachpoaa
open Go Go.RowKit
set_option maxRecDepth 100000

abbrev tiH : Cut := ⟨[.keep [0, 1, 5, 6, 7, 8, 17, 18, 19, 24, 25, 26], .heap [256]], [0, 1, 5, 6, 7, 8, 17, 18, 19, 24, 25, 26]⟩
abbrev tiX : Cut := ⟨[.keep [0, 1, 5, 6, 8, 17, 18, 19], .heap [256]], [0, 1, 5, 6, 8, 17, 18, 19]⟩
abbrev toH : Cut := ⟨[.keep [0, 1, 5, 17, 18, 19], .heap [256]], [0, 1, 5, 17, 18, 19]⟩
abbrev toX : Cut := ⟨[.keep [5], .heap [256]], [5]⟩

def tiDec : List TV → List (Nat × Ent) → Option Tree
  | [.lf (.dat (.int .u32) xs), .lf (.dat (.int .u32) ys), .lf (.ref 256), .lf (.int .i64 i), .lf (.int .u32 x), .lf (.int .u64 o), .lf (.dat (.int .u32) us), .lf (.int .i64 n), .lf (.int .i64 q), .lf (.dat (.int .u32) zs), .lf (.int .i64 m), .lf (.int .i64 k)], [(256, ⟨true, .arr tU32 (.int .u32) out⟩)] =>
    some (.req (decide (0 ≤ i) && decide (0 ≤ k) && decide (k ≤ m) && decide (m = zs.length) && decide (i + m ≤ out.length) && decide (out.length ≤ 2 ^ 41) && decide (0 ≤ x) && decide (x < B32) && decide (0 ≤ o) && decide (o < B32) && wfd B32 zs && wfd B32 out)
      (.leaf (.exit 2 (spSt 67 [0, 1, 5, 6, 8, 17, 18, 19] [D32 xs, D32 ys, .lf (.ref 256), I64 i, U64 (rowN B32 x zs i.toNat (m - k).toNat k.toNat out o).2, D32 us, I64 n, I64 q] [(256, Row32 (rowN B32 x zs i.toNat (m - k).toNat k.toNat out o).1)]))))
  | _, _ => none

def toDec : List TV → List (Nat × Ent) → Option Tree
  | [.lf (.dat (.int .u32) xs), .lf (.dat (.int .u32) ys), .lf (.ref 256), .lf (.dat (.int .u32) us), .lf (.int .i64 n), .lf (.int .i64 i)], [(256, ⟨true, .arr tU32 (.int .u32) out⟩)] =>
    some (.req (decide (0 ≤ i) && decide (i ≤ n) && decide (n = us.length) && decide (out.length = us.length + ys.length) && decide (out.length ≤ 2 ^ 41) && wfd B32 us && wfd B32 ys && wfd B32 out)
      (.leaf (.exit 0 (spSt 67 [5] [.lf (.ref 256)] [(256, Row32 (mulN B32 us ys (n - i).toNat i.toNat out))]))))
  | _, _ => none

def tiLoop : Nat → St → Option Tree
  | 0, σ => match seeSt toH.plan toH.ts 67 σ with
    | some x => toDec x.1 x.2
    | none => none
  | 2, σ => match seeSt tiH.plan tiH.ts 67 σ with
    | some x => tiDec x.1 x.2
    | none => none
  | _, _ => none

theorem ti_round (xs ys us zs out : List Int) (x o n q : Int) (i m k : Nat) : ((evCode pg (tab [eCut]) (loopsTold tiLoop) 2 (lp 0 (lp 0 (codeOf f_nat_times) 0).2 0).2 (spSt 67 [0, 1, 5, 6, 7, 8, 17, 18, 19, 24, 25, 26] [D32 xs, D32 ys, .lf (.ref 256), I64 i, U32 x, U64 o, D32 us, I64 n, I64 q, D32 zs, I64 m, I64 k] [(256, Row32 out)])).pt (seeEv 67 tiH tiX tiX)) =
    PT.rq (1 : Nat)
  (PT.ite (decide ((↑k : Int) < (↑m : Int)))
    (PT.rq (1 : Nat)
      (PT.req (decide ((0 : Int) ≤ (↑k : Int)) && decide ((↑k : Int) < (↑zs.length : Int)))
        (PT.rq (13 : Nat)
          (PT.req (decide ((0 : Int) ≤ IntKind.i64.wrap ((↑i : Int) + (↑k : Int))) && decide (IntKind.i64.wrap ((↑i : Int) + (↑k : Int)) < (↑out.length : Int)))
            (PT.rq (11 : Nat)
              (PT.req (decide ((0 : Int) ≤ IntKind.i64.wrap ((↑i : Int) + (↑k : Int))) && decide (IntKind.i64.wrap ((↑i : Int) + (↑k : Int)) < (↑out.length : Int)))
                (PT.rq (6 : Nat)
                  (PT.leaf
                    (PE.norm
                      [TV.lf (Leaf.dat (Ty.int IntKind.u32) xs), TV.lf (Leaf.dat (Ty.int IntKind.u32) ys), TV.lf (Leaf.ref (256 : Nat)), TV.lf (Leaf.int IntKind.i64 (↑i : Int)),
                        TV.lf (Leaf.int IntKind.u32 x),
                        TV.lf
                          (Leaf.int IntKind.u64
                            ((IntKind.u64.wrap
                                  (o +
                                    IntKind.u64.wrap
                                      (IntKind.u64.wrap (IntKind.u64.wrap x * IntKind.u64.wrap (zs.getD (↑k : Int).toNat (0 : Int))) +
                                        IntKind.u64.wrap (out.getD (IntKind.i64.wrap ((↑i : Int) + (↑k : Int))).toNat (0 : Int))))).fdiv
                              ((2 : Int) ^ min (Int.toNat (32 : Int)) IntKind.u64.bits))),
                        TV.lf (Leaf.dat (Ty.int IntKind.u32) us), TV.lf (Leaf.int IntKind.i64 n), TV.lf (Leaf.int IntKind.i64 q), TV.lf (Leaf.dat (Ty.int IntKind.u32) zs),
                        TV.lf (Leaf.int IntKind.i64 (↑m : Int)), TV.lf (Leaf.int IntKind.i64 (IntKind.i64.wrap ((↑k : Int) + (1 : Int))))]
                      [((256 : Nat),
                          { w := true,
                            b :=
                              EB.arr (90 : Nat) (Ty.int IntKind.u32)
                                (out.set (IntKind.i64.wrap ((↑i : Int) + (↑k : Int))).toNat
                                  (IntKind.u32.wrap
                                    (IntKind.u64.wrap
                                      (o +
                                        IntKind.u64.wrap
                                          (IntKind.u64.wrap (IntKind.u64.wrap x * IntKind.u64.wrap (zs.getD (↑k : Int).toNat (0 : Int))) +
                                            IntKind.u64.wrap (out.getD (IntKind.i64.wrap ((↑i : Int) + (↑k : Int))).toNat (0 : Int))))))) })])))))))))
    (PT.leaf
      (PE.exit (2 : Nat)
        [TV.lf (Leaf.dat (Ty.int IntKind.u32) xs), TV.lf (Leaf.dat (Ty.int IntKind.u32) ys), TV.lf (Leaf.ref (256 : Nat)), TV.lf (Leaf.int IntKind.i64 (↑i : Int)), TV.lf (Leaf.int IntKind.u64 o),
          TV.lf (Leaf.dat (Ty.int IntKind.u32) us), TV.lf (Leaf.int IntKind.i64 n), TV.lf (Leaf.int IntKind.i64 q)]
        [((256 : Nat), { w := true, b := EB.arr (90 : Nat) (Ty.int IntKind.u32) out })]))) := by kernel_rfl


theorem to_round (xs ys us out : List Int) (n i : Nat) : ((evCode pg (tab [eCut]) (loopsTold tiLoop) 0 (lp 0 (codeOf f_nat_times) 0).2 (spSt 67 [0, 1, 5, 17, 18, 19] [D32 xs, D32 ys, .lf (.ref 256), D32 us, I64 n, I64 i] [(256, Row32 out)])).pt (seeEv 67 toH toX toX)) =
    PT.rq (1 : Nat)
  (PT.ite (decide ((↑i : Int) < (↑n : Int)))
    (PT.rq (1 : Nat)
      (PT.req (decide ((0 : Int) ≤ (↑i : Int)) && decide ((↑i : Int) < (↑us.length : Int)))
        (PT.rq (7 : Nat)
          (PT.req
            (decide ((0 : Int) ≤ (↑i : Int)) && decide ((0 : Int) ≤ (0 : Int)) && decide ((0 : Int) ≤ (↑ys.length : Int)) && decide ((↑ys.length : Int) = (↑ys.length : Int)) &&
                            decide ((↑i : Int) + (↑ys.length : Int) ≤ (↑out.length : Int)) &&
                          decide (out.length ≤ (2 : Nat) ^ (41 : Nat)) &&
                        decide ((0 : Int) ≤ us.getD (↑i : Int).toNat (0 : Int)) &&
                      decide (us.getD (↑i : Int).toNat (0 : Int) < (↑B32 : Int)) &&
                    decide ((0 : Int) ≤ (0 : Int)) &&
                  decide ((0 : Int) < (↑B32 : Int)) &&
                wfd B32 ys &&
              wfd B32 out)
            (PT.rq (7 : Nat)
              (PT.req
                (decide ((0 : Int) ≤ IntKind.i64.wrap ((↑i : Int) + (↑ys.length : Int))) &&
                  decide
                    (IntKind.i64.wrap ((↑i : Int) + (↑ys.length : Int)) <
                      (↑(rowN B32 (us.getD (↑i : Int).toNat (0 : Int)) ys (↑i : Int).toNat ((↑ys.length : Int) - (0 : Int)).toNat (Int.toNat (0 : Int)) out (0 : Int)).fst.length : Int)))
                (PT.rq (3 : Nat)
                  (PT.leaf
                    (PE.norm
                      [TV.lf (Leaf.dat (Ty.int IntKind.u32) xs), TV.lf (Leaf.dat (Ty.int IntKind.u32) ys), TV.lf (Leaf.ref (256 : Nat)), TV.lf (Leaf.dat (Ty.int IntKind.u32) us),
                        TV.lf (Leaf.int IntKind.i64 (↑n : Int)), TV.lf (Leaf.int IntKind.i64 (IntKind.i64.wrap ((↑i : Int) + (1 : Int))))]
                      [((256 : Nat),
                          { w := true,
                            b :=
                              EB.arr (90 : Nat) (Ty.int IntKind.u32)
                                ((rowN B32 (us.getD (↑i : Int).toNat (0 : Int)) ys (↑i : Int).toNat ((↑ys.length : Int) - (0 : Int)).toNat (Int.toNat (0 : Int)) out (0 : Int)).fst.set
                                  (IntKind.i64.wrap ((↑i : Int) + (↑ys.length : Int))).toNat
                                  (IntKind.u32.wrap
                                    (rowN B32 (us.getD (↑i : Int).toNat (0 : Int)) ys (↑i : Int).toNat ((↑ys.length : Int) - (0 : Int)).toNat (Int.toNat (0 : Int)) out (0 : Int)).snd)) })])))))))))
    (PT.leaf (PE.exit (0 : Nat) [TV.lf (Leaf.ref (256 : Nat))] [((256 : Nat), { w := true, b := EB.arr (90 : Nat) (Ty.int IntKind.u32) out })]))) := by kernel_rfl


theorem times_nf (xs ys : List Int) : ((evFn pg (tab [eCut]) (loopsTold tiLoop) f_nat_times (codeOf f_nat_times) [D32 xs, D32 ys] []).pt (outEv pg f_nat_times 0 [.toDat 4] true)) =
    PT.rq (6 : Nat)
  (PT.req
    (decide ((0 : Int) ≤ IntKind.i64.wrap ((↑xs.length : Int) + (↑ys.length : Int))) &&
          decide (IntKind.i64.wrap ((↑xs.length : Int) + (↑ys.length : Int)) = IntKind.i64.wrap ((↑xs.length : Int) + (↑ys.length : Int))) &&
        decide ((↑(pg.bytesOf (90 : Nat)) : Int) * IntKind.i64.wrap ((↑xs.length : Int) + (↑ys.length : Int)) ≤ (281474976710656 : Int)) &&
      decide (IntKind.i64.wrap ((↑xs.length : Int) + (↑ys.length : Int)) ≤ (9223372036854775807 : Int)))
    (PT.rq (4 : Nat)
      (PT.req
        (decide ((0 : Int) ≤ (0 : Int)) && decide ((0 : Int) ≤ (↑xs.length : Int)) && decide ((↑xs.length : Int) = (↑xs.length : Int)) &&
                  decide ((List.replicate (IntKind.i64.wrap ((↑xs.length : Int) + (↑ys.length : Int))).toNat (0 : Int)).length = xs.length + ys.length) &&
                decide ((List.replicate (IntKind.i64.wrap ((↑xs.length : Int) + (↑ys.length : Int))).toNat (0 : Int)).length ≤ (2 : Nat) ^ (41 : Nat)) &&
              wfd B32 xs &&
            wfd B32 ys &&
          wfd B32 (List.replicate (IntKind.i64.wrap ((↑xs.length : Int) + (↑ys.length : Int))).toNat (0 : Int)))
        (PT.rq (1 : Nat)
          (PT.req
            (decide
                ((mulN B32 xs ys ((↑xs.length : Int) - (0 : Int)).toNat (Int.toNat (0 : Int)) (List.replicate (IntKind.i64.wrap ((↑xs.length : Int) + (↑ys.length : Int))).toNat (0 : Int))).length ≤
                  (2 : Nat) ^ (40 : Nat)) &&
              wfd B32 (mulN B32 xs ys ((↑xs.length : Int) - (0 : Int)).toNat (Int.toNat (0 : Int)) (List.replicate (IntKind.i64.wrap ((↑xs.length : Int) + (↑ys.length : Int))).toNat (0 : Int))))
            (PT.rq (1 : Nat)
              (PT.leaf
                (PE.out
                  { vc := true,
                    val :=
                      TV.lf
                        (Leaf.dat (Ty.int IntKind.u32)
                          (digs B32
                            (val B32
                              (mulN B32 xs ys ((↑xs.length : Int) - (0 : Int)).toNat (Int.toNat (0 : Int))
                                (List.replicate (IntKind.i64.wrap ((↑xs.length : Int) + (↑ys.length : Int))).toNat (0 : Int)))))),
                    shares := true })))))))) := by kernel_rfl


theorem ti_loop : LoopOK pg (loopsTold tiLoop) (lp 0 (lp 0 (codeOf f_nat_times) 0).2 0) := by
  refine loop_see pg_mixed (T := tab [eCut]) (tab_sound ⟨cut_ok, trivial⟩) (b := 2) (len := 67) (body := (lp 0 (lp 0 (codeOf f_nat_times) 0).2 0).2) (ch := tiH) (cx := tiX) (cr := tiX)
    (fun x : (List Int × List Int × List Int × List Int × List Int) × (Int × Int × Int × Int) × Nat × Nat × Nat =>
      ([D32 x.1.1, D32 x.1.2.1, .lf (.ref 256), I64 x.2.2.1, U32 x.2.1.1, U64 x.2.1.2.1, D32 x.1.2.2.1, I64 x.2.1.2.2.1, I64 x.2.1.2.2.2, D32 x.1.2.2.2.1, I64 x.2.2.2.1, I64 x.2.2.2.2], [(256, Row32 x.1.2.2.2.2)]))
    (fun x => (wfd B32 x.1.2.2.2.1 = true ∧ wfd B32 x.1.2.2.2.2 = true) ∧ (0 ≤ x.2.1.1 ∧ x.2.1.1 < 4294967296) ∧ (0 ≤ x.2.1.2.1 ∧ x.2.1.2.1 < 4294967296) ∧ x.2.2.2.2 ≤ x.2.2.2.1 ∧ x.2.2.2.1 = x.1.2.2.2.1.length ∧ x.2.2.1 + x.2.2.2.1 ≤ x.1.2.2.2.2.length ∧ x.1.2.2.2.2.length ≤ 2 ^ 41)
    (fun x => x.2.2.2.1 - x.2.2.2.2)
    (fun x => .leaf (.exit 2 (spSt 67 [0, 1, 5, 6, 8, 17, 18, 19] [D32 x.1.1, D32 x.1.2.1, .lf (.ref 256), I64 x.2.2.1, U64 (rowN B32 x.2.1.1 x.1.2.2.2.1 x.2.2.1 (x.2.2.2.1 - x.2.2.2.2) x.2.2.2.2 x.1.2.2.2.2 x.2.1.2.1).2, D32 x.1.2.2.1, I64 x.2.1.2.2.1, I64 x.2.1.2.2.2]
      [(256, Row32 (rowN B32 x.2.1.1 x.1.2.2.2.1 x.2.2.1 (x.2.2.2.1 - x.2.2.2.2) x.2.2.2.2 x.1.2.2.2.2 x.2.1.2.1).1)])))
    regs_told (loops_told0 (by kernel_rfl)) tiDec (fun _ => rfl) ?_ ?_
  · intro vs hp t h K hK
    unfold tiDec at h
    split at h
    · rename_i xs ys i x o us n q zs m k out
      cases h
      obtain ⟨hc, hK⟩ := hK
      simp only [Bool.and_eq_true, decide_eq_true_eq] at hc
      obtain ⟨⟨⟨⟨⟨⟨⟨⟨⟨⟨⟨h1, h2⟩, h3⟩, h4⟩, h5⟩, h6⟩, h7⟩, h8⟩, h9⟩, h10⟩, h11⟩, h12⟩ := hc
      obtain ⟨i, rfl⟩ := Int.eq_ofNat_of_zero_le h1
      obtain ⟨k, rfl⟩ := Int.eq_ofNat_of_zero_le h2
      subst h4
      have e : ((zs.length : Int) - (k : Int)).toNat = zs.length - k := by omega
      simp only [e, Int.toNat_natCast] at hK
      exact ⟨((xs, ys, us, zs, out), (x, o, n, q), i, zs.length, k), rfl, ⟨⟨h11, h12⟩, ⟨h7, h8⟩, ⟨h9, h10⟩, by simp only; omega, rfl, by simp only; omega, h6⟩, hK⟩
    · cases h
  · rintro ⟨⟨xs, ys, us, zs, out⟩, ⟨x, o, n, q⟩, i, m, k⟩ ⟨⟨h1, h2⟩, h3, h4, h5, h6, h7, h8⟩ K hK
    simp only at h1 h2 h3 h4 h5 h6 h7 h8 hK ⊢
    subst h6
    rw [ti_round]
    have y := wfd_get (by decide : 0 < B32) h1 k
    have z := wfd_get (by decide : 0 < B32) h2 (i + k)
    have s := step_bd (b := (B32 : Nat)) h3 y z h4
    have y' : 0 ≤ zs.getD k 0 ∧ zs.getD k 0 < 4294967296 := y
    have z' : 0 ≤ out.getD (i + k) 0 ∧ out.getD (i + k) 0 < 4294967296 := z
    have s' : 0 ≤ o + (x * zs.getD k 0 + out.getD (i + k) 0) ∧ o + (x * zs.getD k 0 + out.getD (i + k) 0) < 18446744073709551616 := s
    have p0 : 0 ≤ x * zs.getD k 0 := Int.mul_nonneg h3.1 y'.1
    have w0 : IntKind.i64.wrap ((i : Int) + (k : Int)) = ((i + k : Nat) : Int) := by
      by_cases h : k < zs.length
      · rw [i64_in] <;> omega
      · rw [i64_in] <;> omega
    have w1 : IntKind.u64.wrap x = x := u64_in (by omega)
    have w2 : IntKind.u64.wrap (zs.getD k 0) = zs.getD k 0 := u64_in (by omega)
    have w3 : IntKind.u64.wrap (x * zs.getD k 0) = x * zs.getD k 0 := u64_in (by omega)
    have w4 : IntKind.u64.wrap (out.getD (i + k) 0) = out.getD (i + k) 0 := u64_in (by omega)
    have w5 : IntKind.u64.wrap (x * zs.getD k 0 + out.getD (i + k) 0) = x * zs.getD k 0 + out.getD (i + k) 0 := u64_in (by omega)
    have w6 : IntKind.u64.wrap (o + (x * zs.getD k 0 + out.getD (i + k) 0)) = o + (x * zs.getD k 0 + out.getD (i + k) 0) := u64_in s'
    have w7 : IntKind.i64.wrap ((k : Int) + 1) = ((k + 1 : Nat) : Int) := by rw [i64_in] <;> omega
    simp only [w0, Int.toNat_natCast, w1, w2, w3, w4, w5, w6, w7, shr32, wrap_u32]
    simp only [PT.sat_rq, PT.sat_req, PT.sat_ite, PT.sat_leaf, decide_eq_true_eq, decide_eq_false_iff_not, Bool.and_eq_true]
    generalize hs : o + (x * zs.getD k 0 + out.getD (i + k) 0) = t at *
    refine ⟨fun h0 => ⟨⟨by omega, by omega⟩, ⟨by omega, by omega⟩, ⟨by omega, by omega⟩, ((xs, ys, us, zs, out.set (i + k) (t % 4294967296)), (x, t / 4294967296, n, q), i, zs.length, k + 1), rfl,
      ⟨⟨h1, wfd_set h2 ⟨by omega, by show _ < ((4294967296 : Nat) : Int); omega⟩⟩, h3, ⟨by simp only; omega, by simp only; omega⟩, by simp only; omega, rfl, by simp only [List.length_set]; omega, by simp only [List.length_set]; omega⟩, by simp only; omega, ?_⟩, fun h0 => ?_⟩
    · obtain ⟨r, hr⟩ : ∃ r, zs.length - k = r + 1 := ⟨zs.length - k - 1, by omega⟩
      have hr' : zs.length - (k + 1) = r := by omega
      simp only [hr']
      rw [hr] at hK
      simp only [rowN, hs] at hK
      exact hK
    · have hr : zs.length - k = 0 := by omega
      rw [hr] at hK
      exact hK

theorem to_loop : LoopOK pg (loopsTold tiLoop) (lp 0 (codeOf f_nat_times) 0) := by
  refine loop_see pg_mixed (T := tab [eCut]) (tab_sound ⟨cut_ok, trivial⟩) (b := 0) (len := 67) (body := (lp 0 (codeOf f_nat_times) 0).2) (ch := toH) (cx := toX) (cr := toX)
    (fun x : (List Int × List Int × List Int × List Int) × Nat => ([D32 x.1.1, D32 x.1.2.1, .lf (.ref 256), D32 x.1.2.2.1, I64 x.1.2.2.1.length, I64 x.2], [(256, Row32 x.1.2.2.2)]))
    (fun x => (wfd B32 x.1.2.2.1 = true ∧ wfd B32 x.1.2.1 = true ∧ wfd B32 x.1.2.2.2 = true) ∧ x.2 ≤ x.1.2.2.1.length ∧ x.1.2.2.2.length = x.1.2.2.1.length + x.1.2.1.length ∧ x.1.2.2.2.length ≤ 2 ^ 41)
    (fun x => x.1.2.2.1.length - x.2)
    (fun x => .leaf (.exit 0 (spSt 67 [5] [.lf (.ref 256)] [(256, Row32 (mulN B32 x.1.2.2.1 x.1.2.1 (x.1.2.2.1.length - x.2) x.2 x.1.2.2.2))])))
    regs_told (loops_told1 (by kernel_rfl) ti_loop) toDec (fun _ => rfl) ?_ ?_
  · intro vs hp t h K hK
    unfold toDec at h
    split at h
    · rename_i xs ys us n i out
      cases h
      obtain ⟨hc, hK⟩ := hK
      simp only [Bool.and_eq_true, decide_eq_true_eq] at hc
      obtain ⟨⟨⟨⟨⟨⟨⟨h1, h2⟩, h3⟩, h4⟩, h5⟩, h6⟩, h7⟩, h8⟩ := hc
      obtain ⟨i, rfl⟩ := Int.eq_ofNat_of_zero_le h1
      subst h3
      have e : ((us.length : Int) - (i : Int)).toNat = us.length - i := by omega
      simp only [e, Int.toNat_natCast] at hK
      exact ⟨((xs, ys, us, out), i), rfl, ⟨⟨h6, h7, h8⟩, by simp only; omega, h4, h5⟩, hK⟩
    · cases h
  · rintro ⟨⟨xs, ys, us, out⟩, i⟩ ⟨⟨h1, h2, h3⟩, h4, h5, h6⟩ K hK
    simp only at h1 h2 h3 h4 h5 h6 hK ⊢
    rw [to_round]
    have x := wfd_get (by decide : 0 < B32) h1 i
    have e1 : ((ys.length : Int) - 0).toNat = ys.length := by omega
    simp only [Int.toNat_natCast, e1, Int.toNat_zero]
    simp only [PT.sat_rq, PT.sat_req, PT.sat_ite, PT.sat_leaf, decide_eq_true_eq, decide_eq_false_iff_not, Bool.and_eq_true]
    refine ⟨fun h0 => ?_, fun h0 => ?_⟩
    · obtain ⟨a1, a2, a3, _⟩ := rowN_ok (b := B32) (by decide) x h2 (i := i) ys.length 0 out 0 (by omega) (by omega) h3 ⟨Int.le_refl _, by decide⟩
      have w0 : IntKind.i64.wrap ((i : Int) + (ys.length : Int)) = ((i + ys.length : Nat) : Int) := by rw [i64_in] <;> omega
      have w1 : IntKind.u32.wrap (rowN B32 (us.getD i 0) ys i ys.length 0 out 0).2 = (rowN B32 (us.getD i 0) ys i ys.length 0 out 0).2 := u32_in a3
      have w2 : IntKind.i64.wrap ((i : Int) + 1) = ((i + 1 : Nat) : Int) := by rw [i64_in] <;> omega
      rw [w0, w1, w2, Int.toNat_natCast]
      have hK' : K (.exit 0 (spSt 67 [5] [.lf (.ref 256)] [(256, Row32 (mulN B32 us ys (us.length - (i + 1)) (i + 1) ((rowN B32 (us.getD i 0) ys i ys.length 0 out 0).1.set (i + ys.length) (rowN B32 (us.getD i 0) ys i ys.length 0 out 0).2)))])) := by
        obtain ⟨r, hr⟩ : ∃ r, us.length - i = r + 1 := ⟨us.length - i - 1, by omega⟩
        have hr' : us.length - (i + 1) = r := by omega
        rw [hr'] 
        rw [hr] at hK
        exact hK
      generalize (rowN B32 (us.getD i 0) ys i ys.length 0 out 0).1 = o1 at *
      generalize (rowN B32 (us.getD i 0) ys i ys.length 0 out 0).2 = o2 at *
      have b1 : us.getD i 0 < ((B32 : Nat) : Int) := x.2
      refine ⟨⟨by omega, by omega⟩, ⟨⟨⟨⟨⟨⟨⟨⟨⟨⟨⟨by omega, by omega⟩, by omega⟩, trivial⟩, by omega⟩, h6⟩, x.1⟩, b1⟩, by omega⟩, by decide⟩, h2⟩, h3⟩, ⟨by omega, by omega⟩, ((xs, ys, us, o1.set (i + ys.length) o2), i + 1), rfl,
        ⟨⟨h1, h2, wfd_set a1 a3⟩, by simp only; omega, by simp only [List.length_set]; omega, by simp only [List.length_set]; omega⟩, by simp only; omega, hK'⟩
    · have hr : us.length - i = 0 := by omega
      rw [hr] at hK
      exact hK

def aTimes : List TV → List Ent → Option CallRes
  | [.lf (.dat (.int .u32) xs), .lf (.dat (.int .u32) ys)], [] => some ⟨decide (xs.length ≤ 2 ^ 38) && decide (ys.length ≤ 2 ^ 38) && wfd B32 xs && wfd B32 ys, D32 (digs B32 (val B32 xs * val B32 ys)), [], [], true⟩
  | _, _ => none
def eTimes : Entry := .data n_nat_times [L32, L32] aTimes

theorem times_ok : eTimes.ok pg := Entry.data_ok <| by
  intro args es r h hv
  unfold aTimes at h
  simp only at h
  split at h
  · rename_i xs ys
    cases h
    simp only [Bool.and_eq_true, decide_eq_true_eq] at hv
    obtain ⟨⟨⟨h1, h2⟩, h3⟩, h4⟩ := hv
    refine entry_ok (fn := f_nat_times) pg_mixed (T := tab [eCut]) (tab_sound ⟨cut_ok, trivial⟩) (L := loopsTold tiLoop) (by kernel_rfl) (by kernel_rfl) (by kernel_rfl) regs_told
      (loops_told1 (by kernel_rfl) to_loop) [.toDat 4] ?_
    simp only [List.length_nil]
    rw [times_nf]
    have w0 : IntKind.i64.wrap ((xs.length : Int) + (ys.length : Int)) = ((xs.length + ys.length : Nat) : Int) := by rw [i64_in] <;> omega
    have e1 : ((xs.length : Int) - 0).toNat = xs.length := by omega
    rw [w0, e1, bytesU32, Int.toNat_natCast, Int.toNat_zero]
    obtain ⟨m1, m2, m3⟩ := mulN_val (b := B32) (by decide) h3 h4
    have m4 := wfd_replicate (b := B32) (n := xs.length + ys.length) (by decide)
    simp only [PT.sat_rq, PT.sat_req, PT.sat_leaf, decide_eq_true_eq, Bool.and_eq_true, m1, m2, m3, m4, h3, h4, List.length_replicate]
    refine ⟨⟨⟨⟨by omega, trivial⟩, by omega⟩, by omega⟩, ⟨⟨⟨⟨⟨⟨⟨by omega, by omega⟩, trivial⟩, trivial⟩, by omega⟩, trivial⟩, trivial⟩, trivial⟩, ⟨by omega, trivial⟩, by first | rfl | trivial, by first | rfl | trivial, by first | rfl | trivial⟩
  · cases h

end Go.Proofs.Ytlfdidaeachpoaa

/- Long numbers: products of many. -/
namespace Go.Proofs.Ytlfdidaeachpoaa
open Go Go.RowKit
set_option maxRecDepth 100000

def prodv (xss : List (List Int)) : Nat := xss.foldl (fun p xs => p * val B32 xs) 1

/-- All rows, one behind the other, have so many digits. -/
def lens (xss : List (List Int)) : Nat := (xss.map List.length).sum

abbrev mulC : Cut := ⟨[.keep [3, 7, 8, 9], .heap []], [3, 7, 8, 9]⟩

def mulDec : List TV → List (Nat × Ent) → Option Tree
  | [.lf (.dat (.int .u32) out), .lf (.dat (.sl (.int .u32)) xss), .lf (.int .i64 n), .lf (.int .i64 i)], [] =>
    some (.req (decide (0 ≤ i) && decide (i ≤ n) && decide (n = (xss.length : Int)) && decide (xss.length ≤ 2 ^ 20) && decide (lens xss ≤ 2 ^ 30) && xss.all (wfd B32) && decide (out = digs B32 (prodv (xss.take i.toNat))))
      (.leaf (.exit 0 (spSt 18 [3, 7, 8, 9] [D32 (digs B32 (prodv xss)), DD32 xss, I64 n, I64 n] []))))
  | _, _ => none

def mulLoop : Nat → St → Option Tree
  | 0, σ => match seeSt mulC.plan mulC.ts 18 σ with
    | some x => mulDec x.1 x.2
    | none => none
  | _, _ => none

theorem mul_round (xss : List (List Int)) (out : List Int) (n i : Nat) : ((evCode pg (tab [eOf, eTimes]) (loopsTold mulLoop) 0 (lp 0 (codeOf f_nat_Mul) 0).2 (spSt 18 [3, 7, 8, 9] [D32 out, DD32 xss, I64 n, I64 i] [])).pt (seeEv 18 mulC mulC mulC)) =
    PT.rq (1 : Nat)
  (PT.ite (decide ((↑i : Int) < (↑n : Int)))
    (PT.req (decide ((0 : Int) ≤ (↑i : Int)) && decide ((↑i : Int) < (↑xss.length : Int)))
      (PT.rq (4 : Nat)
        (PT.req
          (decide (out.length ≤ (2 : Nat) ^ (38 : Nat)) && decide (List.length (xss.getD (↑i : Int).toNat (nilD (Ty.int IntKind.u32).den)) ≤ (2 : Nat) ^ (38 : Nat)) && wfd B32 out &&
            wfd B32 (xss.getD (↑i : Int).toNat (nilD (Ty.int IntKind.u32).den)))
          (PT.rq (3 : Nat)
            (PT.leaf
              (PE.norm
                [TV.lf (Leaf.dat (Ty.int IntKind.u32) (digs B32 (val B32 out * val B32 (xss.getD (↑i : Int).toNat (nilD (Ty.int IntKind.u32).den))))), TV.lf (Leaf.dat (Ty.int IntKind.u32).sl xss),
                  TV.lf (Leaf.int IntKind.i64 (↑n : Int)), TV.lf (Leaf.int IntKind.i64 (IntKind.i64.wrap ((↑i : Int) + (1 : Int))))]
                []))))))
    (PT.leaf
      (PE.exit (0 : Nat) [TV.lf (Leaf.dat (Ty.int IntKind.u32) out), TV.lf (Leaf.dat (Ty.int IntKind.u32).sl xss), TV.lf (Leaf.int IntKind.i64 (↑n : Int)), TV.lf (Leaf.int IntKind.i64 (↑i : Int))]
        []))) := by kernel_rfl


theorem mul_nf (xss : List (List Int)) : ((evFn pg (tab [eOf, eTimes]) (loopsTold mulLoop) f_nat_Mul (codeOf f_nat_Mul) [DD32 xss] []).pt (outEv pg f_nat_Mul 0 [.toDat 2] true)) =
    PT.rq (6 : Nat)
  (PT.req
    (decide ((0 : Int) ≤ (0 : Int)) && decide ((0 : Int) ≤ (↑xss.length : Int)) && decide ((↑xss.length : Int) = (↑xss.length : Int)) && decide (xss.length ≤ (2 : Nat) ^ (20 : Nat)) &&
          decide (lens xss ≤ (2 : Nat) ^ (30 : Nat)) &&
        xss.all (wfd B32) &&
      decide (digs B32 (Int.toNat (1 : Int)) = digs B32 (prodv (List.take (Int.toNat (0 : Int)) xss))))
    (PT.rq (2 : Nat) (PT.leaf (PE.out { vc := true, val := TV.lf (Leaf.dat (Ty.int IntKind.u32) (digs B32 (prodv xss))), shares := true })))) := by kernel_rfl


theorem prodv_take_succ (xss : List (List Int)) (i : Nat) (h : i < xss.length) : prodv (xss.take (i + 1)) = prodv (xss.take i) * val B32 (xss.getD i []) := by
  unfold prodv
  rw [List.take_succ_eq_append_getElem h, List.foldl_append, List.getD, List.getElem?_eq_getElem h]
  rfl

theorem foldl_mul (xss : List (List Int)) : ∀ p, xss.foldl (fun p xs => p * val B32 xs) p = p * prodv xss := by
  unfold prodv
  induction xss with
  | nil => intro p; simp
  | cons x xss ih =>
    intro p
    rw [List.foldl_cons, List.foldl_cons, ih, ih (1 * _), Nat.one_mul, Nat.mul_assoc]

theorem prodv_cons (x : List Int) (xss : List (List Int)) : prodv (x :: xss) = val B32 x * prodv xss := by
  show List.foldl _ (1 * val B32 x) xss = _
  rw [foldl_mul, Nat.one_mul]

theorem prodv_lt : ∀ {xss : List (List Int)}, xss.all (wfd B32) = true → prodv xss ≤ B32 ^ lens xss
  | [], _ => Nat.le_refl _
  | x :: xss, h => by
    simp only [List.all_cons, Bool.and_eq_true] at h
    have := prodv_lt (xss := xss) h.2
    have h2 := val_lt (b := B32) (by decide) h.1
    rw [prodv_cons, show lens (x :: xss) = x.length + lens xss by simp [lens], Nat.pow_add]
    exact Nat.mul_le_mul (Nat.le_of_lt h2) this

theorem lens_take (xss : List (List Int)) : ∀ n, lens (xss.take n) ≤ lens xss := by
  induction xss with
  | nil => intro n; simp
  | cons x xss ih =>
    intro n
    cases n with
    | zero => simp [lens]
    | succ n =>
      have := ih n
      simp only [lens, List.take_succ_cons, List.map_cons, List.sum_cons] at this ⊢
      omega

theorem lens_get {xss : List (List Int)} (i : Nat) : (xss.getD i []).length ≤ lens xss := by
  induction xss generalizing i with
  | nil => simp
  | cons x xss ih =>
    cases i with
    | zero => simp [lens]
    | succ i =>
      have := ih i
      simp only [List.getD_cons_succ, lens, List.map_cons, List.sum_cons] at this ⊢
      omega

theorem wf_get {xss : List (List Int)} (h : xss.all (wfd B32) = true) (i : Nat) : wfd B32 (xss.getD i []) = true := by
  rw [List.getD]
  cases hi : xss[i]? with
  | none => rfl
  | some x => exact List.all_eq_true.1 h x (List.mem_of_getElem? hi)

theorem prodv_len {m : Nat} {xss : List (List Int)} (h : xss.all (wfd B32) = true) (hl : lens xss ≤ m) : (digs B32 (prodv xss)).length ≤ m + 1 := by
  refine digs_len (by decide) ?_
  have h1 := prodv_lt h
  have h2 : B32 ^ lens xss < B32 ^ (m + 1) := Nat.pow_lt_pow_right (by decide) (by omega)
  omega

theorem mul_loop : LoopOK pg (loopsTold mulLoop) (lp 0 (codeOf f_nat_Mul) 0) := by
  refine loop_see pg_mixed (T := tab [eOf, eTimes]) (tab_sound ⟨of_ok, times_ok, trivial⟩) (b := 0) (len := 18) (body := (lp 0 (codeOf f_nat_Mul) 0).2) (ch := mulC) (cx := mulC) (cr := mulC)
    (fun x : List (List Int) × Nat => ([D32 (digs B32 (prodv (x.1.take x.2))), DD32 x.1, I64 x.1.length, I64 x.2], []))
    (fun x => x.2 ≤ x.1.length ∧ x.1.length ≤ 2 ^ 20 ∧ lens x.1 ≤ 2 ^ 30 ∧ x.1.all (wfd B32) = true) (fun x => x.1.length - x.2)
    (fun x => .leaf (.exit 0 (spSt 18 [3, 7, 8, 9] [D32 (digs B32 (prodv x.1)), DD32 x.1, I64 x.1.length, I64 x.1.length] [])))
    regs_told (loops_told0 (by kernel_rfl)) mulDec (fun _ => rfl) ?_ ?_
  · intro vs hp t h K hK
    unfold mulDec at h
    split at h
    · rename_i out xss n i
      cases h
      obtain ⟨hc, hK⟩ := hK
      simp only [Bool.and_eq_true, decide_eq_true_eq] at hc
      obtain ⟨⟨⟨⟨⟨⟨h1, h2⟩, h3⟩, h4⟩, h5⟩, h6⟩, h7⟩ := hc
      obtain ⟨i, rfl⟩ := Int.eq_ofNat_of_zero_le h1
      subst h3
      subst h7
      exact ⟨(xss, i), rfl, ⟨by simp only; omega, h4, h5, h6⟩, hK⟩
    · cases h
  · rintro ⟨xss, i⟩ ⟨h1, h2, h3, h4⟩ K hK
    simp only at h1 h2 h3 h4 hK ⊢
    rw [mul_round]
    have w5 : IntKind.i64.wrap ((i : Int) + 1) = ((i + 1 : Nat) : Int) := by rw [i64_in] <;> omega
    have g1 := lens_get (xss := xss) i
    have g2 := wf_get h4 i
    have hl := prodv_len (all_take h4 i) (Nat.le_trans (lens_take xss i) h3)
    have hw := wfd_digs (b := B32) (by decide) (prodv (xss.take i))
    simp only [PT.sat_rq, PT.sat_req, PT.sat_ite, PT.sat_leaf, decide_eq_true_eq, decide_eq_false_iff_not, Bool.and_eq_true, nilD, Int.toNat_natCast, val_digs (b := B32) (by decide), w5]
    refine ⟨fun h0 => ⟨⟨by omega, by omega⟩, ⟨⟨⟨by omega, by omega⟩, hw⟩, g2⟩, (xss, i + 1), ?_, ⟨by simp only; omega, h2, h3, h4⟩, by simp only; omega, hK⟩, fun h0 => ?_⟩
    · simp only [prodv_take_succ xss i (by omega)]
    · obtain rfl : i = xss.length := by omega
      rw [List.take_length]
      exact hK

def aMul : List TV → List Ent → Option CallRes
  | [.lf (.dat (.sl (.int .u32)) xss)], [] => some ⟨decide (xss.length ≤ 2 ^ 20) && decide (lens xss ≤ 2 ^ 30) && xss.all (wfd B32), D32 (digs B32 (prodv xss)), [], [], true⟩
  | _, _ => none
def eMul : Entry := .data n_nat_Mul [LL32] aMul

theorem digs_one : digs B32 1 = [1] := by decide

theorem mul_ok : eMul.ok pg := Entry.data_ok <| by
  intro args es r h hv
  unfold aMul at h
  simp only at h
  split at h
  · rename_i xss
    cases h
    simp only [Bool.and_eq_true, decide_eq_true_eq] at hv
    refine entry_ok (fn := f_nat_Mul) pg_mixed (T := tab [eOf, eTimes]) (tab_sound ⟨of_ok, times_ok, trivial⟩) (L := loopsTold mulLoop) (by kernel_rfl) (by kernel_rfl) (by kernel_rfl) regs_told
      (loops_told1 (by kernel_rfl) mul_loop) [.toDat 2] ?_
    simp only [List.length_nil]
    rw [mul_nf]
    simp only [PT.sat_rq, PT.sat_req, PT.sat_leaf, decide_eq_true_eq, Bool.and_eq_true, hv]
    refine ⟨⟨⟨⟨⟨⟨⟨?_, ?_⟩, ?_⟩, ?_⟩, ?_⟩, ?_⟩, ?_⟩, by first | rfl | trivial, by first | rfl | trivial, by first | rfl | trivial⟩ <;> first | trivial | omega | rfl
  · cases h

end Go.Proofs.Ytlfdidaeachpoaa

/- Dividing by one digit, with no program in sight. -/
namespace Go.Proofs.Ytlfdidaeachpoaa

/-- Dividing the lowest k digits, with a rest ahead of them. -/
def shortN (b d : Nat) (xs : List Int) : Nat → Nat → List Int → List Int × Nat
  | 0, r, out => (out, r)
  | k + 1, r, out => shortN b d xs k ((r * b + (xs.getD k 0).toNat) % d) (out.set k (((r * b + (xs.getD k 0).toNat) / d : Nat) : Int))

theorem val_take_succ {b : Nat} {xs : List Int} {k : Nat} (h : k < xs.length) : val b (xs.take (k + 1)) = val b (xs.take k) + b ^ k * (xs.getD k 0).toNat := by
  rw [List.take_succ_eq_append_getElem h, val_append, List.getD, List.getElem?_eq_getElem h, List.length_take, Nat.min_eq_left (Nat.le_of_lt h)]
  simp [val]

structure ShortOK (b d : Nat) (xs : List Int) (k r : Nat) (out : List Int) : Prop where
  wf : wfd b (shortN b d xs k r out).1 = true
  len : (shortN b d xs k r out).1.length = out.length
  same : ∀ j, k ≤ j → (shortN b d xs k r out).1.getD j 0 = out.getD j 0
  quo : val b ((shortN b d xs k r out).1.take k) = (r * b ^ k + val b (xs.take k)) / d
  rest : (shortN b d xs k r out).2 = (r * b ^ k + val b (xs.take k)) % d

theorem short_bd {b d r x : Nat} (hd : 0 < d) (hr : r < d) (hx : x < b) : (r * b + x) / d < b := by
  rw [Nat.div_lt_iff_lt_mul hd]
  have : (r + 1) * b ≤ d * b := Nat.mul_le_mul_right _ hr
  rw [Nat.add_mul, Nat.one_mul] at this
  rw [Nat.mul_comm b d]
  omega

theorem shortN_ok {b d : Nat} (hb : 2 ≤ b) (hd : 0 < d) {xs : List Int} (hx : wfd b xs = true) : ∀ (k r : Nat) (out : List Int), r < d → k ≤ xs.length → k ≤ out.length → wfd b out = true → ShortOK b d xs k r out
  | 0, r, out, hr, _, _, hw => ⟨hw, rfl, fun _ _ => rfl, by simp [shortN, val, Nat.div_eq_of_lt hr], by simp [shortN, val, Nat.mod_eq_of_lt hr]⟩
  | k + 1, r, out, hr, h1, h2, hw => by
    have x := wfd_get (by omega : 0 < b) hx k
    have hxn : (xs.getD k 0).toNat < b := by omega
    have q := short_bd hd hr hxn
    obtain ⟨a1, a2, a3, a4, a5⟩ := shortN_ok hb hd hx k ((r * b + (xs.getD k 0).toNat) % d) (out.set k (((r * b + (xs.getD k 0).toNat) / d : Nat) : Int)) (Nat.mod_lt _ hd) (by omega) (by rw [List.length_set]; omega) (wfd_set hw ⟨Int.natCast_nonneg _, Int.ofNat_lt.2 q⟩)
    have e : shortN b d xs (k + 1) r out = shortN b d xs k ((r * b + (xs.getD k 0).toNat) % d) (out.set k (((r * b + (xs.getD k 0).toNat) / d : Nat) : Int)) := rfl
    rw [← e] at a1 a2 a3 a4 a5
    have hk : (shortN b d xs (k + 1) r out).1.getD k 0 = (((r * b + (xs.getD k 0).toNat) / d : Nat) : Int) := by
      rw [a3 k (Nat.le_refl _)]
      simp only [List.getD, List.getElem?_set_self (show k < out.length by omega)]
      rfl
    have hlen : k < (shortN b d xs (k + 1) r out).1.length := by rw [a2, List.length_set]; omega
    have hn : r * b ^ (k + 1) + val b (xs.take (k + 1)) = (r * b + (xs.getD k 0).toNat) * b ^ k + val b (xs.take k) := by
      rw [val_take_succ (by omega), Nat.pow_succ, Nat.add_mul, Nat.mul_assoc r b, Nat.mul_comm b (b ^ k), Nat.mul_comm (xs.getD k 0).toNat]
      omega
    generalize (r * b + (xs.getD k 0).toNat) = t at *
    have ht : t * b ^ k + val b (xs.take k) = (t % d * b ^ k + val b (xs.take k)) + d * (t / d * b ^ k) := by
      have := Nat.mod_add_div t d
      have h3 : t * b ^ k = (t % d + d * (t / d)) * b ^ k := by rw [this]
      rw [h3, Nat.add_mul, Nat.mul_assoc]
      omega
    refine ⟨a1, by rw [a2, List.length_set], fun j hj => ?_, ?_, ?_⟩
    · rw [a3 j (by omega)]
      simp only [List.getD, List.getElem?_set_ne (show k ≠ j by omega)]
    · rw [val_take_succ hlen, hk, a4, hn, ht, Nat.add_mul_div_left _ _ hd, Int.toNat_natCast, Nat.mul_comm (b ^ k)]
    · rw [a5, hn, ht, Nat.add_mul_mod_self_left]

theorem short_val {b d : Nat} (hb : 2 ≤ b) (hd : 0 < d) {xs : List Int} (hx : wfd b xs = true) : wfd b (shortN b d xs xs.length 0 (List.replicate xs.length 0)).1 = true ∧ (shortN b d xs xs.length 0 (List.replicate xs.length 0)).1.length = xs.length ∧
    val b (shortN b d xs xs.length 0 (List.replicate xs.length 0)).1 = val b xs / d ∧ (shortN b d xs xs.length 0 (List.replicate xs.length 0)).2 = val b xs % d := by
  obtain ⟨a1, a2, _, a4, a5⟩ := shortN_ok hb hd hx xs.length 0 (List.replicate xs.length 0) hd (Nat.le_refl _) (by simp) (wfd_replicate (by omega))
  rw [List.length_replicate] at a2
  refine ⟨a1, a2, ?_, ?_⟩
  · have := a4
    rw [List.take_of_length_le (by omega), List.take_length] at this
    simpa using this
  · rw [List.take_length] at a5
    simpa using a5

end Go.Proofs.Ytlfdidaeachpoaa

/- Long numbers: dividing by one digit. -/
namespace Go.Proofs.Ytlfdidaeachpoaa
open Go Go.RowKit
set_option maxRecDepth 100000

abbrev shH : Cut := ⟨[.keep [0, 1, 6, 7, 8], .heap [176]], [0, 1, 6, 7, 8]⟩
abbrev shX : Cut := ⟨[.keep [6, 7], .heap [176]], [6, 7]⟩

def shDec : List TV → List (Nat × Ent) → Option Tree
  | [.lf (.dat (.int .u32) xs), .lf (.int .u32 d), .lf (.ref 176), .lf (.int .u64 r), .lf (.int .i64 i)], [(176, ⟨true, .arr tU32 (.int .u32) out⟩)] =>
    some (.req (decide (0 < d) && decide (d < B32) && decide (0 ≤ r) && decide (r < d) && decide (-1 ≤ i) && decide (i < xs.length) && decide (xs.length = out.length) && decide (out.length ≤ 2 ^ 41) && wfd B32 xs && wfd B32 out)
      (.leaf (.exit 0 (spSt 43 [6, 7] [.lf (.ref 176), U64 (shortN B32 d.toNat xs (i + 1).toNat r.toNat out).2] [(176, Row32 (shortN B32 d.toNat xs (i + 1).toNat r.toNat out).1)]))))
  | _, _ => none

def shLoop : Nat → St → Option Tree
  | 0, σ => match seeSt shH.plan shH.ts 43 σ with
    | some x => shDec x.1 x.2
    | none => none
  | _, _ => none

theorem sh_round (xs out : List Int) (d r i : Int) : ((evCode pg (tab [eCut]) (loopsTold shLoop) 0 (lp 0 (codeOf f_nat_short) 0).2 (spSt 43 [0, 1, 6, 7, 8] [D32 xs, U32 d, .lf (.ref 176), U64 r, I64 i] [(176, Row32 out)])).pt (seeEv 43 shH shX shX)) =
    PT.rq (2 : Nat)
  (PT.ite (decide ((0 : Int) ≤ i))
    (PT.rq (4 : Nat)
      (PT.req (decide ((0 : Int) ≤ i) && decide (i < (↑xs.length : Int)))
        (PT.rq (9 : Nat)
          (PT.req (IntKind.u64.wrap d != (0 : Int))
            (PT.rq (1 : Nat)
              (PT.req (decide ((0 : Int) ≤ i) && decide (i < (↑out.length : Int)))
                (PT.rq (4 : Nat)
                  (PT.req (IntKind.u64.wrap d != (0 : Int))
                    (PT.rq (4 : Nat)
                      (PT.leaf
                        (PE.norm
                          [TV.lf (Leaf.dat (Ty.int IntKind.u32) xs), TV.lf (Leaf.int IntKind.u32 d), TV.lf (Leaf.ref (176 : Nat)),
                            TV.lf
                              (Leaf.int IntKind.u64
                                ((ibit BinOp.or IntKind.u64 (IntKind.u64.wrap (r * (2 : Int) ^ min (Int.toNat (32 : Int)) IntKind.u64.bits)) (IntKind.u64.wrap (xs.getD i.toNat (0 : Int)))).tmod
                                  (IntKind.u64.wrap d))),
                            TV.lf (Leaf.int IntKind.i64 (IntKind.i64.wrap (i - (1 : Int))))]
                          [((176 : Nat),
                              { w := true,
                                b :=
                                  EB.arr (90 : Nat) (Ty.int IntKind.u32)
                                    (out.set i.toNat
                                      (IntKind.u32.wrap
                                        (IntKind.u64.wrap
                                          ((ibit BinOp.or IntKind.u64 (IntKind.u64.wrap (r * (2 : Int) ^ min (Int.toNat (32 : Int)) IntKind.u64.bits))
                                                (IntKind.u64.wrap (xs.getD i.toNat (0 : Int)))).tdiv
                                            (IntKind.u64.wrap d))))) })])))))))))))
    (PT.leaf (PE.exit (0 : Nat) [TV.lf (Leaf.ref (176 : Nat)), TV.lf (Leaf.int IntKind.u64 r)] [((176 : Nat), { w := true, b := EB.arr (90 : Nat) (Ty.int IntKind.u32) out })]))) := by kernel_rfl


theorem short_nf (xs : List Int) (d : Int) : ((evFn pg (tab [eCut]) (loopsTold shLoop) f_nat_short (codeOf f_nat_short) [D32 xs, U32 d] []).pt (outEv pg f_nat_short 0 [.toDat 4] true)) =
    PT.rq (4 : Nat)
  (PT.req
    (decide ((0 : Int) ≤ (↑xs.length : Int)) && decide ((↑xs.length : Int) = (↑xs.length : Int)) && decide ((↑(pg.bytesOf (90 : Nat)) : Int) * (↑xs.length : Int) ≤ (281474976710656 : Int)) &&
      decide ((↑xs.length : Int) ≤ (9223372036854775807 : Int)))
    (PT.rq (6 : Nat)
      (PT.req
        (decide ((0 : Int) < d) && decide (d < (↑B32 : Int)) && decide ((0 : Int) ≤ (0 : Int)) && decide ((0 : Int) < d) && decide ((-1 : Int) ≤ IntKind.i64.wrap ((↑xs.length : Int) - (1 : Int))) &&
                  decide (IntKind.i64.wrap ((↑xs.length : Int) - (1 : Int)) < (↑xs.length : Int)) &&
                decide (xs.length = (List.replicate (↑xs.length : Int).toNat (0 : Int)).length) &&
              decide ((List.replicate (↑xs.length : Int).toNat (0 : Int)).length ≤ (2 : Nat) ^ (41 : Nat)) &&
            wfd B32 xs &&
          wfd B32 (List.replicate (↑xs.length : Int).toNat (0 : Int)))
        (PT.rq (1 : Nat)
          (PT.req
            (decide
                ((shortN B32 d.toNat xs (IntKind.i64.wrap ((↑xs.length : Int) - (1 : Int)) + (1 : Int)).toNat (Int.toNat (0 : Int)) (List.replicate (↑xs.length : Int).toNat (0 : Int))).fst.length ≤
                  (2 : Nat) ^ (40 : Nat)) &&
              wfd B32 (shortN B32 d.toNat xs (IntKind.i64.wrap ((↑xs.length : Int) - (1 : Int)) + (1 : Int)).toNat (Int.toNat (0 : Int)) (List.replicate (↑xs.length : Int).toNat (0 : Int))).fst)
            (PT.rq (4 : Nat)
              (PT.leaf
                (PE.out
                  { vc := true,
                    val :=
                      TV.tup
                        [(false,
                            [Leaf.dat (Ty.int IntKind.u32)
                                (digs B32
                                  (val B32
                                    (shortN B32 d.toNat xs (IntKind.i64.wrap ((↑xs.length : Int) - (1 : Int)) + (1 : Int)).toNat (Int.toNat (0 : Int))
                                        (List.replicate (↑xs.length : Int).toNat (0 : Int))).fst))]),
                          (false,
                            [Leaf.int IntKind.u32
                                (IntKind.u32.wrap
                                  (↑(shortN B32 d.toNat xs (IntKind.i64.wrap ((↑xs.length : Int) - (1 : Int)) + (1 : Int)).toNat (Int.toNat (0 : Int))
                                          (List.replicate (↑xs.length : Int).toNat (0 : Int))).snd :
                                    Int))])],
                    shares := true })))))))) := by kernel_rfl


theorem sh_loop : LoopOK pg (loopsTold shLoop) (lp 0 (codeOf f_nat_short) 0) := by
  refine loop_see pg_mixed (T := tab [eCut]) (tab_sound ⟨cut_ok, trivial⟩) (b := 0) (len := 43) (body := (lp 0 (codeOf f_nat_short) 0).2) (ch := shH) (cx := shX) (cr := shX)
    (fun x : (List Int × List Int) × Nat × Nat × Nat => ([D32 x.1.1, U32 (x.2.1 : Int), .lf (.ref 176), U64 (x.2.2.1 : Int), I64 ((x.2.2.2 : Int) - 1)], [(176, Row32 x.1.2)]))
    (fun x => (wfd B32 x.1.1 = true ∧ wfd B32 x.1.2 = true) ∧ (0 < x.2.1 ∧ x.2.1 < 4294967296) ∧ x.2.2.1 < x.2.1 ∧ x.2.2.2 ≤ x.1.1.length ∧ x.1.1.length = x.1.2.length ∧ x.1.2.length ≤ 2 ^ 41) (fun x => x.2.2.2)
    (fun x => .leaf (.exit 0 (spSt 43 [6, 7] [.lf (.ref 176), U64 (shortN B32 x.2.1 x.1.1 x.2.2.2 x.2.2.1 x.1.2).2] [(176, Row32 (shortN B32 x.2.1 x.1.1 x.2.2.2 x.2.2.1 x.1.2).1)])))
    regs_told (loops_told0 (by kernel_rfl)) shDec (fun _ => rfl) ?_ ?_
  · intro vs hp t h K hK
    unfold shDec at h
    split at h
    · rename_i xs d r i out
      cases h
      obtain ⟨hc, hK⟩ := hK
      simp only [Bool.and_eq_true, decide_eq_true_eq] at hc
      obtain ⟨⟨⟨⟨⟨⟨⟨⟨⟨h1, h2⟩, h3⟩, h4⟩, h5⟩, h6⟩, h7⟩, h8⟩, h9⟩, h10⟩ := hc
      obtain ⟨r, rfl⟩ := Int.eq_ofNat_of_zero_le h3
      obtain ⟨d, rfl⟩ := Int.eq_ofNat_of_zero_le (Int.le_of_lt h1)
      have h2' : (d : Int) < 4294967296 := h2
      refine ⟨((xs, out), d, r, (i + 1).toNat), ?_, ⟨⟨h9, h10⟩, ⟨by simp only; omega, by simp only; omega⟩, by simp only; omega, by simp only; omega, h7, h8⟩, hK⟩
      have : (((i + 1).toNat : Nat) : Int) - 1 = i := by omega
      simp only [this]
    · cases h
  · rintro ⟨⟨xs, out⟩, d, r, k⟩ ⟨⟨h1, h2⟩, ⟨h3, h4⟩, h5, h6, h7, h8⟩ K hK
    simp only at h1 h2 h3 h4 h5 h6 h7 h8 hK ⊢
    rw [sh_round]
    have wd : IntKind.u64.wrap (d : Int) = (d : Int) := u64_in (by omega)
    simp only [PT.sat_rq, PT.sat_req, PT.sat_ite, PT.sat_leaf, decide_eq_true_eq, decide_eq_false_iff_not, Bool.and_eq_true, wd, bne_iff_ne]
    refine ⟨fun h0 => ?_, fun h0 => ?_⟩
    · obtain ⟨j, rfl⟩ : ∃ j, k = j + 1 := ⟨k - 1, by omega⟩
      have e : ((j + 1 : Nat) : Int) - 1 = (j : Int) := by omega
      rw [e]
      have x := wfd_get (by decide : 0 < B32) h1 j
      have x' : (xs.getD j 0).toNat < 4294967296 := by have : xs.getD j 0 < 4294967296 := x.2; omega
      have q := short_bd (b := B32) h3 h5 x'
      have hx : xs.getD j 0 = (((xs.getD j 0).toNat : Nat) : Int) := (Int.toNat_of_nonneg x.1).symm
      have p32 : (2 : Int) ^ min (Int.toNat (32 : Int)) IntKind.u64.bits = 4294967296 := rfl
      have w1 : IntKind.u64.wrap ((r : Int) * (2 : Int) ^ min (Int.toNat (32 : Int)) IntKind.u64.bits) = ((r * 2 ^ 32 : Nat) : Int) := by rw [p32, u64_in] <;> omega
      have w2 : IntKind.u64.wrap (xs.getD j 0) = (((xs.getD j 0).toNat : Nat) : Int) := by rw [u64_in] <;> omega
      have w3 : IntKind.i64.wrap ((j : Int) - 1) = (j : Int) - 1 := i64_in (by omega)
      have ho : ibit .or .u64 ((r * 2 ^ 32 : Nat) : Int) (((xs.getD j 0).toNat : Nat) : Int) = ((r * B32 + (xs.getD j 0).toNat : Nat) : Int) := by
        rw [ibit_or (by omega) (by omega), or_add (by omega)]
      rw [Int.toNat_natCast, w1, w2, w3, ho]
      have hs : shortN B32 d xs (j + 1) r out = shortN B32 d xs j ((r * B32 + (xs.getD j 0).toNat) % d) (out.set j (((r * B32 + (xs.getD j 0).toNat) / d : Nat) : Int)) := rfl
      rw [hs] at hK
      have hq0 : (r * B32 + (xs.getD j 0).toNat) / d < 4294967296 := q
      have hm0 : (r * B32 + (xs.getD j 0).toNat) % d < d := Nat.mod_lt _ h3
      generalize r * B32 + (xs.getD j 0).toNat = t at *
      have etd : ((t : Nat) : Int).tdiv (d : Int) = ((t / d : Nat) : Int) := by rw [Int.tdiv_eq_ediv_of_nonneg (by omega), Int.natCast_ediv]
      have etm : ((t : Nat) : Int).tmod (d : Int) = ((t % d : Nat) : Int) := by rw [Int.tmod_eq_emod_of_nonneg (by omega), Int.natCast_emod]
      rw [etd, etm]
      clear etd etm ho hs
      generalize t / d = td at *
      generalize t % d = tm at *
      have w4 : IntKind.u64.wrap (td : Int) = (td : Int) := u64_in (by omega)
      have w5 : IntKind.u32.wrap (td : Int) = (td : Int) := u32_in (by omega)
      rw [w4, w5]
      refine ⟨⟨by omega, by omega⟩, by omega, ⟨by omega, by omega⟩, by omega, ((xs, out.set j (td : Int)), d, tm, j), rfl, ⟨⟨h1, wfd_set h2 ⟨by omega, by show _ < ((4294967296 : Nat) : Int); omega⟩⟩, ⟨h3, h4⟩, hm0, by simp only; omega, by simp only [List.length_set]; exact h7, by simp only [List.length_set]; exact h8⟩, by simp only; omega, hK⟩
    · obtain rfl : k = 0 := by omega
      exact hK

def aShort : List TV → List Ent → Option CallRes
  | [.lf (.dat (.int .u32) xs), .lf (.int .u32 d)], [] => some ⟨decide (xs.length ≤ 2 ^ 40) && wfd B32 xs && decide (0 < d) && decide (d < B32),
      .tup [(false, [.dat (.int .u32) (digs B32 (val B32 xs / d.toNat))]), (false, [.int .u32 ((val B32 xs % d.toNat : Nat) : Int)])], [], [], true⟩
  | _, _ => none
def eShort : Entry := .data n_nat_short [L32, []] aShort

theorem short_ok : eShort.ok pg := Entry.data_ok <| by
  intro args es r h hv
  unfold aShort at h
  simp only at h
  split at h
  · rename_i xs d
    cases h
    simp only [Bool.and_eq_true, decide_eq_true_eq] at hv
    obtain ⟨⟨⟨h1, h2⟩, h3⟩, h4⟩ := hv
    refine entry_ok (fn := f_nat_short) pg_mixed (T := tab [eCut]) (tab_sound ⟨cut_ok, trivial⟩) (L := loopsTold shLoop) (by kernel_rfl) (by kernel_rfl) (by kernel_rfl) regs_told
      (loops_told1 (by kernel_rfl) sh_loop) [.toDat 4] ?_
    simp only [List.length_nil]
    rw [short_nf]
    have w0 : IntKind.i64.wrap ((xs.length : Int) - 1) = (xs.length : Int) - 1 := i64_in (by omega)
    have e1 : ((xs.length : Int) - 1 + 1).toNat = xs.length := by omega
    have h4' : d < 4294967296 := h4
    obtain ⟨m1, m2, m3, m5⟩ := short_val (b := B32) (d := d.toNat) (by decide) (by omega) h2
    have m4 := wfd_replicate (b := B32) (n := xs.length) (by decide)
    have hlt : val B32 xs % d.toNat < d.toNat := Nat.mod_lt _ (by omega)
    have w6 : IntKind.u32.wrap ((val B32 xs % d.toNat : Nat) : Int) = ((val B32 xs % d.toNat : Nat) : Int) := u32_in (by omega)
    simp only [w0, e1, bytesU32, Int.toNat_natCast, Int.toNat_zero, m3, m5, w6]
    simp only [PT.sat_rq, PT.sat_req, PT.sat_leaf, decide_eq_true_eq, Bool.and_eq_true, m1, m2, m4, h2, List.length_replicate]
    refine ⟨⟨⟨⟨by omega, trivial⟩, by omega⟩, by omega⟩, ⟨⟨⟨⟨⟨⟨⟨⟨⟨h3, h4⟩, by omega⟩, h3⟩, by omega⟩, by omega⟩, trivial⟩, by omega⟩, trivial⟩, trivial⟩, ⟨by omega, trivial⟩, by first | rfl | trivial, by first | rfl | trivial, by first | rfl | trivial⟩
  · cases h

end Go.Proofs.Ytlfdidaeachpoaa

/- Rows of so many digits; shifting, with no program in sight. -/
namespace Go.Proofs.Ytlfdidaeachpoaa

/-- So many digits of a number. -/
def fixd (b : Nat) : Nat → Nat → List Int
  | 0, _ => []
  | m + 1, v => ((v % b : Nat) : Int) :: fixd b m (v / b)

theorem fixd_len (b : Nat) : ∀ m v, (fixd b m v).length = m
  | 0, _ => rfl
  | m + 1, v => by simp [fixd, fixd_len b m]

theorem fixd_wf {b : Nat} (hb : 0 < b) : ∀ m v, wfd b (fixd b m v) = true
  | 0, _ => rfl
  | m + 1, v => wfd_cons.2 ⟨⟨Int.natCast_nonneg _, Int.ofNat_lt.2 (Nat.mod_lt _ hb)⟩, fixd_wf hb m _⟩

theorem fixd_val {b : Nat} : ∀ m v, val b (fixd b m v) = v % b ^ m
  | 0, v => by simp [fixd, val, Nat.mod_one]
  | m + 1, v => by
    rw [fixd, val, fixd_val m, Int.toNat_natCast, mod_step]

theorem fixd_eq {b : Nat} (hb : 0 < b) : ∀ {xs : List Int}, wfd b xs = true → fixd b xs.length (val b xs) = xs
  | [], _ => rfl
  | d :: ds, h => by
    obtain ⟨hd, h⟩ := wfd_cons.1 h
    rw [List.length_cons, fixd, val, Nat.add_mul_mod_self_left, Nat.mod_eq_of_lt (by omega), Nat.add_mul_div_left _ _ hb, Nat.div_eq_of_lt (by omega : d.toNat < b), Nat.zero_add, fixd_eq hb h]
    congr 1
    omega

theorem fixd_get {b : Nat} (hb : 0 < b) {m v i : Nat} (hi : i < m) : (fixd b m v).getD i 0 = ((v / b ^ i % b : Nat) : Int) := by
  induction m generalizing v i with
  | zero => omega
  | succ m ih =>
    cases i with
    | zero => simp [fixd]
    | succ i =>
      rw [fixd, List.getD_cons_succ, ih (by omega), Nat.div_div_eq_div_mul, Nat.pow_succ, Nat.mul_comm b]

/-- The digits of a number times 'm', laid from place i on. -/
def sftN (b m : Nat) (xs : List Int) : Nat → Nat → Nat → List Int → List Int
  | 0, _, _, out => out
  | r + 1, i, o, out => sftN b m xs r (i + 1) ((o + (dig xs i).toNat * m) / b) (out.set i (((o + (dig xs i).toNat * m) % b : Nat) : Int))

theorem sftN_ok {b m : Nat} (hb : 0 < b) {xs : List Int} (hx : wfd b xs = true) : ∀ (r i o : Nat) (out : List Int), out.length = i + r → wfd b out = true →
    wfd b (sftN b m xs r i o out) = true ∧ (sftN b m xs r i o out).length = i + r ∧ val b (sftN b m xs r i o out) = val b (out.take i) + b ^ i * ((o + val b xs / b ^ i * m) % b ^ r)
  | 0, i, o, out, h1, h2 => ⟨h2, h1, by rw [List.take_of_length_le (by omega)]; simp [sftN, Nat.mod_one]⟩
  | r + 1, i, o, out, h1, h2 => by
    have hd : (dig xs i).toNat = val b xs / b ^ i % b := by rw [dig_val hb hx]; exact Int.toNat_natCast _
    obtain ⟨a1, a2, a3⟩ := sftN_ok hb hx (m := m) r (i + 1) ((o + (dig xs i).toNat * m) / b) (out.set i (((o + (dig xs i).toNat * m) % b : Nat) : Int)) (by rw [List.length_set]; omega) (wfd_set h2 ⟨Int.natCast_nonneg _, Int.ofNat_lt.2 (Nat.mod_lt _ hb)⟩)
    refine ⟨a1, by rw [sftN, a2]; omega, ?_⟩
    rw [sftN, a3, val_take_succ (by rw [List.length_set]; omega), List.take_set_of_le (Nat.le_refl _), hd]
    simp only [List.getD, List.getElem?_set_self (show i < out.length by omega), Option.getD_some, Int.toNat_natCast]
    rw [Nat.pow_succ, ← Nat.div_div_eq_div_mul]
    generalize val b xs / b ^ i = X
    rw [mod_step, Nat.mul_add]
    have e : o + X * m = (o + X % b * m) + b * (X / b * m) := by
      have := Nat.mod_add_div X b
      have h3 : X * m = (X % b + b * (X / b)) * m := by rw [this]
      rw [h3, Nat.add_mul, Nat.mul_assoc]
      omega
    rw [e, Nat.add_mul_mod_self_left, Nat.add_mul_div_left _ _ hb, Nat.mul_assoc]
    omega

theorem sft_val {m : Nat} {xs : List Int} (hx : wfd B32 xs = true) (hm : m ≤ B32) : sftN B32 m xs (xs.length + 1) 0 0 (List.replicate (xs.length + 1) 0) = fixd B32 (xs.length + 1) (val B32 xs * m) := by
  obtain ⟨a1, a2, a3⟩ := sftN_ok (b := B32) (m := m) (by decide) hx (xs.length + 1) 0 0 (List.replicate (xs.length + 1) 0) (by simp) (wfd_replicate (by decide))
  have h := fixd_eq (by decide) a1
  rw [a2, a3] at h
  rw [← h]
  simp only [List.take_zero, val, Nat.pow_zero, Nat.div_one, Nat.one_mul, Nat.zero_add]
  rw [Nat.mod_eq_of_lt]
  have h1 := val_lt (b := B32) (by decide) hx
  rw [Nat.pow_succ]
  calc val B32 xs * m ≤ val B32 xs * B32 := Nat.mul_le_mul_left _ hm
    _ < B32 ^ xs.length * B32 := Nat.mul_lt_mul_of_pos_right h1 (by decide)

end Go.Proofs.Ytlfdidaeachpoaa

/- Long numbers: shifting up. -/
namespace Go.Proofs.Ytlfdidaeachpoaa
open Go Go.RowKit
set_option maxRecDepth 100000

abbrev sfH : Cut := ⟨[.keep [0, 1, 5, 6, 13, 14], .heap [176]], [0, 1, 5, 6, 13, 14]⟩
abbrev sfX : Cut := ⟨[.keep [5], .heap [176]], [5]⟩

def sfDec : List TV → List (Nat × Ent) → Option Tree
  | [.lf (.dat (.int .u32) xs), .lf (.int .i64 n), .lf (.ref 176), .lf (.int .u64 o), .lf (.int .i64 m), .lf (.int .i64 i)], [(176, ⟨true, .arr tU32 (.int .u32) out⟩)] =>
    some (.req (decide (0 ≤ n) && decide (n < 32) && decide (0 ≤ o) && decide (o < 2 ^ n.toNat) && decide (0 ≤ i) && decide (i ≤ m) && decide (m = out.length) && decide (out.length ≤ 2 ^ 41) && wfd B32 xs && wfd B32 out)
      (.leaf (.exit 0 (spSt 34 [5] [.lf (.ref 176)] [(176, Row32 (sftN B32 (2 ^ n.toNat) xs (m - i).toNat i.toNat o.toNat out))]))))
  | _, _ => none

def sfLoop : Nat → St → Option Tree
  | 0, σ => match seeSt sfH.plan sfH.ts 34 σ with
    | some x => sfDec x.1 x.2
    | none => none
  | _, _ => none

theorem sf_round (xs out : List Int) (n o : Int) (m i : Nat) : ((evCode pg (tab [eAt]) (loopsTold sfLoop) 0 (lp 0 (codeOf f_nat_shifted) 0).2 (spSt 34 [0, 1, 5, 6, 13, 14] [D32 xs, I64 n, .lf (.ref 176), U64 o, I64 m, I64 i] [(176, Row32 out)])).pt (seeEv 34 sfH sfX sfX)) =
    PT.rq (1 : Nat)
  (PT.ite (decide ((↑i : Int) < (↑m : Int)))
    (PT.rq (8 : Nat)
      (PT.req (decide ((0 : Int) ≤ n))
        (PT.rq (6 : Nat)
          (PT.req (decide ((0 : Int) ≤ (↑i : Int)) && decide ((↑i : Int) < (↑out.length : Int)))
            (PT.rq (6 : Nat)
              (PT.leaf
                (PE.norm
                  [TV.lf (Leaf.dat (Ty.int IntKind.u32) xs), TV.lf (Leaf.int IntKind.i64 n), TV.lf (Leaf.ref (176 : Nat)),
                    TV.lf
                      (Leaf.int IntKind.u64
                        ((ibit BinOp.or IntKind.u64 o (IntKind.u64.wrap (IntKind.u64.wrap (dig xs (↑i : Int)) * (2 : Int) ^ min n.toNat IntKind.u64.bits))).fdiv
                          ((2 : Int) ^ min (Int.toNat (32 : Int)) IntKind.u64.bits))),
                    TV.lf (Leaf.int IntKind.i64 (↑m : Int)), TV.lf (Leaf.int IntKind.i64 (IntKind.i64.wrap ((↑i : Int) + (1 : Int))))]
                  [((176 : Nat),
                      { w := true,
                        b :=
                          EB.arr (90 : Nat) (Ty.int IntKind.u32)
                            (out.set (↑i : Int).toNat
                              (IntKind.u32.wrap (ibit BinOp.or IntKind.u64 o (IntKind.u64.wrap (IntKind.u64.wrap (dig xs (↑i : Int)) * (2 : Int) ^ min n.toNat IntKind.u64.bits))))) })])))))))
    (PT.leaf (PE.exit (0 : Nat) [TV.lf (Leaf.ref (176 : Nat))] [((176 : Nat), { w := true, b := EB.arr (90 : Nat) (Ty.int IntKind.u32) out })]))) := by kernel_rfl


theorem shifted_nf (xs : List Int) (n : Int) : ((evFn pg (tab [eAt]) (loopsTold sfLoop) f_nat_shifted (codeOf f_nat_shifted) [D32 xs, I64 n] []).pt (outEv pg f_nat_shifted 0 [] false)) =
    PT.rq (4 : Nat)
  (PT.req
    (decide ((0 : Int) ≤ IntKind.i64.wrap ((↑xs.length : Int) + (1 : Int))) && decide (IntKind.i64.wrap ((↑xs.length : Int) + (1 : Int)) = IntKind.i64.wrap ((↑xs.length : Int) + (1 : Int))) &&
        decide ((↑(pg.bytesOf (90 : Nat)) : Int) * IntKind.i64.wrap ((↑xs.length : Int) + (1 : Int)) ≤ (281474976710656 : Int)) &&
      decide (IntKind.i64.wrap ((↑xs.length : Int) + (1 : Int)) ≤ (9223372036854775807 : Int)))
    (PT.rq (5 : Nat)
      (PT.req
        (decide ((0 : Int) ≤ n) && decide (n < (32 : Int)) && decide ((0 : Int) ≤ (0 : Int)) && decide ((0 : Int) < (2 : Int) ^ n.toNat) && decide ((0 : Int) ≤ (0 : Int)) &&
                  decide ((0 : Int) ≤ (↑(List.replicate (IntKind.i64.wrap ((↑xs.length : Int) + (1 : Int))).toNat (0 : Int)).length : Int)) &&
                decide
                  ((↑(List.replicate (IntKind.i64.wrap ((↑xs.length : Int) + (1 : Int))).toNat (0 : Int)).length : Int) =
                    (↑(List.replicate (IntKind.i64.wrap ((↑xs.length : Int) + (1 : Int))).toNat (0 : Int)).length : Int)) &&
              decide ((List.replicate (IntKind.i64.wrap ((↑xs.length : Int) + (1 : Int))).toNat (0 : Int)).length ≤ (2 : Nat) ^ (41 : Nat)) &&
            wfd B32 xs &&
          wfd B32 (List.replicate (IntKind.i64.wrap ((↑xs.length : Int) + (1 : Int))).toNat (0 : Int)))
        (PT.rq (2 : Nat)
          (PT.leaf
            (PE.out
              { vc := true, val := TV.lf (Leaf.ref (0 : Nat)),
                fresh :=
                  [{ w := true,
                      b :=
                        EB.arr (90 : Nat) (Ty.int IntKind.u32)
                          (sftN B32 ((2 : Nat) ^ n.toNat) xs ((↑(List.replicate (IntKind.i64.wrap ((↑xs.length : Int) + (1 : Int))).toNat (0 : Int)).length : Int) - (0 : Int)).toNat
                            (Int.toNat (0 : Int)) (Int.toNat (0 : Int)) (List.replicate (IntKind.i64.wrap ((↑xs.length : Int) + (1 : Int))).toNat (0 : Int))) }] })))))) := by kernel_rfl


theorem add_or {a d n : Nat} (h : a < 2 ^ n) : a ||| (d * 2 ^ n) = a + d * 2 ^ n := by
  rw [Nat.or_comm, ← Nat.shiftLeft_eq, ← Nat.shiftLeft_add_eq_or_of_lt h, Nat.add_comm]

theorem pow_le32 {n : Nat} (h : n < 32) : 2 ^ n ≤ 2147483648 := Nat.pow_le_pow_right (n := 2) (by decide) (show n ≤ 31 by omega)

theorem sf_loop : LoopOK pg (loopsTold sfLoop) (lp 0 (codeOf f_nat_shifted) 0) := by
  refine loop_see pg_mixed (T := tab [eAt]) (tab_sound ⟨at_ok, trivial⟩) (b := 0) (len := 34) (body := (lp 0 (codeOf f_nat_shifted) 0).2) (ch := sfH) (cx := sfX) (cr := sfX)
    (fun x : (List Int × List Int) × Nat × Nat × Nat => ([D32 x.1.1, I64 (x.2.1 : Int), .lf (.ref 176), U64 (x.2.2.1 : Int), I64 (x.1.2.length : Nat), I64 (x.2.2.2 : Nat)], [(176, Row32 x.1.2)]))
    (fun x => (wfd B32 x.1.1 = true ∧ wfd B32 x.1.2 = true) ∧ x.2.1 < 32 ∧ x.2.2.1 < 2 ^ x.2.1 ∧ x.2.2.2 ≤ x.1.2.length ∧ x.1.2.length ≤ 2 ^ 41) (fun x => x.1.2.length - x.2.2.2)
    (fun x => .leaf (.exit 0 (spSt 34 [5] [.lf (.ref 176)] [(176, Row32 (sftN B32 (2 ^ x.2.1) x.1.1 (x.1.2.length - x.2.2.2) x.2.2.2 x.2.2.1 x.1.2))])))
    regs_told (loops_told0 (by kernel_rfl)) sfDec (fun _ => rfl) ?_ ?_
  · intro vs hp t h K hK
    unfold sfDec at h
    split at h
    · rename_i xs n o m i out
      cases h
      obtain ⟨hc, hK⟩ := hK
      simp only [Bool.and_eq_true, decide_eq_true_eq] at hc
      obtain ⟨⟨⟨⟨⟨⟨⟨⟨⟨h1, h2⟩, h3⟩, h4⟩, h5⟩, h6⟩, h7⟩, h8⟩, h9⟩, h10⟩ := hc
      obtain ⟨n, rfl⟩ := Int.eq_ofNat_of_zero_le h1
      obtain ⟨o, rfl⟩ := Int.eq_ofNat_of_zero_le h3
      obtain ⟨i, rfl⟩ := Int.eq_ofNat_of_zero_le h5
      subst h7
      have e : ((out.length : Int) - (i : Int)).toNat = out.length - i := by omega
      simp only [e, Int.toNat_natCast] at hK h4
      have h4' : o < 2 ^ n := by exact_mod_cast h4
      exact ⟨((xs, out), n, o, i), rfl, ⟨⟨h9, h10⟩, by simp only; omega, h4', by simp only; omega, h8⟩, hK⟩
    · cases h
  · rintro ⟨⟨xs, out⟩, n, o, i⟩ ⟨⟨h1, h2⟩, h3, h4, h5, h6⟩ K hK
    simp only at h1 h2 h3 h4 h5 h6 hK ⊢
    rw [sf_round]
    have d := dig_bd h1 i
    have hp := pow_le32 h3
    have hp0 : 0 < 2 ^ n := Nat.pow_pos (by decide)
    have wd : IntKind.u64.wrap (dig xs i) = (((dig xs i).toNat : Nat) : Int) := by rw [u64_in] <;> omega
    have hmin : min n IntKind.u64.bits = n := Nat.min_eq_left (by show n ≤ 64; omega)
    have hdn : (dig xs i).toNat < 4294967296 := by omega
    have hprod : (dig xs i).toNat * 2 ^ n ≤ 4294967295 * 2147483648 := Nat.mul_le_mul (by omega) hp
    have hcast : (((dig xs i).toNat : Nat) : Int) * (2 : Int) ^ n = (((dig xs i).toNat * 2 ^ n : Nat) : Int) := by
      rw [Int.natCast_mul, Int.natCast_pow]
      rfl
    have w1 : IntKind.u64.wrap ((((dig xs i).toNat : Nat) : Int) * (2 : Int) ^ n) = (((dig xs i).toNat * 2 ^ n : Nat) : Int) := by rw [hcast, u64_in] <;> omega
    have ho : ibit .or .u64 (o : Int) (((dig xs i).toNat * 2 ^ n : Nat) : Int) = ((o + (dig xs i).toNat * 2 ^ n : Nat) : Int) := by
      rw [ibit_or (by omega) (by omega), add_or h4]
    have w2 : IntKind.i64.wrap ((i : Int) + 1) = ((i + 1 : Nat) : Int) := by rw [i64_in] <;> omega
    simp only [Int.toNat_natCast, hmin, wd, w1, ho, w2, shr32, wrap_u32]
    simp only [PT.sat_rq, PT.sat_req, PT.sat_ite, PT.sat_leaf, decide_eq_true_eq, decide_eq_false_iff_not, Bool.and_eq_true]
    have hb2 : (o + (dig xs i).toNat * 2 ^ n) / B32 < 2 ^ n := by
      rw [Nat.div_lt_iff_lt_mul (by decide)]
      have : (dig xs i).toNat * 2 ^ n + 2 ^ n ≤ 4294967296 * 2 ^ n := by
        rw [← Nat.succ_mul]
        exact Nat.mul_le_mul_right _ hdn
      rw [Nat.mul_comm (2 ^ n)]
      show o + (dig xs i).toNat * 2 ^ n < 4294967296 * 2 ^ n
      omega
    refine ⟨fun h0 => ?_, fun h0 => ?_⟩
    · obtain ⟨r, hr⟩ : ∃ r, out.length - i = r + 1 := ⟨out.length - i - 1, by omega⟩
      have hr' : out.length - (i + 1) = r := by omega
      rw [hr] at hK
      simp only [sftN] at hK
      generalize o + (dig xs i).toNat * 2 ^ n = t at *
      have e1 : ((t : Nat) : Int) % 4294967296 = ((t % B32 : Nat) : Int) := (Int.natCast_emod t B32).symm
      have e2 : ((t : Nat) : Int) / 4294967296 = ((t / B32 : Nat) : Int) := (Int.natCast_ediv t B32).symm
      rw [e1, e2]
      refine ⟨by omega, ⟨by omega, by omega⟩, ((xs, out.set i ((t % B32 : Nat) : Int)), n, t / B32, i + 1), by simp only [List.length_set], ⟨⟨h1, wfd_set h2 ⟨Int.natCast_nonneg _, Int.ofNat_lt.2 (Nat.mod_lt _ (by decide))⟩⟩, h3, hb2, by simp only [List.length_set]; omega, by simp only [List.length_set]; omega⟩, by simp only [List.length_set]; omega, ?_⟩
      simp only [List.length_set, hr']
      exact hK
    · have hr : out.length - i = 0 := by omega
      rw [hr] at hK
      exact hK

def aShifted : List TV → List Ent → Option CallRes
  | [.lf (.dat (.int .u32) xs), .lf (.int .i64 n)], [] => some ⟨decide (xs.length ≤ 2 ^ 39) && wfd B32 xs && decide (0 ≤ n) && decide (n < 32), .lf (.ref 0), [], [Row32 (fixd B32 (xs.length + 1) (val B32 xs * 2 ^ n.toNat))], false⟩
  | _, _ => none
def eShifted : Entry := .data n_nat_shifted [L32, []] aShifted

theorem shifted_ok : eShifted.ok pg := Entry.data_ok <| by
  intro args es r h hv
  unfold aShifted at h
  simp only at h
  split at h
  · rename_i xs n
    cases h
    simp only [Bool.and_eq_true, decide_eq_true_eq] at hv
    obtain ⟨⟨⟨h1, h2⟩, h3⟩, h4⟩ := hv
    refine entry_ok (fn := f_nat_shifted) pg_mixed (T := tab [eAt]) (tab_sound ⟨at_ok, trivial⟩) (L := loopsTold sfLoop) (by kernel_rfl) (by kernel_rfl) (by kernel_rfl) regs_told
      (loops_told1 (by kernel_rfl) sf_loop) [] ?_
    simp only [List.length_nil]
    rw [shifted_nf]
    have w0 : IntKind.i64.wrap ((xs.length : Int) + 1) = ((xs.length + 1 : Nat) : Int) := by rw [i64_in] <;> omega
    have hp := pow_le32 (n := n.toNat) (by omega)
    have hv := sft_val (m := 2 ^ n.toNat) h2 (by show _ ≤ 4294967296; omega)
    have m4 := wfd_replicate (b := B32) (n := xs.length + 1) (by decide)
    have hpos : (0 : Int) < 2 ^ n.toNat := Int.pow_pos (by decide)
    have e1 : (((xs.length + 1 : Nat) : Int) - 0).toNat = xs.length + 1 := by omega
    simp only [w0, bytesU32, Int.toNat_natCast, Int.toNat_zero, List.length_replicate, e1, hv]
    simp only [PT.sat_rq, PT.sat_req, PT.sat_leaf, decide_eq_true_eq, Bool.and_eq_true, m4, h2]
    refine ⟨⟨⟨⟨by omega, trivial⟩, by omega⟩, by omega⟩, ⟨⟨⟨⟨⟨⟨⟨⟨⟨h3, h4⟩, by omega⟩, hpos⟩, by omega⟩, by omega⟩, trivial⟩, by omega⟩, trivial⟩, trivial⟩, by first | rfl | trivial, by first | rfl | trivial, by first | rfl | trivial⟩
  · cases h

end Go.Proofs.Ytlfdidaeachpoaa

/- Shifting down, with no program in sight. -/
namespace Go.Proofs.Ytlfdidaeachpoaa

/-- Places i, i + 1, .. filled. -/
def fillN (f : Nat → Int) : Nat → Nat → List Int → List Int
  | 0, _, out => out
  | r + 1, i, out => fillN f r (i + 1) (out.set i (f i))

theorem fillN_len (f : Nat → Int) : ∀ (r i : Nat) (out : List Int), (fillN f r i out).length = out.length
  | 0, _, _ => rfl
  | r + 1, i, out => by rw [fillN, fillN_len f r, List.length_set]

theorem fillN_get (f : Nat → Int) : ∀ (r i j : Nat) (out : List Int), i + r ≤ out.length → (fillN f r i out)[j]? = if i ≤ j ∧ j < i + r then some (f j) else out[j]?
  | 0, i, j, out, _ => by rw [if_neg (by omega)]; rfl
  | r + 1, i, j, out, h => by
    rw [fillN, fillN_get f r (i + 1) j _ (by rw [List.length_set]; omega)]
    by_cases h1 : i + 1 ≤ j ∧ j < i + 1 + r
    · rw [if_pos h1, if_pos (by omega)]
    · rw [if_neg h1]
      by_cases h2 : i = j
      · subst h2
        rw [if_pos (by omega), List.getElem?_set_self (by omega)]
      · rw [List.getElem?_set_ne h2, if_neg (by omega)]

theorem list_ext_getD {xs ys : List Int} (hl : xs.length = ys.length) (h : ∀ i, i < xs.length → xs.getD i 0 = ys.getD i 0) : xs = ys := by
  apply List.ext_getElem hl
  intro i h1 h2
  have := h i h1
  rw [List.getD, List.getD, List.getElem?_eq_getElem h1, List.getElem?_eq_getElem h2] at this
  exact this

def downF (b n : Nat) (xs : List Int) (i : Nat) : Int := ((((dig xs (i + 1 : Nat)).toNat * b + (dig xs i).toNat) / 2 ^ n % b : Nat) : Int)

theorem downF_eq {n : Nat} (hn : n ≤ 32) {xs : List Int} (hx : wfd B32 xs = true) (i : Nat) : downF B32 n xs i = ((val B32 xs / 2 ^ n / B32 ^ i % B32 : Nat) : Int) := by
  unfold downF
  have h0 : (dig xs i).toNat = val B32 xs / B32 ^ i % B32 := by rw [dig_val (by decide) hx]; exact Int.toNat_natCast _
  have h1 : (dig xs (i + 1 : Nat)).toNat = val B32 xs / B32 ^ i / B32 % B32 := by rw [dig_val (by decide) hx, Nat.pow_succ, Nat.div_div_eq_div_mul]; exact Int.toNat_natCast _
  have hA : val B32 xs / 2 ^ n / B32 ^ i = val B32 xs / B32 ^ i / 2 ^ n := by rw [Nat.div_div_eq_div_mul, Nat.mul_comm, ← Nat.div_div_eq_div_mul]
  rw [h0, h1, hA]
  generalize val B32 xs / B32 ^ i = X
  congr 1
  have e : X = (X / B32 % B32 * B32 + X % B32) + 2 ^ n * (2 ^ (32 - n) * B32 * (X / B32 / B32)) := by
    have a1 := Nat.mod_add_div X B32
    have a2 := Nat.mod_add_div (X / B32) B32
    have a3 : 2 ^ n * (2 ^ (32 - n) * B32 * (X / B32 / B32)) = B32 * (B32 * (X / B32 / B32)) := by
      rw [Nat.mul_assoc (2 ^ (32 - n)), ← Nat.mul_assoc (2 ^ n), ← Nat.pow_add, show n + (32 - n) = 32 by omega]
    rw [a3]
    have a4 : B32 * (X / B32) = B32 * (X / B32 % B32) + B32 * (B32 * (X / B32 / B32)) := by rw [← Nat.mul_add, a2]
    rw [Nat.mul_comm (X / B32 % B32)]
    omega
  have h2 : X / 2 ^ n = (X / B32 % B32 * B32 + X % B32) / 2 ^ n + 2 ^ (32 - n) * B32 * (X / B32 / B32) := by
    conv => lhs; rw [e]
    exact Nat.add_mul_div_left _ _ (Nat.pow_pos (by decide))
  rw [h2, Nat.mul_comm (2 ^ (32 - n)) B32, Nat.mul_assoc, Nat.add_mul_mod_self_left]

theorem down_val {n : Nat} (hn : n ≤ 32) {xs : List Int} (hx : wfd B32 xs = true) : fillN (downF B32 n xs) xs.length 0 (List.replicate xs.length 0) = fixd B32 xs.length (val B32 xs / 2 ^ n) := by
  refine list_ext_getD (by rw [fillN_len, fixd_len, List.length_replicate]) fun i hi => ?_
  rw [fillN_len, List.length_replicate] at hi
  rw [fixd_get (by decide) hi, List.getD, fillN_get _ _ _ _ _ (by simp), if_pos (by omega)]
  exact downF_eq hn hx i

end Go.Proofs.Ytlfdidaeachpoaa

/- Long numbers: shifting down. -/
namespace Go.Proofs.Ytlfdidaeachpoaa
open Go Go.RowKit
set_option maxRecDepth 100000

abbrev dnH : Cut := ⟨[.keep [0, 1, 5, 11, 12], .heap [144]], [0, 1, 5, 11, 12]⟩
abbrev dnX : Cut := ⟨[.keep [5], .heap [144]], [5]⟩

def dnDec : List TV → List (Nat × Ent) → Option Tree
  | [.lf (.dat (.int .u32) xs), .lf (.int .i64 n), .lf (.ref 144), .lf (.int .i64 m), .lf (.int .i64 i)], [(144, ⟨true, .arr tU32 (.int .u32) out⟩)] =>
    some (.req (decide (0 ≤ n) && decide (n < 32) && decide (0 ≤ i) && decide (i ≤ m) && decide (m = out.length) && decide (xs.length = out.length) && decide (out.length ≤ 2 ^ 41) && wfd B32 xs)
      (.leaf (.exit 0 (spSt 36 [5] [.lf (.ref 144)] [(144, Row32 (fillN (downF B32 n.toNat xs) (m - i).toNat i.toNat out))]))))
  | _, _ => none

def dnLoop : Nat → St → Option Tree
  | 0, σ => match seeSt dnH.plan dnH.ts 36 σ with
    | some x => dnDec x.1 x.2
    | none => none
  | _, _ => none

theorem dn_round (xs out : List Int) (n : Int) (m i : Nat) : ((evCode pg (tab [eAt, eCut]) (loopsTold dnLoop) 0 (lp 0 (codeOf f_nat_down) 0).2 (spSt 36 [0, 1, 5, 11, 12] [D32 xs, I64 n, .lf (.ref 144), I64 m, I64 i] [(144, Row32 out)])).pt (seeEv 36 dnH dnX dnX)) =
    PT.rq (1 : Nat)
  (PT.ite (decide ((↑i : Int) < (↑m : Int)))
    (PT.rq (7 : Nat)
      (PT.req (decide ((0 : Int) ≤ IntKind.i64.wrap ((↑i : Int) + (1 : Int))))
        (PT.rq (4 : Nat)
          (PT.req (decide ((0 : Int) ≤ (↑i : Int)) && decide ((↑i : Int) < (↑xs.length : Int)))
            (PT.rq (4 : Nat)
              (PT.req (decide ((0 : Int) ≤ n))
                (PT.rq (1 : Nat)
                  (PT.req (decide ((0 : Int) ≤ (↑i : Int)) && decide ((↑i : Int) < (↑out.length : Int)))
                    (PT.rq (3 : Nat)
                      (PT.leaf
                        (PE.norm
                          [TV.lf (Leaf.dat (Ty.int IntKind.u32) xs), TV.lf (Leaf.int IntKind.i64 n), TV.lf (Leaf.ref (144 : Nat)), TV.lf (Leaf.int IntKind.i64 (↑m : Int)),
                            TV.lf (Leaf.int IntKind.i64 (IntKind.i64.wrap ((↑i : Int) + (1 : Int))))]
                          [((144 : Nat),
                              { w := true,
                                b :=
                                  EB.arr (90 : Nat) (Ty.int IntKind.u32)
                                    (out.set (↑i : Int).toNat
                                      (IntKind.u32.wrap
                                        ((ibit BinOp.or IntKind.u64
                                              (IntKind.u64.wrap (IntKind.u64.wrap (dig xs (IntKind.i64.wrap ((↑i : Int) + (1 : Int)))) * (2 : Int) ^ min (Int.toNat (32 : Int)) IntKind.u64.bits))
                                              (IntKind.u64.wrap (xs.getD (↑i : Int).toNat (0 : Int)))).fdiv
                                          ((2 : Int) ^ min n.toNat IntKind.u64.bits)))) })])))))))))))
    (PT.leaf (PE.exit (0 : Nat) [TV.lf (Leaf.ref (144 : Nat))] [((144 : Nat), { w := true, b := EB.arr (90 : Nat) (Ty.int IntKind.u32) out })]))) := by kernel_rfl


theorem down_nf (xs : List Int) (n : Int) : ((evFn pg (tab [eAt, eCut]) (loopsTold dnLoop) f_nat_down (codeOf f_nat_down) [D32 xs, I64 n] []).pt (outEv pg f_nat_down 0 [.toDat 4] true)) =
    PT.rq (3 : Nat)
  (PT.req
    (decide ((0 : Int) ≤ (↑xs.length : Int)) && decide ((↑xs.length : Int) = (↑xs.length : Int)) && decide ((↑(pg.bytesOf (90 : Nat)) : Int) * (↑xs.length : Int) ≤ (281474976710656 : Int)) &&
      decide ((↑xs.length : Int) ≤ (9223372036854775807 : Int)))
    (PT.rq (4 : Nat)
      (PT.req
        (decide ((0 : Int) ≤ n) && decide (n < (32 : Int)) && decide ((0 : Int) ≤ (0 : Int)) && decide ((0 : Int) ≤ (↑xs.length : Int)) &&
                decide ((↑xs.length : Int) = (↑(List.replicate (↑xs.length : Int).toNat (0 : Int)).length : Int)) &&
              decide (xs.length = (List.replicate (↑xs.length : Int).toNat (0 : Int)).length) &&
            decide ((List.replicate (↑xs.length : Int).toNat (0 : Int)).length ≤ (2 : Nat) ^ (41 : Nat)) &&
          wfd B32 xs)
        (PT.rq (1 : Nat)
          (PT.req
            (decide ((fillN (downF B32 n.toNat xs) ((↑xs.length : Int) - (0 : Int)).toNat (Int.toNat (0 : Int)) (List.replicate (↑xs.length : Int).toNat (0 : Int))).length ≤ (2 : Nat) ^ (40 : Nat)) &&
              wfd B32 (fillN (downF B32 n.toNat xs) ((↑xs.length : Int) - (0 : Int)).toNat (Int.toNat (0 : Int)) (List.replicate (↑xs.length : Int).toNat (0 : Int))))
            (PT.rq (1 : Nat)
              (PT.leaf
                (PE.out
                  { vc := true,
                    val :=
                      TV.lf
                        (Leaf.dat (Ty.int IntKind.u32)
                          (digs B32 (val B32 (fillN (downF B32 n.toNat xs) ((↑xs.length : Int) - (0 : Int)).toNat (Int.toNat (0 : Int)) (List.replicate (↑xs.length : Int).toNat (0 : Int)))))),
                    shares := true })))))))) := by kernel_rfl


theorem dn_loop : LoopOK pg (loopsTold dnLoop) (lp 0 (codeOf f_nat_down) 0) := by
  refine loop_see pg_mixed (T := tab [eAt, eCut]) (tab_sound ⟨at_ok, cut_ok, trivial⟩) (b := 0) (len := 36) (body := (lp 0 (codeOf f_nat_down) 0).2) (ch := dnH) (cx := dnX) (cr := dnX)
    (fun x : (List Int × List Int) × Nat × Nat => ([D32 x.1.1, I64 (x.2.1 : Int), .lf (.ref 144), I64 (x.1.2.length : Nat), I64 (x.2.2 : Nat)], [(144, Row32 x.1.2)]))
    (fun x => wfd B32 x.1.1 = true ∧ x.2.1 < 32 ∧ x.2.2 ≤ x.1.2.length ∧ x.1.1.length = x.1.2.length ∧ x.1.2.length ≤ 2 ^ 41) (fun x => x.1.2.length - x.2.2)
    (fun x => .leaf (.exit 0 (spSt 36 [5] [.lf (.ref 144)] [(144, Row32 (fillN (downF B32 x.2.1 x.1.1) (x.1.2.length - x.2.2) x.2.2 x.1.2))])))
    regs_told (loops_told0 (by kernel_rfl)) dnDec (fun _ => rfl) ?_ ?_
  · intro vs hp t h K hK
    unfold dnDec at h
    split at h
    · rename_i xs n m i out
      cases h
      obtain ⟨hc, hK⟩ := hK
      simp only [Bool.and_eq_true, decide_eq_true_eq] at hc
      obtain ⟨⟨⟨⟨⟨⟨⟨h1, h2⟩, h3⟩, h4⟩, h5⟩, h6⟩, h7⟩, h8⟩ := hc
      obtain ⟨n, rfl⟩ := Int.eq_ofNat_of_zero_le h1
      obtain ⟨i, rfl⟩ := Int.eq_ofNat_of_zero_le h3
      subst h5
      have e : ((out.length : Int) - (i : Int)).toNat = out.length - i := by omega
      simp only [e, Int.toNat_natCast] at hK
      exact ⟨((xs, out), n, i), rfl, ⟨h8, by simp only; omega, by simp only; omega, h6, h7⟩, hK⟩
    · cases h
  · rintro ⟨⟨xs, out⟩, n, i⟩ ⟨h1, h3, h4, h5, h6⟩ K hK
    simp only at h1 h3 h4 h5 h6 hK ⊢
    rw [dn_round]
    have d0 := dig_bd h1 i
    have d1 := dig_bd h1 (i + 1)
    have hg : xs.getD i 0 = dig xs i := (dig_nat xs i).symm
    have w2 : IntKind.i64.wrap ((i : Int) + 1) = ((i + 1 : Nat) : Int) := by rw [i64_in] <;> omega
    have hmin : min n IntKind.u64.bits = n := Nat.min_eq_left (by show n ≤ 64; omega)
    have p32 : (2 : Int) ^ min (Int.toNat (32 : Int)) IntKind.u64.bits = 4294967296 := rfl
    simp only [Int.toNat_natCast, w2, hg, hmin, p32]
    have wa : IntKind.u64.wrap (dig xs i) = (((dig xs i).toNat : Nat) : Int) := by rw [u64_in] <;> omega
    have wb : IntKind.u64.wrap (dig xs ((i + 1 : Nat) : Int)) = (((dig xs ((i + 1 : Nat) : Int)).toNat : Nat) : Int) := by rw [u64_in] <;> omega
    have hF : downF B32 n xs i = ((((dig xs (i + 1 : Nat)).toNat * B32 + (dig xs i).toNat) / 2 ^ n % B32 : Nat) : Int) := rfl
    have a0 : (dig xs i).toNat < 4294967296 := by omega
    have a1 : (dig xs (i + 1 : Nat)).toNat < 4294967296 := by omega
    rw [wa, wb]
    generalize (dig xs i).toNat = y0 at *
    generalize (dig xs ((i + 1 : Nat) : Int)).toNat = y1 at *
    have wc : IntKind.u64.wrap ((y1 : Int) * 4294967296) = ((y1 * 2 ^ 32 : Nat) : Int) := by rw [u64_in] <;> omega
    have ho : ibit .or .u64 ((y1 * 2 ^ 32 : Nat) : Int) (y0 : Int) = ((y1 * B32 + y0 : Nat) : Int) := by
      rw [ibit_or (by omega) (by omega), or_add (by omega)]
    have hs : ((y1 * B32 + y0 : Nat) : Int).fdiv ((2 : Int) ^ n) = (((y1 * B32 + y0) / 2 ^ n : Nat) : Int) := by
      rw [Int.fdiv_eq_ediv_of_nonneg _ (Int.le_of_lt (Int.pow_pos (by decide))), Int.natCast_ediv, Int.natCast_pow]
      rfl
    have hw : IntKind.u32.wrap (((y1 * B32 + y0) / 2 ^ n : Nat) : Int) = downF B32 n xs i := by
      rw [hF, wrap_u32]
      exact (Int.natCast_emod _ _).symm
    rw [wc, ho, hs, hw]
    simp only [PT.sat_rq, PT.sat_req, PT.sat_ite, PT.sat_leaf, decide_eq_true_eq, decide_eq_false_iff_not, Bool.and_eq_true]
    refine ⟨fun h0 => ?_, fun h0 => ?_⟩
    · obtain ⟨r, hr⟩ : ∃ r, out.length - i = r + 1 := ⟨out.length - i - 1, by omega⟩
      have hr' : out.length - (i + 1) = r := by omega
      rw [hr] at hK
      refine ⟨by omega, ⟨by omega, by omega⟩, by omega, ⟨by omega, by omega⟩, ((xs, out.set i (downF B32 n xs i)), n, i + 1), by simp only [List.length_set], ⟨h1, h3, by simp only [List.length_set]; omega, by simp only [List.length_set]; exact h5, by simp only [List.length_set]; exact h6⟩, by simp only [List.length_set]; omega, ?_⟩
      simp only [List.length_set, hr']
      exact hK
    · have hr : out.length - i = 0 := by omega
      rw [hr] at hK
      exact hK

def aDown : List TV → List Ent → Option CallRes
  | [.lf (.dat (.int .u32) xs), .lf (.int .i64 n)], [] => some ⟨decide (xs.length ≤ 2 ^ 39) && wfd B32 xs && decide (0 ≤ n) && decide (n < 32), D32 (digs B32 (val B32 xs / 2 ^ n.toNat)), [], [], true⟩
  | _, _ => none
def eDown : Entry := .data n_nat_down [L32, []] aDown

theorem down_ok : eDown.ok pg := Entry.data_ok <| by
  intro args es r h hv
  unfold aDown at h
  simp only at h
  split at h
  · rename_i xs n
    cases h
    simp only [Bool.and_eq_true, decide_eq_true_eq] at hv
    obtain ⟨⟨⟨h1, h2⟩, h3⟩, h4⟩ := hv
    refine entry_ok (fn := f_nat_down) pg_mixed (T := tab [eAt, eCut]) (tab_sound ⟨at_ok, cut_ok, trivial⟩) (L := loopsTold dnLoop) (by kernel_rfl) (by kernel_rfl) (by kernel_rfl) regs_told
      (loops_told1 (by kernel_rfl) dn_loop) [.toDat 4] ?_
    simp only [List.length_nil]
    rw [down_nf]
    have hv := down_val (n := n.toNat) (by omega) h2
    have e1 : ((xs.length : Int) - 0).toNat = xs.length := by omega
    have hle : val B32 xs / 2 ^ n.toNat < B32 ^ xs.length := Nat.lt_of_le_of_lt (Nat.div_le_self _ _) (val_lt (by decide) h2)
    simp only [bytesU32, Int.toNat_natCast, Int.toNat_zero, List.length_replicate, e1, hv, fixd_len, fixd_val, Nat.mod_eq_of_lt hle]
    have hw := fixd_wf (b := B32) (by decide) xs.length (val B32 xs / 2 ^ n.toNat)
    simp only [PT.sat_rq, PT.sat_req, PT.sat_leaf, decide_eq_true_eq, Bool.and_eq_true, h2, hw]
    refine ⟨⟨⟨⟨by omega, trivial⟩, by omega⟩, by omega⟩, ⟨⟨⟨⟨⟨⟨⟨h3, h4⟩, by omega⟩, by omega⟩, trivial⟩, trivial⟩, by omega⟩, trivial⟩, ⟨by omega, trivial⟩, by first | rfl | trivial, by first | rfl | trivial, by first | rfl | trivial⟩
  · cases h

end Go.Proofs.Ytlfdidaeachpoaa

/- Long numbers: leading zeros. -/
namespace Go.Proofs.Ytlfdidaeachpoaa
open Go Go.RowKit
set_option maxRecDepth 100000

theorem lz32_nf (x : Int) : ((evFn pg (tab [eLen32]) noLoops f_math_bits_LeadingZeros32 (codeOf f_math_bits_LeadingZeros32) [U32 x] []).pt (outEv pg f_math_bits_LeadingZeros32 0 [] false)) =
    PT.rq (2 : Nat)
  (PT.req (decide ((0 : Int) ≤ x) && decide (x < (4294967296 : Int)))
    (PT.rq (2 : Nat) (PT.leaf (PE.out { vc := true, val := TV.lf (Leaf.int IntKind.i64 (IntKind.i64.wrap ((32 : Int) - (↑(bl x.toNat) : Int)))) })))) := by kernel_rfl


def aLz32 : List TV → List Ent → Option CallRes
  | [.lf (.int .u32 x)], [] => some ⟨decide (0 ≤ x) && decide (x < 4294967296), I64 (32 - bl x.toNat), [], [], false⟩
  | _, _ => none
def eLz32 : Entry := ⟨n_math_bits_LeadingZeros32, aLz32⟩

theorem lz32_ok : eLz32.ok pg := by
  intro args es r h hv
  unfold eLz32 aLz32 at h
  simp only at h
  split at h
  · rename_i x
    cases h
    simp only [Bool.and_eq_true, decide_eq_true_eq] at hv
    refine entry_ok (fn := f_math_bits_LeadingZeros32) pg_mixed (T := tab [eLen32]) (tab_sound ⟨len32_ok, trivial⟩) (L := noLoops) (by kernel_rfl) (by kernel_rfl) (by kernel_rfl) regs_told (loops_told0 (by kernel_rfl)) [] ?_
    simp only [List.length_nil]
    rw [lz32_nf]
    have hb : bl x.toNat ≤ 32 := bl_le.2 (by omega)
    have w : IntKind.i64.wrap (32 - (bl x.toNat : Int)) = 32 - (bl x.toNat : Int) := i64_in (by omega)
    simp only [PT.sat_rq, PT.sat_req, PT.sat_leaf, decide_eq_true_eq, Bool.and_eq_true, w]
    exact ⟨hv, by first | rfl | trivial, by first | rfl | trivial, by first | rfl | trivial⟩
  · cases h

end Go.Proofs.Ytlfdidaeachpoaa

/- The contracts so far, under the functions' names. -/
namespace Go.Proofs.Ytlfdidaeachpoaa
open Go Go.RowKit

abbrev e_slices_Clone_api_Nat_uint32 (_ : Nat) : Entry := eClone32
theorem e_slices_Clone_api_Nat_uint32_ok (n : Nat) : (e_slices_Clone_api_Nat_uint32 n).ok pg := clone32_ok
abbrev e_nat_at (_ : Nat) : Entry := eAt
theorem e_nat_at_ok (n : Nat) : (e_nat_at n).ok pg := at_ok
abbrev e_nat_Cut (_ : Nat) : Entry := eCut
theorem e_nat_Cut_ok (n : Nat) : (e_nat_Cut n).ok pg := cut_ok
abbrev e_nat_plus (_ : Nat) : Entry := ePlus
theorem e_nat_plus_ok (n : Nat) : (e_nat_plus n).ok pg := plus_ok
abbrev e_nat_Of (_ : Nat) : Entry := eOf
theorem e_nat_Of_ok (n : Nat) : (e_nat_Of n).ok pg := of_ok
abbrev e_nat_Add (_ : Nat) : Entry := eAdd
theorem e_nat_Add_ok (n : Nat) : (e_nat_Add n).ok pg := add_ok
abbrev e_cmp_isNaN_uint32 (_ : Nat) : Entry := eNan32
theorem e_cmp_isNaN_uint32_ok (n : Nat) : (e_cmp_isNaN_uint32 n).ok pg := nan32_ok
abbrev e_cmp_Compare_uint32 (_ : Nat) : Entry := eCompare32
theorem e_cmp_Compare_uint32_ok (n : Nat) : (e_cmp_Compare_uint32 n).ok pg := compare32_ok
abbrev e_nat_Cmp (_ : Nat) : Entry := eCmp
theorem e_nat_Cmp_ok (n : Nat) : (e_nat_Cmp n).ok pg := cmp_ok
abbrev e_math_bits_Len32 (_ : Nat) : Entry := eLen32
theorem e_math_bits_Len32_ok (n : Nat) : (e_math_bits_Len32 n).ok pg := len32_ok
abbrev e_nat_Bits (_ : Nat) : Entry := eBits
theorem e_nat_Bits_ok (n : Nat) : (e_nat_Bits n).ok pg := bits_ok
abbrev e_nat_Word (_ : Nat) : Entry := eWord
theorem e_nat_Word_ok (n : Nat) : (e_nat_Word n).ok pg := word_ok
abbrev e_nat_times (_ : Nat) : Entry := eTimes
theorem e_nat_times_ok (n : Nat) : (e_nat_times n).ok pg := times_ok
abbrev e_nat_Mul (_ : Nat) : Entry := eMul
theorem e_nat_Mul_ok (n : Nat) : (e_nat_Mul n).ok pg := mul_ok
abbrev e_nat_short (_ : Nat) : Entry := eShort
theorem e_nat_short_ok (n : Nat) : (e_nat_short n).ok pg := short_ok
abbrev e_nat_shifted (_ : Nat) : Entry := eShifted
theorem e_nat_shifted_ok (n : Nat) : (e_nat_shifted n).ok pg := shifted_ok
abbrev e_nat_down (_ : Nat) : Entry := eDown
theorem e_nat_down_ok (n : Nat) : (e_nat_down n).ok pg := down_ok
abbrev e_math_bits_LeadingZeros32 (_ : Nat) : Entry := eLz32
theorem e_math_bits_LeadingZeros32_ok (n : Nat) : (e_math_bits_LeadingZeros32 n).ok pg := lz32_ok

end Go.Proofs.Ytlfdidaeachpoaa

/- Long division: its parts, by the tool. -/
namespace Go.Proofs.Ytlfdidaeachpoaa
open Go Go.RowKit
set_option maxRecDepth 100000
noncomputable section

abbrev nat_guess_T (n : Nat) : CallT := tab []
abbrev nat_guess_h0 : Cut := ⟨[.keep [0, 1, 2, 7, 9, 10], .gc], [0, 1, 2, 7, 9, 10]⟩
abbrev nat_guess_x0 : Cut := ⟨[.keep [9], .gc], [9]⟩
abbrev nat_guess_y0 : Cut := ⟨[.keep [6], .gc], [6]⟩
def nat_guess_mk0 (i : ((List Int) × ((List Int) × (Int × Int)))) (x : (Int × Int)) : List TV × List (Nat × Ent) := ([.lf (.dat (Ty.int IntKind.u32) i.1), .lf (.dat (Ty.int IntKind.u32) i.2.1), .lf (.int IntKind.i64 i.2.2.1), .lf (.int IntKind.i64 i.2.2.2), .lf (.int IntKind.u64 x.1), .lf (.int IntKind.u64 x.2)], [])
def nat_guess_pt0 : List TV → List (Nat × Ent) → Option (((List Int) × ((List Int) × (Int × Int))) × (Int × Int))
  | [.lf (.dat (Ty.int IntKind.u32) x0), .lf (.dat (Ty.int IntKind.u32) x1), .lf (.int IntKind.i64 x2), .lf (.int IntKind.i64 x7), .lf (.int IntKind.u64 x9), .lf (.int IntKind.u64 x10)], [] => some ((x0, x1, x2, x7), (x9, x10))
  | _, _ => none
def nat_guess_ev0 (i : ((List Int) × ((List Int) × (Int × Int)))) (r : Int) : PE := .exit 0 [.lf (.int IntKind.u64 r)] []
def nat_guess_an0 (i : ((List Int) × ((List Int) × (Int × Int)))) (r : Int) : Tree := .leaf (.exit 0 (spSt 83 [9] [.lf (.int IntKind.u64 r)] []))
def nat_guess_b0 (n : Nat) (x0 : (List Int)) (x1 : (List Int)) (x2 : Int) (x7 : Int) (x9 : Int) (x10 : Int) : RT (Int × Int) Int :=
  (.rq 3 (.ite (decide ((4294967296 : Int) ≤ x9))
  (.rq 1 (.ite (true)
  (.rq 7 (.req (decide ((0 : Int) ≤ IntKind.i64.wrap (x7 - (1 : Int))) && decide (IntKind.i64.wrap (x7 - (1 : Int)) < (↑x1.length : Int)))
  (.rq 6 (.ite (decide ((4294967296 : Int) ≤ IntKind.u64.wrap (x10 + IntKind.u64.wrap (x1.getD (IntKind.i64.wrap (x7 - (1 : Int))).toNat (0 : Int)))))
  (.done (IntKind.u64.wrap (x9 - (1 : Int))))
  (.again ((IntKind.u64.wrap (x9 - (1 : Int)), IntKind.u64.wrap (x10 + IntKind.u64.wrap (x1.getD (IntKind.i64.wrap (x7 - (1 : Int))).toNat (0 : Int))))))))))
  (.done x9)))
  (.rq 4 (.req (decide ((0 : Int) ≤ IntKind.i64.wrap (x7 - (2 : Int))) && decide (IntKind.i64.wrap (x7 - (2 : Int)) < (↑x1.length : Int)))
  (.rq 10 (.req (decide ((0 : Int) ≤ IntKind.i64.wrap (IntKind.i64.wrap (x2 + x7) - (2 : Int))) && decide (IntKind.i64.wrap (IntKind.i64.wrap (x2 + x7) - (2 : Int)) < (↑x0.length : Int)))
  (.rq 5 (.ite (decide
  (ibit BinOp.or IntKind.u64 (IntKind.u64.wrap (x10 * (4294967296 : Int))) (IntKind.u64.wrap (x0.getD (IntKind.i64.wrap (IntKind.i64.wrap (x2 + x7) - (2 : Int))).toNat (0 : Int))) <
    IntKind.u64.wrap (x9 * IntKind.u64.wrap (x1.getD (IntKind.i64.wrap (x7 - (2 : Int))).toNat (0 : Int)))))
  (.rq 7 (.req (decide ((0 : Int) ≤ IntKind.i64.wrap (x7 - (1 : Int))) && decide (IntKind.i64.wrap (x7 - (1 : Int)) < (↑x1.length : Int)))
  (.rq 6 (.ite (decide ((4294967296 : Int) ≤ IntKind.u64.wrap (x10 + IntKind.u64.wrap (x1.getD (IntKind.i64.wrap (x7 - (1 : Int))).toNat (0 : Int)))))
  (.done (IntKind.u64.wrap (x9 - (1 : Int))))
  (.again ((IntKind.u64.wrap (x9 - (1 : Int)), IntKind.u64.wrap (x10 + IntKind.u64.wrap (x1.getD (IntKind.i64.wrap (x7 - (1 : Int))).toNat (0 : Int))))))))))
  (.done x9)))))))))
def nat_guess_l0 (n : Nat) (i : ((List Int) × ((List Int) × (Int × Int)))) : Nat → (Int × Int) → Option Int := loopN (fun rec x => (nat_guess_b0 n i.1 i.2.1 i.2.2.1 i.2.2.2 x.1 x.2).run rec)
theorem nat_guess_l0_s (n : Nat) (i : ((List Int) × ((List Int) × (Int × Int)))) (k : Nat) (x : (Int × Int)) : nat_guess_l0 n i (k + 1) x = (nat_guess_b0 n i.1 i.2.1 i.2.2.1 i.2.2.2 x.1 x.2).run (nat_guess_l0 n i k) := rfl
def nat_guess_t0 (n : Nat) (σ : St) : Option Tree := match seeSt nat_guess_h0.plan nat_guess_h0.ts 83 σ with
  | some y => (match nat_guess_pt0 y.1 y.2 with
    | some x => some (loopAns (nat_guess_l0 n x.1 n x.2) (nat_guess_an0 x.1))
    | none => none)
  | none => none
def nat_guess_told (n : Nat) : Nat → St → Option Tree
  | 0, σ => nat_guess_t0 n σ
  | _, _ => none
def nat_guess_res (y : Int) : CallRes := ⟨true, .lf (.int IntKind.u64 y), [], [], false⟩
def nat_guess (n : Nat) (a0 : (List Int)) (a1 : (List Int)) (a2 : Int) : RT Unit Int :=
  (.rq 8 (.req (decide ((0 : Int) ≤ IntKind.i64.wrap (a2 + (↑a1.length : Int))) && decide (IntKind.i64.wrap (a2 + (↑a1.length : Int)) < (↑a0.length : Int)))
  (.rq 8 (.req (decide ((0 : Int) ≤ IntKind.i64.wrap (IntKind.i64.wrap (a2 + (↑a1.length : Int)) - (1 : Int))) && decide (IntKind.i64.wrap (IntKind.i64.wrap (a2 + (↑a1.length : Int)) - (1 : Int)) < (↑a0.length : Int)))
  (.rq 8 (.req (decide ((0 : Int) ≤ IntKind.i64.wrap ((↑a1.length : Int) - (1 : Int))) && decide (IntKind.i64.wrap ((↑a1.length : Int) - (1 : Int)) < (↑a1.length : Int)))
  (.rq 2 (.req (IntKind.u64.wrap (a1.getD (IntKind.i64.wrap ((↑a1.length : Int) - (1 : Int))).toNat (0 : Int)) != (0 : Int))
  (.rq 4 (.req (decide ((0 : Int) ≤ IntKind.i64.wrap ((↑a1.length : Int) - (1 : Int))) && decide (IntKind.i64.wrap ((↑a1.length : Int) - (1 : Int)) < (↑a1.length : Int)))
  (.rq 2 (.req (IntKind.u64.wrap (a1.getD (IntKind.i64.wrap ((↑a1.length : Int) - (1 : Int))).toNat (0 : Int)) != (0 : Int))
  (.rq 2 (.call (nat_guess_l0 n (a0, a1, a2, (↑a1.length : Int)) n
  (IntKind.u64.wrap
      ((ibit BinOp.or IntKind.u64 (IntKind.u64.wrap (IntKind.u64.wrap (a0.getD (IntKind.i64.wrap (a2 + (↑a1.length : Int))).toNat (0 : Int)) * (4294967296 : Int)))
            (IntKind.u64.wrap (a0.getD (IntKind.i64.wrap (IntKind.i64.wrap (a2 + (↑a1.length : Int)) - (1 : Int))).toNat (0 : Int)))).tdiv
        (IntKind.u64.wrap (a1.getD (IntKind.i64.wrap ((↑a1.length : Int) - (1 : Int))).toNat (0 : Int)))),
    (ibit BinOp.or IntKind.u64 (IntKind.u64.wrap (IntKind.u64.wrap (a0.getD (IntKind.i64.wrap (a2 + (↑a1.length : Int))).toNat (0 : Int)) * (4294967296 : Int)))
          (IntKind.u64.wrap (a0.getD (IntKind.i64.wrap (IntKind.i64.wrap (a2 + (↑a1.length : Int)) - (1 : Int))).toNat (0 : Int)))).tmod
      (IntKind.u64.wrap (a1.getD (IntKind.i64.wrap ((↑a1.length : Int) - (1 : Int))).toNat (0 : Int))))) default fun v0 =>
  (.rq 2 (.done v0))))))))))))))))
def F_nat_guess (n : Nat) (x : ((List Int) × ((List Int) × Int))) : Option Int := (nat_guess n x.1 x.2.1 x.2.2).run fun _ => none
def nat_guess_ans (F : ((List Int) × ((List Int) × Int)) → Option Int) : List TV → List Ent → Option CallRes
  | [.lf (.dat (Ty.int IntKind.u32) a0), .lf (.dat (Ty.int IntKind.u32) a1), .lf (.int IntKind.i64 a2)], [] => some (callAns (F (a0, a1, a2)) nat_guess_res)
  | _, _ => none
def en_nat_guess (F : ((List Int) × ((List Int) × Int)) → Option Int) : Entry := .data n_nat_guess [[Ty.sl (Ty.int IntKind.u32)], [Ty.sl (Ty.int IntKind.u32)], [Ty.int IntKind.i64]] (nat_guess_ans F)
abbrev e_nat_guess (n : Nat) : Entry := en_nat_guess (F_nat_guess n)
theorem nat_guess_T_ok (n : Nat) : SoundT pg (nat_guess_T n) := tab_sound trivial
theorem nat_guess_r0 (n : Nat) (x0 : (List Int)) (x1 : (List Int)) (x2 : Int) (x7 : Int) (x9 : Int) (x10 : Int) : (evCode pg (nat_guess_T n) (loopsTold (nat_guess_told n)) 0 (lp 0 (codeOf f_nat_guess) 0).2 (spSt 83 nat_guess_h0.ts [.lf (.dat (Ty.int IntKind.u32) x0), .lf (.dat (Ty.int IntKind.u32) x1), .lf (.int IntKind.i64 x2), .lf (.int IntKind.i64 x7), .lf (.int IntKind.u64 x9), .lf (.int IntKind.u64 x10)] [])).pt (seeEv 83 nat_guess_h0 nat_guess_x0 nat_guess_y0) =
    (nat_guess_b0 n x0 x1 x2 x7 x9 x10).pt (fun x' => .norm (nat_guess_mk0 (x0, x1, x2, x7) x').1 (nat_guess_mk0 (x0, x1, x2, x7) x').2) (nat_guess_ev0 (x0, x1, x2, x7)) := by kernel_rfl
theorem nat_guess_pm0 : ∀ vs hp x, nat_guess_pt0 vs hp = some x → nat_guess_mk0 x.1 x.2 = (vs, hp) := by
  intro vs hp x h
  unfold nat_guess_pt0 at h
  split at h <;> first | (cases h; rfl) | cases h
theorem nat_guess_k0 (n : Nat) : LoopOK pg (loopsTold (nat_guess_told n)) (lp 0 (codeOf f_nat_guess) 0) :=
  loop_lift pg_mixed (T := (nat_guess_T n)) (nat_guess_T_ok n) (b := 0) (len := 83) (body := (lp 0 (codeOf f_nat_guess) 0).2) (ch := nat_guess_h0) (cx := nat_guess_x0) (cr := nat_guess_y0) nat_guess_mk0 nat_guess_ev0 nat_guess_an0 (fun i x => nat_guess_b0 n i.1 i.2.1 i.2.2.1 i.2.2.2 x.1 x.2) n nat_guess_pt0 nat_guess_pm0 (fun i r K h => h)
    regs_told (loops_told0 (by kernel_rfl)) (fun _ => by kernel_rfl) (fun i x => nat_guess_r0 n i.1 i.2.1 i.2.2.1 i.2.2.2 x.1 x.2)
theorem nat_guess_e (n : Nat) (a0 : (List Int)) (a1 : (List Int)) (a2 : Int) : (evFn pg (nat_guess_T n) (loopsTold (nat_guess_told n)) f_nat_guess (codeOf f_nat_guess) [.lf (.dat (Ty.int IntKind.u32) a0), .lf (.dat (Ty.int IntKind.u32) a1), .lf (.int IntKind.i64 a2)] []).pt (outEv pg f_nat_guess 0 [] false) =
    (nat_guess n a0 a1 a2).pt (fun _ => .norm [] []) (fun y => .out (nat_guess_res y)) := by kernel_rfl
theorem nat_guess_call (n : Nat) (a0 : (List Int)) (a1 : (List Int)) (a2 : Int) (y : Int) (hy : F_nat_guess n (a0, a1, a2) = some y) : Enters pg n_nat_guess ∧ CallOK pg n_nat_guess [.lf (.dat (Ty.int IntKind.u32) a0), .lf (.dat (Ty.int IntKind.u32) a1), .lf (.int IntKind.i64 a2)] [] (nat_guess_res y) := fn_lift (fn := f_nat_guess) pg_mixed (T := nat_guess_T n) (nat_guess_T_ok n) (L := loopsTold (nat_guess_told n)) (by kernel_rfl) (by kernel_rfl) (by kernel_rfl) regs_told (loops_told1 (by kernel_rfl) (nat_guess_k0 n)) (args := [.lf (.dat (Ty.int IntKind.u32) a0), .lf (.dat (Ty.int IntKind.u32) a1), .lf (.int IntKind.i64 a2)]) (es := []) nat_guess_res [] false (fun _ => rfl) (nat_guess n a0 a1 a2) (nat_guess_e n a0 a1 a2) hy
theorem en_nat_guess_ok (n : Nat) : (en_nat_guess (F_nat_guess n)).ok pg := Entry.data_ok <| by
  intro args es r h hv
  unfold nat_guess_ans at h
  simp only at h
  split at h
  · rename_i a0 a1 a2
    cases h
    exact callAns_ok (fun y hy => nat_guess_call n a0 a1 a2 y hy) hv
  · cases h
/-- The function, by what it is known to tell. -/
def sp_nat_guess (C : ((List Int) × ((List Int) × Int)) → Bool) (V : ((List Int) × ((List Int) × Int)) → Int) : Entry := .data n_nat_guess [[Ty.sl (Ty.int IntKind.u32)], [Ty.sl (Ty.int IntKind.u32)], [Ty.int IntKind.i64]] fun args es => match args, es with
  | [.lf (.dat (Ty.int IntKind.u32) a0), .lf (.dat (Ty.int IntKind.u32) a1), .lf (.int IntKind.i64 a2)], [] => some { nat_guess_res (V (a0, a1, a2)) with vc := C (a0, a1, a2) }
  | _, _ => none
theorem sp_nat_guess_ok {C : ((List Int) × ((List Int) × Int)) → Bool} {V : ((List Int) × ((List Int) × Int)) → Int} (H : ∀ x, C x = true → ∃ n, F_nat_guess n x = some (V x)) : (sp_nat_guess C V).ok pg := Entry.data_ok <| by
  intro args es r h hv
  simp only at h
  split at h
  · rename_i a0 a1 a2
    cases h
    obtain ⟨n, hn⟩ := H (a0, a1, a2) hv
    exact ⟨(nat_guess_call n a0 a1 a2 _ hn).1, (nat_guess_call n a0 a1 a2 _ hn).2.vc⟩
  · cases h
theorem e_nat_guess_ok (n : Nat) : (e_nat_guess n).ok pg := en_nat_guess_ok n


abbrev nat_away_T (n : Nat) : CallT := tab [e_nat_at n]
abbrev nat_away_h0 : Cut := ⟨[.keep [0, 1, 2, 3, 9, 10, 15, 16], .gc], [0, 1, 2, 3, 9, 10, 15, 16]⟩
abbrev nat_away_x0 : Cut := ⟨[.keep [10], .gc], [10]⟩
abbrev nat_away_y0 : Cut := ⟨[.keep [8], .gc], [8]⟩
def nat_away_mk0 (i : ((List Int) × (Int × (Int × Int)))) (x : (Int × (Int × (Int × (List Int))))) : List TV × List (Nat × Ent) := ([.lf (.ref 1048576), .lf (.dat (Ty.int IntKind.u32) i.1), .lf (.int IntKind.i64 i.2.1), .lf (.int IntKind.u64 i.2.2.1), .lf (.int IntKind.u64 x.1), .lf (.int IntKind.u64 x.2.1), .lf (.int IntKind.i64 i.2.2.2), .lf (.int IntKind.i64 x.2.2.1)], [(1048576, ⟨true, .arr 90 (Ty.int IntKind.u32) x.2.2.2⟩)])
def nat_away_pt0 : List TV → List (Nat × Ent) → Option (((List Int) × (Int × (Int × Int))) × (Int × (Int × (Int × (List Int)))))
  | [.lf (.ref 1048576), .lf (.dat (Ty.int IntKind.u32) x1), .lf (.int IntKind.i64 x2), .lf (.int IntKind.u64 x3), .lf (.int IntKind.u64 x9), .lf (.int IntKind.u64 x10), .lf (.int IntKind.i64 x15), .lf (.int IntKind.i64 x16)], [(1048576, ⟨true, .arr 90 (Ty.int IntKind.u32) h0⟩)] => some ((x1, x2, x3, x15), (x9, x10, x16, h0))
  | _, _ => none
def nat_away_ev0 (i : ((List Int) × (Int × (Int × Int)))) (r : (Int × (List Int))) : PE := .exit 0 [.lf (.int IntKind.u64 r.1)] [(1048576, ⟨true, .arr 90 (Ty.int IntKind.u32) r.2⟩)]
def nat_away_an0 (i : ((List Int) × (Int × (Int × Int)))) (r : (Int × (List Int))) : Tree := .leaf (.exit 0 (spSt 53 [10] [.lf (.int IntKind.u64 r.1)] [(1048576, ⟨true, .arr 90 (Ty.int IntKind.u32) r.2⟩)]))
def nat_away_b0 (n : Nat) (x1 : (List Int)) (x2 : Int) (x3 : Int) (x15 : Int) (x9 : Int) (x10 : Int) (x16 : Int) (h0 : (List Int)) : RT (Int × (Int × (Int × (List Int)))) (Int × (List Int)) :=
  (.rq 1 (.ite (decide (x16 < x15))
  (.rq 6 (.req (decide ((0 : Int) ≤ x16))
  (.rq 8 (.req (decide ((0 : Int) ≤ IntKind.i64.wrap (x2 + x16)) && decide (IntKind.i64.wrap (x2 + x16) < (↑h0.length : Int)))
  (.rq 14 (.req (decide ((0 : Int) ≤ IntKind.i64.wrap (x2 + x16)) && decide (IntKind.i64.wrap (x2 + x16) < (↑h0.length : Int)))
  (.rq 9 (.again (((IntKind.u64.wrap (x9 + IntKind.u64.wrap (x3 * IntKind.u64.wrap (dig x1 x16)))).fdiv (4294967296 : Int), (IntKind.u64.wrap
      (IntKind.u64.wrap (IntKind.u64.wrap (h0.getD (IntKind.i64.wrap (x2 + x16)).toNat (0 : Int)) - ibit BinOp.and IntKind.u64 (IntKind.u64.wrap (x9 + IntKind.u64.wrap (x3 * IntKind.u64.wrap (dig x1 x16)))) (4294967295 : Int)) - x10)).fdiv
  (9223372036854775808 : Int), IntKind.i64.wrap (x16 + (1 : Int)), h0.set (IntKind.i64.wrap (x2 + x16)).toNat
  (IntKind.u32.wrap
    (IntKind.u64.wrap
      (IntKind.u64.wrap (IntKind.u64.wrap (h0.getD (IntKind.i64.wrap (x2 + x16)).toNat (0 : Int)) - ibit BinOp.and IntKind.u64 (IntKind.u64.wrap (x9 + IntKind.u64.wrap (x3 * IntKind.u64.wrap (dig x1 x16)))) (4294967295 : Int)) - x10)))))))))))))
  (.done ((x10, h0)))))
def nat_away_l0 (n : Nat) (i : ((List Int) × (Int × (Int × Int)))) : Nat → (Int × (Int × (Int × (List Int)))) → Option (Int × (List Int)) := loopN (fun rec x => (nat_away_b0 n i.1 i.2.1 i.2.2.1 i.2.2.2 x.1 x.2.1 x.2.2.1 x.2.2.2).run rec)
theorem nat_away_l0_s (n : Nat) (i : ((List Int) × (Int × (Int × Int)))) (k : Nat) (x : (Int × (Int × (Int × (List Int))))) : nat_away_l0 n i (k + 1) x = (nat_away_b0 n i.1 i.2.1 i.2.2.1 i.2.2.2 x.1 x.2.1 x.2.2.1 x.2.2.2).run (nat_away_l0 n i k) := rfl
def nat_away_t0 (n : Nat) (σ : St) : Option Tree := match seeSt nat_away_h0.plan nat_away_h0.ts 53 σ with
  | some y => (match nat_away_pt0 y.1 y.2 with
    | some x => some (loopAns (nat_away_l0 n x.1 n x.2) (nat_away_an0 x.1))
    | none => none)
  | none => none
def nat_away_told (n : Nat) : Nat → St → Option Tree
  | 0, σ => nat_away_t0 n σ
  | _, _ => none
def nat_away_res (y : (Bool × (List Int))) : CallRes := ⟨true, .lf (.bool y.1), [⟨true, .arr 90 (Ty.int IntKind.u32) y.2⟩], [], false⟩
def nat_away (n : Nat) (a0 : (List Int)) (a1 : (List Int)) (a2 : Int) (a3 : Int) : RT Unit (Bool × (List Int)) :=
  (.rq 7 (.call (nat_away_l0 n (a1, a2, a3, IntKind.i64.wrap ((↑a1.length : Int) + (1 : Int))) n ((0 : Int), (0 : Int), (0 : Int), a0)) default fun v0 =>
  (.rq 3 (.done ((decide ((0 : Int) < v0.fst), v0.snd))))))
def F_nat_away (n : Nat) (x : ((List Int) × ((List Int) × (Int × Int)))) : Option (Bool × (List Int)) := (nat_away n x.1 x.2.1 x.2.2.1 x.2.2.2).run fun _ => none
def nat_away_ans (F : ((List Int) × ((List Int) × (Int × Int))) → Option (Bool × (List Int))) : List TV → List Ent → Option CallRes
  | [.lf (.ref 0), .lf (.dat (Ty.int IntKind.u32) a1), .lf (.int IntKind.i64 a2), .lf (.int IntKind.u64 a3)], [⟨true, .arr 90 (Ty.int IntKind.u32) a0⟩] => some (callAns (F (a0, a1, a2, a3)) nat_away_res)
  | _, _ => none
def en_nat_away (F : ((List Int) × ((List Int) × (Int × Int))) → Option (Bool × (List Int))) : Entry := .data n_nat_away [[], [Ty.sl (Ty.int IntKind.u32)], [Ty.int IntKind.i64], [Ty.int IntKind.u64]] (nat_away_ans F)
abbrev e_nat_away (n : Nat) : Entry := en_nat_away (F_nat_away n)
theorem nat_away_T_ok (n : Nat) : SoundT pg (nat_away_T n) := tab_sound ⟨e_nat_at_ok n, trivial⟩
theorem nat_away_r0 (n : Nat) (x1 : (List Int)) (x2 : Int) (x3 : Int) (x15 : Int) (x9 : Int) (x10 : Int) (x16 : Int) (h0 : (List Int)) : (evCode pg (nat_away_T n) (loopsTold (nat_away_told n)) 0 (lp 0 (codeOf f_nat_away) 0).2 (spSt 53 nat_away_h0.ts [.lf (.ref 1048576), .lf (.dat (Ty.int IntKind.u32) x1), .lf (.int IntKind.i64 x2), .lf (.int IntKind.u64 x3), .lf (.int IntKind.u64 x9), .lf (.int IntKind.u64 x10), .lf (.int IntKind.i64 x15), .lf (.int IntKind.i64 x16)] [(1048576, ⟨true, .arr 90 (Ty.int IntKind.u32) h0⟩)])).pt (seeEv 53 nat_away_h0 nat_away_x0 nat_away_y0) =
    (nat_away_b0 n x1 x2 x3 x15 x9 x10 x16 h0).pt (fun x' => .norm (nat_away_mk0 (x1, x2, x3, x15) x').1 (nat_away_mk0 (x1, x2, x3, x15) x').2) (nat_away_ev0 (x1, x2, x3, x15)) := by kernel_rfl
theorem nat_away_pm0 : ∀ vs hp x, nat_away_pt0 vs hp = some x → nat_away_mk0 x.1 x.2 = (vs, hp) := by
  intro vs hp x h
  unfold nat_away_pt0 at h
  split at h <;> first | (cases h; rfl) | cases h
theorem nat_away_k0 (n : Nat) : LoopOK pg (loopsTold (nat_away_told n)) (lp 0 (codeOf f_nat_away) 0) :=
  loop_lift pg_mixed (T := (nat_away_T n)) (nat_away_T_ok n) (b := 0) (len := 53) (body := (lp 0 (codeOf f_nat_away) 0).2) (ch := nat_away_h0) (cx := nat_away_x0) (cr := nat_away_y0) nat_away_mk0 nat_away_ev0 nat_away_an0 (fun i x => nat_away_b0 n i.1 i.2.1 i.2.2.1 i.2.2.2 x.1 x.2.1 x.2.2.1 x.2.2.2) n nat_away_pt0 nat_away_pm0 (fun i r K h => h)
    regs_told (loops_told0 (by kernel_rfl)) (fun _ => by kernel_rfl) (fun i x => nat_away_r0 n i.1 i.2.1 i.2.2.1 i.2.2.2 x.1 x.2.1 x.2.2.1 x.2.2.2)
theorem nat_away_e (n : Nat) (a0 : (List Int)) (a1 : (List Int)) (a2 : Int) (a3 : Int) : (evFn pg (nat_away_T n) (loopsTold (nat_away_told n)) f_nat_away (codeOf f_nat_away) [.lf (.ref 0), .lf (.dat (Ty.int IntKind.u32) a1), .lf (.int IntKind.i64 a2), .lf (.int IntKind.u64 a3)] [⟨true, .arr 90 (Ty.int IntKind.u32) a0⟩]).pt (outEv pg f_nat_away 1 [] false) =
    (nat_away n a0 a1 a2 a3).pt (fun _ => .norm [] []) (fun y => .out (nat_away_res y)) := by kernel_rfl
theorem nat_away_call (n : Nat) (a0 : (List Int)) (a1 : (List Int)) (a2 : Int) (a3 : Int) (y : (Bool × (List Int))) (hy : F_nat_away n (a0, a1, a2, a3) = some y) : Enters pg n_nat_away ∧ CallOK pg n_nat_away [.lf (.ref 0), .lf (.dat (Ty.int IntKind.u32) a1), .lf (.int IntKind.i64 a2), .lf (.int IntKind.u64 a3)] [⟨true, .arr 90 (Ty.int IntKind.u32) a0⟩] (nat_away_res y) := fn_lift (fn := f_nat_away) pg_mixed (T := nat_away_T n) (nat_away_T_ok n) (L := loopsTold (nat_away_told n)) (by kernel_rfl) (by kernel_rfl) (by kernel_rfl) regs_told (loops_told1 (by kernel_rfl) (nat_away_k0 n)) (args := [.lf (.ref 0), .lf (.dat (Ty.int IntKind.u32) a1), .lf (.int IntKind.i64 a2), .lf (.int IntKind.u64 a3)]) (es := [⟨true, .arr 90 (Ty.int IntKind.u32) a0⟩]) nat_away_res [] false (fun _ => rfl) (nat_away n a0 a1 a2 a3) (nat_away_e n a0 a1 a2 a3) hy
theorem en_nat_away_ok (n : Nat) : (en_nat_away (F_nat_away n)).ok pg := Entry.data_ok <| by
  intro args es r h hv
  unfold nat_away_ans at h
  simp only at h
  split at h
  · rename_i a1 a2 a3 a0
    cases h
    exact callAns_ok (fun y hy => nat_away_call n a0 a1 a2 a3 y hy) hv
  · cases h
/-- The function, by what it is known to tell. -/
def sp_nat_away (C : ((List Int) × ((List Int) × (Int × Int))) → Bool) (V : ((List Int) × ((List Int) × (Int × Int))) → (Bool × (List Int))) : Entry := .data n_nat_away [[], [Ty.sl (Ty.int IntKind.u32)], [Ty.int IntKind.i64], [Ty.int IntKind.u64]] fun args es => match args, es with
  | [.lf (.ref 0), .lf (.dat (Ty.int IntKind.u32) a1), .lf (.int IntKind.i64 a2), .lf (.int IntKind.u64 a3)], [⟨true, .arr 90 (Ty.int IntKind.u32) a0⟩] => some { nat_away_res (V (a0, a1, a2, a3)) with vc := C (a0, a1, a2, a3) }
  | _, _ => none
theorem sp_nat_away_ok {C : ((List Int) × ((List Int) × (Int × Int))) → Bool} {V : ((List Int) × ((List Int) × (Int × Int))) → (Bool × (List Int))} (H : ∀ x, C x = true → ∃ n, F_nat_away n x = some (V x)) : (sp_nat_away C V).ok pg := Entry.data_ok <| by
  intro args es r h hv
  simp only at h
  split at h
  · rename_i a1 a2 a3 a0
    cases h
    obtain ⟨n, hn⟩ := H (a0, a1, a2, a3) hv
    exact ⟨(nat_away_call n a0 a1 a2 a3 _ hn).1, (nat_away_call n a0 a1 a2 a3 _ hn).2.vc⟩
  · cases h
theorem e_nat_away_ok (n : Nat) : (e_nat_away n).ok pg := en_nat_away_ok n


abbrev nat_back_T (n : Nat) : CallT := tab [e_nat_at n]
abbrev nat_back_h0 : Cut := ⟨[.keep [0, 1, 2, 6, 10, 11], .gc], [0, 1, 2, 6, 10, 11]⟩
abbrev nat_back_x0 : Cut := ⟨[.keep [], .gc], []⟩
abbrev nat_back_y0 : Cut := ⟨[.keep [], .gc], []⟩
def nat_back_mk0 (i : ((List Int) × (Int × Int))) (x : (Int × (Int × (List Int)))) : List TV × List (Nat × Ent) := ([.lf (.ref 1048576), .lf (.dat (Ty.int IntKind.u32) i.1), .lf (.int IntKind.i64 i.2.1), .lf (.int IntKind.u64 x.1), .lf (.int IntKind.i64 i.2.2), .lf (.int IntKind.i64 x.2.1)], [(1048576, ⟨true, .arr 90 (Ty.int IntKind.u32) x.2.2⟩)])
def nat_back_pt0 : List TV → List (Nat × Ent) → Option (((List Int) × (Int × Int)) × (Int × (Int × (List Int))))
  | [.lf (.ref 1048576), .lf (.dat (Ty.int IntKind.u32) x1), .lf (.int IntKind.i64 x2), .lf (.int IntKind.u64 x6), .lf (.int IntKind.i64 x10), .lf (.int IntKind.i64 x11)], [(1048576, ⟨true, .arr 90 (Ty.int IntKind.u32) h0⟩)] => some ((x1, x2, x10), (x6, x11, h0))
  | _, _ => none
def nat_back_ev0 (i : ((List Int) × (Int × Int))) (r : (List Int)) : PE := .exit 0 [] [(1048576, ⟨true, .arr 90 (Ty.int IntKind.u32) r⟩)]
def nat_back_an0 (i : ((List Int) × (Int × Int))) (r : (List Int)) : Tree := .leaf (.exit 0 (spSt 38 [] [] [(1048576, ⟨true, .arr 90 (Ty.int IntKind.u32) r⟩)]))
def nat_back_b0 (n : Nat) (x1 : (List Int)) (x2 : Int) (x10 : Int) (x6 : Int) (x11 : Int) (h0 : (List Int)) : RT (Int × (Int × (List Int))) (List Int) :=
  (.rq 1 (.ite (decide (x11 < x10))
  (.rq 7 (.req (decide ((0 : Int) ≤ IntKind.i64.wrap (x2 + x11)) && decide (IntKind.i64.wrap (x2 + x11) < (↑h0.length : Int)))
  (.rq 4 (.req (decide ((0 : Int) ≤ x11))
  (.rq 10 (.req (decide ((0 : Int) ≤ IntKind.i64.wrap (x2 + x11)) && decide (IntKind.i64.wrap (x2 + x11) < (↑h0.length : Int)))
  (.rq 6 (.again (((IntKind.u64.wrap (x6 + IntKind.u64.wrap (IntKind.u64.wrap (h0.getD (IntKind.i64.wrap (x2 + x11)).toNat (0 : Int)) + IntKind.u64.wrap (dig x1 x11)))).fdiv (4294967296 : Int), IntKind.i64.wrap (x11 + (1 : Int)), h0.set (IntKind.i64.wrap (x2 + x11)).toNat (IntKind.u32.wrap (IntKind.u64.wrap (x6 + IntKind.u64.wrap (IntKind.u64.wrap (h0.getD (IntKind.i64.wrap (x2 + x11)).toNat (0 : Int)) + IntKind.u64.wrap (dig x1 x11)))))))))))))))
  (.done h0)))
def nat_back_l0 (n : Nat) (i : ((List Int) × (Int × Int))) : Nat → (Int × (Int × (List Int))) → Option (List Int) := loopN (fun rec x => (nat_back_b0 n i.1 i.2.1 i.2.2 x.1 x.2.1 x.2.2).run rec)
theorem nat_back_l0_s (n : Nat) (i : ((List Int) × (Int × Int))) (k : Nat) (x : (Int × (Int × (List Int)))) : nat_back_l0 n i (k + 1) x = (nat_back_b0 n i.1 i.2.1 i.2.2 x.1 x.2.1 x.2.2).run (nat_back_l0 n i k) := rfl
def nat_back_t0 (n : Nat) (σ : St) : Option Tree := match seeSt nat_back_h0.plan nat_back_h0.ts 38 σ with
  | some y => (match nat_back_pt0 y.1 y.2 with
    | some x => some (loopAns (nat_back_l0 n x.1 n x.2) (nat_back_an0 x.1))
    | none => none)
  | none => none
def nat_back_told (n : Nat) : Nat → St → Option Tree
  | 0, σ => nat_back_t0 n σ
  | _, _ => none
def nat_back_res (y : (List Int)) : CallRes := ⟨true, .tup [], [⟨true, .arr 90 (Ty.int IntKind.u32) y⟩], [], false⟩
def nat_back (n : Nat) (a0 : (List Int)) (a1 : (List Int)) (a2 : Int) : RT Unit (List Int) :=
  (.rq 5 (.call (nat_back_l0 n (a1, a2, IntKind.i64.wrap ((↑a1.length : Int) + (1 : Int))) n ((0 : Int), (0 : Int), a0)) default fun v0 =>
  (.done v0)))
def F_nat_back (n : Nat) (x : ((List Int) × ((List Int) × Int))) : Option (List Int) := (nat_back n x.1 x.2.1 x.2.2).run fun _ => none
def nat_back_ans (F : ((List Int) × ((List Int) × Int)) → Option (List Int)) : List TV → List Ent → Option CallRes
  | [.lf (.ref 0), .lf (.dat (Ty.int IntKind.u32) a1), .lf (.int IntKind.i64 a2)], [⟨true, .arr 90 (Ty.int IntKind.u32) a0⟩] => some (callAns (F (a0, a1, a2)) nat_back_res)
  | _, _ => none
def en_nat_back (F : ((List Int) × ((List Int) × Int)) → Option (List Int)) : Entry := .data n_nat_back [[], [Ty.sl (Ty.int IntKind.u32)], [Ty.int IntKind.i64]] (nat_back_ans F)
abbrev e_nat_back (n : Nat) : Entry := en_nat_back (F_nat_back n)
theorem nat_back_T_ok (n : Nat) : SoundT pg (nat_back_T n) := tab_sound ⟨e_nat_at_ok n, trivial⟩
theorem nat_back_r0 (n : Nat) (x1 : (List Int)) (x2 : Int) (x10 : Int) (x6 : Int) (x11 : Int) (h0 : (List Int)) : (evCode pg (nat_back_T n) (loopsTold (nat_back_told n)) 0 (lp 0 (codeOf f_nat_back) 0).2 (spSt 38 nat_back_h0.ts [.lf (.ref 1048576), .lf (.dat (Ty.int IntKind.u32) x1), .lf (.int IntKind.i64 x2), .lf (.int IntKind.u64 x6), .lf (.int IntKind.i64 x10), .lf (.int IntKind.i64 x11)] [(1048576, ⟨true, .arr 90 (Ty.int IntKind.u32) h0⟩)])).pt (seeEv 38 nat_back_h0 nat_back_x0 nat_back_y0) =
    (nat_back_b0 n x1 x2 x10 x6 x11 h0).pt (fun x' => .norm (nat_back_mk0 (x1, x2, x10) x').1 (nat_back_mk0 (x1, x2, x10) x').2) (nat_back_ev0 (x1, x2, x10)) := by kernel_rfl
theorem nat_back_pm0 : ∀ vs hp x, nat_back_pt0 vs hp = some x → nat_back_mk0 x.1 x.2 = (vs, hp) := by
  intro vs hp x h
  unfold nat_back_pt0 at h
  split at h <;> first | (cases h; rfl) | cases h
theorem nat_back_k0 (n : Nat) : LoopOK pg (loopsTold (nat_back_told n)) (lp 0 (codeOf f_nat_back) 0) :=
  loop_lift pg_mixed (T := (nat_back_T n)) (nat_back_T_ok n) (b := 0) (len := 38) (body := (lp 0 (codeOf f_nat_back) 0).2) (ch := nat_back_h0) (cx := nat_back_x0) (cr := nat_back_y0) nat_back_mk0 nat_back_ev0 nat_back_an0 (fun i x => nat_back_b0 n i.1 i.2.1 i.2.2 x.1 x.2.1 x.2.2) n nat_back_pt0 nat_back_pm0 (fun i r K h => h)
    regs_told (loops_told0 (by kernel_rfl)) (fun _ => by kernel_rfl) (fun i x => nat_back_r0 n i.1 i.2.1 i.2.2 x.1 x.2.1 x.2.2)
theorem nat_back_e (n : Nat) (a0 : (List Int)) (a1 : (List Int)) (a2 : Int) : (evFn pg (nat_back_T n) (loopsTold (nat_back_told n)) f_nat_back (codeOf f_nat_back) [.lf (.ref 0), .lf (.dat (Ty.int IntKind.u32) a1), .lf (.int IntKind.i64 a2)] [⟨true, .arr 90 (Ty.int IntKind.u32) a0⟩]).pt (outEv pg f_nat_back 1 [] false) =
    (nat_back n a0 a1 a2).pt (fun _ => .norm [] []) (fun y => .out (nat_back_res y)) := by kernel_rfl
theorem nat_back_call (n : Nat) (a0 : (List Int)) (a1 : (List Int)) (a2 : Int) (y : (List Int)) (hy : F_nat_back n (a0, a1, a2) = some y) : Enters pg n_nat_back ∧ CallOK pg n_nat_back [.lf (.ref 0), .lf (.dat (Ty.int IntKind.u32) a1), .lf (.int IntKind.i64 a2)] [⟨true, .arr 90 (Ty.int IntKind.u32) a0⟩] (nat_back_res y) := fn_lift (fn := f_nat_back) pg_mixed (T := nat_back_T n) (nat_back_T_ok n) (L := loopsTold (nat_back_told n)) (by kernel_rfl) (by kernel_rfl) (by kernel_rfl) regs_told (loops_told1 (by kernel_rfl) (nat_back_k0 n)) (args := [.lf (.ref 0), .lf (.dat (Ty.int IntKind.u32) a1), .lf (.int IntKind.i64 a2)]) (es := [⟨true, .arr 90 (Ty.int IntKind.u32) a0⟩]) nat_back_res [] false (fun _ => rfl) (nat_back n a0 a1 a2) (nat_back_e n a0 a1 a2) hy
theorem en_nat_back_ok (n : Nat) : (en_nat_back (F_nat_back n)).ok pg := Entry.data_ok <| by
  intro args es r h hv
  unfold nat_back_ans at h
  simp only at h
  split at h
  · rename_i a1 a2 a0
    cases h
    exact callAns_ok (fun y hy => nat_back_call n a0 a1 a2 y hy) hv
  · cases h
/-- The function, by what it is known to tell. -/
def sp_nat_back (C : ((List Int) × ((List Int) × Int)) → Bool) (V : ((List Int) × ((List Int) × Int)) → (List Int)) : Entry := .data n_nat_back [[], [Ty.sl (Ty.int IntKind.u32)], [Ty.int IntKind.i64]] fun args es => match args, es with
  | [.lf (.ref 0), .lf (.dat (Ty.int IntKind.u32) a1), .lf (.int IntKind.i64 a2)], [⟨true, .arr 90 (Ty.int IntKind.u32) a0⟩] => some { nat_back_res (V (a0, a1, a2)) with vc := C (a0, a1, a2) }
  | _, _ => none
theorem sp_nat_back_ok {C : ((List Int) × ((List Int) × Int)) → Bool} {V : ((List Int) × ((List Int) × Int)) → (List Int)} (H : ∀ x, C x = true → ∃ n, F_nat_back n x = some (V x)) : (sp_nat_back C V).ok pg := Entry.data_ok <| by
  intro args es r h hv
  simp only at h
  split at h
  · rename_i a1 a2 a0
    cases h
    obtain ⟨n, hn⟩ := H (a0, a1, a2) hv
    exact ⟨(nat_back_call n a0 a1 a2 _ hn).1, (nat_back_call n a0 a1 a2 _ hn).2.vc⟩
  · cases h
theorem e_nat_back_ok (n : Nat) : (e_nat_back n).ok pg := en_nat_back_ok n


abbrev nat_Div_T (n : Nat) : CallT := tab [e_nat_Cut n, e_nat_Cmp n, e_nat_short n, e_nat_Of n, e_math_bits_LeadingZeros32 n, e_nat_shifted n, e_nat_guess n, e_nat_away n, e_nat_back n, e_nat_down n]
abbrev nat_Div_h1 : Cut := ⟨[.keep [9, 10, 11, 12, 13], .gc, .nilRow 10 800010 90 (Ty.int IntKind.u32), .nilRow 12 800012 90 (Ty.int IntKind.u32), .ren 10 700010, .ren 12 700012, .ren 10 900010, .ren 12 900012, .gc], [9, 10, 11, 12, 13]⟩
abbrev nat_Div_x1 : Cut := ⟨[.keep [9, 10, 12], .gc, .nilRow 10 800010 90 (Ty.int IntKind.u32), .nilRow 12 800012 90 (Ty.int IntKind.u32), .ren 10 700010, .ren 12 700012, .ren 10 900010, .ren 12 900012, .gc], [9, 10, 12]⟩
abbrev nat_Div_y1 : Cut := ⟨[.keep [4, 5, 6], .gc], [4, 5, 6]⟩
def nat_Div_mk1 (i : (Int × (List Int))) (x : (Int × ((List Int) × (List Int)))) : List TV × List (Nat × Ent) := ([.lf (.int IntKind.i64 i.1), .lf (.ref 900010), .lf (.dat (Ty.int IntKind.u32) i.2), .lf (.ref 900012), .lf (.int IntKind.i64 x.1)], [(900010, ⟨true, .arr 90 (Ty.int IntKind.u32) x.2.1⟩), (900012, ⟨true, .arr 90 (Ty.int IntKind.u32) x.2.2⟩)])
def nat_Div_pt1 : List TV → List (Nat × Ent) → Option ((Int × (List Int)) × (Int × ((List Int) × (List Int))))
  | [.lf (.int IntKind.i64 x9), .lf (.ref 900010), .lf (.dat (Ty.int IntKind.u32) x11), .lf (.ref 900012), .lf (.int IntKind.i64 x13)], [(900010, ⟨true, .arr 90 (Ty.int IntKind.u32) h0⟩), (900012, ⟨true, .arr 90 (Ty.int IntKind.u32) h1⟩)] => some ((x9, x11), (x13, h0, h1))
  | _, _ => none
def nat_Div_ev1 (i : (Int × (List Int))) (r : ((List Int) × (List Int))) : PE := .exit 1 [.lf (.int IntKind.i64 i.1), .lf (.ref 900010), .lf (.ref 900012)] [(900010, ⟨true, .arr 90 (Ty.int IntKind.u32) r.1⟩), (900012, ⟨true, .arr 90 (Ty.int IntKind.u32) r.2⟩)]
def nat_Div_an1 (i : (Int × (List Int))) (r : ((List Int) × (List Int))) : Tree := .leaf (.exit 1 (spSt 98 [9, 10, 12] [.lf (.int IntKind.i64 i.1), .lf (.ref 900010), .lf (.ref 900012)] [(900010, ⟨true, .arr 90 (Ty.int IntKind.u32) r.1⟩), (900012, ⟨true, .arr 90 (Ty.int IntKind.u32) r.2⟩)]))
def nat_Div_b1 (n : Nat) (x9 : Int) (x11 : (List Int)) (x13 : Int) (h0 : (List Int)) (h1 : (List Int)) : RT (Int × ((List Int) × (List Int))) ((List Int) × (List Int)) :=
  (.rq 2 (.ite (decide ((0 : Int) ≤ x13))
  (.rq 3 (.call (F_nat_guess n (h0, x11, x13)) default fun v0 =>
  (.rq 5 (.call (F_nat_away n (h0, x11, x13, v0)) default fun v1 =>
  (.ite (v1.fst)
  (.rq 6 (.call (F_nat_back n (v1.snd, x11, x13)) default fun v2 =>
  (.rq 4 (.req (decide ((0 : Int) ≤ x13) && decide (x13 < (↑h1.length : Int)))
  (.rq 4 (.again ((IntKind.i64.wrap (x13 - (1 : Int)), v2, h1.set x13.toNat (IntKind.u32.wrap (IntKind.u64.wrap (v0 - (1 : Int))))))))))))
  (.rq 4 (.req (decide ((0 : Int) ≤ x13) && decide (x13 < (↑h1.length : Int)))
  (.rq 4 (.again ((IntKind.i64.wrap (x13 - (1 : Int)), v1.snd, h1.set x13.toNat (IntKind.u32.wrap v0))))))))))))
  (.done ((h0, h1)))))
def nat_Div_l1 (n : Nat) (i : (Int × (List Int))) : Nat → (Int × ((List Int) × (List Int))) → Option ((List Int) × (List Int)) := loopN (fun rec x => (nat_Div_b1 n i.1 i.2 x.1 x.2.1 x.2.2).run rec)
theorem nat_Div_l1_s (n : Nat) (i : (Int × (List Int))) (k : Nat) (x : (Int × ((List Int) × (List Int)))) : nat_Div_l1 n i (k + 1) x = (nat_Div_b1 n i.1 i.2 x.1 x.2.1 x.2.2).run (nat_Div_l1 n i k) := rfl
def nat_Div_t1 (n : Nat) (σ : St) : Option Tree := match seeSt nat_Div_h1.plan nat_Div_h1.ts 98 σ with
  | some y => (match nat_Div_pt1 y.1 y.2 with
    | some x => some (loopAns (nat_Div_l1 n x.1 n x.2) (nat_Div_an1 x.1))
    | none => none)
  | none => none
def nat_Div_told (n : Nat) : Nat → St → Option Tree
  | 1, σ => nat_Div_t1 n σ
  | _, _ => none
def nat_Div_res (y : ((List Int) × ((List Int) × Bool))) : CallRes := ⟨true, .tup [(false, [.dat (Ty.int IntKind.u32) y.1]), (false, [.dat (Ty.int IntKind.u32) y.2.1]), (false, [.bool y.2.2])], [], [], true⟩
def nat_Div (n : Nat) (a0 : (List Int)) (a1 : (List Int)) : RT Unit ((List Int) × ((List Int) × Bool)) :=
  (.rq 4 (.req (decide (a0.length ≤ (1099511627776 : Nat)) && wfd (4294967296 : Nat) a0)
  (.rq 1 (.req (decide (a1.length ≤ (1099511627776 : Nat)) && wfd (4294967296 : Nat) a1)
  (.rq 6 (.ite ((↑(digs (4294967296 : Nat) (val (4294967296 : Nat) a1)).length : Int) == (0 : Int))
  (.rq 3 (.done ((nilD (Ty.int IntKind.u32).den, nilD (Ty.int IntKind.u32).den, false))))
  (.rq 2 (.req (decide ((digs (4294967296 : Nat) (val (4294967296 : Nat) a0)).length ≤ (1099511627776 : Nat)) && decide ((digs (4294967296 : Nat) (val (4294967296 : Nat) a1)).length ≤ (1099511627776 : Nat)) &&
    wfd (4294967296 : Nat) (digs (4294967296 : Nat) (val (4294967296 : Nat) a0)) &&
  wfd (4294967296 : Nat) (digs (4294967296 : Nat) (val (4294967296 : Nat) a1)))
  (.rq 2 (.ite (decide (cmpI (↑(val (4294967296 : Nat) (digs (4294967296 : Nat) (val (4294967296 : Nat) a0))) : Int) (↑(val (4294967296 : Nat) (digs (4294967296 : Nat) (val (4294967296 : Nat) a1))) : Int) < (0 : Int)))
  (.rq 4 (.done ((nilD (Ty.int IntKind.u32).den, digs (4294967296 : Nat) (val (4294967296 : Nat) a0), true))))
  (.rq 4 (.ite ((↑(digs (4294967296 : Nat) (val (4294967296 : Nat) a1)).length : Int) == (1 : Int))
  (.rq 2 (.req (decide ((0 : Int) ≤ (0 : Int)) && decide ((0 : Int) < (↑(digs (4294967296 : Nat) (val (4294967296 : Nat) a1)).length : Int)))
  (.rq 1 (.req (decide ((digs (4294967296 : Nat) (val (4294967296 : Nat) a0)).length ≤ (1099511627776 : Nat)) && wfd (4294967296 : Nat) (digs (4294967296 : Nat) (val (4294967296 : Nat) a0)) &&
    decide ((0 : Int) < (digs (4294967296 : Nat) (val (4294967296 : Nat) a1)).getD (0 : Nat) (0 : Int)) &&
  decide ((digs (4294967296 : Nat) (val (4294967296 : Nat) a1)).getD (0 : Nat) (0 : Int) < (4294967296 : Int)))
  (.rq 8 (.req (decide ((0 : Int) ≤ IntKind.u64.wrap (↑(val (4294967296 : Nat) (digs (4294967296 : Nat) (val (4294967296 : Nat) a0)) % Int.toNat ((digs (4294967296 : Nat) (val (4294967296 : Nat) a1)).getD (0 : Nat) (0 : Int))) : Int)) &&
  decide (IntKind.u64.wrap (↑(val (4294967296 : Nat) (digs (4294967296 : Nat) (val (4294967296 : Nat) a0)) % Int.toNat ((digs (4294967296 : Nat) (val (4294967296 : Nat) a1)).getD (0 : Nat) (0 : Int))) : Int) < (18446744073709551616 : Int)))
  (.rq 3 (.done ((digs (4294967296 : Nat) (val (4294967296 : Nat) (digs (4294967296 : Nat) (val (4294967296 : Nat) a0)) / Int.toNat ((digs (4294967296 : Nat) (val (4294967296 : Nat) a1)).getD (0 : Nat) (0 : Int))), digs (4294967296 : Nat) (IntKind.u64.wrap (↑(val (4294967296 : Nat) (digs (4294967296 : Nat) (val (4294967296 : Nat) a0)) % Int.toNat ((digs (4294967296 : Nat) (val (4294967296 : Nat) a1)).getD (0 : Nat) (0 : Int))) : Int)).toNat, true))))))))))
  (.rq 4 (.req (decide ((0 : Int) ≤ IntKind.i64.wrap ((↑(digs (4294967296 : Nat) (val (4294967296 : Nat) a1)).length : Int) - (1 : Int))) &&
  decide (IntKind.i64.wrap ((↑(digs (4294967296 : Nat) (val (4294967296 : Nat) a1)).length : Int) - (1 : Int)) < (↑(digs (4294967296 : Nat) (val (4294967296 : Nat) a1)).length : Int)))
  (.rq 1 (.req (decide ((0 : Int) ≤ (digs (4294967296 : Nat) (val (4294967296 : Nat) a1)).getD (IntKind.i64.wrap ((↑(digs (4294967296 : Nat) (val (4294967296 : Nat) a1)).length : Int) - (1 : Int))).toNat (0 : Int)) &&
  decide ((digs (4294967296 : Nat) (val (4294967296 : Nat) a1)).getD (IntKind.i64.wrap ((↑(digs (4294967296 : Nat) (val (4294967296 : Nat) a1)).length : Int) - (1 : Int))).toNat (0 : Int) < (4294967296 : Int)))
  (.rq 3 (.req (decide ((digs (4294967296 : Nat) (val (4294967296 : Nat) a0)).length ≤ (549755813888 : Nat)) && wfd (4294967296 : Nat) (digs (4294967296 : Nat) (val (4294967296 : Nat) a0)) &&
    decide
      ((0 : Int) ≤
        (32 : Int) - (↑(bl (Int.toNat ((digs (4294967296 : Nat) (val (4294967296 : Nat) a1)).getD (IntKind.i64.wrap ((↑(digs (4294967296 : Nat) (val (4294967296 : Nat) a1)).length : Int) - (1 : Int))).toNat (0 : Int)))) : Int)) &&
  decide
    ((32 : Int) - (↑(bl (Int.toNat ((digs (4294967296 : Nat) (val (4294967296 : Nat) a1)).getD (IntKind.i64.wrap ((↑(digs (4294967296 : Nat) (val (4294967296 : Nat) a1)).length : Int) - (1 : Int))).toNat (0 : Int)))) : Int) < (32 : Int)))
  (.rq 2 (.req (decide ((digs (4294967296 : Nat) (val (4294967296 : Nat) a1)).length ≤ (549755813888 : Nat)) && wfd (4294967296 : Nat) (digs (4294967296 : Nat) (val (4294967296 : Nat) a1)) &&
    decide
      ((0 : Int) ≤
        (32 : Int) - (↑(bl (Int.toNat ((digs (4294967296 : Nat) (val (4294967296 : Nat) a1)).getD (IntKind.i64.wrap ((↑(digs (4294967296 : Nat) (val (4294967296 : Nat) a1)).length : Int) - (1 : Int))).toNat (0 : Int)))) : Int)) &&
  decide
    ((32 : Int) - (↑(bl (Int.toNat ((digs (4294967296 : Nat) (val (4294967296 : Nat) a1)).getD (IntKind.i64.wrap ((↑(digs (4294967296 : Nat) (val (4294967296 : Nat) a1)).length : Int) - (1 : Int))).toNat (0 : Int)))) : Int) < (32 : Int)))
  (.req (decide
    ((fixd (4294967296 : Nat) ((digs (4294967296 : Nat) (val (4294967296 : Nat) a1)).length + (1 : Nat))
          (val (4294967296 : Nat) (digs (4294967296 : Nat) (val (4294967296 : Nat) a1)) *
            (2 : Nat) ^
              ((32 : Int) -
                  (↑(bl (Int.toNat ((digs (4294967296 : Nat) (val (4294967296 : Nat) a1)).getD (IntKind.i64.wrap ((↑(digs (4294967296 : Nat) (val (4294967296 : Nat) a1)).length : Int) - (1 : Int))).toNat (0 : Int)))) :
                    Int)).toNat)).length ≤
      (1099511627776 : Nat)) &&
  wfd (4294967296 : Nat)
    (fixd (4294967296 : Nat) ((digs (4294967296 : Nat) (val (4294967296 : Nat) a1)).length + (1 : Nat))
      (val (4294967296 : Nat) (digs (4294967296 : Nat) (val (4294967296 : Nat) a1)) *
        (2 : Nat) ^
          ((32 : Int) - (↑(bl (Int.toNat ((digs (4294967296 : Nat) (val (4294967296 : Nat) a1)).getD (IntKind.i64.wrap ((↑(digs (4294967296 : Nat) (val (4294967296 : Nat) a1)).length : Int) - (1 : Int))).toNat (0 : Int)))) : Int)).toNat)))
  (.rq 8 (.req (decide ((0 : Int) ≤ IntKind.i64.wrap (IntKind.i64.wrap ((↑(digs (4294967296 : Nat) (val (4294967296 : Nat) a0)).length : Int) - (↑(digs (4294967296 : Nat) (val (4294967296 : Nat) a1)).length : Int)) + (1 : Int))) &&
      decide
        (IntKind.i64.wrap (IntKind.i64.wrap ((↑(digs (4294967296 : Nat) (val (4294967296 : Nat) a0)).length : Int) - (↑(digs (4294967296 : Nat) (val (4294967296 : Nat) a1)).length : Int)) + (1 : Int)) =
          IntKind.i64.wrap (IntKind.i64.wrap ((↑(digs (4294967296 : Nat) (val (4294967296 : Nat) a0)).length : Int) - (↑(digs (4294967296 : Nat) (val (4294967296 : Nat) a1)).length : Int)) + (1 : Int))) &&
    decide
      ((4 : Int) * IntKind.i64.wrap (IntKind.i64.wrap ((↑(digs (4294967296 : Nat) (val (4294967296 : Nat) a0)).length : Int) - (↑(digs (4294967296 : Nat) (val (4294967296 : Nat) a1)).length : Int)) + (1 : Int)) ≤ (281474976710656 : Int)) &&
  decide (IntKind.i64.wrap (IntKind.i64.wrap ((↑(digs (4294967296 : Nat) (val (4294967296 : Nat) a0)).length : Int) - (↑(digs (4294967296 : Nat) (val (4294967296 : Nat) a1)).length : Int)) + (1 : Int)) ≤ (9223372036854775807 : Int)))
  (.rq 5 (.call (nat_Div_l1 n
  ((32 : Int) - (↑(bl (Int.toNat ((digs (4294967296 : Nat) (val (4294967296 : Nat) a1)).getD (IntKind.i64.wrap ((↑(digs (4294967296 : Nat) (val (4294967296 : Nat) a1)).length : Int) - (1 : Int))).toNat (0 : Int)))) : Int),
    digs (4294967296 : Nat)
      (val (4294967296 : Nat)
        (fixd (4294967296 : Nat) ((digs (4294967296 : Nat) (val (4294967296 : Nat) a1)).length + (1 : Nat))
          (val (4294967296 : Nat) (digs (4294967296 : Nat) (val (4294967296 : Nat) a1)) *
            (2 : Nat) ^
              ((32 : Int) -
                  (↑(bl (Int.toNat ((digs (4294967296 : Nat) (val (4294967296 : Nat) a1)).getD (IntKind.i64.wrap ((↑(digs (4294967296 : Nat) (val (4294967296 : Nat) a1)).length : Int) - (1 : Int))).toNat (0 : Int)))) : Int)).toNat))))
  n
  (IntKind.i64.wrap
      ((↑(List.replicate (IntKind.i64.wrap (IntKind.i64.wrap ((↑(digs (4294967296 : Nat) (val (4294967296 : Nat) a0)).length : Int) - (↑(digs (4294967296 : Nat) (val (4294967296 : Nat) a1)).length : Int)) + (1 : Int))).toNat
                (0 : Int)).length :
          Int) -
        (1 : Int)),
    fixd (4294967296 : Nat) ((digs (4294967296 : Nat) (val (4294967296 : Nat) a0)).length + (1 : Nat))
      (val (4294967296 : Nat) (digs (4294967296 : Nat) (val (4294967296 : Nat) a0)) *
        (2 : Nat) ^
          ((32 : Int) - (↑(bl (Int.toNat ((digs (4294967296 : Nat) (val (4294967296 : Nat) a1)).getD (IntKind.i64.wrap ((↑(digs (4294967296 : Nat) (val (4294967296 : Nat) a1)).length : Int) - (1 : Int))).toNat (0 : Int)))) : Int)).toNat),
    List.replicate (IntKind.i64.wrap (IntKind.i64.wrap ((↑(digs (4294967296 : Nat) (val (4294967296 : Nat) a0)).length : Int) - (↑(digs (4294967296 : Nat) (val (4294967296 : Nat) a1)).length : Int)) + (1 : Int))).toNat (0 : Int))) default fun v0 =>
  (.rq 1 (.req (decide (v0.snd.length ≤ (1099511627776 : Nat)) && wfd (4294967296 : Nat) v0.snd)
  (.rq 2 (.req (decide (v0.fst.length ≤ (549755813888 : Nat)) && wfd (4294967296 : Nat) v0.fst &&
    decide
      ((0 : Int) ≤
        (32 : Int) - (↑(bl (Int.toNat ((digs (4294967296 : Nat) (val (4294967296 : Nat) a1)).getD (IntKind.i64.wrap ((↑(digs (4294967296 : Nat) (val (4294967296 : Nat) a1)).length : Int) - (1 : Int))).toNat (0 : Int)))) : Int)) &&
  decide
    ((32 : Int) - (↑(bl (Int.toNat ((digs (4294967296 : Nat) (val (4294967296 : Nat) a1)).getD (IntKind.i64.wrap ((↑(digs (4294967296 : Nat) (val (4294967296 : Nat) a1)).length : Int) - (1 : Int))).toNat (0 : Int)))) : Int) < (32 : Int)))
  (.rq 3 (.done ((digs (4294967296 : Nat) (val (4294967296 : Nat) v0.snd), digs (4294967296 : Nat)
  (val (4294967296 : Nat) v0.fst /
    (2 : Nat) ^
      ((32 : Int) - (↑(bl (Int.toNat ((digs (4294967296 : Nat) (val (4294967296 : Nat) a1)).getD (IntKind.i64.wrap ((↑(digs (4294967296 : Nat) (val (4294967296 : Nat) a1)).length : Int) - (1 : Int))).toNat (0 : Int)))) : Int)).toNat), true)))))))))))))))))))))))))))))))))
def F_nat_Div (n : Nat) (x : ((List Int) × (List Int))) : Option ((List Int) × ((List Int) × Bool)) := (nat_Div n x.1 x.2).run fun _ => none
def nat_Div_ans (F : ((List Int) × (List Int)) → Option ((List Int) × ((List Int) × Bool))) : List TV → List Ent → Option CallRes
  | [.lf (.dat (Ty.int IntKind.u32) a0), .lf (.dat (Ty.int IntKind.u32) a1)], [] => some (callAns (F (a0, a1)) nat_Div_res)
  | _, _ => none
def en_nat_Div (F : ((List Int) × (List Int)) → Option ((List Int) × ((List Int) × Bool))) : Entry := .data n_nat_Div [[Ty.sl (Ty.int IntKind.u32)], [Ty.sl (Ty.int IntKind.u32)]] (nat_Div_ans F)
theorem nat_Div_T_ok (n : Nat) : SoundT pg (nat_Div_T n) := tab_sound ⟨e_nat_Cut_ok n, e_nat_Cmp_ok n, e_nat_short_ok n, e_nat_Of_ok n, e_math_bits_LeadingZeros32_ok n, e_nat_shifted_ok n, e_nat_guess_ok n, e_nat_away_ok n, e_nat_back_ok n, e_nat_down_ok n, trivial⟩
theorem nat_Div_r1 (n : Nat) (x9 : Int) (x11 : (List Int)) (x13 : Int) (h0 : (List Int)) (h1 : (List Int)) : (evCode pg (nat_Div_T n) (loopsTold (nat_Div_told n)) 1 (lp 0 (codeOf f_nat_Div) 0).2 (spSt 98 nat_Div_h1.ts [.lf (.int IntKind.i64 x9), .lf (.ref 900010), .lf (.dat (Ty.int IntKind.u32) x11), .lf (.ref 900012), .lf (.int IntKind.i64 x13)] [(900010, ⟨true, .arr 90 (Ty.int IntKind.u32) h0⟩), (900012, ⟨true, .arr 90 (Ty.int IntKind.u32) h1⟩)])).pt (seeEv 98 nat_Div_h1 nat_Div_x1 nat_Div_y1) =
    (nat_Div_b1 n x9 x11 x13 h0 h1).pt (fun x' => .norm (nat_Div_mk1 (x9, x11) x').1 (nat_Div_mk1 (x9, x11) x').2) (nat_Div_ev1 (x9, x11)) := by kernel_rfl
theorem nat_Div_pm1 : ∀ vs hp x, nat_Div_pt1 vs hp = some x → nat_Div_mk1 x.1 x.2 = (vs, hp) := by
  intro vs hp x h
  unfold nat_Div_pt1 at h
  split at h <;> first | (cases h; rfl) | cases h
theorem nat_Div_k1 (n : Nat) : LoopOK pg (loopsTold (nat_Div_told n)) (lp 0 (codeOf f_nat_Div) 0) :=
  loop_lift pg_mixed (T := (nat_Div_T n)) (nat_Div_T_ok n) (b := 1) (len := 98) (body := (lp 0 (codeOf f_nat_Div) 0).2) (ch := nat_Div_h1) (cx := nat_Div_x1) (cr := nat_Div_y1) nat_Div_mk1 nat_Div_ev1 nat_Div_an1 (fun i x => nat_Div_b1 n i.1 i.2 x.1 x.2.1 x.2.2) n nat_Div_pt1 nat_Div_pm1 (fun i r K h => h)
    regs_told (loops_told0 (by kernel_rfl)) (fun _ => by kernel_rfl) (fun i x => nat_Div_r1 n i.1 i.2 x.1 x.2.1 x.2.2)
theorem nat_Div_e (n : Nat) (a0 : (List Int)) (a1 : (List Int)) : (evFn pg (nat_Div_T n) (loopsTold (nat_Div_told n)) f_nat_Div (codeOf f_nat_Div) [.lf (.dat (Ty.int IntKind.u32) a0), .lf (.dat (Ty.int IntKind.u32) a1)] []).pt (outEv pg f_nat_Div 0 [.toDat 4, .den 4 [Ty.sl (Ty.int IntKind.u32)], .toDat 5, .den 5 [Ty.sl (Ty.int IntKind.u32)]] true) =
    (nat_Div n a0 a1).pt (fun _ => .norm [] []) (fun y => .out (nat_Div_res y)) := by kernel_rfl
theorem nat_Div_call (n : Nat) (a0 : (List Int)) (a1 : (List Int)) (y : ((List Int) × ((List Int) × Bool))) (hy : F_nat_Div n (a0, a1) = some y) : Enters pg n_nat_Div ∧ CallOK pg n_nat_Div [.lf (.dat (Ty.int IntKind.u32) a0), .lf (.dat (Ty.int IntKind.u32) a1)] [] (nat_Div_res y) := fn_lift (fn := f_nat_Div) pg_mixed (T := nat_Div_T n) (nat_Div_T_ok n) (L := loopsTold (nat_Div_told n)) (by kernel_rfl) (by kernel_rfl) (by kernel_rfl) regs_told (loops_told1 (by kernel_rfl) (nat_Div_k1 n)) (args := [.lf (.dat (Ty.int IntKind.u32) a0), .lf (.dat (Ty.int IntKind.u32) a1)]) (es := []) nat_Div_res [.toDat 4, .den 4 [Ty.sl (Ty.int IntKind.u32)], .toDat 5, .den 5 [Ty.sl (Ty.int IntKind.u32)]] true (fun _ => rfl) (nat_Div n a0 a1) (nat_Div_e n a0 a1) hy
theorem en_nat_Div_ok (n : Nat) : (en_nat_Div (F_nat_Div n)).ok pg := Entry.data_ok <| by
  intro args es r h hv
  unfold nat_Div_ans at h
  simp only at h
  split at h
  · rename_i a0 a1
    cases h
    exact callAns_ok (fun y hy => nat_Div_call n a0 a1 y hy) hv
  · cases h
/-- The function, by what it is known to tell. -/
def sp_nat_Div (C : ((List Int) × (List Int)) → Bool) (V : ((List Int) × (List Int)) → ((List Int) × ((List Int) × Bool))) : Entry := .data n_nat_Div [[Ty.sl (Ty.int IntKind.u32)], [Ty.sl (Ty.int IntKind.u32)]] fun args es => match args, es with
  | [.lf (.dat (Ty.int IntKind.u32) a0), .lf (.dat (Ty.int IntKind.u32) a1)], [] => some { nat_Div_res (V (a0, a1)) with vc := C (a0, a1) }
  | _, _ => none
theorem sp_nat_Div_ok {C : ((List Int) × (List Int)) → Bool} {V : ((List Int) × (List Int)) → ((List Int) × ((List Int) × Bool))} (H : ∀ x, C x = true → ∃ n, F_nat_Div n x = some (V x)) : (sp_nat_Div C V).ok pg := Entry.data_ok <| by
  intro args es r h hv
  simp only at h
  split at h
  · rename_i a0 a1
    cases h
    obtain ⟨n, hn⟩ := H (a0, a1) hv
    exact ⟨(nat_Div_call n a0 a1 _ hn).1, (nat_Div_call n a0 a1 _ hn).2.vc⟩
  · cases h



end
end Go.Proofs.Ytlfdidaeachpoaa

/- Taking a multiple away from a window of digits, with no program in sight. -/
namespace Go.Proofs.Ytlfdidaeachpoaa

/-- The digit that stays, and whether one was borrowed. -/
def subD (x y l : Nat) : Nat × Nat := if y + l ≤ x then (x - (y + l), 0) else (x + B32 - (y + l), 1)

/-- 'q' times 'vs' taken away from place j on: r digits from the i-th on. -/
def awN (q : Nat) (vs : List Int) (j : Nat) : Nat → Nat → Nat → Nat → List Int → List Int × Nat
  | 0, _, _, l, us => (us, l)
  | r + 1, i, o, l, us => awN q vs j r (i + 1) ((o + q * (dig vs i).toNat) / B32) (subD (us.getD (j + i) 0).toNat ((o + q * (dig vs i).toNat) % B32) l).2
      (us.set (j + i) ((subD (us.getD (j + i) 0).toNat ((o + q * (dig vs i).toNat) % B32) l).1 : Int))

theorem subD_spec {x y l : Nat} (hx : x < B32) (hy : y < B32) (hl : l ≤ 1) : (subD x y l).1 < B32 ∧ (subD x y l).2 ≤ 1 ∧ (subD x y l).1 + y + l = x + B32 * (subD x y l).2 := by
  unfold subD
  have hB : B32 = 4294967296 := rfl
  split
  · simp only; omega
  · simp only; omega

structure AwOK (q : Nat) (vs : List Int) (j r i o l : Nat) (us : List Int) : Prop where
  wf : wfd B32 (awN q vs j r i o l us).1 = true
  len : (awN q vs j r i o l us).1.length = us.length
  le : (awN q vs j r i o l us).2 ≤ 1
  val : val B32 (awN q vs j r i o l us).1 + B32 ^ (j + i) * (o + l + q * (val B32 vs / B32 ^ i % B32 ^ r)) =
    val B32 us + B32 ^ (j + i + r) * ((awN q vs j r i o l us).2 + (o + q * (val B32 vs / B32 ^ i % B32 ^ r)) / B32 ^ r)

theorem awN_ok {q : Nat} {vs : List Int} (hv : wfd B32 vs = true) {j : Nat} : ∀ (r i o l : Nat) (us : List Int), j + i + r ≤ us.length → wfd B32 us = true → l ≤ 1 → AwOK q vs j r i o l us
  | 0, i, o, l, us, _, hw, hl => ⟨hw, rfl, hl, by simp [awN, Nat.mod_one, Nat.add_comm o l]⟩
  | r + 1, i, o, l, us, h1, hw, hl => by
    have hd : (dig vs i).toNat = val B32 vs / B32 ^ i % B32 := by rw [dig_val (by decide) hv]; exact Int.toNat_natCast _
    have x := wfd_get (by decide : 0 < B32) hw (j + i)
    have hx : (us.getD (j + i) 0).toNat < B32 := by have : us.getD (j + i) 0 < ((B32 : Nat) : Int) := x.2; omega
    have hy : (o + q * (dig vs i).toNat) % B32 < B32 := Nat.mod_lt _ (by decide)
    obtain ⟨s1, s2, s3⟩ := subD_spec hx hy hl
    obtain ⟨a1, a2, a3, a4⟩ := awN_ok (q := q) hv (j := j) r (i + 1) ((o + q * (dig vs i).toNat) / B32) (subD (us.getD (j + i) 0).toNat ((o + q * (dig vs i).toNat) % B32) l).2
      (us.set (j + i) ((subD (us.getD (j + i) 0).toNat ((o + q * (dig vs i).toNat) % B32) l).1 : Int)) (by rw [List.length_set]; omega) (wfd_set hw ⟨Int.natCast_nonneg _, Int.ofNat_lt.2 s1⟩) s2
    have e : awN q vs j (r + 1) i o l us = awN q vs j r (i + 1) ((o + q * (dig vs i).toNat) / B32) (subD (us.getD (j + i) 0).toNat ((o + q * (dig vs i).toNat) % B32) l).2
      (us.set (j + i) ((subD (us.getD (j + i) 0).toNat ((o + q * (dig vs i).toNat) % B32) l).1 : Int)) := rfl
    rw [← e] at a1 a2 a3 a4
    refine ⟨a1, by rw [a2, List.length_set], a3, ?_⟩
    have v := val_set (b := B32) (xs := us) (i := j + i) (d := ((subD (us.getD (j + i) 0).toNat ((o + q * (dig vs i).toNat) % B32) l).1 : Int)) (by omega)
    rw [Int.toNat_natCast] at v
    rw [show j + (i + 1) + r = j + i + (r + 1) by omega, show j + (i + 1) = j + i + 1 by omega, Nat.pow_succ B32 i, ← Nat.div_div_eq_div_mul, hd] at a4
    rw [hd] at s3 v
    generalize val B32 (awN q vs j (r + 1) i o l us).1 = R at *
    generalize (awN q vs j (r + 1) i o l us).2 = L at *
    generalize val B32 vs / B32 ^ i = V at *
    generalize hsd : subD (us.getD (j + i) 0).toNat ((o + q * (V % B32)) % B32) l = sd at *
    generalize val B32 (us.set (j + i) (sd.1 : Int)) = U' at *
    generalize val B32 us = U at *
    generalize (us.getD (j + i) 0).toNat = u at *
    rw [Nat.pow_succ B32 (j + i)] at a4
    generalize B32 ^ (j + i) = P at *
    rw [mod_step B32 V r]
    generalize hM : V / B32 % B32 ^ r = M at *
    -- the carried part
    have c1 : o + q * (V % B32 + B32 * M) = (o + q * (V % B32)) % B32 + B32 * ((o + q * (V % B32)) / B32 + q * M) := by
      have := Nat.mod_add_div (o + q * (V % B32)) B32
      rw [Nat.mul_add q, Nat.mul_left_comm q B32 M, Nat.mul_add B32]
      omega
    have c2 : (o + q * (V % B32 + B32 * M)) / B32 ^ (r + 1) = ((o + q * (V % B32)) / B32 + q * M) / B32 ^ r := by
      rw [Nat.pow_succ, Nat.mul_comm (B32 ^ r) B32, ← Nat.div_div_eq_div_mul, c1, Nat.add_mul_div_left _ _ (by decide), Nat.div_eq_of_lt (Nat.mod_lt _ (by decide)), Nat.zero_add]
    rw [c2]
    have c3 : o + l + q * (V % B32 + B32 * M) = l + ((o + q * (V % B32)) % B32 + B32 * ((o + q * (V % B32)) / B32 + q * M)) := by omega
    rw [c3]
    generalize (o + q * (V % B32)) % B32 = y at *
    have e1 : P * (sd.1 + y + l) = P * (u + B32 * sd.2) := by rw [s3]
    rw [show j + i + (r + 1) = j + i + (r + 1) from rfl] at a4
    generalize B32 ^ (j + i + (r + 1)) * (L + ((o + q * (V % B32)) / B32 + q * M) / B32 ^ r) = W at *
    generalize (o + q * (V % B32)) / B32 = o1 at *
    generalize q * M = QM at *
    simp only [Nat.mul_add, ← Nat.mul_assoc] at e1 a4 v ⊢
    omega

theorem aw_val {q : Nat} {vs : List Int} (hv : wfd B32 vs = true) {j : Nat} {us : List Int} (hu : wfd B32 us = true) (hl : j + (vs.length + 1) ≤ us.length) (hq : q * val B32 vs < B32 ^ (vs.length + 1)) :
    wfd B32 (awN q vs j (vs.length + 1) 0 0 0 us).1 = true ∧ (awN q vs j (vs.length + 1) 0 0 0 us).1.length = us.length ∧ (awN q vs j (vs.length + 1) 0 0 0 us).2 ≤ 1 ∧
      val B32 (awN q vs j (vs.length + 1) 0 0 0 us).1 + B32 ^ j * (q * val B32 vs) = val B32 us + B32 ^ (j + (vs.length + 1)) * (awN q vs j (vs.length + 1) 0 0 0 us).2 := by
  obtain ⟨a1, a2, a3, a4⟩ := awN_ok (q := q) hv (j := j) (vs.length + 1) 0 0 0 us (by omega) hu (by omega)
  refine ⟨a1, a2, a3, ?_⟩
  have hlt : val B32 vs < B32 ^ (vs.length + 1) := Nat.lt_of_lt_of_le (val_lt (by decide) hv) (Nat.pow_le_pow_right (by decide) (by omega))
  simp only [Nat.add_zero, Nat.zero_add, Nat.pow_zero, Nat.div_one, Nat.mod_eq_of_lt hlt, Nat.div_eq_of_lt hq] at a4
  exact a4

/-- 'vs' laid on once more from place j on. -/
def bkN (vs : List Int) (j : Nat) : Nat → Nat → Nat → List Int → List Int × Nat
  | 0, _, o, us => (us, o)
  | r + 1, i, o, us => bkN vs j r (i + 1) ((o + ((us.getD (j + i) 0).toNat + (dig vs i).toNat)) / B32) (us.set (j + i) (((o + ((us.getD (j + i) 0).toNat + (dig vs i).toNat)) % B32 : Nat) : Int))

structure BkOK (vs : List Int) (j r i o : Nat) (us : List Int) : Prop where
  wf : wfd B32 (bkN vs j r i o us).1 = true
  len : (bkN vs j r i o us).1.length = us.length
  le : (bkN vs j r i o us).2 ≤ 1
  val : val B32 (bkN vs j r i o us).1 + B32 ^ (j + i + r) * (bkN vs j r i o us).2 = val B32 us + B32 ^ (j + i) * (o + val B32 vs / B32 ^ i % B32 ^ r)

theorem bkN_ok {vs : List Int} (hv : wfd B32 vs = true) {j : Nat} : ∀ (r i o : Nat) (us : List Int), j + i + r ≤ us.length → wfd B32 us = true → o ≤ 1 → BkOK vs j r i o us
  | 0, i, o, us, _, hw, ho => ⟨hw, rfl, ho, by simp [bkN, Nat.mod_one]⟩
  | r + 1, i, o, us, h1, hw, ho => by
    have hd : (dig vs i).toNat = val B32 vs / B32 ^ i % B32 := by rw [dig_val (by decide) hv]; exact Int.toNat_natCast _
    have x := wfd_get (by decide : 0 < B32) hw (j + i)
    have hx : (us.getD (j + i) 0).toNat < B32 := by have : us.getD (j + i) 0 < ((B32 : Nat) : Int) := x.2; omega
    have hy : (dig vs i).toNat < B32 := by rw [hd]; exact Nat.mod_lt _ (by decide)
    have hc : (o + ((us.getD (j + i) 0).toNat + (dig vs i).toNat)) / B32 ≤ 1 := by
      rw [← Nat.lt_succ_iff, Nat.div_lt_iff_lt_mul (by decide)]
      generalize (us.getD (j + i) 0).toNat = p1 at *
      generalize (dig vs i).toNat = p2 at *
      have hB : B32 = 4294967296 := rfl
      omega
    obtain ⟨a1, a2, a3, a4⟩ := bkN_ok hv (j := j) r (i + 1) ((o + ((us.getD (j + i) 0).toNat + (dig vs i).toNat)) / B32)
      (us.set (j + i) (((o + ((us.getD (j + i) 0).toNat + (dig vs i).toNat)) % B32 : Nat) : Int)) (by rw [List.length_set]; omega) (wfd_set hw ⟨Int.natCast_nonneg _, Int.ofNat_lt.2 (Nat.mod_lt _ (by decide))⟩) hc
    have e : bkN vs j (r + 1) i o us = bkN vs j r (i + 1) ((o + ((us.getD (j + i) 0).toNat + (dig vs i).toNat)) / B32)
      (us.set (j + i) (((o + ((us.getD (j + i) 0).toNat + (dig vs i).toNat)) % B32 : Nat) : Int)) := rfl
    rw [← e] at a1 a2 a3 a4
    refine ⟨a1, by rw [a2, List.length_set], a3, ?_⟩
    have v := val_set (b := B32) (xs := us) (i := j + i) (d := (((o + ((us.getD (j + i) 0).toNat + (dig vs i).toNat)) % B32 : Nat) : Int)) (by omega)
    rw [Int.toNat_natCast] at v
    rw [show j + (i + 1) + r = j + i + (r + 1) by omega, show j + (i + 1) = j + i + 1 by omega, Nat.pow_succ B32 i, ← Nat.div_div_eq_div_mul, hd] at a4
    rw [hd] at v
    generalize val B32 (bkN vs j (r + 1) i o us).1 = R at *
    generalize (bkN vs j (r + 1) i o us).2 = L at *
    generalize val B32 vs / B32 ^ i = V at *
    rw [mod_step B32 V r]
    generalize (us.getD (j + i) 0).toNat = u at *
    have t1 := Nat.mod_add_div (o + (u + V % B32)) B32
    generalize val B32 (us.set (j + i) (((o + (u + V % B32)) % B32 : Nat) : Int)) = U' at *
    generalize val B32 us = U at *
    generalize (o + (u + V % B32)) % B32 = tm at *
    generalize (o + (u + V % B32)) / B32 = td at *
    rw [Nat.pow_succ B32 (j + i)] at a4
    generalize B32 ^ (j + i) = P at *
    generalize B32 ^ (j + i + (r + 1)) * L = W at *
    generalize V / B32 % B32 ^ r = M at *
    have e1 : P * (tm + B32 * td) = P * (o + (u + V % B32)) := by rw [t1]
    simp only [Nat.mul_add, ← Nat.mul_assoc] at e1 a4 v ⊢
    omega

theorem bk_val {vs : List Int} (hv : wfd B32 vs = true) {j : Nat} {us : List Int} (hu : wfd B32 us = true) (hl : j + (vs.length + 1) ≤ us.length) :
    wfd B32 (bkN vs j (vs.length + 1) 0 0 us).1 = true ∧ (bkN vs j (vs.length + 1) 0 0 us).1.length = us.length ∧ (bkN vs j (vs.length + 1) 0 0 us).2 ≤ 1 ∧
      val B32 (bkN vs j (vs.length + 1) 0 0 us).1 + B32 ^ (j + (vs.length + 1)) * (bkN vs j (vs.length + 1) 0 0 us).2 = val B32 us + B32 ^ j * val B32 vs := by
  obtain ⟨a1, a2, a3, a4⟩ := bkN_ok hv (j := j) (vs.length + 1) 0 0 us (by omega) hu (by omega)
  refine ⟨a1, a2, a3, ?_⟩
  have hlt : val B32 vs < B32 ^ (vs.length + 1) := Nat.lt_of_lt_of_le (val_lt (by decide) hv) (Nat.pow_le_pow_right (by decide) (by omega))
  simp only [Nat.add_zero, Nat.zero_add, Nat.pow_zero, Nat.div_one, Nat.mod_eq_of_lt hlt] at a4
  exact a4

end Go.Proofs.Ytlfdidaeachpoaa

/- Guessing a digit of a quotient, with no program in sight. -/
namespace Go.Proofs.Ytlfdidaeachpoaa

/-- The numbers of a guess: p = B^(n-2); V = (v1 B + v2) p + vr; W = ((u0 B + u1) B + u2) p + ur. -/
structure Win (p v1 v2 vr t u2 ur V W : Nat) : Prop where
  hV : V = (v1 * B32 + v2) * p + vr
  hW : W = (t * B32 + u2) * p + ur
  hvr : vr < p
  hur : ur < p
  h2 : v2 < B32
  hu2 : u2 < B32
  norm : B32 ≤ 2 * v1
  lt : W < B32 * V

theorem Win.start {p v1 v2 vr t u2 ur V W q : Nat} (H : Win p v1 v2 vr t u2 ur V W) (hq : q * V ≤ W) : q * v1 ≤ t := by
  apply Nat.le_of_lt_succ
  have hp : 0 < B32 * p := Nat.mul_pos (by decide) (Nat.lt_of_le_of_lt (Nat.zero_le _) H.hvr)
  have h1 : q * v1 * (B32 * p) ≤ q * V := by
    rw [H.hV, Nat.mul_assoc]
    apply Nat.mul_le_mul_left
    rw [Nat.add_mul, Nat.mul_assoc]
    omega
  have h2 : W < (t + 1) * (B32 * p) := by
    rw [H.hW, Nat.add_mul, Nat.add_mul, Nat.mul_assoc, Nat.one_mul]
    have : (u2 + 1) * p ≤ B32 * p := Nat.mul_le_mul_right _ H.hu2
    rw [Nat.add_mul, Nat.one_mul] at this
    have := H.hur
    omega
  exact Nat.lt_of_mul_lt_mul_right (Nat.lt_of_le_of_lt (Nat.le_trans h1 hq) h2)

theorem Win.down {p v1 v2 vr t u2 ur V W q g r : Nat} (H : Win p v1 v2 vr t u2 ur V W) (hq : q * V ≤ W) (hr : g * v1 + r = t) (h : r * B32 + u2 < g * v2) : q < g := by
  apply Nat.lt_of_not_le
  intro hle
  have hp : 0 < p := Nat.lt_of_le_of_lt (Nat.zero_le _) H.hvr
  have h1 : g * V ≤ W := Nat.le_trans (Nat.mul_le_mul_right _ hle) hq
  have h2 : (t * B32 + u2 + 1) * p ≤ g * (v1 * B32 + v2) * p := by
    apply Nat.mul_le_mul_right
    rw [← hr, Nat.add_mul, Nat.mul_add, Nat.mul_assoc]
    omega
  have h3 : g * (v1 * B32 + v2) * p ≤ g * V := by
    rw [H.hV, Nat.mul_assoc]
    exact Nat.mul_le_mul_left _ (Nat.le_add_right _ _)
  rw [Nat.add_mul, Nat.one_mul] at h2
  have := H.hW
  have := H.hur
  omega

theorem Win.near {p v1 v2 vr t u2 ur V W q g r : Nat} (H : Win p v1 v2 vr t u2 ur V W) (hq : W < (q + 1) * V) (hr : g * v1 + r = t) (hg : g ≤ B32) (h : ¬ r * B32 + u2 < g * v2) : g ≤ q + 1 := by
  apply Nat.le_of_not_lt
  intro hlt
  have h1 : (q + 2) * V ≤ g * V := Nat.mul_le_mul_right _ hlt
  have h2 : g * V = g * (v1 * B32 + v2) * p + g * vr := by rw [H.hV, Nat.mul_add, Nat.mul_assoc]
  have h3 : g * (v1 * B32 + v2) * p ≤ (t * B32 + u2) * p := by
    apply Nat.mul_le_mul_right
    rw [← hr, Nat.add_mul, Nat.mul_add, Nat.mul_assoc]
    omega
  have h4 : g * vr ≤ B32 * vr := Nat.mul_le_mul_right _ hg
  have h5 : B32 * (vr + 1) ≤ B32 * p := Nat.mul_le_mul_left _ H.hvr
  have h6 : B32 * p ≤ V := by
    rw [H.hV]
    have hv1 : 1 ≤ v1 := by
      have := H.norm
      have hB : B32 = 4294967296 := rfl
      omega
    have h10 : B32 ≤ v1 * B32 + v2 := Nat.le_trans (Nat.le_mul_of_pos_left B32 hv1) (Nat.le_add_right _ _)
    exact Nat.le_trans (Nat.mul_le_mul_right p h10) (Nat.le_add_right _ _)
  have h7 : (q + 2) * V = (q + 1) * V + V := by rw [Nat.add_mul, Nat.add_mul]; omega
  have h8 : B32 * (vr + 1) = B32 * vr + B32 := by rw [Nat.mul_add, Nat.mul_one]
  have hB : B32 = 4294967296 := rfl
  have := H.hW
  omega

theorem Win.stop {p v1 v2 vr t u2 ur V W g r : Nat} (H : Win p v1 v2 vr t u2 ur V W) (hr : g * v1 + r = t) (hg : g ≤ B32) (h : B32 ≤ r) : g * V ≤ W := by
  have h1 : g * V = g * v1 * (B32 * p) + g * (v2 * p + vr) := by
    rw [H.hV, Nat.add_mul, Nat.add_assoc, Nat.mul_add, Nat.mul_assoc v1, Nat.mul_assoc]
  have h2 : g * (v2 * p + vr) ≤ B32 * (B32 * p) := by
    apply Nat.mul_le_mul hg
    have : (v2 + 1) * p ≤ B32 * p := Nat.mul_le_mul_right _ H.h2
    rw [Nat.add_mul, Nat.one_mul] at this
    have := H.hvr
    omega
  have h3 : (g * v1 + B32) * (B32 * p) ≤ t * (B32 * p) := Nat.mul_le_mul_right _ (by omega)
  rw [Nat.add_mul] at h3
  have h4 : t * (B32 * p) ≤ W := by
    rw [H.hW, Nat.add_mul, Nat.mul_assoc]
    omega
  omega

/-- The guess, made less as long as it is seen to be too great. -/
def gsN (v1 v2 u2 : Nat) : Nat → Nat → Nat → Nat
  | 0, g, _ => g
  | f + 1, g, r => if B32 ≤ g ∨ r * B32 + u2 < g * v2 then (if B32 ≤ r + v1 then g - 1 else gsN v1 v2 u2 f (g - 1) (r + v1)) else g

theorem gsN_ok {p v1 v2 vr t u2 ur V W q : Nat} (H : Win p v1 v2 vr t u2 ur V W) (hq : q * V ≤ W) (hq' : W < (q + 1) * V) (hqB : q < B32) : ∀ (f g r : Nat), g * v1 + r = t → q ≤ g → g ≤ B32 + 1 → (g = B32 + 1 → r + v1 < B32) → B32 ≤ r + f * v1 → 0 < f →
    q ≤ gsN v1 v2 u2 f g r ∧ gsN v1 v2 u2 f g r ≤ q + 1
  | 0, _, _, _, _, _, _, _, h => by omega
  | f + 1, g, r, hr, h1, h2, h3, h4, _ => by
    unfold gsN
    split
    · rename_i hc
      have hg1 : q ≤ g - 1 ∧ 0 < g := by
        rcases hc with hc | hc
        · omega
        · have := H.down hq hr hc
          omega
      have hr' : (g - 1) * v1 + (r + v1) = t := by
        have h9 : g * v1 = (g - 1) * v1 + v1 := by
          have h10 : g = (g - 1) + 1 := by omega
          have h11 : ((g - 1) + 1) * v1 = (g - 1) * v1 + v1 := by rw [Nat.add_mul, Nat.one_mul]
          rw [← h11, ← h10]
        omega
      split
      · rename_i hb
        have hgB : g - 1 ≤ B32 := by omega
        have := H.stop hr' hgB hb
        refine ⟨hg1.1, ?_⟩
        apply Nat.le_of_lt_succ
        have h5 : (g - 1) * V < (q + 1) * V := Nat.lt_of_le_of_lt this hq'
        have := Nat.lt_of_mul_lt_mul_right h5
        omega
      · rename_i hb
        have hv : B32 ≤ 2 * v1 := H.norm
        by_cases hf : f = 0
        · subst hf
          exfalso
          rw [Nat.zero_add, Nat.one_mul] at h4
          omega
        · refine gsN_ok H hq hq' hqB f (g - 1) (r + v1) hr' hg1.1 (by omega) (by omega) ?_ (by omega)
          rw [Nat.add_mul, Nat.one_mul] at h4
          omega
    · rename_i hc
      exact ⟨h1, H.near hq' hr (by omega) (by omega)⟩

end Go.Proofs.Ytlfdidaeachpoaa

/- Long division, its parts: what the plain functions tell. -/
namespace Go.Proofs.Ytlfdidaeachpoaa
open Go Go.RowKit

theorem ibit_low {x : Nat} (hx : x < 2 ^ 64) : ibit .and .u64 (x : Int) 4294967295 = ((x % 4294967296 : Nat) : Int) := by
  unfold ibit
  have e : ∀ z : Nat, z < 2 ^ 64 → (BitVec.ofInt IntKind.u64.bits (z : Int)).toNat = z := fun z hz => by
    rw [BitVec.toNat_ofInt]
    have : (2 : Nat) ^ IntKind.u64.bits = 18446744073709551616 := rfl
    rw [this]
    omega
  have e2 : (BitVec.ofInt IntKind.u64.bits (4294967295 : Int)).toNat = 4294967295 := e 4294967295 (by decide)
  simp only [BitVec.toNat_and, e x hx, e2]
  have h := Nat.and_two_pow_sub_one_eq_mod x 32
  rw [show (2 : Nat) ^ 32 - 1 = 4294967295 from rfl, show (2 : Nat) ^ 32 = 4294967296 from rfl] at h
  rw [h, u64_in]
  omega

theorem fdiv32 (x : Nat) : (x : Int).fdiv 4294967296 = ((x / 4294967296 : Nat) : Int) := by
  rw [Int.fdiv_eq_ediv_of_nonneg _ (by decide)]; omega

theorem sub_step {U y l : Nat} (hU : U < B32) (hy : y < B32) (hl : l ≤ 1) :
    (IntKind.u64.wrap (IntKind.u64.wrap ((U : Int) - (y : Int)) - (l : Int))).fdiv 9223372036854775808 = ((subD U y l).2 : Int) ∧
      IntKind.u32.wrap (IntKind.u64.wrap (IntKind.u64.wrap ((U : Int) - (y : Int)) - (l : Int))) = ((subD U y l).1 : Int) := by
  have hB : B32 = 4294967296 := rfl
  rw [hB] at hU hy
  rw [wrap_u64, wrap_u64, wrap_u32, Int.fdiv_eq_ediv_of_nonneg _ (by decide)]
  unfold subD
  rw [hB]
  split
  · simp only; omega
  · simp only; omega

theorem dig_nat' {xs : List Int} (h : wfd B32 xs = true) (i : Nat) : ∃ d : Nat, dig xs (i : Int) = (d : Int) ∧ d < 4294967296 := by
  have := dig_bd h i
  exact ⟨(dig xs i).toNat, by omega, by omega⟩
theorem getD_nat {xs : List Int} (h : wfd B32 xs = true) (i : Nat) : ∃ d : Nat, xs.getD i 0 = (d : Int) ∧ d < 4294967296 := by
  have := wfd_get (by decide : 0 < B32) h i
  have hB : (B32 : Int) = 4294967296 := rfl
  exact ⟨(xs.getD i 0).toNat, by omega, by omega⟩

theorem away_l {q j : Nat} {vs : List Int} (hv : wfd B32 vs = true) (hq : q ≤ B32) (n m : Nat) (hm : m ≤ 2 ^ 41) : ∀ (r i o l k : Nat) (us : List Int), r < k → o < B32 → l ≤ 1 → j + i + r ≤ us.length → wfd B32 us = true → us.length ≤ 2 ^ 41 → i + r = m →
    nat_away_l0 n (vs, (j : Int), (q : Int), (m : Int)) k ((o : Int), (l : Int), (i : Int), us) = some (((awN q vs j r i o l us).2 : Int), (awN q vs j r i o l us).1)
  | 0, i, o, l, k + 1, us, _, _, _, _, _, _, h => by
    rw [nat_away_l0_s]
    unfold nat_away_b0
    simp only [RT.run]
    rw [if_neg (by simp <;> omega)]
    rfl
  | r + 1, i, o, l, k + 1, us, hk, ho, hl, hlen, hw, hl2, h => by
    rw [nat_away_l0_s]
    unfold nat_away_b0
    obtain ⟨d, hd, hd'⟩ := dig_nat' hv i
    obtain ⟨u, hu, hu'⟩ := getD_nat hw (j + i)
    have hB : B32 = 4294967296 := rfl
    have hqd : q * d ≤ 4294967296 * 4294967295 := Nat.mul_le_mul (by omega) (by omega)
    have w1 : IntKind.i64.wrap ((j : Int) + (i : Int)) = ((j + i : Nat) : Int) := by rw [i64_in] <;> omega
    have w2 : IntKind.u64.wrap (d : Int) = (d : Int) := u64_in (by omega)
    have w3 : IntKind.u64.wrap ((q : Int) * (d : Int)) = ((q * d : Nat) : Int) := by rw [← Int.natCast_mul, u64_in]; omega
    have w4 : IntKind.u64.wrap ((o : Int) + ((q * d : Nat) : Int)) = ((o + q * d : Nat) : Int) := by rw [← Int.natCast_add, u64_in]; omega
    have w5 : IntKind.u64.wrap (u : Int) = (u : Int) := u64_in (by omega)
    have w6 : IntKind.i64.wrap ((i : Int) + 1) = ((i + 1 : Nat) : Int) := by rw [i64_in] <;> omega
    have hy : (o + q * d) % 4294967296 < B32 := by omega
    obtain ⟨s1, s2⟩ := sub_step (U := u) (by omega) hy hl
    simp only [RT.run, w1, w2, w3, w4, w5, w6, hd, hu, Int.toNat_natCast, ibit_low (x := o + q * d) (by omega), fdiv32, s1, s2]
    rw [if_pos (by simp <;> omega), if_pos (by simp <;> omega), if_pos (by simp <;> omega), if_pos (by simp <;> omega)]
    have e : awN q vs j (r + 1) i o l us = awN q vs j r (i + 1) ((o + q * d) / 4294967296) (subD u ((o + q * d) % 4294967296) l).2 (us.set (j + i) ((subD u ((o + q * d) % 4294967296) l).1 : Int)) := by
      show awN q vs j r (i + 1) ((o + q * (dig vs i).toNat) / B32) _ _ = _
      rw [hd, hu]
      rfl
    rw [e]
    obtain ⟨t1, t2, _⟩ := subD_spec (x := u) (y := (o + q * d) % 4294967296) (by omega) hy hl
    exact away_l hv hq n m hm r (i + 1) _ _ k _ (by omega) (by rw [hB]; omega) t2 (by rw [List.length_set]; omega) (wfd_set hw ⟨Int.natCast_nonneg _, Int.ofNat_lt.2 t1⟩) (by rw [List.length_set]; exact hl2) (by omega)

theorem away_F {us vs : List Int} {j q n : Nat} (hu : wfd B32 us = true) (hv : wfd B32 vs = true) (hq : q ≤ B32) (hl : j + (vs.length + 1) ≤ us.length) (hl2 : us.length ≤ 2 ^ 41) (hn : vs.length + 1 < n) :
    F_nat_away n (us, vs, (j : Int), (q : Int)) = some (decide (0 < (awN q vs j (vs.length + 1) 0 0 0 us).2), (awN q vs j (vs.length + 1) 0 0 0 us).1) := by
  unfold F_nat_away nat_away
  have w : IntKind.i64.wrap ((vs.length : Int) + 1) = ((vs.length + 1 : Nat) : Int) := by rw [i64_in] <;> omega
  have h := away_l (j := j) hv hq n (vs.length + 1) (by omega) (vs.length + 1) 0 0 0 n us hn (by decide) (by omega) (by omega) hu hl2 (by omega)
  simp only [RT.run, w]
  rw [show ((0 : Int), (0 : Int), (0 : Int), us) = (((0 : Nat) : Int), ((0 : Nat) : Int), ((0 : Nat) : Int), us) from rfl, h]
  simp

theorem back_l {j : Nat} {vs : List Int} (hv : wfd B32 vs = true) (n m : Nat) (hm : m ≤ 2 ^ 41) : ∀ (r i o k : Nat) (us : List Int), r < k → o ≤ 1 → j + i + r ≤ us.length → wfd B32 us = true → us.length ≤ 2 ^ 41 → i + r = m →
    nat_back_l0 n (vs, (j : Int), (m : Int)) k ((o : Int), (i : Int), us) = some (bkN vs j r i o us).1
  | 0, i, o, k + 1, us, _, _, _, _, _, h => by
    rw [nat_back_l0_s]
    unfold nat_back_b0
    simp only [RT.run]
    rw [if_neg (by simp <;> omega)]
    rfl
  | r + 1, i, o, k + 1, us, hk, ho, hlen, hw, hl2, h => by
    rw [nat_back_l0_s]
    unfold nat_back_b0
    obtain ⟨d, hd, hd'⟩ := dig_nat' hv i
    obtain ⟨u, hu, hu'⟩ := getD_nat hw (j + i)
    have hB : B32 = 4294967296 := rfl
    have w1 : IntKind.i64.wrap ((j : Int) + (i : Int)) = ((j + i : Nat) : Int) := by rw [i64_in] <;> omega
    have w2 : IntKind.u64.wrap (d : Int) = (d : Int) := u64_in (by omega)
    have w3 : IntKind.u64.wrap ((u : Int) + (d : Int)) = ((u + d : Nat) : Int) := by rw [← Int.natCast_add, u64_in]; omega
    have w4 : IntKind.u64.wrap ((o : Int) + ((u + d : Nat) : Int)) = ((o + (u + d) : Nat) : Int) := by rw [← Int.natCast_add, u64_in]; omega
    have w5 : IntKind.u64.wrap (u : Int) = (u : Int) := u64_in (by omega)
    have w6 : IntKind.i64.wrap ((i : Int) + 1) = ((i + 1 : Nat) : Int) := by rw [i64_in] <;> omega
    have w7 : IntKind.u32.wrap ((o + (u + d) : Nat) : Int) = (((o + (u + d)) % 4294967296 : Nat) : Int) := by rw [wrap_u32]; omega
    simp only [RT.run, w1, w2, w3, w4, w5, w6, w7, hd, hu, Int.toNat_natCast, fdiv32]
    rw [if_pos (by simp <;> omega), if_pos (by simp <;> omega), if_pos (by simp <;> omega), if_pos (by simp <;> omega)]
    have e : bkN vs j (r + 1) i o us = bkN vs j r (i + 1) ((o + (u + d)) / 4294967296) (us.set (j + i) (((o + (u + d)) % 4294967296 : Nat) : Int)) := by
      show bkN vs j r (i + 1) ((o + ((us.getD (j + i) 0).toNat + (dig vs i).toNat)) / B32) _ = _
      rw [hd, hu]
      rfl
    rw [e]
    exact back_l hv n m hm r (i + 1) _ k _ (by omega) (by omega) (by rw [List.length_set]; omega) (wfd_set hw ⟨Int.natCast_nonneg _, by rw [hB]; omega⟩) (by rw [List.length_set]; exact hl2) (by omega)

theorem back_F {us vs : List Int} {j n : Nat} (hu : wfd B32 us = true) (hv : wfd B32 vs = true) (hl : j + (vs.length + 1) ≤ us.length) (hl2 : us.length ≤ 2 ^ 41) (hn : vs.length + 1 < n) :
    F_nat_back n (us, vs, (j : Int)) = some (bkN vs j (vs.length + 1) 0 0 us).1 := by
  unfold F_nat_back nat_back
  have w : IntKind.i64.wrap ((vs.length : Int) + 1) = ((vs.length + 1 : Nat) : Int) := by rw [i64_in] <;> omega
  have h := back_l (j := j) hv n (vs.length + 1) (by omega) (vs.length + 1) 0 0 n us hn (by omega) (by omega) hu hl2 (by omega)
  simp only [RT.run, w]
  rw [show ((0 : Int), (0 : Int), us) = (((0 : Nat) : Int), ((0 : Nat) : Int), us) from rfl, h]
  simp

end Go.Proofs.Ytlfdidaeachpoaa

/- Long division: the guess. -/
namespace Go.Proofs.Ytlfdidaeachpoaa
open Go Go.RowKit

theorem guess_l {us vs : List Int} {j v1 v2 u2 n : Nat} (h2 : 2 ≤ vs.length) (hl : j + vs.length < us.length) (hl2 : us.length ≤ 2 ^ 41)
    (hv1 : vs.getD (vs.length - 1) 0 = (v1 : Int)) (hv2 : vs.getD (vs.length - 2) 0 = (v2 : Int)) (hu2 : us.getD (j + vs.length - 2) 0 = (u2 : Int)) (b1 : v1 < 4294967296) (b2 : v2 < 4294967296) (b3 : u2 < 4294967296) :
    ∀ (f g r k : Nat), f ≤ k → 0 < f → g ≤ 4294967297 → r < 4294967296 → 4294967296 ≤ r + f * v1 →
      nat_guess_l0 n (us, vs, (j : Int), (vs.length : Int)) k ((g : Int), (r : Int)) = some (gsN v1 v2 u2 f g r : Int)
  | f + 1, g, r, k + 1, hk, _, hg, hr, hm => by
    rw [nat_guess_l0_s]
    unfold nat_guess_b0
    have hB : B32 = 4294967296 := rfl
    have w1 : IntKind.i64.wrap ((vs.length : Int) - 1) = ((vs.length - 1 : Nat) : Int) := by rw [i64_in] <;> omega
    have w2 : IntKind.i64.wrap ((vs.length : Int) - 2) = ((vs.length - 2 : Nat) : Int) := by rw [i64_in] <;> omega
    have w3 : IntKind.i64.wrap ((j : Int) + (vs.length : Int)) = ((j + vs.length : Nat) : Int) := by rw [i64_in] <;> omega
    have w4 : IntKind.i64.wrap (((j + vs.length : Nat) : Int) - 2) = ((j + vs.length - 2 : Nat) : Int) := by rw [i64_in] <;> omega
    have x1 : IntKind.u64.wrap (v1 : Int) = (v1 : Int) := u64_in (by omega)
    have x2 : IntKind.u64.wrap (v2 : Int) = (v2 : Int) := u64_in (by omega)
    have x3 : IntKind.u64.wrap (u2 : Int) = (u2 : Int) := u64_in (by omega)
    have x4 : IntKind.u64.wrap ((r : Int) + (v1 : Int)) = ((r + v1 : Nat) : Int) := by rw [u64_in] <;> omega
    have x5 : IntKind.u64.wrap ((r : Int) * 4294967296) = ((r * 2 ^ 32 : Nat) : Int) := by rw [u64_in] <;> omega
    have x6 : ibit .or .u64 ((r * 2 ^ 32 : Nat) : Int) (u2 : Int) = ((r * B32 + u2 : Nat) : Int) := by rw [ibit_or (by omega) (by omega), or_add (by omega)]
    simp only [RT.run, w1, w2, w3, w4, Int.toNat_natCast, hv1, hv2, hu2, x1, x2, x3, x4, x5, x6]
    -- what comes of a guess that is too great
    have less : (B32 ≤ g ∨ r * B32 + u2 < g * v2) → (if decide ((4294967296 : Int) ≤ ((r + v1 : Nat) : Int)) = true then some (IntKind.u64.wrap ((g : Int) - 1)) else
        nat_guess_l0 n (us, vs, (j : Int), (vs.length : Int)) k (IntKind.u64.wrap ((g : Int) - 1), ((r + v1 : Nat) : Int))) = some (gsN v1 v2 u2 (f + 1) g r : Int) := by
      intro hc
      have hg0 : 0 < g := by
        rcases hc with hc | hc
        · exact Nat.lt_of_lt_of_le (by decide) hc
        · apply Nat.pos_of_ne_zero
          rintro rfl
          omega
      have wg : IntKind.u64.wrap ((g : Int) - 1) = ((g - 1 : Nat) : Int) := by rw [u64_in] <;> omega
      rw [wg]
      unfold gsN
      rw [if_pos hc]
      by_cases hb : B32 ≤ r + v1
      · rw [if_pos (decide_eq_true (by omega)), if_pos hb]
      · rw [if_neg (by simpa using (by omega : ((r + v1 : Nat) : Int) < 4294967296)), if_neg hb]
        rw [Nat.add_mul, Nat.one_mul] at hm
        have hf : 0 < f := by
          apply Nat.pos_of_ne_zero
          rintro rfl
          omega
        exact guess_l h2 hl hl2 hv1 hv2 hu2 b1 b2 b3 f (g - 1) (r + v1) k (by omega) hf (by omega) (by omega) (by omega)
    have q1 : (decide ((0 : Int) ≤ ((vs.length - 1 : Nat) : Int)) && decide (((vs.length - 1 : Nat) : Int) < (vs.length : Int))) = true := by simp <;> omega
    have q2 : (decide ((0 : Int) ≤ ((vs.length - 2 : Nat) : Int)) && decide (((vs.length - 2 : Nat) : Int) < (vs.length : Int))) = true := by simp <;> omega
    have q3 : (decide ((0 : Int) ≤ ((j + vs.length - 2 : Nat) : Int)) && decide (((j + vs.length - 2 : Nat) : Int) < (us.length : Int))) = true := by simp <;> omega
    rw [if_pos q1, if_pos q2, if_pos q3]
    by_cases hg1 : B32 ≤ g
    · rw [if_pos (decide_eq_true (by omega)), if_pos trivial]
      exact less (.inl hg1)
    · rw [if_neg (by simpa using (by omega : (g : Int) < 4294967296))]
      have hgm : g * v2 ≤ 4294967295 * 4294967295 := Nat.mul_le_mul (by omega) (by omega)
      have wm : IntKind.u64.wrap ((g : Int) * (v2 : Int)) = ((g * v2 : Nat) : Int) := by rw [← Int.natCast_mul, u64_in]; omega
      rw [wm]
      by_cases hc : r * B32 + u2 < g * v2
      · rw [if_pos (decide_eq_true (Int.ofNat_lt.2 hc))]
        exact less (.inr hc)
      · rw [if_neg (by simpa using fun h => hc (Int.ofNat_lt.1 h))]
        unfold gsN
        rw [if_neg (by rintro (h | h); exact hg1 h; exact hc h)]

theorem Win.top {p v1 v2 vr t u2 ur V W : Nat} (H : Win p v1 v2 vr t u2 ur V W) : t < B32 * v1 + B32 := by
  have k1 : t * (B32 * p) ≤ W := by
    rw [H.hW, Nat.add_mul, Nat.mul_assoc t]
    omega
  have k2 : V < (v1 + 1) * (B32 * p) := by
    rw [H.hV, Nat.add_mul, Nat.add_mul, Nat.mul_assoc, Nat.one_mul]
    have : (v2 + 1) * p ≤ B32 * p := Nat.mul_le_mul_right _ H.h2
    rw [Nat.add_mul, Nat.one_mul] at this
    have := H.hvr
    omega
  have k3 : t * (B32 * p) < B32 * ((v1 + 1) * (B32 * p)) := Nat.lt_of_le_of_lt k1 (Nat.lt_trans H.lt ((Nat.mul_lt_mul_left (by decide : 0 < B32)).2 k2))
  rw [← Nat.mul_assoc B32] at k3
  have k4 := Nat.lt_of_mul_lt_mul_right k3
  rw [Nat.mul_add, Nat.mul_one] at k4
  exact k4

/-- The guess of place j: the quotient's digit Q, or one more. -/
theorem guess_F {us vs : List Int} {j n q : Nat} (hu : wfd B32 us = true) (hv : wfd B32 vs = true) (h2 : 2 ≤ vs.length) (hl : j + vs.length < us.length) (hl2 : us.length ≤ 2 ^ 41) (hn : 3 ≤ n)
    (hnorm : B32 ≤ 2 * (vs.getD (vs.length - 1) 0).toNat) (hlt : val B32 us / B32 ^ j % B32 ^ (vs.length + 1) < B32 * val B32 vs)
    (hq : q * val B32 vs ≤ val B32 us / B32 ^ j % B32 ^ (vs.length + 1)) (hq' : val B32 us / B32 ^ j % B32 ^ (vs.length + 1) < (q + 1) * val B32 vs) :
    ∃ g : Nat, F_nat_guess n (us, vs, (j : Int)) = some (g : Int) ∧ q ≤ g ∧ g ≤ q + 1 := by
  have hB : B32 = 4294967296 := rfl
  obtain ⟨v1, hv1, b1⟩ := getD_nat hv (vs.length - 1)
  obtain ⟨v2, hv2, b2⟩ := getD_nat hv (vs.length - 2)
  obtain ⟨u0, hu0, c0⟩ := getD_nat hu (j + vs.length)
  obtain ⟨u1, hu1, c1⟩ := getD_nat hu (j + vs.length - 1)
  obtain ⟨u2, hu2, c2⟩ := getD_nat hu (j + vs.length - 2)
  rw [hv1, Int.toNat_natCast] at hnorm
  -- the numbers of the window
  obtain ⟨m, hm⟩ : ∃ m, vs.length = m + 2 := ⟨vs.length - 2, by omega⟩
  have dv1 : val B32 vs / B32 ^ (m + 1) % B32 = v1 := by
    have := val_digit (by decide : 0 < B32) (m + 1) hv
    rw [show m + 1 = vs.length - 1 by omega] at this ⊢
    rw [hv1] at this; exact Int.ofNat_inj.1 this
  have dv2 : val B32 vs / B32 ^ m % B32 = v2 := by
    have := val_digit (by decide : 0 < B32) m hv
    rw [show m = vs.length - 2 by omega] at this ⊢
    rw [hv2] at this; exact Int.ofNat_inj.1 this
  have du : ∀ i u, us.getD i 0 = ((u : Nat) : Int) → val B32 us / B32 ^ i % B32 = u := fun i u h => by
    have := val_digit (by decide : 0 < B32) i hu
    rw [h] at this; exact Int.ofNat_inj.1 this
  have du0 := du _ _ hu0
  have du1 := du _ _ hu1
  have du2 := du _ _ hu2
  generalize hV : val B32 vs = V at *
  generalize hU : val B32 us = U at *
  have hVlt : V < B32 ^ (m + 2) := by rw [← hV, ← hm]; exact val_lt (by decide) hv
  have pm : 0 < B32 ^ m := Nat.pow_pos (by decide)
  have e1 : V = (v1 * B32 + v2) * B32 ^ m + V % B32 ^ m := by
    have t1 := Nat.mod_add_div V (B32 ^ m)
    have t2 := Nat.mod_add_div (V / B32 ^ m) B32
    have t3 : V / B32 ^ m / B32 = v1 := by
      rw [Nat.div_div_eq_div_mul, ← Nat.pow_succ, ← dv1, Nat.mod_eq_of_lt]
      rw [Nat.div_lt_iff_lt_mul (Nat.pow_pos (by decide)), ← Nat.pow_succ']
      exact hVlt
    rw [dv2, t3] at t2
    rw [Nat.mul_comm v1 B32, Nat.add_comm (B32 * v1) v2, t2, Nat.mul_comm (V / B32 ^ m)]
    omega
  have e2 : U / B32 ^ j % B32 ^ (vs.length + 1) = ((u0 * B32 + u1) * B32 + u2) * B32 ^ m + U / B32 ^ j % B32 ^ m := by
    rw [hm]
    have f : ∀ k, U / B32 ^ j / B32 ^ k % B32 = U / B32 ^ (j + k) % B32 := fun k => by rw [Nat.div_div_eq_div_mul, ← Nat.pow_add]
    have s : ∀ k, U / B32 ^ j % B32 ^ (k + 1) = U / B32 ^ j / B32 ^ k % B32 * B32 ^ k + U / B32 ^ j % B32 ^ k := fun k => by
      rw [Nat.pow_succ, Nat.mod_mul]
      rw [Nat.mul_comm (B32 ^ k)]
      omega
    have g0 := f (m + 2)
    have g1 := f (m + 1)
    have g2 := f m
    rw [show j + (m + 2) = j + vs.length by omega, du0] at g0
    rw [show j + (m + 1) = j + vs.length - 1 by omega, du1] at g1
    rw [show j + m = j + vs.length - 2 by omega, du2] at g2
    have s0 := s (m + 2)
    have s1 := s (m + 1)
    have s2 := s m
    rw [g0] at s0
    rw [g1] at s1
    rw [g2] at s2
    rw [show m + 2 + 1 = m + 3 by omega] at s0 ⊢
    rw [show m + 1 + 1 = m + 2 by omega] at s1
    rw [s0, s1, s2]
    rw [Nat.pow_succ B32 (m + 1), Nat.pow_succ B32 m]
    simp only [Nat.add_mul, Nat.mul_assoc, Nat.mul_comm B32, Nat.mul_left_comm B32]
    omega
  generalize hW : U / B32 ^ j % B32 ^ (vs.length + 1) = W at *
  have H : Win (B32 ^ m) v1 v2 (V % B32 ^ m) (u0 * B32 + u1) u2 (U / B32 ^ j % B32 ^ m) V W := ⟨e1, e2, Nat.mod_lt _ pm, Nat.mod_lt _ pm, b2, c2, hnorm, hlt⟩
  have hv1p : 0 < v1 := by omega
  have hqB : q < B32 := by
    apply Nat.lt_of_mul_lt_mul_right (a := V)
    exact Nat.lt_of_le_of_lt hq hlt
  have hstart := H.start hq
  -- the top two digits, by the first
  have htop := H.top
  have htB : (u0 * B32 + u1) < (B32 + 1) * v1 + v1 := by
    rw [Nat.add_mul, Nat.one_mul]
    omega
  have hg0 : (u0 * B32 + u1) / v1 ≤ B32 + 1 := by
    rw [← Nat.lt_succ_iff, Nat.div_lt_iff_lt_mul hv1p, Nat.succ_mul]
    exact htB
  have hdm := Nat.div_add_mod (u0 * B32 + u1) v1
  have hrlt := Nat.mod_lt (u0 * B32 + u1) hv1p
  have gs := gsN_ok H hq hq' hqB 3 ((u0 * B32 + u1) / v1) ((u0 * B32 + u1) % v1) (by rw [Nat.mul_comm]; exact hdm) ((Nat.le_div_iff_mul_le hv1p).2 hstart) hg0 (fun h => by
    rw [h] at hdm
    have : v1 * (B32 + 1) = v1 * B32 + v1 := by rw [Nat.mul_add, Nat.mul_one]
    have k4 : u0 * B32 + u1 < B32 * v1 + B32 := htop
    rw [Nat.mul_comm B32 v1] at k4
    omega) (by omega) (by omega)
  refine ⟨gsN v1 v2 u2 3 ((u0 * B32 + u1) / v1) ((u0 * B32 + u1) % v1), ?_, gs.1, gs.2⟩
  have hl := guess_l (n := n) (us := us) (vs := vs) (j := j) (v1 := v1) (v2 := v2) (u2 := u2) h2 hl hl2 hv1 hv2 hu2 b1 b2 c2 3 ((u0 * B32 + u1) / v1) ((u0 * B32 + u1) % v1) n hn (by omega) (by omega) (by omega) (by omega)
  unfold F_nat_guess nat_guess
  have w1 : IntKind.i64.wrap ((vs.length : Int) - 1) = ((vs.length - 1 : Nat) : Int) := by rw [i64_in] <;> omega
  have w3 : IntKind.i64.wrap ((j : Int) + (vs.length : Int)) = ((j + vs.length : Nat) : Int) := by rw [i64_in] <;> omega
  have w4 : IntKind.i64.wrap (((j + vs.length : Nat) : Int) - 1) = ((j + vs.length - 1 : Nat) : Int) := by rw [i64_in] <;> omega
  have x1 : IntKind.u64.wrap (v1 : Int) = (v1 : Int) := u64_in (by omega)
  have x2 : IntKind.u64.wrap (u1 : Int) = (u1 : Int) := u64_in (by omega)
  have x3 : IntKind.u64.wrap (u0 : Int) = (u0 : Int) := u64_in (by omega)
  have x5 : IntKind.u64.wrap ((u0 : Int) * 4294967296) = ((u0 * 2 ^ 32 : Nat) : Int) := by rw [u64_in] <;> omega
  have x6 : ibit .or .u64 ((u0 * 2 ^ 32 : Nat) : Int) (u1 : Int) = ((u0 * B32 + u1 : Nat) : Int) := by
    have h9 : u0 * 2 ^ 32 < 2 ^ 64 := by clear gs hl hdm htop htB hg0; omega
    rw [ibit_or h9 (by omega), or_add (by omega)]
  have d1 : (((u0 * B32 + u1 : Nat) : Int)).tdiv (v1 : Int) = (((u0 * B32 + u1) / v1 : Nat) : Int) := by rw [Int.tdiv_eq_ediv_of_nonneg (Int.natCast_nonneg _)]; exact (Int.natCast_ediv _ _).symm
  have d2 : (((u0 * B32 + u1 : Nat) : Int)).tmod (v1 : Int) = (((u0 * B32 + u1) % v1 : Nat) : Int) := by rw [Int.tmod_eq_emod_of_nonneg (Int.natCast_nonneg _)]; exact (Int.natCast_emod _ _).symm
  have x7 : IntKind.u64.wrap ((((u0 * B32 + u1) / v1 : Nat) : Int)) = (((u0 * B32 + u1) / v1 : Nat) : Int) := by
    have h9 := hg0
    rw [hB] at h9
    refine u64_in ⟨Int.natCast_nonneg _, ?_⟩
    have h10 : (((u0 * B32 + u1) / v1 : Nat) : Int) ≤ ((4294967296 + 1 : Nat) : Int) := Int.ofNat_le.2 (by rw [hB]; exact h9)
    exact Int.lt_of_le_of_lt h10 (by decide)
  simp only [RT.run, w1, w3, w4, Int.toNat_natCast, hv1, hu0, hu1, x1, x2, x3, x5, x6, d1, d2, x7, hl]
  have y0 : ((v1 : Int) != 0) = true := by simp; omega
  rw [y0]
  rw [if_pos (by simp <;> omega), if_pos (by simp <;> omega), if_pos (by simp <;> omega), if_pos rfl, if_pos (by simp <;> omega), if_pos rfl]
  rfl

end Go.Proofs.Ytlfdidaeachpoaa

/- Long division: the loop and the whole. -/
namespace Go.Proofs.Ytlfdidaeachpoaa
open Go Go.RowKit

theorem awN_drop (q : Nat) (vs : List Int) (j : Nat) : ∀ (r i o l : Nat) (us : List Int), (awN q vs j r i o l us).1.drop (j + i + r) = us.drop (j + i + r)
  | 0, _, _, _, _ => rfl
  | r + 1, i, o, l, us => by
    rw [awN]
    have := awN_drop q vs j r (i + 1) ((o + q * (dig vs i).toNat) / B32) (subD (us.getD (j + i) 0).toNat ((o + q * (dig vs i).toNat) % B32) l).2 (us.set (j + i) ((subD (us.getD (j + i) 0).toNat ((o + q * (dig vs i).toNat) % B32) l).1 : Int))
    rw [show j + (i + 1) + r = j + i + (r + 1) by omega] at this
    rw [this, List.drop_set_of_lt (by omega)]

theorem bkN_drop (vs : List Int) (j : Nat) : ∀ (r i o : Nat) (us : List Int), (bkN vs j r i o us).1.drop (j + i + r) = us.drop (j + i + r)
  | 0, _, _, _ => rfl
  | r + 1, i, o, us => by
    rw [bkN]
    have := bkN_drop vs j r (i + 1) ((o + ((us.getD (j + i) 0).toNat + (dig vs i).toNat)) / B32) (us.set (j + i) (((o + ((us.getD (j + i) 0).toNat + (dig vs i).toNat)) % B32 : Nat) : Int))
    rw [show j + (i + 1) + r = j + i + (r + 1) by omega] at this
    rw [this, List.drop_set_of_lt (by omega)]

theorem drop_zero {us : List Int} {k : Nat} (hk : k ≤ us.length) (h : val B32 us < B32 ^ k) : val B32 (us.drop k) = 0 := by
  rw [val_take_drop B32 us k hk] at h
  apply Nat.eq_zero_of_not_pos
  intro hp
  have : B32 ^ k * 1 ≤ B32 ^ k * val B32 (us.drop k) := Nat.mul_le_mul_left _ hp
  omega

theorem val_low {us : List Int} (hw : wfd B32 us = true) {k : Nat} (hk : k ≤ us.length) (h : val B32 (us.drop k) = 0) : val B32 us < B32 ^ k := by
  rw [val_take_drop B32 us k hk, h, Nat.mul_zero, Nat.add_zero]
  have := val_lt (by decide : 0 < B32) (wfd_take (n := k) hw)
  rwa [List.length_take, Nat.min_eq_left hk] at this

theorem div_round {us vs : List Int} {j g Q : Nat} (hu : wfd B32 us = true) (hv : wfd B32 vs = true) (hj : j + (vs.length + 1) ≤ us.length) (hV : 0 < val B32 vs)
    (hU : val B32 us < B32 ^ j * (B32 * val B32 vs)) (hQ : Q * val B32 vs ≤ val B32 us / B32 ^ j) (hQ' : val B32 us / B32 ^ j < (Q + 1) * val B32 vs) (hg : Q ≤ g) (hg' : g ≤ Q + 1) :
    ((awN g vs j (vs.length + 1) 0 0 0 us).2 = 0 ∧ g = Q ∧ wfd B32 (awN g vs j (vs.length + 1) 0 0 0 us).1 = true ∧ (awN g vs j (vs.length + 1) 0 0 0 us).1.length = us.length ∧ val B32 (awN g vs j (vs.length + 1) 0 0 0 us).1 + B32 ^ j * (Q * val B32 vs) = val B32 us) ∨
    ((awN g vs j (vs.length + 1) 0 0 0 us).2 = 1 ∧ g = Q + 1 ∧ wfd B32 (awN g vs j (vs.length + 1) 0 0 0 us).1 = true ∧ (awN g vs j (vs.length + 1) 0 0 0 us).1.length = us.length ∧
      wfd B32 (bkN vs j (vs.length + 1) 0 0 (awN g vs j (vs.length + 1) 0 0 0 us).1).1 = true ∧ (bkN vs j (vs.length + 1) 0 0 (awN g vs j (vs.length + 1) 0 0 0 us).1).1.length = us.length ∧
      val B32 (bkN vs j (vs.length + 1) 0 0 (awN g vs j (vs.length + 1) 0 0 0 us).1).1 + B32 ^ j * (Q * val B32 vs) = val B32 us) := by
  have hVlt := val_lt (by decide : 0 < B32) hv
  have pj : 0 < B32 ^ j := Nat.pow_pos (by decide)
  have hUj : val B32 us / B32 ^ j < B32 * val B32 vs := by
    rw [Nat.div_lt_iff_lt_mul pj, Nat.mul_comm]
    exact hU
  have hQB : Q < B32 := by
    apply Nat.lt_of_mul_lt_mul_right (a := val B32 vs)
    exact Nat.lt_of_le_of_lt hQ hUj
  have hgV : g * val B32 vs < B32 ^ (vs.length + 1) := by
    have h1 : g * val B32 vs ≤ B32 * val B32 vs := Nat.mul_le_mul_right _ (by omega)
    have h2 : B32 * val B32 vs < B32 * B32 ^ vs.length := (Nat.mul_lt_mul_left (by decide)).2 hVlt
    rw [Nat.pow_succ, Nat.mul_comm (B32 ^ vs.length)]
    omega
  obtain ⟨a1, a2, a3, a4⟩ := aw_val (q := g) hv hu hj hgV
  have ad := awN_drop g vs j (vs.length + 1) 0 0 0 us
  rw [Nat.add_zero] at ad
  have hUP : val B32 us < B32 ^ (j + (vs.length + 1)) := by
    refine Nat.lt_of_lt_of_le hU ?_
    rw [Nat.pow_add, Nat.pow_succ, Nat.mul_comm (B32 ^ vs.length)]
    exact Nat.mul_le_mul_left _ (Nat.mul_le_mul_left _ (Nat.le_of_lt hVlt))
  have hd0 := drop_zero hj hUP
  have aLow : val B32 (awN g vs j (vs.length + 1) 0 0 0 us).1 < B32 ^ (j + (vs.length + 1)) := val_low a1 (by rw [a2]; exact hj) (by rw [ad]; exact hd0)
  generalize hA : awN g vs j (vs.length + 1) 0 0 0 us = A at *
  obtain ⟨us1, l⟩ := A
  simp only at *
  have hmod : B32 ^ j * (val B32 us / B32 ^ j) ≤ val B32 us := Nat.mul_div_le _ _
  by_cases hgQ : g = Q
  · left
    subst hgQ
    have h1 : B32 ^ j * (g * val B32 vs) ≤ val B32 us := Nat.le_trans (Nat.mul_le_mul_left _ hQ) hmod
    have hl : l = 0 := by
      apply Nat.eq_zero_of_not_pos
      intro hp
      have : B32 ^ (j + (vs.length + 1)) * 1 ≤ B32 ^ (j + (vs.length + 1)) * l := Nat.mul_le_mul_left _ hp
      omega
    subst hl
    rw [Nat.mul_zero, Nat.add_zero] at a4
    exact ⟨by first | rfl | trivial, by first | rfl | trivial, a1, a2, a4⟩
  · right
    have hg1 : g = Q + 1 := by omega
    subst hg1
    have h1 : val B32 us < B32 ^ j * ((Q + 1) * val B32 vs) := by
      have := Nat.lt_mul_div_succ (val B32 us) pj
      exact Nat.lt_of_lt_of_le this (Nat.mul_le_mul_left _ hQ')
    have hl : l = 1 := by
      have : l ≠ 0 := by
        rintro rfl
        rw [Nat.mul_zero, Nat.add_zero] at a4
        omega
      omega
    subst hl
    rw [Nat.mul_one] at a4
    obtain ⟨b1, b2, b3, b4⟩ := bk_val hv (j := j) (us := us1) a1 (by rw [a2]; exact hj)
    have bd := bkN_drop vs j (vs.length + 1) 0 0 us1
    rw [Nat.add_zero] at bd
    have bLow : val B32 (bkN vs j (vs.length + 1) 0 0 us1).1 < B32 ^ (j + (vs.length + 1)) := val_low b1 (by rw [b2, a2]; exact hj) (by rw [bd, ad]; exact hd0)
    generalize hBk : bkN vs j (vs.length + 1) 0 0 us1 = Bk at *
    obtain ⟨us2, o⟩ := Bk
    simp only at *
    have e1 : B32 ^ j * ((Q + 1) * val B32 vs) = B32 ^ j * (Q * val B32 vs) + B32 ^ j * val B32 vs := by rw [Nat.add_mul, Nat.one_mul, Nat.mul_add]
    have h2 : B32 ^ j * (Q * val B32 vs) ≤ val B32 us := Nat.le_trans (Nat.mul_le_mul_left _ hQ) hmod
    have ho : o = 1 := by
      have : o ≠ 0 := by
        rintro rfl
        rw [Nat.mul_zero, Nat.add_zero] at b4
        omega
      omega
    subst ho
    rw [Nat.mul_one] at b4
    refine ⟨by first | rfl | trivial, by first | rfl | trivial, a1, a2, b1, b2.trans a2, ?_⟩
    omega

theorem div_l {vs : List Int} {s : Int} {n : Nat} (hv : wfd B32 vs = true) (h2 : 2 ≤ vs.length) (hn : vs.length + 2 < n) (hnorm : B32 ≤ 2 * (vs.getD (vs.length - 1) 0).toNat) :
    ∀ (jj k : Nat) (us qs : List Int), jj < k → wfd B32 us = true → jj + vs.length ≤ us.length → us.length ≤ 2 ^ 41 → val B32 us < B32 ^ jj * val B32 vs → wfd B32 qs = true → jj ≤ qs.length → (∀ i, i < jj → qs.getD i 0 = 0) → qs.length ≤ 2 ^ 41 →
      ∃ us' qs', nat_Div_l1 n (s, vs) k ((jj : Int) - 1, us, qs) = some (us', qs') ∧ wfd B32 us' = true ∧ us'.length = us.length ∧ wfd B32 qs' = true ∧ qs'.length = qs.length ∧ val B32 us' < val B32 vs ∧
        ∃ D, val B32 us = val B32 us' + D * val B32 vs ∧ val B32 qs' = val B32 qs + D
  | 0, k + 1, us, qs, _, hu, _, _, hU, hq, _, _, _ => by
    refine ⟨us, qs, ?_, hu, rfl, hq, rfl, by simpa using hU, 0, by simp, by simp⟩
    show (nat_Div_b1 n s vs (((0 : Nat) : Int) - 1) us qs).run (nat_Div_l1 n (s, vs) k) = _
    unfold nat_Div_b1
    simp only [RT.run]
    rw [if_neg (by simp)]
  | jj + 1, k + 1, us, qs, hk, hu, hl, hl2, hU, hq, hql, hqz, hql2 => by
    have hV : 0 < val B32 vs := by
      apply Nat.pos_of_ne_zero
      intro h
      rw [h, Nat.mul_zero] at hU
      exact Nat.not_lt_zero _ hU
    have pj : 0 < B32 ^ jj := Nat.pow_pos (by decide)
    have hVlt := val_lt (by decide : 0 < B32) hv
    have hU' : val B32 us < B32 ^ jj * (B32 * val B32 vs) := by rw [← Nat.mul_assoc, ← Nat.pow_succ]; exact hU
    have hUj : val B32 us / B32 ^ jj < B32 * val B32 vs := by rw [Nat.div_lt_iff_lt_mul pj, Nat.mul_comm]; exact hU'
    have hwin : val B32 us / B32 ^ jj % B32 ^ (vs.length + 1) = val B32 us / B32 ^ jj := by
      rw [Nat.mod_eq_of_lt]
      refine Nat.lt_trans hUj ?_
      rw [Nat.pow_succ, Nat.mul_comm (B32 ^ vs.length)]
      exact (Nat.mul_lt_mul_left (by decide)).2 hVlt
    have hQ := Nat.div_mul_le_self (val B32 us / B32 ^ jj) (val B32 vs)
    have hQ' : val B32 us / B32 ^ jj < (val B32 us / B32 ^ jj / val B32 vs + 1) * val B32 vs := by
      rw [Nat.mul_comm]
      exact Nat.lt_mul_div_succ _ hV
    have hQB : val B32 us / B32 ^ jj / val B32 vs < B32 := by rw [Nat.div_lt_iff_lt_mul hV]; exact hUj
    obtain ⟨g, hg, hg1, hg2⟩ := guess_F (n := n) (j := jj) hu hv h2 (by omega) hl2 (by omega) hnorm (by rw [hwin]; exact hUj) (by rw [hwin]; exact hQ) (by rw [hwin]; exact hQ')
    generalize hQd : val B32 us / B32 ^ jj / val B32 vs = Q at *
    have hB : B32 = 4294967296 := rfl
    have ix : (((jj + 1 : Nat) : Int) - 1) = (jj : Int) := by omega
    have wj : IntKind.i64.wrap ((jj : Int) - 1) = (jj : Int) - 1 := by rw [i64_in]; omega
    have rd := div_round hu hv (j := jj) (by omega) hV hU' hQ hQ' hg1 hg2
    -- the quotient's row behind the round
    have hq1 : wfd B32 (qs.set jj (Q : Int)) = true := wfd_set hq ⟨Int.natCast_nonneg _, Int.ofNat_lt.2 hQB⟩
    have hqv := val_set (b := B32) (xs := qs) (i := jj) (d := (Q : Int)) (by omega)
    rw [hqz jj (by omega)] at hqv
    simp only [Int.toNat_natCast, Int.toNat_zero, Nat.mul_zero, Nat.add_zero] at hqv
    have step : ∀ us1 : List Int, wfd B32 us1 = true → us1.length = us.length → val B32 us1 + B32 ^ jj * (Q * val B32 vs) = val B32 us →
        ∃ us' qs', nat_Div_l1 n (s, vs) k ((jj : Int) - 1, us1, qs.set jj (Q : Int)) = some (us', qs') ∧ wfd B32 us' = true ∧ us'.length = us.length ∧ wfd B32 qs' = true ∧ qs'.length = qs.length ∧ val B32 us' < val B32 vs ∧
          ∃ D, val B32 us = val B32 us' + D * val B32 vs ∧ val B32 qs' = val B32 qs + D := by
      intro us1 hw1 hl1 hv1
      have hlt : val B32 us1 < B32 ^ jj * val B32 vs := by
        have h3 : val B32 us < B32 ^ jj * ((Q + 1) * val B32 vs) := Nat.lt_of_lt_of_le (Nat.lt_mul_div_succ (val B32 us) pj) (Nat.mul_le_mul_left _ hQ')
        rw [Nat.add_mul, Nat.one_mul, Nat.mul_add] at h3
        omega
      obtain ⟨us', qs', h4, h5, h6, h7, h8, h9, D, h10, h11⟩ := div_l hv h2 hn hnorm jj k us1 (qs.set jj (Q : Int)) (by omega) hw1 (by omega) (by omega) hlt hq1 (by rw [List.length_set]; omega)
        (fun i hi => by rw [List.getD, List.getElem?_set]; rw [if_neg (by omega)]; exact hqz i (by omega)) (by rw [List.length_set]; omega)
      refine ⟨us', qs', h4, h5, by omega, h7, by rw [h8, List.length_set], h9, D + B32 ^ jj * Q, ?_, ?_⟩
      · rw [Nat.add_mul, Nat.mul_assoc]; omega
      · rw [h11]; omega
    show ∃ us' qs', (nat_Div_b1 n s vs (((jj + 1 : Nat) : Int) - 1) us qs).run (nat_Div_l1 n (s, vs) k) = some (us', qs') ∧ _
    unfold nat_Div_b1
    rw [ix]
    simp only [RT.run, hg, Option.bind_some]
    rw [if_pos (by simp)]
    have hqs : (decide ((0 : Int) ≤ (jj : Int)) && decide ((jj : Int) < (qs.length : Int))) = true := by simp <;> omega
    rw [away_F (q := g) hu hv (by omega) (by omega) hl2 (by omega)]
    simp only [Option.bind_some, wj, Int.toNat_natCast]
    rcases rd with ⟨r1, r2, r3, r4, r5⟩ | ⟨r1, r2, r3, r4, r5, r6, r7⟩
    · rw [r1, if_neg (by simp), if_pos hqs, r2]
      have wq : IntKind.u32.wrap (Q : Int) = (Q : Int) := u32_in ⟨Int.natCast_nonneg _, by omega⟩
      rw [r2] at r3 r4 r5
      rw [wq]
      exact step _ r3 r4 r5
    · rw [r1, if_pos (by simp), back_F r3 hv (by omega) (by omega) (by omega)]
      simp only [Option.bind_some]
      rw [if_pos hqs, r2]
      have wq : IntKind.u32.wrap (IntKind.u64.wrap (((Q + 1 : Nat) : Int) - 1)) = (Q : Int) := by
        rw [show ((Q + 1 : Nat) : Int) - 1 = (Q : Int) by omega, u64_in (by omega), u32_in (by omega)]
      rw [r2] at r5 r6 r7
      rw [wq]
      exact step _ r5 r6 r7

end Go.Proofs.Ytlfdidaeachpoaa

/- Long division: the whole. -/
namespace Go.Proofs.Ytlfdidaeachpoaa
open Go Go.RowKit

theorem digs_len_le {xs : List Int} (h : wfd B32 xs = true) : (digs B32 (val B32 xs)).length ≤ xs.length := by
  rw [← cut_eq (by decide) h]
  exact List.length_take_le' ..

theorem digs_len' {n m : Nat} (h1 : B32 ^ m ≤ n) (h2 : n < B32 ^ (m + 1)) : (digs B32 n).length = m + 1 := by
  have hn : 0 < n := Nat.lt_of_lt_of_le (Nat.pow_pos (by decide)) h1
  obtain ⟨k, h3, h4, h5⟩ := digs_size (b := B32) (by decide) hn
  rw [h3]
  have a := (Nat.pow_lt_pow_iff_right (by decide : 1 < B32)).1 (Nat.lt_of_le_of_lt h1 h5)
  have b := (Nat.pow_lt_pow_iff_right (by decide : 1 < B32)).1 (Nat.lt_of_le_of_lt h4 h2)
  omega

/-- A divisor of two digits or more, moved up. -/
theorem norm_facts {vb : Nat} (h2 : 2 ≤ (digs B32 vb).length) : ∃ s mb : Nat, (digs B32 vb).length = mb + 2 ∧ (32 : Int) - (bl ((digs B32 vb).getD (mb + 1) 0).toNat : Int) = (s : Int) ∧ s < 32 ∧ 0 ≤ (digs B32 vb).getD (mb + 1) 0 ∧ (digs B32 vb).getD (mb + 1) 0 < 4294967296 ∧
    B32 ^ (mb + 1) ≤ vb ∧ vb * 2 ^ s < B32 ^ (mb + 2) ∧ (digs B32 (vb * 2 ^ s)).length = mb + 2 ∧ B32 ≤ 2 * ((digs B32 (vb * 2 ^ s)).getD (mb + 1) 0).toNat := by
  have hv : 0 < vb := by
    apply Nat.pos_of_ne_zero
    rintro rfl
    rw [digs_zero] at h2
    simp at h2
  obtain ⟨m, h3, h4, h5⟩ := digs_size (b := B32) (by decide) hv
  obtain ⟨mb, rfl⟩ : ∃ mb, m = mb + 1 := ⟨m - 1, by omega⟩
  have pm : 0 < B32 ^ (mb + 1) := Nat.pow_pos (by decide)
  have ht : vb / B32 ^ (mb + 1) < B32 := by
    rw [Nat.div_lt_iff_lt_mul pm, Nat.mul_comm, ← Nat.pow_succ]
    exact h5
  have hg : (digs B32 vb).getD (mb + 1) 0 = ((vb / B32 ^ (mb + 1) : Nat) : Int) := by rw [digs_get (by decide), Nat.mod_eq_of_lt ht]
  have ht0 : 0 < vb / B32 ^ (mb + 1) := Nat.div_pos h4 pm
  have hdm := Nat.div_add_mod vb (B32 ^ (mb + 1))
  have hml := Nat.mod_lt vb pm
  generalize htp : vb / B32 ^ (mb + 1) = t at *
  have hbl : bl t ≤ 32 := bl_le.2 ht
  have hbl0 : 0 < bl t := by
    apply Nat.pos_of_ne_zero
    intro h
    have := bl_le.1 (Nat.le_of_eq h)
    simp at this
    omega
  -- 2^(bl t - 1) <= t < 2^(bl t)
  have b1 : t < 2 ^ bl t := bl_le.1 (Nat.le_refl _)
  have b2 : 2 ^ (bl t - 1) ≤ t := by
    apply Nat.le_of_not_lt
    intro h
    have := bl_le.2 h
    omega
  have p1 : 2 ^ bl t * 2 ^ (32 - bl t) = B32 := by rw [← Nat.pow_add, show bl t + (32 - bl t) = 32 by omega]
  have p2 : 2 ^ (bl t - 1) * 2 ^ (32 - bl t) * 2 = B32 := by rw [← Nat.pow_add, show bl t - 1 + (32 - bl t) = 31 by omega]
  have p3 : 0 < 2 ^ (32 - bl t) := Nat.pow_pos (by decide)
  have q1 : (t + 1) * 2 ^ (32 - bl t) ≤ B32 := by rw [← p1]; exact Nat.mul_le_mul_right _ b1
  have q2 : B32 ≤ 2 * (t * 2 ^ (32 - bl t)) := by
    have := Nat.mul_le_mul_right (2 ^ (32 - bl t)) b2
    omega
  have hlo : B32 ^ (mb + 1) * (t * 2 ^ (32 - bl t)) ≤ vb * 2 ^ (32 - bl t) := by
    rw [← Nat.mul_assoc]
    exact Nat.mul_le_mul_right _ (Nat.le.intro hdm)
  have hhi : vb * 2 ^ (32 - bl t) < B32 ^ (mb + 2) := by
    have h6 : vb < B32 ^ (mb + 1) * (t + 1) := by rw [Nat.mul_add, Nat.mul_one]; omega
    have h7 := (Nat.mul_lt_mul_right p3).2 h6
    rw [Nat.mul_assoc] at h7
    refine Nat.lt_of_lt_of_le h7 ?_
    rw [Nat.pow_succ B32 (mb + 1)]
    exact Nat.mul_le_mul_left _ q1
  have hlen : (digs B32 (vb * 2 ^ (32 - bl t))).length = mb + 2 := by
    refine digs_len' ?_ hhi
    refine Nat.le_trans ?_ hlo
    exact Nat.le_mul_of_pos_right _ (Nat.mul_pos ht0 p3)
  refine ⟨32 - bl t, mb, h3, ?_, by omega, ?_, ?_, h4, hhi, hlen, ?_⟩
  · rw [hg, Int.toNat_natCast]; omega
  · rw [hg]; exact Int.natCast_nonneg _
  · rw [hg]; have hB : B32 = 4294967296 := rfl; omega
  · have h8 : vb * 2 ^ (32 - bl t) / B32 ^ (mb + 1) < B32 := by
      rw [Nat.div_lt_iff_lt_mul pm, Nat.mul_comm B32, ← Nat.pow_succ]
      exact hhi
    rw [digs_get (by decide), Nat.mod_eq_of_lt h8, Int.toNat_natCast]
    have h9 : t * 2 ^ (32 - bl t) ≤ vb * 2 ^ (32 - bl t) / B32 ^ (mb + 1) := by
      rw [Nat.le_div_iff_mul_le pm, Nat.mul_comm]
      exact hlo
    omega

def divRes (va vb : Nat) : List Int × List Int × Bool := if vb = 0 then ([], [], false) else (digs B32 (va / vb), digs B32 (va % vb), true)

theorem Div_F {a b : List Int} {n : Nat} (ha : wfd B32 a = true) (hb : wfd B32 b = true) (la : a.length ≤ 2 ^ 38) (lb : b.length ≤ 2 ^ 38) (hn : a.length + b.length + 5 < n) :
    F_nat_Div n (a, b) = some (divRes (val B32 a) (val B32 b)) := by
  have la' := digs_len_le ha
  have lb' := digs_len_le hb
  have wa := wfd_digs (b := B32) (by decide) (val B32 a)
  have wb := wfd_digs (b := B32) (by decide) (val B32 b)
  have va := val_digs (b := B32) (by decide) (val B32 a)
  have vb := val_digs (b := B32) (by decide) (val B32 b)
  unfold F_nat_Div nat_Div
  have hBB : (4294967296 : Nat) = B32 := rfl
  simp only [RT.run, hBB]
  rw [if_pos (by simp only [Bool.and_eq_true, decide_eq_true_eq]; exact ⟨by omega, ha⟩), if_pos (by simp only [Bool.and_eq_true, decide_eq_true_eq]; exact ⟨by omega, hb⟩)]
  generalize hA : val B32 a = A at *
  generalize hBv : val B32 b = V at *
  change (if (((digs B32 V).length : Int) == 0) = true then _ else _) = _
  by_cases hV : V = 0
  · subst hV
    rw [if_pos (by rw [digs_zero]; rfl)]
    rfl
  have hV0 : 0 < V := Nat.pos_of_ne_zero hV
  have hlV : 0 < (digs B32 V).length := by rw [digs_pos (by decide) hV0]; simp
  rw [if_neg (by simp only [beq_iff_eq]; omega)]
  rw [if_pos (by simp only [Bool.and_eq_true, decide_eq_true_eq]; exact ⟨⟨⟨by omega, by omega⟩, wa⟩, wb⟩)]
  have hdr : divRes A V = (digs B32 (A / V), digs B32 (A % V), true) := if_neg hV
  rw [hdr]
  simp only [va, vb]
  by_cases hlt : A < V
  · rw [if_pos (by
      have : cmpI (A : Int) (V : Int) = -1 := by unfold cmpI; rw [if_pos (Int.ofNat_lt.2 hlt)]
      rw [this]; rfl), Nat.div_eq_of_lt hlt, Nat.mod_eq_of_lt hlt, digs_zero]
  rw [if_neg (by
    have : ¬ cmpI (A : Int) (V : Int) < 0 := by
      unfold cmpI
      rw [if_neg (by omega)]
      split <;> omega
    simpa using this)]
  by_cases h1 : (digs B32 V).length = 1
  · -- one digit
    have hVB : V < B32 := by
      have h3 := val_lt (b := B32) (by decide) wb
      rw [vb, h1, Nat.pow_one] at h3
      exact h3
    have hd : (digs B32 V).getD 0 0 = (V : Int) := by rw [digs_get (by decide), Nat.pow_zero, Nat.div_one, Nat.mod_eq_of_lt hVB]
    have hB : B32 = 4294967296 := rfl
    have hm : A % V < V := Nat.mod_lt _ hV0
    rw [if_pos (by rw [h1]; rfl)]
    have w : IntKind.u64.wrap ((A % V : Nat) : Int) = ((A % V : Nat) : Int) := u64_in ⟨Int.natCast_nonneg _, by omega⟩
    simp only [hd, Int.toNat_natCast, w]
    rw [if_pos (by rw [h1]; rfl), if_pos (by simp only [Bool.and_eq_true, decide_eq_true_eq]; exact ⟨⟨⟨by omega, wa⟩, by omega⟩, by omega⟩), if_pos (by simp only [Bool.and_eq_true, decide_eq_true_eq]; omega)]
  rw [if_neg (by simp only [beq_iff_eq]; omega)]
  obtain ⟨s, mb, f1, f2, f3, f4, f5, f6, f7, f8, f9⟩ := norm_facts (vb := V) (by omega)
  have hAV : V ≤ A := Nat.le_of_not_lt hlt
  -- the dividend has as many digits at least
  obtain ⟨ma, g1, g2, g3⟩ := digs_size (b := B32) (by decide) (Nat.lt_of_lt_of_le hV0 hAV)
  have hml : mb + 1 ≤ ma := by
    have := (Nat.pow_lt_pow_iff_right (by decide : 1 < B32)).1 (Nat.lt_of_le_of_lt (Nat.le_trans f6 hAV) g3)
    omega
  have w1 : IntKind.i64.wrap (((mb + 2 : Nat) : Int) - 1) = ((mb + 1 : Nat) : Int) := by rw [i64_in] <;> omega
  have w2 : IntKind.i64.wrap (((ma + 1 : Nat) : Int) - ((mb + 2 : Nat) : Int)) = ((ma + 1 : Nat) : Int) - ((mb + 2 : Nat) : Int) := by rw [i64_in]; omega
  have w3 : IntKind.i64.wrap (((ma + 1 : Nat) : Int) - ((mb + 2 : Nat) : Int) + 1) = ((ma - mb : Nat) : Int) := by rw [i64_in] <;> omega
  have w4 : IntKind.i64.wrap (((ma - mb : Nat) : Int) - 1) = ((ma - mb : Nat) : Int) - 1 := by rw [i64_in]; omega
  have hs32 : 2 ^ s ≤ B32 := by
    have : (2 : Nat) ^ s ≤ 2 ^ 32 := Nat.pow_le_pow_right (by decide) (by omega)
    exact this
  have hps : 0 < 2 ^ s := Nat.pow_pos (by decide)
  have hAs : A * 2 ^ s < B32 ^ (ma + 2) := by
    rw [Nat.pow_succ B32 (ma + 1)]
    exact Nat.lt_of_lt_of_le ((Nat.mul_lt_mul_right hps).2 g3) (Nat.mul_le_mul_left _ hs32)
  have hVs : V * 2 ^ s < B32 ^ (mb + 3) := Nat.lt_of_lt_of_le f7 (Nat.pow_le_pow_right (by decide) (by omega))
  have fv : val B32 (fixd B32 (mb + 2 + 1) (V * 2 ^ s)) = V * 2 ^ s := by rw [fixd_val, Nat.mod_eq_of_lt hVs]
  have fu : val B32 (fixd B32 (ma + 1 + 1) (A * 2 ^ s)) = A * 2 ^ s := by rw [fixd_val, Nat.mod_eq_of_lt hAs]
  have fvv : val B32 (digs B32 (V * 2 ^ s)) = V * 2 ^ s := val_digs (by decide) _
  have hdiv := div_l (vs := digs B32 (V * 2 ^ s)) (s := (s : Int)) (n := n) (wfd_digs (by decide) _) (by rw [f8]; omega) (by rw [f8]; omega) (by rw [f8]; exact f9) (ma - mb) n (fixd B32 (ma + 1 + 1) (A * 2 ^ s)) (List.replicate (ma - mb) 0)
    (by omega) (fixd_wf (by decide) _ _) (by rw [f8, fixd_len]; omega) (by rw [fixd_len]; omega) (by
      rw [fu, fvv, ← Nat.mul_assoc]
      refine (Nat.mul_lt_mul_right hps).2 ?_
      refine Nat.lt_of_lt_of_le g3 ?_
      rw [show ma + 1 = (ma - mb) + (mb + 1) by omega, Nat.pow_add]
      exact Nat.mul_le_mul_left _ f6) (wfd_replicate (by decide)) (by simp) (fun i hi => by simp [List.getD, hi]) (by simp; omega)
  obtain ⟨us', qs', d1, d2, d3, d4, d5, d6, D, d7, d8⟩ := hdiv
  rw [fu, fvv] at d7
  rw [fvv] at d6
  rw [val_replicate, Nat.zero_add] at d8
  rw [fixd_len] at d3
  rw [List.length_replicate] at d5
  have hD : D = A / V := by
    have h3 : (A * 2 ^ s) / (V * 2 ^ s) = D := by
      rw [d7, Nat.add_mul_div_right _ _ (Nat.mul_pos hV0 hps), Nat.div_eq_of_lt d6, Nat.zero_add]
    rw [← h3, Nat.mul_div_mul_right _ _ hps]
  have hR : val B32 us' = A % V * 2 ^ s := by
    have h3 : (A * 2 ^ s) % (V * 2 ^ s) = val B32 us' := by
      rw [d7, Nat.add_mul_mod_self_right, Nat.mod_eq_of_lt d6]
    rw [← h3, Nat.mul_mod_mul_right]
  rw [f1, g1]
  simp only [w1, w2, w3, w4, f2, Int.toNat_natCast, List.length_replicate, fv]
  rw [if_pos (by simp only [Bool.and_eq_true, decide_eq_true_eq]; omega), if_pos (by simp only [Bool.and_eq_true, decide_eq_true_eq]; exact ⟨f4, f5⟩),
    if_pos (by simp only [Bool.and_eq_true, decide_eq_true_eq]; exact ⟨⟨⟨by omega, wa⟩, by omega⟩, by omega⟩), if_pos (by simp only [Bool.and_eq_true, decide_eq_true_eq]; exact ⟨⟨⟨by omega, wb⟩, by omega⟩, by omega⟩),
    if_pos (by simp only [Bool.and_eq_true, decide_eq_true_eq, fixd_len]; exact ⟨by omega, fixd_wf (by decide) _ _⟩)]
  rw [if_pos (by simp only [Bool.and_eq_true, decide_eq_true_eq]; exact ⟨⟨⟨by omega, trivial⟩, by omega⟩, by omega⟩)]
  rw [d1]
  simp only [Option.bind_some]
  rw [if_pos (by simp only [Bool.and_eq_true, decide_eq_true_eq]; exact ⟨by omega, d4⟩)]
  rw [if_pos (by simp only [Bool.and_eq_true, decide_eq_true_eq]; exact ⟨⟨⟨by omega, d2⟩, by omega⟩, by omega⟩)]
  rw [d8, hD, hR, Nat.mul_div_cancel _ hps]

end Go.Proofs.Ytlfdidaeachpoaa

/- Common divisors. -/
namespace Go.Proofs.Ytlfdidaeachpoaa
open Go Go.RowKit
set_option maxRecDepth 100000
noncomputable section

/-- A number whose digits are right, and not too many. -/
def okN (k : Nat) (xs : List Int) : Bool := decide (xs.length ≤ 2 ^ k) && wfd B32 xs

theorem okN_iff {k : Nat} {xs : List Int} : okN k xs = true ↔ xs.length ≤ 2 ^ k ∧ wfd B32 xs = true := by
  simp [okN]

theorem okN_digs {k : Nat} {xs : List Int} (h : okN k xs = true) : okN k (digs B32 (val B32 xs)) = true := by
  rw [okN_iff] at h ⊢
  exact ⟨Nat.le_trans (digs_len_le h.2) h.1, wfd_digs (by decide) _⟩

theorem digs_len_mono {m n : Nat} (h : m ≤ n) : (digs B32 m).length ≤ (digs B32 n).length := by
  by_cases hm : m = 0
  · subst hm
    rw [digs_zero]
    exact Nat.zero_le _
  obtain ⟨a, h1, h2, h3⟩ := digs_size (b := B32) (by decide) (Nat.pos_of_ne_zero hm)
  obtain ⟨b, h4, h5, h6⟩ := digs_size (b := B32) (by decide) (Nat.lt_of_lt_of_le (Nat.pos_of_ne_zero hm) h)
  have := (Nat.pow_lt_pow_iff_right (by decide : 1 < B32)).1 (Nat.lt_of_le_of_lt (Nat.le_trans h2 h) h6)
  omega

theorem okN_mono {k m n : Nat} (h : m ≤ n) (h' : okN k (digs B32 n) = true) : okN k (digs B32 m) = true := by
  rw [okN_iff] at h' ⊢
  exact ⟨Nat.le_trans (digs_len_mono h) h'.1, wfd_digs (by decide) _⟩

abbrev e_nat_Div (_ : Nat) : Entry := sp_nat_Div (fun x => okN 38 x.1 && okN 38 x.2) (fun x => divRes (val B32 x.1) (val B32 x.2))
theorem e_nat_Div_ok (n : Nat) : (e_nat_Div n).ok pg := sp_nat_Div_ok fun x h => by
  rw [Bool.and_eq_true, okN_iff, okN_iff] at h
  exact ⟨x.1.length + x.2.length + 6, Div_F h.1.2 h.2.2 h.1.1 h.2.1 (by omega)⟩

abbrev nat_Gcd_T (n : Nat) : CallT := tab [e_nat_Cut n, e_nat_Div n]
abbrev nat_Gcd_h0 : Cut := ⟨[.keep [0, 1], .gc], [0, 1]⟩
abbrev nat_Gcd_x0 : Cut := ⟨[.keep [0], .gc], [0]⟩
abbrev nat_Gcd_y0 : Cut := ⟨[.keep [4], .gc], [4]⟩
def nat_Gcd_mk0 (i : Unit) (x : ((List Int) × (List Int))) : List TV × List (Nat × Ent) := ([.lf (.dat (Ty.int IntKind.u32) x.1), .lf (.dat (Ty.int IntKind.u32) x.2)], [])
def nat_Gcd_pt0 : List TV → List (Nat × Ent) → Option (Unit × ((List Int) × (List Int)))
  | [.lf (.dat (Ty.int IntKind.u32) x0), .lf (.dat (Ty.int IntKind.u32) x1)], [] => some ((), (x0, x1))
  | _, _ => none
def nat_Gcd_ev0 (i : Unit) (r : (List Int)) : PE := .exit 0 [.lf (.dat (Ty.int IntKind.u32) r)] []
def nat_Gcd_an0 (i : Unit) (r : (List Int)) : Tree := .leaf (.exit 0 (spSt 25 [0] [.lf (.dat (Ty.int IntKind.u32) r)] []))
def nat_Gcd_b0 (n : Nat) (x0 : (List Int)) (x1 : (List Int)) : RT ((List Int) × (List Int)) (List Int) :=
  (.rq 3 (.ite (decide ((0 : Int) < (↑x1.length : Int)))
  (.rq 2 (.req (okN (38 : Nat) x0 && okN (38 : Nat) x1)
  (.rq 11 (.again ((x1, (divRes (val B32 x0) (val B32 x1)).snd.fst))))))
  (.done x0)))
def nat_Gcd_l0 (n : Nat) (i : Unit) : Nat → ((List Int) × (List Int)) → Option (List Int) := loopN (fun rec x => (nat_Gcd_b0 n x.1 x.2).run rec)
theorem nat_Gcd_l0_s (n : Nat) (i : Unit) (k : Nat) (x : ((List Int) × (List Int))) : nat_Gcd_l0 n i (k + 1) x = (nat_Gcd_b0 n x.1 x.2).run (nat_Gcd_l0 n i k) := rfl
def nat_Gcd_t0 (n : Nat) (σ : St) : Option Tree := match seeSt nat_Gcd_h0.plan nat_Gcd_h0.ts 25 σ with
  | some y => (match nat_Gcd_pt0 y.1 y.2 with
    | some x => some (loopAns (nat_Gcd_l0 n x.1 n x.2) (nat_Gcd_an0 x.1))
    | none => none)
  | none => none
def nat_Gcd_told (n : Nat) : Nat → St → Option Tree
  | 0, σ => nat_Gcd_t0 n σ
  | _, _ => none
def nat_Gcd_res (y : (List Int)) : CallRes := ⟨true, .lf (.dat (Ty.int IntKind.u32) y), [], [], true⟩
def nat_Gcd (n : Nat) (a0 : (List Int)) (a1 : (List Int)) : RT Unit (List Int) :=
  (.rq 2 (.req (decide (a0.length ≤ (1099511627776 : Nat)) && wfd B32 a0)
  (.rq 1 (.req (decide (a1.length ≤ (1099511627776 : Nat)) && wfd B32 a1)
  (.rq 2 (.call (nat_Gcd_l0 n () n (digs B32 (val B32 a0), digs B32 (val B32 a1))) default fun v0 =>
  (.rq 2 (.done v0))))))))
def F_nat_Gcd (n : Nat) (x : ((List Int) × (List Int))) : Option (List Int) := (nat_Gcd n x.1 x.2).run fun _ => none
def nat_Gcd_ans (F : ((List Int) × (List Int)) → Option (List Int)) : List TV → List Ent → Option CallRes
  | [.lf (.dat (Ty.int IntKind.u32) a0), .lf (.dat (Ty.int IntKind.u32) a1)], [] => some (callAns (F (a0, a1)) nat_Gcd_res)
  | _, _ => none
def en_nat_Gcd (F : ((List Int) × (List Int)) → Option (List Int)) : Entry := .data n_nat_Gcd [[Ty.sl (Ty.int IntKind.u32)], [Ty.sl (Ty.int IntKind.u32)]] (nat_Gcd_ans F)
theorem nat_Gcd_T_ok (n : Nat) : SoundT pg (nat_Gcd_T n) := tab_sound ⟨e_nat_Cut_ok n, e_nat_Div_ok n, trivial⟩
theorem nat_Gcd_r0 (n : Nat) (x0 : (List Int)) (x1 : (List Int)) : (evCode pg (nat_Gcd_T n) (loopsTold (nat_Gcd_told n)) 0 (lp 0 (codeOf f_nat_Gcd) 0).2 (spSt 25 nat_Gcd_h0.ts [.lf (.dat (Ty.int IntKind.u32) x0), .lf (.dat (Ty.int IntKind.u32) x1)] [])).pt (seeEv 25 nat_Gcd_h0 nat_Gcd_x0 nat_Gcd_y0) =
    (nat_Gcd_b0 n x0 x1).pt (fun x' => .norm (nat_Gcd_mk0 () x').1 (nat_Gcd_mk0 () x').2) (nat_Gcd_ev0 ()) := by kernel_rfl
theorem nat_Gcd_pm0 : ∀ vs hp x, nat_Gcd_pt0 vs hp = some x → nat_Gcd_mk0 x.1 x.2 = (vs, hp) := by
  intro vs hp x h
  unfold nat_Gcd_pt0 at h
  split at h <;> first | (cases h; rfl) | cases h
theorem nat_Gcd_k0 (n : Nat) : LoopOK pg (loopsTold (nat_Gcd_told n)) (lp 0 (codeOf f_nat_Gcd) 0) :=
  loop_lift pg_mixed (T := (nat_Gcd_T n)) (nat_Gcd_T_ok n) (b := 0) (len := 25) (body := (lp 0 (codeOf f_nat_Gcd) 0).2) (ch := nat_Gcd_h0) (cx := nat_Gcd_x0) (cr := nat_Gcd_y0) nat_Gcd_mk0 nat_Gcd_ev0 nat_Gcd_an0 (fun i x => nat_Gcd_b0 n x.1 x.2) n nat_Gcd_pt0 nat_Gcd_pm0 (fun i r K h => h)
    regs_told (loops_told0 (by kernel_rfl)) (fun _ => by kernel_rfl) (fun i x => nat_Gcd_r0 n x.1 x.2)
theorem nat_Gcd_e (n : Nat) (a0 : (List Int)) (a1 : (List Int)) : (evFn pg (nat_Gcd_T n) (loopsTold (nat_Gcd_told n)) f_nat_Gcd (codeOf f_nat_Gcd) [.lf (.dat (Ty.int IntKind.u32) a0), .lf (.dat (Ty.int IntKind.u32) a1)] []).pt (outEv pg f_nat_Gcd 0 [] true) =
    (nat_Gcd n a0 a1).pt (fun _ => .norm [] []) (fun y => .out (nat_Gcd_res y)) := by kernel_rfl
theorem nat_Gcd_call (n : Nat) (a0 : (List Int)) (a1 : (List Int)) (y : (List Int)) (hy : F_nat_Gcd n (a0, a1) = some y) : Enters pg n_nat_Gcd ∧ CallOK pg n_nat_Gcd [.lf (.dat (Ty.int IntKind.u32) a0), .lf (.dat (Ty.int IntKind.u32) a1)] [] (nat_Gcd_res y) := fn_lift (fn := f_nat_Gcd) pg_mixed (T := nat_Gcd_T n) (nat_Gcd_T_ok n) (L := loopsTold (nat_Gcd_told n)) (by kernel_rfl) (by kernel_rfl) (by kernel_rfl) regs_told (loops_told1 (by kernel_rfl) (nat_Gcd_k0 n)) (args := [.lf (.dat (Ty.int IntKind.u32) a0), .lf (.dat (Ty.int IntKind.u32) a1)]) (es := []) nat_Gcd_res [] true (fun _ => rfl) (nat_Gcd n a0 a1) (nat_Gcd_e n a0 a1) hy
theorem en_nat_Gcd_ok (n : Nat) : (en_nat_Gcd (F_nat_Gcd n)).ok pg := Entry.data_ok <| by
  intro args es r h hv
  unfold nat_Gcd_ans at h
  simp only at h
  split at h
  · rename_i a0 a1
    cases h
    exact callAns_ok (fun y hy => nat_Gcd_call n a0 a1 y hy) hv
  · cases h
/-- The function, by what it is known to tell. -/
def sp_nat_Gcd (C : ((List Int) × (List Int)) → Bool) (V : ((List Int) × (List Int)) → (List Int)) : Entry := .data n_nat_Gcd [[Ty.sl (Ty.int IntKind.u32)], [Ty.sl (Ty.int IntKind.u32)]] fun args es => match args, es with
  | [.lf (.dat (Ty.int IntKind.u32) a0), .lf (.dat (Ty.int IntKind.u32) a1)], [] => some { nat_Gcd_res (V (a0, a1)) with vc := C (a0, a1) }
  | _, _ => none
theorem sp_nat_Gcd_ok {C : ((List Int) × (List Int)) → Bool} {V : ((List Int) × (List Int)) → (List Int)} (H : ∀ x, C x = true → ∃ n, F_nat_Gcd n x = some (V x)) : (sp_nat_Gcd C V).ok pg := Entry.data_ok <| by
  intro args es r h hv
  simp only at h
  split at h
  · rename_i a0 a1
    cases h
    obtain ⟨n, hn⟩ := H (a0, a1) hv
    exact ⟨(nat_Gcd_call n a0 a1 _ hn).1, (nat_Gcd_call n a0 a1 _ hn).2.vc⟩
  · cases h



theorem gcd_l (n : Nat) : ∀ (V A k : Nat), V < k → okN 38 (digs B32 A) = true → okN 38 (digs B32 V) = true → nat_Gcd_l0 n () k (digs B32 A, digs B32 V) = some (digs B32 (Nat.gcd A V)) := by
  intro V
  induction V using Nat.strongRecOn with
  | ind V ih =>
    intro A k hk hA hV
    obtain ⟨k, rfl⟩ : ∃ k', k = k' + 1 := ⟨k - 1, by omega⟩
    rw [nat_Gcd_l0_s]
    unfold nat_Gcd_b0
    simp only [RT.run]
    by_cases h : V = 0
    · subst h
      rw [if_neg (by simp [digs_zero]), Nat.gcd_zero_right]
    · have hV0 := Nat.pos_of_ne_zero h
      have hl : 0 < (digs B32 V).length := by rw [digs_pos (by decide) hV0]; simp
      have hm := Nat.mod_lt A hV0
      rw [if_pos (by simp only [decide_eq_true_eq]; omega), if_pos (by rw [hA, hV]; rfl)]
      have e : divRes (val B32 (digs B32 A)) (val B32 (digs B32 V)) = (digs B32 (A / V), digs B32 (A % V), true) := by
        rw [val_digs (by decide), val_digs (by decide)]
        exact if_neg h
      have e' := congrArg (fun x => x.2.1) e
      simp only at e'
      change nat_Gcd_l0 n () k (digs B32 V, (divRes (val B32 (digs B32 A)) (val B32 (digs B32 V))).2.1) = _
      rw [e', ih (A % V) hm V k (by omega) hV (okN_mono (Nat.le_of_lt hm) hV), Nat.gcd_comm A V, Nat.gcd_rec V A, Nat.gcd_comm]

theorem Gcd_F {a b : List Int} (ha : okN 38 a = true) (hb : okN 38 b = true) : F_nat_Gcd (val B32 b + 1) (a, b) = some (digs B32 (Nat.gcd (val B32 a) (val B32 b))) := by
  unfold F_nat_Gcd nat_Gcd
  have h1 := okN_iff.1 ha
  have h2 := okN_iff.1 hb
  simp only [RT.run]
  rw [if_pos (by simp only [Bool.and_eq_true, decide_eq_true_eq]; exact ⟨by omega, h1.2⟩), if_pos (by simp only [Bool.and_eq_true, decide_eq_true_eq]; exact ⟨by omega, h2.2⟩)]
  change (nat_Gcd_l0 (val B32 b + 1) () (val B32 b + 1) (digs B32 (val B32 a), digs B32 (val B32 b))).bind _ = _
  rw [gcd_l (val B32 b + 1) (val B32 b) (val B32 a) _ (Nat.lt_succ_self _) (okN_digs ha) (okN_digs hb)]
  rfl

abbrev e_nat_Gcd (_ : Nat) : Entry := sp_nat_Gcd (fun x => okN 38 x.1 && okN 38 x.2) (fun x => digs B32 (Nat.gcd (val B32 x.1) (val B32 x.2)))
theorem e_nat_Gcd_ok (n : Nat) : (e_nat_Gcd n).ok pg := sp_nat_Gcd_ok fun x h => by
  rw [Bool.and_eq_true] at h
  exact ⟨_, Gcd_F h.1 h.2⟩

abbrev nat_Lcm_T (n : Nat) : CallT := tab [e_nat_Gcd n, e_nat_Div n, e_nat_Mul n]
def nat_Lcm_told (n : Nat) : Nat → St → Option Tree := fun _ _ => none
def nat_Lcm_res (y : (List Int)) : CallRes := ⟨true, .lf (.dat (Ty.int IntKind.u32) y), [], [], true⟩
def nat_Lcm (n : Nat) (a0 : (List Int)) (a1 : (List Int)) : RT Unit (List Int) :=
  (.rq 4 (.req (okN (38 : Nat) a0 && okN (38 : Nat) a1)
  (.req (okN (38 : Nat) a0 && okN (38 : Nat) (digs B32 ((val B32 a0).gcd (val B32 a1))))
  (.rq 9 (.ite (!(divRes (val B32 a0) (val B32 (digs B32 ((val B32 a0).gcd (val B32 a1))))).snd.snd)
  (.rq 1 (.done (nilD (Ty.int IntKind.u32).den)))
  (.rq 3 (.req (decide ((((List.replicate (2 : Nat) (nilD (Ty.int IntKind.u32).den)).set (0 : Nat) (divRes (val B32 a0) (val B32 (digs B32 ((val B32 a0).gcd (val B32 a1))))).fst).set (1 : Nat) a1).length ≤ (1048576 : Nat)) &&
    decide (lens (((List.replicate (2 : Nat) (nilD (Ty.int IntKind.u32).den)).set (0 : Nat) (divRes (val B32 a0) (val B32 (digs B32 ((val B32 a0).gcd (val B32 a1))))).fst).set (1 : Nat) a1) ≤ (1073741824 : Nat)) &&
  (((List.replicate (2 : Nat) (nilD (Ty.int IntKind.u32).den)).set (0 : Nat) (divRes (val B32 a0) (val B32 (digs B32 ((val B32 a0).gcd (val B32 a1))))).fst).set (1 : Nat) a1).all (wfd B32))
  (.rq 1 (.done (digs B32 (prodv (((List.replicate (2 : Nat) (nilD (Ty.int IntKind.u32).den)).set (0 : Nat) (divRes (val B32 a0) (val B32 (digs B32 ((val B32 a0).gcd (val B32 a1))))).fst).set (1 : Nat) a1))))))))))))
def F_nat_Lcm (n : Nat) (x : ((List Int) × (List Int))) : Option (List Int) := (nat_Lcm n x.1 x.2).run fun _ => none
def nat_Lcm_ans (F : ((List Int) × (List Int)) → Option (List Int)) : List TV → List Ent → Option CallRes
  | [.lf (.dat (Ty.int IntKind.u32) a0), .lf (.dat (Ty.int IntKind.u32) a1)], [] => some (callAns (F (a0, a1)) nat_Lcm_res)
  | _, _ => none
def en_nat_Lcm (F : ((List Int) × (List Int)) → Option (List Int)) : Entry := .data n_nat_Lcm [[Ty.sl (Ty.int IntKind.u32)], [Ty.sl (Ty.int IntKind.u32)]] (nat_Lcm_ans F)
theorem nat_Lcm_T_ok (n : Nat) : SoundT pg (nat_Lcm_T n) := tab_sound ⟨e_nat_Gcd_ok n, e_nat_Div_ok n, e_nat_Mul_ok n, trivial⟩
theorem nat_Lcm_e (n : Nat) (a0 : (List Int)) (a1 : (List Int)) : (evFn pg (nat_Lcm_T n) (loopsTold (nat_Lcm_told n)) f_nat_Lcm (codeOf f_nat_Lcm) [.lf (.dat (Ty.int IntKind.u32) a0), .lf (.dat (Ty.int IntKind.u32) a1)] []).pt (outEv pg f_nat_Lcm 0 [.toDat 4, .den 4 [Ty.sl (Ty.int IntKind.u32)]] true) =
    (nat_Lcm n a0 a1).pt (fun _ => .norm [] []) (fun y => .out (nat_Lcm_res y)) := by kernel_rfl
theorem nat_Lcm_call (n : Nat) (a0 : (List Int)) (a1 : (List Int)) (y : (List Int)) (hy : F_nat_Lcm n (a0, a1) = some y) : Enters pg n_nat_Lcm ∧ CallOK pg n_nat_Lcm [.lf (.dat (Ty.int IntKind.u32) a0), .lf (.dat (Ty.int IntKind.u32) a1)] [] (nat_Lcm_res y) := fn_lift (fn := f_nat_Lcm) pg_mixed (T := nat_Lcm_T n) (nat_Lcm_T_ok n) (L := loopsTold (nat_Lcm_told n)) (by kernel_rfl) (by kernel_rfl) (by kernel_rfl) regs_told (loops_told0 (by kernel_rfl)) (args := [.lf (.dat (Ty.int IntKind.u32) a0), .lf (.dat (Ty.int IntKind.u32) a1)]) (es := []) nat_Lcm_res [.toDat 4, .den 4 [Ty.sl (Ty.int IntKind.u32)]] true (fun _ => rfl) (nat_Lcm n a0 a1) (nat_Lcm_e n a0 a1) hy
theorem en_nat_Lcm_ok (n : Nat) : (en_nat_Lcm (F_nat_Lcm n)).ok pg := Entry.data_ok <| by
  intro args es r h hv
  unfold nat_Lcm_ans at h
  simp only at h
  split at h
  · rename_i a0 a1
    cases h
    exact callAns_ok (fun y hy => nat_Lcm_call n a0 a1 y hy) hv
  · cases h
/-- The function, by what it is known to tell. -/
def sp_nat_Lcm (C : ((List Int) × (List Int)) → Bool) (V : ((List Int) × (List Int)) → (List Int)) : Entry := .data n_nat_Lcm [[Ty.sl (Ty.int IntKind.u32)], [Ty.sl (Ty.int IntKind.u32)]] fun args es => match args, es with
  | [.lf (.dat (Ty.int IntKind.u32) a0), .lf (.dat (Ty.int IntKind.u32) a1)], [] => some { nat_Lcm_res (V (a0, a1)) with vc := C (a0, a1) }
  | _, _ => none
theorem sp_nat_Lcm_ok {C : ((List Int) × (List Int)) → Bool} {V : ((List Int) × (List Int)) → (List Int)} (H : ∀ x, C x = true → ∃ n, F_nat_Lcm n x = some (V x)) : (sp_nat_Lcm C V).ok pg := Entry.data_ok <| by
  intro args es r h hv
  simp only at h
  split at h
  · rename_i a0 a1
    cases h
    obtain ⟨n, hn⟩ := H (a0, a1) hv
    exact ⟨(nat_Lcm_call n a0 a1 _ hn).1, (nat_Lcm_call n a0 a1 _ hn).2.vc⟩
  · cases h



end
end Go.Proofs.Ytlfdidaeachpoaa

/- Wide numbers, by the tool. -/
namespace Go.Proofs.Ytlfdidaeachpoaa
open Go Go.RowKit
set_option maxRecDepth 100000
noncomputable section

abbrev wide_Full_T (n : Nat) : CallT := tab []
def wide_Full_told (n : Nat) : Nat → St → Option Tree := fun _ _ => none
def wide_Full_res (y : (Int × Int)) : CallRes := ⟨true, .agg [.int IntKind.u64 y.1, .int IntKind.u64 y.2], [], [], false⟩
def wide_Full (n : Nat) (a0 : Int) (a1 : Int) : RT Unit (Int × Int) :=
  (.rq 47 (.done ((IntKind.u64.wrap
  (IntKind.u64.wrap
      (IntKind.u64.wrap (a0.fdiv (4294967296 : Int) * a1.fdiv (4294967296 : Int)) +
        (IntKind.u64.wrap
              (IntKind.u64.wrap (a0.fdiv (4294967296 : Int) * ibit BinOp.and IntKind.u64 a1 (4294967295 : Int)) +
                (IntKind.u64.wrap (ibit BinOp.and IntKind.u64 a0 (4294967295 : Int) * ibit BinOp.and IntKind.u64 a1 (4294967295 : Int))).fdiv (4294967296 : Int))).fdiv
          (4294967296 : Int)) +
    (IntKind.u64.wrap
          (ibit BinOp.and IntKind.u64
              (IntKind.u64.wrap
                (IntKind.u64.wrap (a0.fdiv (4294967296 : Int) * ibit BinOp.and IntKind.u64 a1 (4294967295 : Int)) +
                  (IntKind.u64.wrap (ibit BinOp.and IntKind.u64 a0 (4294967295 : Int) * ibit BinOp.and IntKind.u64 a1 (4294967295 : Int))).fdiv (4294967296 : Int)))
              (4294967295 : Int) +
            IntKind.u64.wrap (ibit BinOp.and IntKind.u64 a0 (4294967295 : Int) * a1.fdiv (4294967296 : Int)))).fdiv
      (4294967296 : Int)), ibit BinOp.or IntKind.u64
  (IntKind.u64.wrap
    (IntKind.u64.wrap
        (ibit BinOp.and IntKind.u64
            (IntKind.u64.wrap
              (IntKind.u64.wrap (a0.fdiv (4294967296 : Int) * ibit BinOp.and IntKind.u64 a1 (4294967295 : Int)) +
                (IntKind.u64.wrap (ibit BinOp.and IntKind.u64 a0 (4294967295 : Int) * ibit BinOp.and IntKind.u64 a1 (4294967295 : Int))).fdiv (4294967296 : Int)))
            (4294967295 : Int) +
          IntKind.u64.wrap (ibit BinOp.and IntKind.u64 a0 (4294967295 : Int) * a1.fdiv (4294967296 : Int))) *
      (4294967296 : Int)))
  (ibit BinOp.and IntKind.u64 (IntKind.u64.wrap (ibit BinOp.and IntKind.u64 a0 (4294967295 : Int) * ibit BinOp.and IntKind.u64 a1 (4294967295 : Int))) (4294967295 : Int))))))
def F_wide_Full (n : Nat) (x : (Int × Int)) : Option (Int × Int) := (wide_Full n x.1 x.2).run fun _ => none
def wide_Full_ans (F : (Int × Int) → Option (Int × Int)) : List TV → List Ent → Option CallRes
  | [.lf (.int IntKind.u64 a0), .lf (.int IntKind.u64 a1)], [] => some (callAns (F (a0, a1)) wide_Full_res)
  | _, _ => none
def en_wide_Full (F : (Int × Int) → Option (Int × Int)) : Entry := .data n_wide_Full [[Ty.int IntKind.u64], [Ty.int IntKind.u64]] (wide_Full_ans F)
abbrev e_wide_Full (n : Nat) : Entry := en_wide_Full (F_wide_Full n)
theorem wide_Full_T_ok (n : Nat) : SoundT pg (wide_Full_T n) := tab_sound trivial
theorem wide_Full_e (n : Nat) (a0 : Int) (a1 : Int) : (evFn pg (wide_Full_T n) (loopsTold (wide_Full_told n)) f_wide_Full (codeOf f_wide_Full) [.lf (.int IntKind.u64 a0), .lf (.int IntKind.u64 a1)] []).pt (outEv pg f_wide_Full 0 [] false) =
    (wide_Full n a0 a1).pt (fun _ => .norm [] []) (fun y => .out (wide_Full_res y)) := by kernel_rfl
theorem en_wide_Full_ok (n : Nat) : (en_wide_Full (F_wide_Full n)).ok pg := Entry.data_ok <| by
  intro args es r h hv
  unfold wide_Full_ans at h
  simp only at h
  split at h
  · rename_i a0 a1
    cases h
    exact callAns_ok (fun y hy => fn_lift (fn := f_wide_Full) pg_mixed (T := wide_Full_T n) (wide_Full_T_ok n) (L := loopsTold (wide_Full_told n)) (by kernel_rfl) (by kernel_rfl) (by kernel_rfl) regs_told (loops_told0 (by kernel_rfl)) (args := [.lf (.int IntKind.u64 a0), .lf (.int IntKind.u64 a1)]) (es := []) wide_Full_res [] false (fun _ => rfl) (wide_Full n a0 a1) (wide_Full_e n a0 a1) hy) hv
  · cases h
theorem e_wide_Full_ok (n : Nat) : (e_wide_Full n).ok pg := en_wide_Full_ok n


abbrev wide_Fits_T (n : Nat) : CallT := tab []
def wide_Fits_told (n : Nat) : Nat → St → Option Tree := fun _ _ => none
def wide_Fits_res (y : (Int × Bool)) : CallRes := ⟨true, .tup [(false, [.int IntKind.u64 y.1]), (false, [.bool y.2])], [], [], false⟩
def wide_Fits (n : Nat) (a0_0 : Int) (a0_1 : Int) : RT Unit (Int × Bool) :=
  (.rq 6 (.ite (decide ((0 : Int) < a0_0))
  (.rq 2 (.done (((0 : Int), false))))
  (.rq 4 (.done ((a0_1, true))))))
def F_wide_Fits (n : Nat) (x : (Int × Int)) : Option (Int × Bool) := (wide_Fits n x.1 x.2).run fun _ => none
def wide_Fits_ans (F : (Int × Int) → Option (Int × Bool)) : List TV → List Ent → Option CallRes
  | [.agg [.int IntKind.u64 a0_0, .int IntKind.u64 a0_1]], [] => some (callAns (F (a0_0, a0_1)) wide_Fits_res)
  | _, _ => none
def en_wide_Fits (F : (Int × Int) → Option (Int × Bool)) : Entry := .data n_wide_Fits [[Ty.int IntKind.u64, Ty.int IntKind.u64]] (wide_Fits_ans F)
abbrev e_wide_Fits (n : Nat) : Entry := en_wide_Fits (F_wide_Fits n)
theorem wide_Fits_T_ok (n : Nat) : SoundT pg (wide_Fits_T n) := tab_sound trivial
theorem wide_Fits_e (n : Nat) (a0_0 : Int) (a0_1 : Int) : (evFn pg (wide_Fits_T n) (loopsTold (wide_Fits_told n)) f_wide_Fits (codeOf f_wide_Fits) [.agg [.int IntKind.u64 a0_0, .int IntKind.u64 a0_1]] []).pt (outEv pg f_wide_Fits 0 [] false) =
    (wide_Fits n a0_0 a0_1).pt (fun _ => .norm [] []) (fun y => .out (wide_Fits_res y)) := by kernel_rfl
theorem en_wide_Fits_ok (n : Nat) : (en_wide_Fits (F_wide_Fits n)).ok pg := Entry.data_ok <| by
  intro args es r h hv
  unfold wide_Fits_ans at h
  simp only at h
  split at h
  · rename_i a0_0 a0_1
    cases h
    exact callAns_ok (fun y hy => fn_lift (fn := f_wide_Fits) pg_mixed (T := wide_Fits_T n) (wide_Fits_T_ok n) (L := loopsTold (wide_Fits_told n)) (by kernel_rfl) (by kernel_rfl) (by kernel_rfl) regs_told (loops_told0 (by kernel_rfl)) (args := [.agg [.int IntKind.u64 a0_0, .int IntKind.u64 a0_1]]) (es := []) wide_Fits_res [] false (fun _ => rfl) (wide_Fits n a0_0 a0_1) (wide_Fits_e n a0_0 a0_1) hy) hv
  · cases h
theorem e_wide_Fits_ok (n : Nat) : (e_wide_Fits n).ok pg := en_wide_Fits_ok n


abbrev wide_bit_T (n : Nat) : CallT := tab []
def wide_bit_told (n : Nat) : Nat → St → Option Tree := fun _ _ => none
def wide_bit_res (y : Int) : CallRes := ⟨true, .lf (.int IntKind.u64 y), [], [], false⟩
def wide_bit (n : Nat) (a0_0 : Int) (a0_1 : Int) (a1 : Int) : RT Unit Int :=
  (.rq 4 (.ite (decide ((64 : Int) ≤ a1))
  (.rq 4 (.req (decide ((0 : Int) ≤ IntKind.i64.wrap (a1 - (64 : Int))))
  (.rq 2 (.done (ibit BinOp.and IntKind.u64 (a0_0.fdiv ((2 : Int) ^ min (IntKind.i64.wrap (a1 - (64 : Int))).toNat (64 : Nat))) (1 : Int))))))
  (.rq 3 (.req (decide ((0 : Int) ≤ a1))
  (.rq 2 (.done (ibit BinOp.and IntKind.u64 (a0_1.fdiv ((2 : Int) ^ min a1.toNat (64 : Nat))) (1 : Int))))))))
def F_wide_bit (n : Nat) (x : (Int × (Int × Int))) : Option Int := (wide_bit n x.1 x.2.1 x.2.2).run fun _ => none
def wide_bit_ans (F : (Int × (Int × Int)) → Option Int) : List TV → List Ent → Option CallRes
  | [.agg [.int IntKind.u64 a0_0, .int IntKind.u64 a0_1], .lf (.int IntKind.i64 a1)], [] => some (callAns (F (a0_0, a0_1, a1)) wide_bit_res)
  | _, _ => none
def en_wide_bit (F : (Int × (Int × Int)) → Option Int) : Entry := .data n_wide_bit [[Ty.int IntKind.u64, Ty.int IntKind.u64], [Ty.int IntKind.i64]] (wide_bit_ans F)
abbrev e_wide_bit (n : Nat) : Entry := en_wide_bit (F_wide_bit n)
theorem wide_bit_T_ok (n : Nat) : SoundT pg (wide_bit_T n) := tab_sound trivial
theorem wide_bit_e (n : Nat) (a0_0 : Int) (a0_1 : Int) (a1 : Int) : (evFn pg (wide_bit_T n) (loopsTold (wide_bit_told n)) f_wide_bit (codeOf f_wide_bit) [.agg [.int IntKind.u64 a0_0, .int IntKind.u64 a0_1], .lf (.int IntKind.i64 a1)] []).pt (outEv pg f_wide_bit 0 [] false) =
    (wide_bit n a0_0 a0_1 a1).pt (fun _ => .norm [] []) (fun y => .out (wide_bit_res y)) := by kernel_rfl
theorem en_wide_bit_ok (n : Nat) : (en_wide_bit (F_wide_bit n)).ok pg := Entry.data_ok <| by
  intro args es r h hv
  unfold wide_bit_ans at h
  simp only at h
  split at h
  · rename_i a0_0 a0_1 a1
    cases h
    exact callAns_ok (fun y hy => fn_lift (fn := f_wide_bit) pg_mixed (T := wide_bit_T n) (wide_bit_T_ok n) (L := loopsTold (wide_bit_told n)) (by kernel_rfl) (by kernel_rfl) (by kernel_rfl) regs_told (loops_told0 (by kernel_rfl)) (args := [.agg [.int IntKind.u64 a0_0, .int IntKind.u64 a0_1], .lf (.int IntKind.i64 a1)]) (es := []) wide_bit_res [] false (fun _ => rfl) (wide_bit n a0_0 a0_1 a1) (wide_bit_e n a0_0 a0_1 a1) hy) hv
  · cases h
theorem e_wide_bit_ok (n : Nat) : (e_wide_bit n).ok pg := en_wide_bit_ok n


abbrev wide_Add_T (n : Nat) : CallT := tab []
def wide_Add_told (n : Nat) : Nat → St → Option Tree := fun _ _ => none
def wide_Add_res (y : (Int × Bool)) : CallRes := ⟨true, .tup [(false, [.int IntKind.u64 y.1]), (false, [.bool y.2])], [], [], false⟩
def wide_Add (n : Nat) (a0 : Int) (a1 : Int) : RT Unit (Int × Bool) :=
  (.rq 9 (.ite (decide (IntKind.u64.wrap (a0 + a1) < a0))
  (.rq 2 (.done (((0 : Int), false))))
  (.rq 3 (.done ((IntKind.u64.wrap (a0 + a1), true))))))
def F_wide_Add (n : Nat) (x : (Int × Int)) : Option (Int × Bool) := (wide_Add n x.1 x.2).run fun _ => none
def wide_Add_ans (F : (Int × Int) → Option (Int × Bool)) : List TV → List Ent → Option CallRes
  | [.lf (.int IntKind.u64 a0), .lf (.int IntKind.u64 a1)], [] => some (callAns (F (a0, a1)) wide_Add_res)
  | _, _ => none
def en_wide_Add (F : (Int × Int) → Option (Int × Bool)) : Entry := .data n_wide_Add [[Ty.int IntKind.u64], [Ty.int IntKind.u64]] (wide_Add_ans F)
abbrev e_wide_Add (n : Nat) : Entry := en_wide_Add (F_wide_Add n)
theorem wide_Add_T_ok (n : Nat) : SoundT pg (wide_Add_T n) := tab_sound trivial
theorem wide_Add_e (n : Nat) (a0 : Int) (a1 : Int) : (evFn pg (wide_Add_T n) (loopsTold (wide_Add_told n)) f_wide_Add (codeOf f_wide_Add) [.lf (.int IntKind.u64 a0), .lf (.int IntKind.u64 a1)] []).pt (outEv pg f_wide_Add 0 [] false) =
    (wide_Add n a0 a1).pt (fun _ => .norm [] []) (fun y => .out (wide_Add_res y)) := by kernel_rfl
theorem en_wide_Add_ok (n : Nat) : (en_wide_Add (F_wide_Add n)).ok pg := Entry.data_ok <| by
  intro args es r h hv
  unfold wide_Add_ans at h
  simp only at h
  split at h
  · rename_i a0 a1
    cases h
    exact callAns_ok (fun y hy => fn_lift (fn := f_wide_Add) pg_mixed (T := wide_Add_T n) (wide_Add_T_ok n) (L := loopsTold (wide_Add_told n)) (by kernel_rfl) (by kernel_rfl) (by kernel_rfl) regs_told (loops_told0 (by kernel_rfl)) (args := [.lf (.int IntKind.u64 a0), .lf (.int IntKind.u64 a1)]) (es := []) wide_Add_res [] false (fun _ => rfl) (wide_Add n a0 a1) (wide_Add_e n a0 a1) hy) hv
  · cases h
theorem e_wide_Add_ok (n : Nat) : (e_wide_Add n).ok pg := en_wide_Add_ok n


abbrev wide_Div_T (n : Nat) : CallT := tab [e_wide_bit n]
abbrev wide_Div_h0 : Cut := ⟨[.keep [1, 2, 4, 7, 8, 9], .gc], [1, 2, 4, 7, 8, 9]⟩
abbrev wide_Div_x0 : Cut := ⟨[.keep [4, 7, 8], .gc], [4, 7, 8]⟩
abbrev wide_Div_y0 : Cut := ⟨[.keep [4, 5, 6], .gc], [4, 5, 6]⟩
def wide_Div_mk0 (i : (Int × (Int × (Int × (Int × Int))))) (x : (Int × (Int × (Int × Int)))) : List TV × List (Nat × Ent) := ([.lf (.int IntKind.u64 i.1), .lf (.ptr 32 0), .lf (.ptr 64 0), .lf (.ptr 112 0), .lf (.int IntKind.u64 x.1), .lf (.int IntKind.i64 x.2.1)], [(32, ⟨true, .cells [.int IntKind.u64 i.2.1, .int IntKind.u64 i.2.2.1]⟩), (64, ⟨true, .cells [.int IntKind.u64 i.2.2.2.1, .int IntKind.u64 i.2.2.2.2]⟩), (112, ⟨true, .cells [.int IntKind.u64 x.2.2.1, .int IntKind.u64 x.2.2.2]⟩)])
def wide_Div_pt0 : List TV → List (Nat × Ent) → Option ((Int × (Int × (Int × (Int × Int)))) × (Int × (Int × (Int × Int))))
  | [.lf (.int IntKind.u64 x1), .lf (.ptr 32 0), .lf (.ptr 64 0), .lf (.ptr 112 0), .lf (.int IntKind.u64 x8), .lf (.int IntKind.i64 x9)], [(32, ⟨true, .cells [.int IntKind.u64 h0_0, .int IntKind.u64 h0_1]⟩), (64, ⟨true, .cells [.int IntKind.u64 h1_0, .int IntKind.u64 h1_1]⟩), (112, ⟨true, .cells [.int IntKind.u64 h2_0, .int IntKind.u64 h2_1]⟩)] => some ((x1, h0_0, h0_1, h1_0, h1_1), (x8, x9, h2_0, h2_1))
  | _, _ => none
def wide_Div_ev0 (i : (Int × (Int × (Int × (Int × Int))))) (r : (Int × (Int × Int))) : PE := .exit 0 [.lf (.ptr 64 0), .lf (.ptr 112 0), .lf (.int IntKind.u64 r.1)] [(64, ⟨true, .cells [.int IntKind.u64 i.2.2.2.1, .int IntKind.u64 i.2.2.2.2]⟩), (112, ⟨true, .cells [.int IntKind.u64 r.2.1, .int IntKind.u64 r.2.2]⟩)]
def wide_Div_an0 (i : (Int × (Int × (Int × (Int × Int))))) (r : (Int × (Int × Int))) : Tree := .leaf (.exit 0 (spSt 54 [4, 7, 8] [.lf (.ptr 64 0), .lf (.ptr 112 0), .lf (.int IntKind.u64 r.1)] [(64, ⟨true, .cells [.int IntKind.u64 i.2.2.2.1, .int IntKind.u64 i.2.2.2.2]⟩), (112, ⟨true, .cells [.int IntKind.u64 r.2.1, .int IntKind.u64 r.2.2]⟩)]))
def wide_Div_b0 (n : Nat) (x1 : Int) (h0_0 : Int) (h0_1 : Int) (h1_0 : Int) (h1_1 : Int) (x8 : Int) (x9 : Int) (h2_0 : Int) (h2_1 : Int) : RT (Int × (Int × (Int × Int))) (Int × (Int × Int)) :=
  (.rq 2 (.ite (decide ((0 : Int) ≤ x9))
  (.rq 8 (.call (F_wide_bit n (h0_0, h0_1, x9)) default fun v0 =>
  (.rq 18 (.ite (decide ((0 : Int) < x8.fdiv (9223372036854775808 : Int)))
  (.rq 1 (.ite (true)
  (.rq 12 (.again ((IntKind.u64.wrap (ibit BinOp.or IntKind.u64 (IntKind.u64.wrap (x8 * (2 : Int))) v0 - x1), IntKind.i64.wrap (x9 - (1 : Int)), ibit BinOp.or IntKind.u64 (IntKind.u64.wrap (h2_0 * (2 : Int))) (h2_1.fdiv (9223372036854775808 : Int)), ibit BinOp.or IntKind.u64 (IntKind.u64.wrap (h2_1 * (2 : Int))) (1 : Int)))))
  (.rq 3 (.again ((ibit BinOp.or IntKind.u64 (IntKind.u64.wrap (x8 * (2 : Int))) v0, IntKind.i64.wrap (x9 - (1 : Int)), ibit BinOp.or IntKind.u64 (IntKind.u64.wrap (h2_0 * (2 : Int))) (h2_1.fdiv (9223372036854775808 : Int)), IntKind.u64.wrap (h2_1 * (2 : Int))))))))
  (.rq 4 (.ite (decide (x1 ≤ ibit BinOp.or IntKind.u64 (IntKind.u64.wrap (x8 * (2 : Int))) v0))
  (.rq 12 (.again ((IntKind.u64.wrap (ibit BinOp.or IntKind.u64 (IntKind.u64.wrap (x8 * (2 : Int))) v0 - x1), IntKind.i64.wrap (x9 - (1 : Int)), ibit BinOp.or IntKind.u64 (IntKind.u64.wrap (h2_0 * (2 : Int))) (h2_1.fdiv (9223372036854775808 : Int)), ibit BinOp.or IntKind.u64 (IntKind.u64.wrap (h2_1 * (2 : Int))) (1 : Int)))))
  (.rq 3 (.again ((ibit BinOp.or IntKind.u64 (IntKind.u64.wrap (x8 * (2 : Int))) v0, IntKind.i64.wrap (x9 - (1 : Int)), ibit BinOp.or IntKind.u64 (IntKind.u64.wrap (h2_0 * (2 : Int))) (h2_1.fdiv (9223372036854775808 : Int)), IntKind.u64.wrap (h2_1 * (2 : Int))))))))))))
  (.done ((x8, h2_0, h2_1)))))
def wide_Div_l0 (n : Nat) (i : (Int × (Int × (Int × (Int × Int))))) : Nat → (Int × (Int × (Int × Int))) → Option (Int × (Int × Int)) := loopN (fun rec x => (wide_Div_b0 n i.1 i.2.1 i.2.2.1 i.2.2.2.1 i.2.2.2.2 x.1 x.2.1 x.2.2.1 x.2.2.2).run rec)
theorem wide_Div_l0_s (n : Nat) (i : (Int × (Int × (Int × (Int × Int))))) (k : Nat) (x : (Int × (Int × (Int × Int)))) : wide_Div_l0 n i (k + 1) x = (wide_Div_b0 n i.1 i.2.1 i.2.2.1 i.2.2.2.1 i.2.2.2.2 x.1 x.2.1 x.2.2.1 x.2.2.2).run (wide_Div_l0 n i k) := rfl
def wide_Div_t0 (n : Nat) (σ : St) : Option Tree := match seeSt wide_Div_h0.plan wide_Div_h0.ts 54 σ with
  | some y => (match wide_Div_pt0 y.1 y.2 with
    | some x => some (loopAns (wide_Div_l0 n x.1 n x.2) (wide_Div_an0 x.1))
    | none => none)
  | none => none
def wide_Div_told (n : Nat) : Nat → St → Option Tree
  | 0, σ => wide_Div_t0 n σ
  | _, _ => none
def wide_Div_res (y : (Int × (Int × (Int × Bool)))) : CallRes := ⟨true, .tup [(true, [.int IntKind.u64 y.1, .int IntKind.u64 y.2.1]), (false, [.int IntKind.u64 y.2.2.1]), (false, [.bool y.2.2.2])], [], [], false⟩
def wide_Div (n : Nat) (a0_0 : Int) (a0_1 : Int) (a1 : Int) : RT Unit (Int × (Int × (Int × Bool))) :=
  (.rq 6 (.ite (a1 == (0 : Int))
  (.rq 4 (.done (((0 : Int), (0 : Int), (0 : Int), false))))
  (.rq 3 (.call (wide_Div_l0 n (a1, a0_0, a0_1, (0 : Int), (0 : Int)) n ((0 : Int), (127 : Int), (0 : Int), (0 : Int))) default fun v0 =>
  (.rq 5 (.done ((v0.snd.fst, v0.snd.snd, v0.fst, true))))))))
def F_wide_Div (n : Nat) (x : (Int × (Int × Int))) : Option (Int × (Int × (Int × Bool))) := (wide_Div n x.1 x.2.1 x.2.2).run fun _ => none
def wide_Div_ans (F : (Int × (Int × Int)) → Option (Int × (Int × (Int × Bool)))) : List TV → List Ent → Option CallRes
  | [.agg [.int IntKind.u64 a0_0, .int IntKind.u64 a0_1], .lf (.int IntKind.u64 a1)], [] => some (callAns (F (a0_0, a0_1, a1)) wide_Div_res)
  | _, _ => none
def en_wide_Div (F : (Int × (Int × Int)) → Option (Int × (Int × (Int × Bool)))) : Entry := .data n_wide_Div [[Ty.int IntKind.u64, Ty.int IntKind.u64], [Ty.int IntKind.u64]] (wide_Div_ans F)
abbrev e_wide_Div (n : Nat) : Entry := en_wide_Div (F_wide_Div n)
theorem wide_Div_T_ok (n : Nat) : SoundT pg (wide_Div_T n) := tab_sound ⟨e_wide_bit_ok n, trivial⟩
theorem wide_Div_r0 (n : Nat) (x1 : Int) (h0_0 : Int) (h0_1 : Int) (h1_0 : Int) (h1_1 : Int) (x8 : Int) (x9 : Int) (h2_0 : Int) (h2_1 : Int) : (evCode pg (wide_Div_T n) (loopsTold (wide_Div_told n)) 0 (lp 0 (codeOf f_wide_Div) 0).2 (spSt 54 wide_Div_h0.ts [.lf (.int IntKind.u64 x1), .lf (.ptr 32 0), .lf (.ptr 64 0), .lf (.ptr 112 0), .lf (.int IntKind.u64 x8), .lf (.int IntKind.i64 x9)] [(32, ⟨true, .cells [.int IntKind.u64 h0_0, .int IntKind.u64 h0_1]⟩), (64, ⟨true, .cells [.int IntKind.u64 h1_0, .int IntKind.u64 h1_1]⟩), (112, ⟨true, .cells [.int IntKind.u64 h2_0, .int IntKind.u64 h2_1]⟩)])).pt (seeEv 54 wide_Div_h0 wide_Div_x0 wide_Div_y0) =
    (wide_Div_b0 n x1 h0_0 h0_1 h1_0 h1_1 x8 x9 h2_0 h2_1).pt (fun x' => .norm (wide_Div_mk0 (x1, h0_0, h0_1, h1_0, h1_1) x').1 (wide_Div_mk0 (x1, h0_0, h0_1, h1_0, h1_1) x').2) (wide_Div_ev0 (x1, h0_0, h0_1, h1_0, h1_1)) := by kernel_rfl
theorem wide_Div_pm0 : ∀ vs hp x, wide_Div_pt0 vs hp = some x → wide_Div_mk0 x.1 x.2 = (vs, hp) := by
  intro vs hp x h
  unfold wide_Div_pt0 at h
  split at h <;> first | (cases h; rfl) | cases h
theorem wide_Div_k0 (n : Nat) : LoopOK pg (loopsTold (wide_Div_told n)) (lp 0 (codeOf f_wide_Div) 0) :=
  loop_lift pg_mixed (T := (wide_Div_T n)) (wide_Div_T_ok n) (b := 0) (len := 54) (body := (lp 0 (codeOf f_wide_Div) 0).2) (ch := wide_Div_h0) (cx := wide_Div_x0) (cr := wide_Div_y0) wide_Div_mk0 wide_Div_ev0 wide_Div_an0 (fun i x => wide_Div_b0 n i.1 i.2.1 i.2.2.1 i.2.2.2.1 i.2.2.2.2 x.1 x.2.1 x.2.2.1 x.2.2.2) n wide_Div_pt0 wide_Div_pm0 (fun i r K h => h)
    regs_told (loops_told0 (by kernel_rfl)) (fun _ => by kernel_rfl) (fun i x => wide_Div_r0 n i.1 i.2.1 i.2.2.1 i.2.2.2.1 i.2.2.2.2 x.1 x.2.1 x.2.2.1 x.2.2.2)
theorem wide_Div_e (n : Nat) (a0_0 : Int) (a0_1 : Int) (a1 : Int) : (evFn pg (wide_Div_T n) (loopsTold (wide_Div_told n)) f_wide_Div (codeOf f_wide_Div) [.agg [.int IntKind.u64 a0_0, .int IntKind.u64 a0_1], .lf (.int IntKind.u64 a1)] []).pt (outEv pg f_wide_Div 0 [] false) =
    (wide_Div n a0_0 a0_1 a1).pt (fun _ => .norm [] []) (fun y => .out (wide_Div_res y)) := by kernel_rfl
theorem en_wide_Div_ok (n : Nat) : (en_wide_Div (F_wide_Div n)).ok pg := Entry.data_ok <| by
  intro args es r h hv
  unfold wide_Div_ans at h
  simp only at h
  split at h
  · rename_i a0_0 a0_1 a1
    cases h
    exact callAns_ok (fun y hy => fn_lift (fn := f_wide_Div) pg_mixed (T := wide_Div_T n) (wide_Div_T_ok n) (L := loopsTold (wide_Div_told n)) (by kernel_rfl) (by kernel_rfl) (by kernel_rfl) regs_told (loops_told1 (by kernel_rfl) (wide_Div_k0 n)) (args := [.agg [.int IntKind.u64 a0_0, .int IntKind.u64 a0_1], .lf (.int IntKind.u64 a1)]) (es := []) wide_Div_res [] false (fun _ => rfl) (wide_Div n a0_0 a0_1 a1) (wide_Div_e n a0_0 a0_1 a1) hy) hv
  · cases h
theorem e_wide_Div_ok (n : Nat) : (e_wide_Div n).ok pg := en_wide_Div_ok n


abbrev merge_Count_T (n : Nat) : CallT := tab [e_wide_Full n, e_wide_Div n, e_wide_Fits n]
abbrev merge_Count_h0 : Cut := ⟨[.keep [1, 6, 24, 25], .gc], [1, 6, 24, 25]⟩
abbrev merge_Count_x0 : Cut := ⟨[.keep [6], .gc], [6]⟩
abbrev merge_Count_y0 : Cut := ⟨[.keep [4, 5], .gc], [4, 5]⟩
def merge_Count_mk0 (i : (Int × Int)) (x : (Int × Int)) : List TV × List (Nat × Ent) := ([.lf (.int IntKind.i64 i.1), .lf (.int IntKind.u64 x.1), .lf (.int IntKind.i64 i.2), .lf (.int IntKind.i64 x.2)], [])
def merge_Count_pt0 : List TV → List (Nat × Ent) → Option ((Int × Int) × (Int × Int))
  | [.lf (.int IntKind.i64 x1), .lf (.int IntKind.u64 x6), .lf (.int IntKind.i64 x24), .lf (.int IntKind.i64 x25)], [] => some ((x1, x24), (x6, x25))
  | _, _ => none
def merge_Count_ev0 (i : (Int × Int)) : (LR Int (Int × Bool)) → PE
  | .ex z => .exit 0 [.lf (.int IntKind.u64 z)] []
  | .rt z => .ret [.lf (.int IntKind.u64 z.1), .lf (.bool z.2)] []
def merge_Count_an0 (i : (Int × Int)) (r : (LR Int (Int × Bool))) : Tree := .ite r.isRt (.leaf (.ret (spSt 54 [4, 5] [.lf (.int IntKind.u64 r.getR.1), .lf (.bool r.getR.2)] []))) (.leaf (.exit 0 (spSt 54 [6] [.lf (.int IntKind.u64 r.getX)] [])))
def merge_Count_b0 (n : Nat) (x1 : Int) (x24 : Int) (x6 : Int) (x25 : Int) : RT (Int × Int) (LR Int (Int × Bool)) :=
  (.rq 1 (.ite (decide (x25 < x24))
  (.rq 9 (.call (F_wide_Full n (x6, IntKind.u64.wrap (IntKind.u64.wrap (IntKind.u64.wrap x1 + IntKind.u64.wrap x25) + (1 : Int)))) default fun v0 =>
  (.rq 6 (.call (F_wide_Div n (v0.fst, v0.snd, IntKind.u64.wrap (IntKind.u64.wrap x25 + (1 : Int)))) default fun v1 =>
  (.rq 10 (.call (F_wide_Fits n (v1.fst, v1.snd.fst)) default fun v2 =>
  (.rq 7 (.ite (!v2.snd)
  (.rq 2 (.done (.rt (((0 : Int), false)))))
  (.rq 2 (.again ((v2.fst, IntKind.i64.wrap (x25 + (1 : Int))))))))))))))
  (.done (.ex x6))))
def merge_Count_l0 (n : Nat) (i : (Int × Int)) : Nat → (Int × Int) → Option (LR Int (Int × Bool)) := loopN (fun rec x => (merge_Count_b0 n i.1 i.2 x.1 x.2).run rec)
theorem merge_Count_l0_s (n : Nat) (i : (Int × Int)) (k : Nat) (x : (Int × Int)) : merge_Count_l0 n i (k + 1) x = (merge_Count_b0 n i.1 i.2 x.1 x.2).run (merge_Count_l0 n i k) := rfl
def merge_Count_t0 (n : Nat) (σ : St) : Option Tree := match seeSt merge_Count_h0.plan merge_Count_h0.ts 54 σ with
  | some y => (match merge_Count_pt0 y.1 y.2 with
    | some x => some (loopAns (merge_Count_l0 n x.1 n x.2) (merge_Count_an0 x.1))
    | none => none)
  | none => none
def merge_Count_told (n : Nat) : Nat → St → Option Tree
  | 0, σ => merge_Count_t0 n σ
  | _, _ => none
def merge_Count_res (y : (Int × Bool)) : CallRes := ⟨true, .tup [(false, [.int IntKind.u64 y.1]), (false, [.bool y.2])], [], [], false⟩
def merge_Count (n : Nat) (a0 : Int) (a1 : Int) : RT Unit (Int × Bool) :=
  (.rq 5 (.ite (decide (a0 < (0 : Int)))
  (.rq 1 (.ite (true)
  (.rq 2 (.done (((0 : Int), false))))
  (.rq 3 (.ite (decide (a1 < a0))
  (.rq 7 (.call (merge_Count_l0 n (a0, a1) n ((1 : Int), (0 : Int))) default fun v0 =>
  (.ite (v0.isRt)
  (.done ((v0.getR.fst, v0.getR.snd)))
  (.rq 3 (.done ((v0.getX, true)))))))
  (.rq 3 (.call (merge_Count_l0 n (a1, a0) n ((1 : Int), (0 : Int))) default fun v0 =>
  (.ite (v0.isRt)
  (.done ((v0.getR.fst, v0.getR.snd)))
  (.rq 3 (.done ((v0.getX, true)))))))))))
  (.rq 3 (.ite (decide (a1 < (0 : Int)))
  (.rq 2 (.done (((0 : Int), false))))
  (.rq 3 (.ite (decide (a1 < a0))
  (.rq 7 (.call (merge_Count_l0 n (a0, a1) n ((1 : Int), (0 : Int))) default fun v0 =>
  (.ite (v0.isRt)
  (.done ((v0.getR.fst, v0.getR.snd)))
  (.rq 3 (.done ((v0.getX, true)))))))
  (.rq 3 (.call (merge_Count_l0 n (a1, a0) n ((1 : Int), (0 : Int))) default fun v0 =>
  (.ite (v0.isRt)
  (.done ((v0.getR.fst, v0.getR.snd)))
  (.rq 3 (.done ((v0.getX, true)))))))))))))
def F_merge_Count (n : Nat) (x : (Int × Int)) : Option (Int × Bool) := (merge_Count n x.1 x.2).run fun _ => none
def merge_Count_ans (F : (Int × Int) → Option (Int × Bool)) : List TV → List Ent → Option CallRes
  | [.lf (.int IntKind.i64 a0), .lf (.int IntKind.i64 a1)], [] => some (callAns (F (a0, a1)) merge_Count_res)
  | _, _ => none
def en_merge_Count (F : (Int × Int) → Option (Int × Bool)) : Entry := .data n_merge_Count [[Ty.int IntKind.i64], [Ty.int IntKind.i64]] (merge_Count_ans F)
abbrev e_merge_Count (n : Nat) : Entry := en_merge_Count (F_merge_Count n)
theorem merge_Count_T_ok (n : Nat) : SoundT pg (merge_Count_T n) := tab_sound ⟨e_wide_Full_ok n, e_wide_Div_ok n, e_wide_Fits_ok n, trivial⟩
theorem merge_Count_r0 (n : Nat) (x1 : Int) (x24 : Int) (x6 : Int) (x25 : Int) : (evCode pg (merge_Count_T n) (loopsTold (merge_Count_told n)) 0 (lp 0 (codeOf f_merge_Count) 0).2 (spSt 54 merge_Count_h0.ts [.lf (.int IntKind.i64 x1), .lf (.int IntKind.u64 x6), .lf (.int IntKind.i64 x24), .lf (.int IntKind.i64 x25)] [])).pt (seeEv 54 merge_Count_h0 merge_Count_x0 merge_Count_y0) =
    (merge_Count_b0 n x1 x24 x6 x25).pt (fun x' => .norm (merge_Count_mk0 (x1, x24) x').1 (merge_Count_mk0 (x1, x24) x').2) (merge_Count_ev0 (x1, x24)) := by kernel_rfl
theorem merge_Count_pm0 : ∀ vs hp x, merge_Count_pt0 vs hp = some x → merge_Count_mk0 x.1 x.2 = (vs, hp) := by
  intro vs hp x h
  unfold merge_Count_pt0 at h
  split at h <;> first | (cases h; rfl) | cases h
theorem merge_Count_k0 (n : Nat) : LoopOK pg (loopsTold (merge_Count_told n)) (lp 0 (codeOf f_merge_Count) 0) :=
  loop_lift pg_mixed (T := (merge_Count_T n)) (merge_Count_T_ok n) (b := 0) (len := 54) (body := (lp 0 (codeOf f_merge_Count) 0).2) (ch := merge_Count_h0) (cx := merge_Count_x0) (cr := merge_Count_y0) merge_Count_mk0 merge_Count_ev0 merge_Count_an0 (fun i x => merge_Count_b0 n i.1 i.2 x.1 x.2) n merge_Count_pt0 merge_Count_pm0 (fun i r K h => by cases r with | ex z => exact h.2 rfl | rt z => exact h.1 rfl)
    regs_told (loops_told0 (by kernel_rfl)) (fun _ => by kernel_rfl) (fun i x => merge_Count_r0 n i.1 i.2 x.1 x.2)
theorem merge_Count_e (n : Nat) (a0 : Int) (a1 : Int) : (evFn pg (merge_Count_T n) (loopsTold (merge_Count_told n)) f_merge_Count (codeOf f_merge_Count) [.lf (.int IntKind.i64 a0), .lf (.int IntKind.i64 a1)] []).pt (outEv pg f_merge_Count 0 [] false) =
    (merge_Count n a0 a1).pt (fun _ => .norm [] []) (fun y => .out (merge_Count_res y)) := by kernel_rfl
theorem en_merge_Count_ok (n : Nat) : (en_merge_Count (F_merge_Count n)).ok pg := Entry.data_ok <| by
  intro args es r h hv
  unfold merge_Count_ans at h
  simp only at h
  split at h
  · rename_i a0 a1
    cases h
    exact callAns_ok (fun y hy => fn_lift (fn := f_merge_Count) pg_mixed (T := merge_Count_T n) (merge_Count_T_ok n) (L := loopsTold (merge_Count_told n)) (by kernel_rfl) (by kernel_rfl) (by kernel_rfl) regs_told (loops_told1 (by kernel_rfl) (merge_Count_k0 n)) (args := [.lf (.int IntKind.i64 a0), .lf (.int IntKind.i64 a1)]) (es := []) merge_Count_res [] false (fun _ => rfl) (merge_Count n a0 a1) (merge_Count_e n a0 a1) hy) hv
  · cases h
theorem e_merge_Count_ok (n : Nat) : (e_merge_Count n).ok pg := en_merge_Count_ok n



end
end Go.Proofs.Ytlfdidaeachpoaa

/- The reference's long numbers: what they tell. -/
namespace Go.Proofs.Ytlfdidaeachpoaa
open Go Go.RowKit
set_option maxRecDepth 100000
noncomputable section

abbrev B16 : Nat := 65536

/-- A number of the reference whose digits are right, and not too many. -/
def okM (k : Nat) (xs : List Int) : Bool := decide (xs.length ≤ 2 ^ k) && wfd B16 xs

theorem okM_iff {k : Nat} {xs : List Int} : okM k xs = true ↔ xs.length ≤ 2 ^ k ∧ wfd B16 xs = true := by
  simp [okM]

theorem rep1 (x : Int) : (List.replicate (1 : Nat) (0 : Int)).set (0 : Nat) x = [x] := rfl

theorem getD16 {xs : List Int} (h : wfd B16 xs = true) (i : Nat) : ∃ d : Nat, xs.getD i 0 = (d : Int) ∧ d < 65536 := by
  have := wfd_get (by decide : 0 < B16) h i
  have hB : (B16 : Int) = 65536 := rfl
  exact ⟨(xs.getD i 0).toNat, by omega, by omega⟩

theorem tdivN (x y : Nat) : (x : Int).tdiv (y : Int) = ((x / y : Nat) : Int) := by
  rw [Int.tdiv_eq_ediv_of_nonneg (Int.natCast_nonneg _)]; exact (Int.natCast_ediv _ _).symm
theorem tmodN (x y : Nat) : (x : Int).tmod (y : Int) = ((x % y : Nat) : Int) := by
  rw [Int.tmod_eq_emod_of_nonneg (Int.natCast_nonneg _)]; exact (Int.natCast_emod _ _).symm
theorem tdiv16 (x : Nat) : (x : Int).tdiv 65536 = ((x / 65536 : Nat) : Int) := tdivN x 65536
theorem tmod16 (x : Nat) : (x : Int).tmod 65536 = ((x % 65536 : Nat) : Int) := tmodN x 65536

abbrev R01_digit_T (n : Nat) : CallT := tab []
def R01_digit_told (n : Nat) : Nat → St → Option Tree := fun _ _ => none
def R01_digit_res (y : Int) : CallRes := ⟨true, .lf (.int IntKind.i64 y), [], [], false⟩
def R01_digit (n : Nat) (a0_0 : (List Int)) (a1 : Int) : RT Unit Int :=
  (.rq 7 (.ite (decide (a1 < (↑a0_0.length : Int)))
  (.rq 3 (.req (decide ((0 : Int) ≤ a1) && decide (a1 < (↑a0_0.length : Int)))
  (.rq 2 (.done (a0_0.getD a1.toNat (0 : Int))))))
  (.rq 1 (.done ((0 : Int))))))
def F_R01_digit (n : Nat) (x : ((List Int) × Int)) : Option Int := (R01_digit n x.1 x.2).run fun _ => none
def R01_digit_ans (F : ((List Int) × Int) → Option Int) : List TV → List Ent → Option CallRes
  | [.agg [.dat (Ty.int IntKind.i64) a0_0], .lf (.int IntKind.i64 a1)], [] => some (callAns (F (a0_0, a1)) R01_digit_res)
  | _, _ => none
def en_R01_digit (F : ((List Int) × Int) → Option Int) : Entry := .data n_R01_digit [[Ty.sl (Ty.int IntKind.i64)], [Ty.int IntKind.i64]] (R01_digit_ans F)
theorem R01_digit_T_ok (n : Nat) : SoundT pg (R01_digit_T n) := tab_sound trivial
theorem R01_digit_e (n : Nat) (a0_0 : (List Int)) (a1 : Int) : (evFn pg (R01_digit_T n) (loopsTold (R01_digit_told n)) f_R01_digit (codeOf f_R01_digit) [.agg [.dat (Ty.int IntKind.i64) a0_0], .lf (.int IntKind.i64 a1)] []).pt (outEv pg f_R01_digit 0 [] false) =
    (R01_digit n a0_0 a1).pt (fun _ => .norm [] []) (fun y => .out (R01_digit_res y)) := by kernel_rfl
theorem R01_digit_call (n : Nat) (a0_0 : (List Int)) (a1 : Int) (y : Int) (hy : F_R01_digit n (a0_0, a1) = some y) : Enters pg n_R01_digit ∧ CallOK pg n_R01_digit [.agg [.dat (Ty.int IntKind.i64) a0_0], .lf (.int IntKind.i64 a1)] [] (R01_digit_res y) := fn_lift (fn := f_R01_digit) pg_mixed (T := R01_digit_T n) (R01_digit_T_ok n) (L := loopsTold (R01_digit_told n)) (by kernel_rfl) (by kernel_rfl) (by kernel_rfl) regs_told (loops_told0 (by kernel_rfl)) (args := [.agg [.dat (Ty.int IntKind.i64) a0_0], .lf (.int IntKind.i64 a1)]) (es := []) R01_digit_res [] false (fun _ => rfl) (R01_digit n a0_0 a1) (R01_digit_e n a0_0 a1) hy
theorem en_R01_digit_ok (n : Nat) : (en_R01_digit (F_R01_digit n)).ok pg := Entry.data_ok <| by
  intro args es r h hv
  unfold R01_digit_ans at h
  simp only at h
  split at h
  · rename_i a0_0 a1
    cases h
    exact callAns_ok (fun y hy => R01_digit_call n a0_0 a1 y hy) hv
  · cases h
/-- The function, by what it is known to tell. -/
def sp_R01_digit (C : ((List Int) × Int) → Bool) (V : ((List Int) × Int) → Int) : Entry := .data n_R01_digit [[Ty.sl (Ty.int IntKind.i64)], [Ty.int IntKind.i64]] fun args es => match args, es with
  | [.agg [.dat (Ty.int IntKind.i64) a0_0], .lf (.int IntKind.i64 a1)], [] => some { R01_digit_res (V (a0_0, a1)) with vc := C (a0_0, a1) }
  | _, _ => none
theorem sp_R01_digit_ok {C : ((List Int) × Int) → Bool} {V : ((List Int) × Int) → Int} (H : ∀ x, C x = true → ∃ n, F_R01_digit n x = some (V x)) : (sp_R01_digit C V).ok pg := Entry.data_ok <| by
  intro args es r h hv
  simp only at h
  split at h
  · rename_i a0_0 a1
    cases h
    obtain ⟨n, hn⟩ := H (a0_0, a1) hv
    exact ⟨(R01_digit_call n a0_0 a1 _ hn).1, (R01_digit_call n a0_0 a1 _ hn).2.vc⟩
  · cases h



theorem digit_F {xs : List Int} {i : Int} (h : 0 ≤ i) (n : Nat) : F_R01_digit n (xs, i) = some (dig xs i) := by
  unfold F_R01_digit R01_digit dig
  simp only [RT.run, decide_eq_true_eq, Bool.and_eq_true]
  split
  · rw [if_pos ⟨h, by assumption⟩]
  · rfl

abbrev e_R01_digit (_ : Nat) : Entry := sp_R01_digit (fun x => decide (0 ≤ x.2)) (fun x => dig x.1 x.2)
theorem e_R01_digit_ok (n : Nat) : (e_R01_digit n).ok pg := sp_R01_digit_ok fun x h => ⟨0, digit_F (of_decide_eq_true h) 0⟩

theorem dig16 {xs : List Int} (h : wfd B16 xs = true) (i : Nat) : ∃ d : Nat, dig xs (i : Int) = (d : Int) ∧ d < 65536 ∧ d = val B16 xs / B16 ^ i % B16 := by
  have e := dig_val (b := B16) (by decide) h (i := i)
  exact ⟨_, e, Nat.mod_lt _ (by decide), rfl⟩

abbrev R01_Cut_T (n : Nat) : CallT := tab []
abbrev R01_Cut_h0 : Cut := ⟨[.keep [0, 2, 3], .gc], [0, 2, 3]⟩
abbrev R01_Cut_x0 : Cut := ⟨[.keep [0, 2, 3], .gc], [0, 2, 3]⟩
abbrev R01_Cut_y0 : Cut := ⟨[.keep [2], .gc], [2]⟩
def R01_Cut_mk0 (i : (List Int)) (x : Int) : List TV × List (Nat × Ent) := ([.lf (.dat (Ty.int IntKind.i64) i), .lf (.ptr 32 0), .lf (.int IntKind.i64 x)], [(32, ⟨true, .cells [.nil]⟩)])
def R01_Cut_pt0 : List TV → List (Nat × Ent) → Option ((List Int) × Int)
  | [.lf (.dat (Ty.int IntKind.i64) x0), .lf (.ptr 32 0), .lf (.int IntKind.i64 x3)], [(32, ⟨true, .cells [.nil]⟩)] => some (x0, x3)
  | _, _ => none
def R01_Cut_ev0 (i : (List Int)) (r : Int) : PE := .exit 0 [.lf (.dat (Ty.int IntKind.i64) i), .lf (.ptr 32 0), .lf (.int IntKind.i64 r)] [(32, ⟨true, .cells [.nil]⟩)]
def R01_Cut_an0 (i : (List Int)) (r : Int) : Tree := .leaf (.exit 0 (spSt 24 [0, 2, 3] [.lf (.dat (Ty.int IntKind.i64) i), .lf (.ptr 32 0), .lf (.int IntKind.i64 r)] [(32, ⟨true, .cells [.nil]⟩)]))
def R01_Cut_b0 (n : Nat) (x0 : (List Int)) (x3 : Int) : RT Int Int :=
  (.rq 3 (.ite (decide ((0 : Int) < x3))
  (.rq 3 (.req (decide ((0 : Int) ≤ IntKind.i64.wrap (x3 - (1 : Int))) && decide (IntKind.i64.wrap (x3 - (1 : Int)) < (↑x0.length : Int)))
  (.rq 3 (.ite (x0.getD (IntKind.i64.wrap (x3 - (1 : Int))).toNat (0 : Int) == (0 : Int))
  (.rq 3 (.again (IntKind.i64.wrap (x3 - (1 : Int)))))
  (.done x3)))))
  (.rq 1 (.ite (false)
  (.rq 3 (.again (IntKind.i64.wrap (x3 - (1 : Int)))))
  (.done x3)))))
def R01_Cut_l0 (n : Nat) (i : (List Int)) : Nat → Int → Option Int := loopN (fun rec x => (R01_Cut_b0 n i x).run rec)
theorem R01_Cut_l0_s (n : Nat) (i : (List Int)) (k : Nat) (x : Int) : R01_Cut_l0 n i (k + 1) x = (R01_Cut_b0 n i x).run (R01_Cut_l0 n i k) := rfl
def R01_Cut_t0 (n : Nat) (σ : St) : Option Tree := match seeSt R01_Cut_h0.plan R01_Cut_h0.ts 24 σ with
  | some y => (match R01_Cut_pt0 y.1 y.2 with
    | some x => some (loopAns (R01_Cut_l0 n x.1 n x.2) (R01_Cut_an0 x.1))
    | none => none)
  | none => none
def R01_Cut_told (n : Nat) : Nat → St → Option Tree
  | 0, σ => R01_Cut_t0 n σ
  | _, _ => none
def R01_Cut_res (y : (List Int)) : CallRes := ⟨true, .agg [.ref 0], [], [⟨true, .arr 3 (Ty.int IntKind.i64) y⟩], false⟩
def R01_Cut (n : Nat) (a0 : (List Int)) : RT Unit (List Int) :=
  (.rq 4 (.call (R01_Cut_l0 n a0 n (↑a0.length : Int)) default fun v0 =>
  (.rq 3 (.req (decide ((0 : Int) ≤ v0) && decide (v0 ≤ (↑a0.length : Int)))
  (.req (decide (((0 : Nat) + (List.take v0.toNat a0).length) * (8 : Nat) ≤ (140737488355328 : Nat)) && decide ((0 : Nat) + (List.take v0.toNat a0).length ≤ (9223372036854775807 : Nat)))
  (.rq 2 (.done (List.replicate (0 : Nat) (0 : Int) ++ List.take v0.toNat a0))))))))
def F_R01_Cut (n : Nat) (x : (List Int)) : Option (List Int) := (R01_Cut n x).run fun _ => none
def R01_Cut_ans (F : (List Int) → Option (List Int)) : List TV → List Ent → Option CallRes
  | [.lf (.dat (Ty.int IntKind.i64) a0)], [] => some (callAns (F a0) R01_Cut_res)
  | _, _ => none
def en_R01_Cut (F : (List Int) → Option (List Int)) : Entry := .data n_R01_Cut [[Ty.sl (Ty.int IntKind.i64)]] (R01_Cut_ans F)
theorem R01_Cut_T_ok (n : Nat) : SoundT pg (R01_Cut_T n) := tab_sound trivial
theorem R01_Cut_r0 (n : Nat) (x0 : (List Int)) (x3 : Int) : (evCode pg (R01_Cut_T n) (loopsTold (R01_Cut_told n)) 0 (lp 0 (codeOf f_R01_Cut) 0).2 (spSt 24 R01_Cut_h0.ts [.lf (.dat (Ty.int IntKind.i64) x0), .lf (.ptr 32 0), .lf (.int IntKind.i64 x3)] [(32, ⟨true, .cells [.nil]⟩)])).pt (seeEv 24 R01_Cut_h0 R01_Cut_x0 R01_Cut_y0) =
    (R01_Cut_b0 n x0 x3).pt (fun x' => .norm (R01_Cut_mk0 x0 x').1 (R01_Cut_mk0 x0 x').2) (R01_Cut_ev0 x0) := by kernel_rfl
theorem R01_Cut_pm0 : ∀ vs hp x, R01_Cut_pt0 vs hp = some x → R01_Cut_mk0 x.1 x.2 = (vs, hp) := by
  intro vs hp x h
  unfold R01_Cut_pt0 at h
  split at h <;> first | (cases h; rfl) | cases h
theorem R01_Cut_k0 (n : Nat) : LoopOK pg (loopsTold (R01_Cut_told n)) (lp 0 (codeOf f_R01_Cut) 0) :=
  loop_lift pg_mixed (T := (R01_Cut_T n)) (R01_Cut_T_ok n) (b := 0) (len := 24) (body := (lp 0 (codeOf f_R01_Cut) 0).2) (ch := R01_Cut_h0) (cx := R01_Cut_x0) (cr := R01_Cut_y0) R01_Cut_mk0 R01_Cut_ev0 R01_Cut_an0 (fun i x => R01_Cut_b0 n i x) n R01_Cut_pt0 R01_Cut_pm0 (fun i r K h => h)
    regs_told (loops_told0 (by kernel_rfl)) (fun _ => by kernel_rfl) (fun i x => R01_Cut_r0 n i x)
theorem R01_Cut_e (n : Nat) (a0 : (List Int)) : (evFn pg (R01_Cut_T n) (loopsTold (R01_Cut_told n)) f_R01_Cut (codeOf f_R01_Cut) [.lf (.dat (Ty.int IntKind.i64) a0)] []).pt (outEv pg f_R01_Cut 0 [.cellRow 32 0 600032 3 (Ty.int IntKind.i64), .cellRen 32 0 600032] false) =
    (R01_Cut n a0).pt (fun _ => .norm [] []) (fun y => .out (R01_Cut_res y)) := by kernel_rfl
theorem R01_Cut_call (n : Nat) (a0 : (List Int)) (y : (List Int)) (hy : F_R01_Cut n a0 = some y) : Enters pg n_R01_Cut ∧ CallOK pg n_R01_Cut [.lf (.dat (Ty.int IntKind.i64) a0)] [] (R01_Cut_res y) := fn_lift (fn := f_R01_Cut) pg_mixed (T := R01_Cut_T n) (R01_Cut_T_ok n) (L := loopsTold (R01_Cut_told n)) (by kernel_rfl) (by kernel_rfl) (by kernel_rfl) regs_told (loops_told1 (by kernel_rfl) (R01_Cut_k0 n)) (args := [.lf (.dat (Ty.int IntKind.i64) a0)]) (es := []) R01_Cut_res [.cellRow 32 0 600032 3 (Ty.int IntKind.i64), .cellRen 32 0 600032] false (fun _ => rfl) (R01_Cut n a0) (R01_Cut_e n a0) hy
theorem en_R01_Cut_ok (n : Nat) : (en_R01_Cut (F_R01_Cut n)).ok pg := Entry.data_ok <| by
  intro args es r h hv
  unfold R01_Cut_ans at h
  simp only at h
  split at h
  · rename_i a0
    cases h
    exact callAns_ok (fun y hy => R01_Cut_call n a0 y hy) hv
  · cases h
/-- The function, by what it is known to tell. -/
def sp_R01_Cut (C : (List Int) → Bool) (V : (List Int) → (List Int)) : Entry := .data n_R01_Cut [[Ty.sl (Ty.int IntKind.i64)]] fun args es => match args, es with
  | [.lf (.dat (Ty.int IntKind.i64) a0)], [] => some { R01_Cut_res (V a0) with vc := C a0 }
  | _, _ => none
theorem sp_R01_Cut_ok {C : (List Int) → Bool} {V : (List Int) → (List Int)} (H : ∀ x, C x = true → ∃ n, F_R01_Cut n x = some (V x)) : (sp_R01_Cut C V).ok pg := Entry.data_ok <| by
  intro args es r h hv
  simp only at h
  split at h
  · rename_i a0
    cases h
    obtain ⟨n, hn⟩ := H a0 hv
    exact ⟨(R01_Cut_call n a0 _ hn).1, (R01_Cut_call n a0 _ hn).2.vc⟩
  · cases h



theorem cut16_l (n : Nat) {xs : List Int} (hl : xs.length ≤ 2 ^ 40) : ∀ (m k : Nat), m < k → m ≤ xs.length → R01_Cut_l0 n xs k (m : Int) = some ((cutN xs m : Nat) : Int)
  | 0, k + 1, _, _ => by
    rw [R01_Cut_l0_s]
    unfold R01_Cut_b0
    simp [RT.run, cutN]
  | m + 1, k + 1, hk, hm => by
    rw [R01_Cut_l0_s]
    unfold R01_Cut_b0
    have w : IntKind.i64.wrap (((m + 1 : Nat) : Int) - 1) = (m : Int) := by rw [i64_in] <;> omega
    simp only [RT.run, w, Int.toNat_natCast]
    rw [if_pos (by simp <;> omega), if_pos (by simp <;> omega)]
    unfold cutN
    by_cases h : xs.getD m 0 = 0
    · rw [if_pos (by simpa using h), if_pos h]
      exact cut16_l n hl m k (by omega) (by omega)
    · rw [if_neg (by simpa using h), if_neg h]

theorem Cut16_F {xs : List Int} (h : okM 40 xs = true) : F_R01_Cut (xs.length + 1) xs = some (digs B16 (val B16 xs)) := by
  rw [okM_iff] at h
  unfold F_R01_Cut R01_Cut
  simp only [RT.run]
  rw [cut16_l _ h.1 xs.length _ (Nat.lt_succ_self _) (Nat.le_refl _)]
  have := cutN_le xs xs.length
  simp only [Option.bind_some, Int.toNat_natCast, List.length_take]
  rw [if_pos (by simp <;> omega), if_pos (by simp <;> omega), ← cut_eq (by decide) h.2]
  rfl

abbrev e_R01_Cut (_ : Nat) : Entry := sp_R01_Cut (fun x => okM 40 x) (fun x => digs B16 (val B16 x))
theorem e_R01_Cut_ok (n : Nat) : (e_R01_Cut n).ok pg := sp_R01_Cut_ok fun x h => ⟨_, Cut16_F h⟩

abbrev R01_Of_T (n : Nat) : CallT := tab []
abbrev R01_Of_h0 : Cut := ⟨[.keep [0, 2, 3], .gc, .nilRow 3 800003 3 (Ty.int IntKind.i64), .ren 3 700003, .ren 3 900003, .gc], [0, 2, 3]⟩
abbrev R01_Of_x0 : Cut := ⟨[.keep [2, 3], .gc, .nilRow 3 800003 3 (Ty.int IntKind.i64), .ren 3 700003, .ren 3 900003, .gc], [2, 3]⟩
abbrev R01_Of_y0 : Cut := ⟨[.keep [2], .gc], [2]⟩
def R01_Of_mk0 (i : Unit) (x : (Int × (List Int))) : List TV × List (Nat × Ent) := ([.lf (.int IntKind.u64 x.1), .lf (.ptr 32 0), .lf (.ref 900003)], [(32, ⟨true, .cells [.nil]⟩), (900003, ⟨true, .arr 3 (Ty.int IntKind.i64) x.2⟩)])
def R01_Of_pt0 : List TV → List (Nat × Ent) → Option (Unit × (Int × (List Int)))
  | [.lf (.int IntKind.u64 x0), .lf (.ptr 32 0), .lf (.ref 900003)], [(32, ⟨true, .cells [.nil]⟩), (900003, ⟨true, .arr 3 (Ty.int IntKind.i64) h1⟩)] => some ((), (x0, h1))
  | _, _ => none
def R01_Of_ev0 (i : Unit) (r : (List Int)) : PE := .exit 0 [.lf (.ptr 32 0), .lf (.ref 900003)] [(32, ⟨true, .cells [.nil]⟩), (900003, ⟨true, .arr 3 (Ty.int IntKind.i64) r⟩)]
def R01_Of_an0 (i : Unit) (r : (List Int)) : Tree := .leaf (.exit 0 (spSt 16 [2, 3] [.lf (.ptr 32 0), .lf (.ref 900003)] [(32, ⟨true, .cells [.nil]⟩), (900003, ⟨true, .arr 3 (Ty.int IntKind.i64) r⟩)]))
def R01_Of_b0 (n : Nat) (x0 : Int) (h1 : (List Int)) : RT (Int × (List Int)) (List Int) :=
  (.rq 2 (.ite (decide ((0 : Int) < x0))
  (.rq 5 (.req (decide ((h1.length + ((List.replicate (1 : Nat) (0 : Int)).set (0 : Nat) (IntKind.i64.wrap (x0.tmod (65536 : Int)))).length) * (8 : Nat) ≤ (140737488355328 : Nat)) &&
  decide (h1.length + ((List.replicate (1 : Nat) (0 : Int)).set (0 : Nat) (IntKind.i64.wrap (x0.tmod (65536 : Int)))).length ≤ (9223372036854775807 : Nat)))
  (.rq 4 (.again ((IntKind.u64.wrap (x0.tdiv (65536 : Int)), h1 ++ (List.replicate (1 : Nat) (0 : Int)).set (0 : Nat) (IntKind.i64.wrap (x0.tmod (65536 : Int)))))))))
  (.done h1)))
def R01_Of_l0 (n : Nat) (i : Unit) : Nat → (Int × (List Int)) → Option (List Int) := loopN (fun rec x => (R01_Of_b0 n x.1 x.2).run rec)
theorem R01_Of_l0_s (n : Nat) (i : Unit) (k : Nat) (x : (Int × (List Int))) : R01_Of_l0 n i (k + 1) x = (R01_Of_b0 n x.1 x.2).run (R01_Of_l0 n i k) := rfl
def R01_Of_t0 (n : Nat) (σ : St) : Option Tree := match seeSt R01_Of_h0.plan R01_Of_h0.ts 16 σ with
  | some y => (match R01_Of_pt0 y.1 y.2 with
    | some x => some (loopAns (R01_Of_l0 n x.1 n x.2) (R01_Of_an0 x.1))
    | none => none)
  | none => none
def R01_Of_told (n : Nat) : Nat → St → Option Tree
  | 0, σ => R01_Of_t0 n σ
  | _, _ => none
def R01_Of_res (y : (List Int)) : CallRes := ⟨true, .agg [.ref 0], [], [⟨true, .arr 3 (Ty.int IntKind.i64) y⟩], false⟩
def R01_Of (n : Nat) (a0 : Int) : RT Unit (List Int) :=
  (.rq 2 (.call (R01_Of_l0 n () n (a0, nilD (Ty.int IntKind.i64).den)) default fun v0 =>
  (.rq 3 (.done v0))))
def F_R01_Of (n : Nat) (x : Int) : Option (List Int) := (R01_Of n x).run fun _ => none
def R01_Of_ans (F : Int → Option (List Int)) : List TV → List Ent → Option CallRes
  | [.lf (.int IntKind.u64 a0)], [] => some (callAns (F a0) R01_Of_res)
  | _, _ => none
def en_R01_Of (F : Int → Option (List Int)) : Entry := .data n_R01_Of [[Ty.int IntKind.u64]] (R01_Of_ans F)
theorem R01_Of_T_ok (n : Nat) : SoundT pg (R01_Of_T n) := tab_sound trivial
theorem R01_Of_r0 (n : Nat) (x0 : Int) (h1 : (List Int)) : (evCode pg (R01_Of_T n) (loopsTold (R01_Of_told n)) 0 (lp 0 (codeOf f_R01_Of) 0).2 (spSt 16 R01_Of_h0.ts [.lf (.int IntKind.u64 x0), .lf (.ptr 32 0), .lf (.ref 900003)] [(32, ⟨true, .cells [.nil]⟩), (900003, ⟨true, .arr 3 (Ty.int IntKind.i64) h1⟩)])).pt (seeEv 16 R01_Of_h0 R01_Of_x0 R01_Of_y0) =
    (R01_Of_b0 n x0 h1).pt (fun x' => .norm (R01_Of_mk0 () x').1 (R01_Of_mk0 () x').2) (R01_Of_ev0 ()) := by kernel_rfl
theorem R01_Of_pm0 : ∀ vs hp x, R01_Of_pt0 vs hp = some x → R01_Of_mk0 x.1 x.2 = (vs, hp) := by
  intro vs hp x h
  unfold R01_Of_pt0 at h
  split at h <;> first | (cases h; rfl) | cases h
theorem R01_Of_k0 (n : Nat) : LoopOK pg (loopsTold (R01_Of_told n)) (lp 0 (codeOf f_R01_Of) 0) :=
  loop_lift pg_mixed (T := (R01_Of_T n)) (R01_Of_T_ok n) (b := 0) (len := 16) (body := (lp 0 (codeOf f_R01_Of) 0).2) (ch := R01_Of_h0) (cx := R01_Of_x0) (cr := R01_Of_y0) R01_Of_mk0 R01_Of_ev0 R01_Of_an0 (fun i x => R01_Of_b0 n x.1 x.2) n R01_Of_pt0 R01_Of_pm0 (fun i r K h => h)
    regs_told (loops_told0 (by kernel_rfl)) (fun _ => by kernel_rfl) (fun i x => R01_Of_r0 n x.1 x.2)
theorem R01_Of_e (n : Nat) (a0 : Int) : (evFn pg (R01_Of_T n) (loopsTold (R01_Of_told n)) f_R01_Of (codeOf f_R01_Of) [.lf (.int IntKind.u64 a0)] []).pt (outEv pg f_R01_Of 0 [.cellRow 32 0 600032 3 (Ty.int IntKind.i64), .cellRen 32 0 600032] false) =
    (R01_Of n a0).pt (fun _ => .norm [] []) (fun y => .out (R01_Of_res y)) := by kernel_rfl
theorem R01_Of_call (n : Nat) (a0 : Int) (y : (List Int)) (hy : F_R01_Of n a0 = some y) : Enters pg n_R01_Of ∧ CallOK pg n_R01_Of [.lf (.int IntKind.u64 a0)] [] (R01_Of_res y) := fn_lift (fn := f_R01_Of) pg_mixed (T := R01_Of_T n) (R01_Of_T_ok n) (L := loopsTold (R01_Of_told n)) (by kernel_rfl) (by kernel_rfl) (by kernel_rfl) regs_told (loops_told1 (by kernel_rfl) (R01_Of_k0 n)) (args := [.lf (.int IntKind.u64 a0)]) (es := []) R01_Of_res [.cellRow 32 0 600032 3 (Ty.int IntKind.i64), .cellRen 32 0 600032] false (fun _ => rfl) (R01_Of n a0) (R01_Of_e n a0) hy
theorem en_R01_Of_ok (n : Nat) : (en_R01_Of (F_R01_Of n)).ok pg := Entry.data_ok <| by
  intro args es r h hv
  unfold R01_Of_ans at h
  simp only at h
  split at h
  · rename_i a0
    cases h
    exact callAns_ok (fun y hy => R01_Of_call n a0 y hy) hv
  · cases h
/-- The function, by what it is known to tell. -/
def sp_R01_Of (C : Int → Bool) (V : Int → (List Int)) : Entry := .data n_R01_Of [[Ty.int IntKind.u64]] fun args es => match args, es with
  | [.lf (.int IntKind.u64 a0)], [] => some { R01_Of_res (V a0) with vc := C a0 }
  | _, _ => none
theorem sp_R01_Of_ok {C : Int → Bool} {V : Int → (List Int)} (H : ∀ x, C x = true → ∃ n, F_R01_Of n x = some (V x)) : (sp_R01_Of C V).ok pg := Entry.data_ok <| by
  intro args es r h hv
  simp only at h
  split at h
  · rename_i a0
    cases h
    obtain ⟨n, hn⟩ := H a0 hv
    exact ⟨(R01_Of_call n a0 _ hn).1, (R01_Of_call n a0 _ hn).2.vc⟩
  · cases h



theorem of16_l (n : Nat) : ∀ (x k : Nat) (out : List Int), x < k → x < 2 ^ 64 → out.length + x < 2 ^ 64 + 10 → out.length ≤ 10000 → (x < 65536 ^ (10000 - out.length)) → R01_Of_l0 n () k ((x : Int), out) = some (out ++ digs B16 x) := by
  intro x
  induction x using Nat.strongRecOn with
  | ind x ih =>
    intro k out hk hx ho hl hp
    obtain ⟨k, rfl⟩ : ∃ k', k = k' + 1 := ⟨k - 1, by omega⟩
    rw [R01_Of_l0_s]
    unfold R01_Of_b0
    by_cases h : x = 0
    · subst h
      simp [RT.run, digs_zero]
    · have hx0 := Nat.pos_of_ne_zero h
      have hl' : out.length < 10000 := by
        apply Nat.lt_of_le_of_ne hl
        intro e
        rw [e, Nat.sub_self, Nat.pow_zero] at hp
        omega
      have w1 : IntKind.u64.wrap ((x / 65536 : Nat) : Int) = ((x / 65536 : Nat) : Int) := u64_in ⟨Int.natCast_nonneg _, by omega⟩
      have w2 : IntKind.i64.wrap ((x % 65536 : Nat) : Int) = ((x % 65536 : Nat) : Int) := i64_in (by omega)
      simp only [RT.run, tdiv16, tmod16, w1, w2, rep1]
      rw [if_pos (by simp <;> omega), if_pos (by simp <;> omega)]
      rw [ih (x / 65536) (by omega) k _ (by omega) (by omega) (by simp; omega) (by simp; omega) (by
        rw [List.length_append, List.length_singleton, Nat.div_lt_iff_lt_mul (by decide), ← Nat.pow_succ, show (10000 - (out.length + 1)).succ = 10000 - out.length by omega]
        exact hp), digs_pos (by decide) hx0, List.append_assoc]
      rfl

theorem Of16_F {x : Int} (h0 : 0 ≤ x) (h1 : x < 18446744073709551616) : F_R01_Of (x.toNat + 1) x = some (digs B16 x.toNat) := by
  obtain ⟨m, rfl⟩ := Int.eq_ofNat_of_zero_le h0
  unfold F_R01_Of R01_Of
  simp only [RT.run, nilD, Int.toNat_natCast]
  rw [of16_l _ m (m + 1) [] (Nat.lt_succ_self _) (by omega) (by simp; omega) (by simp) (by
    refine Nat.lt_of_lt_of_le (show m < 65536 ^ 4 by omega) (Nat.pow_le_pow_right (by decide) (by simp)))]
  rfl

abbrev e_R01_Of (_ : Nat) : Entry := sp_R01_Of (fun x => decide (0 ≤ x) && decide (x < 18446744073709551616)) (fun x => digs B16 x.toNat)
theorem e_R01_Of_ok (n : Nat) : (e_R01_Of n).ok pg := sp_R01_Of_ok fun x h => by
  simp only [Bool.and_eq_true, decide_eq_true_eq] at h
  exact ⟨_, Of16_F h.1 h.2⟩

abbrev R01_Word_T (n : Nat) : CallT := tab []
abbrev R01_Word_h0 : Cut := ⟨[.keep [1, 4, 5], .gc], [1, 4, 5]⟩
abbrev R01_Word_x0 : Cut := ⟨[.keep [4], .gc], [4]⟩
abbrev R01_Word_y0 : Cut := ⟨[.keep [2, 3], .gc], [2, 3]⟩
def R01_Word_mk0 (i : (List Int)) (x : (Int × Int)) : List TV × List (Nat × Ent) := ([.lf (.ptr 16 0), .lf (.int IntKind.u64 x.1), .lf (.int IntKind.i64 x.2)], [(16, ⟨true, .cells [.dat (Ty.int IntKind.i64) i]⟩)])
def R01_Word_pt0 : List TV → List (Nat × Ent) → Option ((List Int) × (Int × Int))
  | [.lf (.ptr 16 0), .lf (.int IntKind.u64 x4), .lf (.int IntKind.i64 x5)], [(16, ⟨true, .cells [.dat (Ty.int IntKind.i64) h0_0]⟩)] => some (h0_0, (x4, x5))
  | _, _ => none
def R01_Word_ev0 (i : (List Int)) (r : Int) : PE := .exit 0 [.lf (.int IntKind.u64 r)] []
def R01_Word_an0 (i : (List Int)) (r : Int) : Tree := .leaf (.exit 0 (spSt 28 [4] [.lf (.int IntKind.u64 r)] []))
def R01_Word_b0 (n : Nat) (h0_0 : (List Int)) (x4 : Int) (x5 : Int) : RT (Int × Int) Int :=
  (.rq 2 (.ite (decide ((0 : Int) ≤ x5))
  (.rq 5 (.req (decide ((0 : Int) ≤ x5) && decide (x5 < (↑h0_0.length : Int)))
  (.rq 7 (.again ((IntKind.u64.wrap (IntKind.u64.wrap (x4 * (65536 : Int)) + IntKind.u64.wrap (h0_0.getD x5.toNat (0 : Int))), IntKind.i64.wrap (x5 - (1 : Int))))))))
  (.done x4)))
def R01_Word_l0 (n : Nat) (i : (List Int)) : Nat → (Int × Int) → Option Int := loopN (fun rec x => (R01_Word_b0 n i x.1 x.2).run rec)
theorem R01_Word_l0_s (n : Nat) (i : (List Int)) (k : Nat) (x : (Int × Int)) : R01_Word_l0 n i (k + 1) x = (R01_Word_b0 n i x.1 x.2).run (R01_Word_l0 n i k) := rfl
def R01_Word_t0 (n : Nat) (σ : St) : Option Tree := match seeSt R01_Word_h0.plan R01_Word_h0.ts 28 σ with
  | some y => (match R01_Word_pt0 y.1 y.2 with
    | some x => some (loopAns (R01_Word_l0 n x.1 n x.2) (R01_Word_an0 x.1))
    | none => none)
  | none => none
def R01_Word_told (n : Nat) : Nat → St → Option Tree
  | 0, σ => R01_Word_t0 n σ
  | _, _ => none
def R01_Word_res (y : (Int × Bool)) : CallRes := ⟨true, .tup [(false, [.int IntKind.u64 y.1]), (false, [.bool y.2])], [], [], false⟩
def R01_Word (n : Nat) (a0_0 : (List Int)) : RT Unit (Int × Bool) :=
  (.rq 7 (.ite (decide ((4 : Int) < (↑a0_0.length : Int)))
  (.rq 2 (.done (((0 : Int), false))))
  (.rq 6 (.call (R01_Word_l0 n a0_0 n ((0 : Int), IntKind.i64.wrap ((↑a0_0.length : Int) - (1 : Int)))) default fun v0 =>
  (.rq 3 (.done ((v0, true))))))))
def F_R01_Word (n : Nat) (x : (List Int)) : Option (Int × Bool) := (R01_Word n x).run fun _ => none
def R01_Word_ans (F : (List Int) → Option (Int × Bool)) : List TV → List Ent → Option CallRes
  | [.agg [.dat (Ty.int IntKind.i64) a0_0]], [] => some (callAns (F a0_0) R01_Word_res)
  | _, _ => none
def en_R01_Word (F : (List Int) → Option (Int × Bool)) : Entry := .data n_R01_Word [[Ty.sl (Ty.int IntKind.i64)]] (R01_Word_ans F)
theorem R01_Word_T_ok (n : Nat) : SoundT pg (R01_Word_T n) := tab_sound trivial
theorem R01_Word_r0 (n : Nat) (h0_0 : (List Int)) (x4 : Int) (x5 : Int) : (evCode pg (R01_Word_T n) (loopsTold (R01_Word_told n)) 0 (lp 0 (codeOf f_R01_Word) 0).2 (spSt 28 R01_Word_h0.ts [.lf (.ptr 16 0), .lf (.int IntKind.u64 x4), .lf (.int IntKind.i64 x5)] [(16, ⟨true, .cells [.dat (Ty.int IntKind.i64) h0_0]⟩)])).pt (seeEv 28 R01_Word_h0 R01_Word_x0 R01_Word_y0) =
    (R01_Word_b0 n h0_0 x4 x5).pt (fun x' => .norm (R01_Word_mk0 h0_0 x').1 (R01_Word_mk0 h0_0 x').2) (R01_Word_ev0 h0_0) := by kernel_rfl
theorem R01_Word_pm0 : ∀ vs hp x, R01_Word_pt0 vs hp = some x → R01_Word_mk0 x.1 x.2 = (vs, hp) := by
  intro vs hp x h
  unfold R01_Word_pt0 at h
  split at h <;> first | (cases h; rfl) | cases h
theorem R01_Word_k0 (n : Nat) : LoopOK pg (loopsTold (R01_Word_told n)) (lp 0 (codeOf f_R01_Word) 0) :=
  loop_lift pg_mixed (T := (R01_Word_T n)) (R01_Word_T_ok n) (b := 0) (len := 28) (body := (lp 0 (codeOf f_R01_Word) 0).2) (ch := R01_Word_h0) (cx := R01_Word_x0) (cr := R01_Word_y0) R01_Word_mk0 R01_Word_ev0 R01_Word_an0 (fun i x => R01_Word_b0 n i x.1 x.2) n R01_Word_pt0 R01_Word_pm0 (fun i r K h => h)
    regs_told (loops_told0 (by kernel_rfl)) (fun _ => by kernel_rfl) (fun i x => R01_Word_r0 n i x.1 x.2)
theorem R01_Word_e (n : Nat) (a0_0 : (List Int)) : (evFn pg (R01_Word_T n) (loopsTold (R01_Word_told n)) f_R01_Word (codeOf f_R01_Word) [.agg [.dat (Ty.int IntKind.i64) a0_0]] []).pt (outEv pg f_R01_Word 0 [] false) =
    (R01_Word n a0_0).pt (fun _ => .norm [] []) (fun y => .out (R01_Word_res y)) := by kernel_rfl
theorem R01_Word_call (n : Nat) (a0_0 : (List Int)) (y : (Int × Bool)) (hy : F_R01_Word n a0_0 = some y) : Enters pg n_R01_Word ∧ CallOK pg n_R01_Word [.agg [.dat (Ty.int IntKind.i64) a0_0]] [] (R01_Word_res y) := fn_lift (fn := f_R01_Word) pg_mixed (T := R01_Word_T n) (R01_Word_T_ok n) (L := loopsTold (R01_Word_told n)) (by kernel_rfl) (by kernel_rfl) (by kernel_rfl) regs_told (loops_told1 (by kernel_rfl) (R01_Word_k0 n)) (args := [.agg [.dat (Ty.int IntKind.i64) a0_0]]) (es := []) R01_Word_res [] false (fun _ => rfl) (R01_Word n a0_0) (R01_Word_e n a0_0) hy
theorem en_R01_Word_ok (n : Nat) : (en_R01_Word (F_R01_Word n)).ok pg := Entry.data_ok <| by
  intro args es r h hv
  unfold R01_Word_ans at h
  simp only at h
  split at h
  · rename_i a0_0
    cases h
    exact callAns_ok (fun y hy => R01_Word_call n a0_0 y hy) hv
  · cases h
/-- The function, by what it is known to tell. -/
def sp_R01_Word (C : (List Int) → Bool) (V : (List Int) → (Int × Bool)) : Entry := .data n_R01_Word [[Ty.sl (Ty.int IntKind.i64)]] fun args es => match args, es with
  | [.agg [.dat (Ty.int IntKind.i64) a0_0]], [] => some { R01_Word_res (V a0_0) with vc := C a0_0 }
  | _, _ => none
theorem sp_R01_Word_ok {C : (List Int) → Bool} {V : (List Int) → (Int × Bool)} (H : ∀ x, C x = true → ∃ n, F_R01_Word n x = some (V x)) : (sp_R01_Word C V).ok pg := Entry.data_ok <| by
  intro args es r h hv
  simp only at h
  split at h
  · rename_i a0_0
    cases h
    obtain ⟨n, hn⟩ := H a0_0 hv
    exact ⟨(R01_Word_call n a0_0 _ hn).1, (R01_Word_call n a0_0 _ hn).2.vc⟩
  · cases h



theorem word16_l (n : Nat) {xs : List Int} (hw : wfd B16 xs = true) (hl : xs.length ≤ 4) : ∀ (m k o : Nat), m < k → m ≤ xs.length → o = val B16 xs / B16 ^ m → R01_Word_l0 n xs k ((o : Int), (m : Int) - 1) = some (val B16 xs : Int)
  | 0, k + 1, o, _, _, ho => by
    rw [R01_Word_l0_s]
    unfold R01_Word_b0
    rw [Nat.pow_zero, Nat.div_one] at ho
    subst ho
    simp [RT.run]
  | m + 1, k + 1, o, hk, hm, ho => by
    rw [R01_Word_l0_s]
    unfold R01_Word_b0
    obtain ⟨d, hd, hd'⟩ := getD16 hw m
    have hv := val_lt (by decide : 0 < B16) hw
    have hv4 : val B16 xs < B16 ^ 4 := Nat.lt_of_lt_of_le hv (Nat.pow_le_pow_right (by decide) hl)
    have dv : val B16 xs / B16 ^ m % B16 = d := by
      have := val_digit (by decide : 0 < B16) m hw
      rw [hd] at this; exact Int.ofNat_inj.1 this
    have step : o * 65536 + d = val B16 xs / B16 ^ m := by
      rw [ho, ← dv, Nat.pow_succ, ← Nat.div_div_eq_div_mul]
      have := Nat.div_add_mod (val B16 xs / B16 ^ m) B16
      have hB : B16 = 65536 := rfl
      rw [hB] at this ⊢
      omega
    have hle : val B16 xs / B16 ^ m ≤ val B16 xs := Nat.div_le_self _ _
    have h64 : B16 ^ 4 = 18446744073709551616 := by decide
    have e0 : (((m + 1 : Nat) : Int) - 1) = (m : Int) := by omega
    have w1 : IntKind.u64.wrap ((o : Int) * 65536) = ((o * 65536 : Nat) : Int) := by rw [u64_in] <;> omega
    have w2 : IntKind.u64.wrap (d : Int) = (d : Int) := u64_in (by omega)
    have w3 : IntKind.u64.wrap (((o * 65536 : Nat) : Int) + (d : Int)) = ((o * 65536 + d : Nat) : Int) := by rw [u64_in] <;> omega
    have w4 : IntKind.i64.wrap ((m : Int) - 1) = (m : Int) - 1 := i64_in (by omega)
    simp only [RT.run, e0, Int.toNat_natCast, hd, w1, w2, w3, w4]
    rw [if_pos (by simp), if_pos (by simp <;> omega)]
    exact word16_l n hw hl m k _ (by omega) (by omega) step

theorem Word16_F {xs : List Int} (hw : wfd B16 xs = true) : F_R01_Word 5 xs = some (if xs.length ≤ 4 then ((val B16 xs : Int), true) else (0, false)) := by
  unfold F_R01_Word R01_Word
  simp only [RT.run]
  by_cases h : xs.length ≤ 4
  · rw [if_neg (by simp; omega), if_pos h]
    have w : IntKind.i64.wrap ((xs.length : Int) - 1) = (xs.length : Int) - 1 := i64_in (by omega)
    have := word16_l 5 hw h xs.length 5 0 (by omega) (Nat.le_refl _) (by rw [Nat.div_eq_of_lt (val_lt (by decide) hw)])
    rw [w]
    change (R01_Word_l0 5 xs 5 (((0 : Nat) : Int), _)).bind _ = _
    rw [this]
    rfl
  · rw [if_pos (by simp; omega), if_neg h]

abbrev e_R01_Word (_ : Nat) : Entry := sp_R01_Word (fun x => wfd B16 x) (fun x => if x.length ≤ 4 then ((val B16 x : Int), true) else (0, false))
theorem e_R01_Word_ok (n : Nat) : (e_R01_Word n).ok pg := sp_R01_Word_ok fun x h => ⟨5, Word16_F h⟩

end
end Go.Proofs.Ytlfdidaeachpoaa
