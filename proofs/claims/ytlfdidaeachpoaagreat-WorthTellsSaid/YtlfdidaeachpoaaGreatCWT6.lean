/- Part 6 of the walk and of the plain law. -/
import Derived.Test.YtlfdidaeachpoaaGreatCWT5
import Derived.Test.YtlfdidaeachpoaaGreatCWT2
import Derived.Below
import Derived.ChangeArms
import Derived.DataReads
set_option linter.unusedSimpArgs false
set_option linter.unusedVariables false
namespace Go.Proofs.YtlfdidaeachpoaaGreat
open Go Go.RowKit
set_option maxRecDepth 100000
noncomputable section
theorem okq_rQ {q : Rat} {n : Nat} (h : sm n q) (hn : n ≤ 1073741824) : okq (rQ q).1 (rQ q).2 = true := by
  rw [okq_iff]
  have a := digs_len2 (b := B16) (by decide) h.1
  have b := digs_len2 (b := B16) (by decide) h.2
  refine ⟨isM_digs (Nat.le_trans a hn), isM_digs (Nat.le_trans b hn), ?_⟩
  have := rQ_den (q := q)
  rw [show val B16 (rQ q).2 = q.den from this]
  exact q.den_nz
section
variable {a : List Bool} {b : List Tk} {c : List Th} {d : List Lk} {e : List Int} {f : Int}
theorem cast_nat {m : Int} (h : 0 ≤ m) : ((m.toNat : Nat) : Rat) = (m : Rat) := by
  obtain ⟨j, rfl⟩ := Int.eq_ofNat_of_zero_le h
  rw [Int.toNat_natCast, Rat.intCast_natCast]
theorem ref_ticket (hw : wOK a b c d e f = true) (self : ((List Bool) × (List Tk) × (List Th) × (List Lk) × (List Int) × Int × Int) → Option ((List Int) × (List Int))) {k : Int} (hk : 0 ≤ k ∧ k < (b.length : Int))
    (hs : gI (cntV a b c d e f) k = true → (gI b k).2.1 ≠ 0 → self (a, b, c, d, e, f, (gI b k).2.1) = some (rQ (gI (worthV a b c d e f).1 (gI b k).2.1))) : F_R18_Ticket self (a, b, c, d, e, f, k) = some (rQ (gI (worthV a b c d e f).2 k)) := by
  obtain ⟨H, h8⟩ := wOK_iff hw
  have hf : fineV a b c d e f = true := by unfold wOK at hw; rw [Bool.and_eq_true] at hw; exact hw.1
  have hin : inB b k = true := inB_iff.2 hk
  show (R18_Ticket self _).run _ = _
  rw [R18_Ticket]
  simp only [RT.run]
  rw [if_pos hin, hf, hin, if_pos (by decide), H.worth.2 k hk]
  cases hc : gI (cntV a b c d e f) k with
  | false => rfl
  | true =>
    have hu := H.cnt_used hk hc
    have ht := H.tk hk hu
    have hamt := ht.amt
    have hco := usC_in ht.coin
    obtain ⟨v0, v1, v2⟩ := share_sm H hk hc
    have hab := H.am_bound hco
    rw [if_neg (by decide), if_pos rfl, wu64_in (by omega)]
    by_cases h0 : (gI b k).2.1 = 0
    · rw [if_pos (by simpa using h0), cast_nat (by omega)]
      congr 1
      rw [h0, H.worth0]
      unfold shareV
      rw [h0] at v2 hab ⊢
      rw [Rat.mkRat_eq_div, cast_nat hab.1, Rat.div_mul_cancel]
      intro h
      have : gI (amV a b c d e f) 0 = 0 := by simpa using h
      rw [this] at v2
      exact v2 rfl
    · have W := H.wb h8
      have hcx := W.c _ (gI_mem (xs := (worthV a b c d e f).1) (k := (gI b k).2.1) (by rw [worthV_len.1]; exact hco))
      rw [if_neg (by simpa using h0), inB_iff.2 hco, if_pos (by decide), wu64_in (by omega), if_pos (decide_eq_true (by omega)), hs hc h0, Option.bind_some]
      have e1 : mkRat (((gI b k).2.2.1.toNat : Nat) : Int) (gI (amV a b c d e f) (gI b k).2.1).toNat = shareV b (amV a b c d e f) k := by
        unfold shareV
        rw [Int.toNat_of_nonneg (by omega)]
      rw [e1, okq_rQ v1 (by decide), okq_rQ hcx.2 (by decide), if_pos (by decide), toQ16_rQ v0, toQ16_rQ hcx.1]
theorem coin_loop (self : ((List Bool) × (List Tk) × (List Th) × (List Lk) × (List Int) × Int × Int) → Option ((List Int) × (List Int))) (l : List Int) (hl : l.length ≤ 1000) (g : Int → Rat)
    (hs : ∀ k ∈ l, self (a, b, c, d, e, f, k) = some (rQ (g k)) ∧ 0 ≤ g k ∧ sm 25628 (g k)) : ∀ (n i m : Nat) (q : Rat), i + n = l.length → 0 ≤ q → sm m q → m + 25629 * n ≤ 100000000 →
    lo (R18_Coin_b250 self) (a, b, c, d, e, f, l) ((i : Int), (rQ q).1, (rQ q).2) = some (rQ (q + rsum ((l.drop i).map g)))
  | 0, i, m, q, h, _, _, _ => by
    rw [lo_eq, R18_Coin_b250]
    simp only [RT.run]
    rw [if_neg (by simp; omega), List.drop_eq_nil_of_le (by omega)]
    show some (rQ q) = some (rQ (q + 0))
    rw [Rat.add_zero]
  | n + 1, i, m, q, h, h0, hm, hb => by
    have hi : i < l.length := by omega
    obtain ⟨s1, s2, s3⟩ := hs _ (List.getElem_mem hi)
    have ih := coin_loop self l hl g hs n (i + 1) _ (q + g l[i]) (by omega) (Rat.add_nonneg h0 s2) (sm_add h0 s2 hm s3) (by omega)
    rw [lo_eq, R18_Coin_b250]
    simp only [RT.run]
    rw [if_pos (by simp; omega), if_pos (inB_iff.2 ⟨by omega, by omega⟩), gI_lt hi, s1, Option.bind_some, okq_rQ hm (by omega), okq_rQ s3 (by decide), if_pos (by decide), w64_in (by omega), show (i : Int) + 1 = ((i + 1 : Nat) : Int) by omega, toQ16_rQ h0, toQ16_rQ s2]
    show lo (R18_Coin_b250 self) _ (_, (rQ (q + g l[i])).1, (rQ (q + g l[i])).2) = _
    rw [ih, List.drop_eq_getElem_cons hi, List.map_cons, rsum_cons, Rat.add_assoc]
theorem mem_tksOf {w x k : Int} : k ∈ tksOf b w x ↔ (0 ≤ k ∧ k < (b.length : Int)) ∧ isOf b w x k = true := by
  unfold tksOf
  rw [List.mem_filter]
  exact and_congr (mem_ints (n := b.length)) Iff.rfl
theorem tksOf_len {w x : Int} : (tksOf b w x).length ≤ b.length := by
  unfold tksOf
  have := List.length_filter_le (isOf b w x) ((List.range b.length).map fun (k : Nat) => (k : Int))
  simpa using this
theorem ref_coin (hw : wOK a b c d e f = true) (self : ((List Bool) × (List Tk) × (List Th) × (List Lk) × (List Int) × Int × Int) → Option ((List Int) × (List Int))) {x : Int} (hx : 0 ≤ x ∧ x < (a.length : Int))
    (hs : ∀ k ∈ tksOf b 1 x, self (a, b, c, d, e, f, k) = some (rQ (gI (worthV a b c d e f).2 k))) : F_R18_Coin self (a, b, c, d, e, f, x) = some (rQ (gI (worthV a b c d e f).1 x)) := by
  obtain ⟨H, h8⟩ := wOK_iff hw
  have hf : fineV a b c d e f = true := by unfold wOK at hw; rw [Bool.and_eq_true] at hw; exact hw.1
  have hlb := H.lenB
  have hca := H.coins
  have W := H.wb h8
  show (R18_Coin self _).run _ = _
  rw [R18_Coin]
  simp only [RT.run]
  by_cases h0 : x = 0
  · have hab := H.am_bound (x := 0) (by omega)
    rw [if_pos (by simpa using h0), hf, inB_iff.2 (show 0 ≤ (0 : Int) ∧ (0 : Int) < (a.length : Int) by omega), if_pos (by decide), wu64_in (by omega), cast_nat hab.1, h0, H.worth0]
  · have htl := tksOf_len (b := b) (w := 1) (x := x)
    rw [if_neg (by simpa using h0), if_pos (decide_eq_true (by omega))]
    have := coin_loop (a := a) (b := b) (c := c) (d := d) (e := e) (f := f) self (tksOf b 1 x) (by omega) (fun k => gI (worthV a b c d e f).2 k) (fun k hk => by
      obtain ⟨k1, _⟩ := mem_tksOf.1 hk
      have := W.k _ (gI_mem (xs := (worthV a b c d e f).2) (k := k) (by rw [worthV_len.2]; exact k1))
      exact ⟨hs k hk, this.1, this.2⟩) (tksOf b 1 x).length 0 1 0 (by omega) (by decide) (sm_zero _ (by decide)) (by omega)
    rw [show ((0 : Nat) : Int) = 0 from rfl, List.drop_zero, Rat.zero_add, ← H.worthC hx h0] at this
    show (lo (R18_Coin_b250 self) _ (0, (rQ 0).1, (rQ 0).2)).bind _ = _
    rw [this]
    rfl
theorem coin_rec (hw : wOK a b c d e f = true) : ∀ (n m : Nat), n ≤ m → ∀ x ∈ (fordV a b).take n, R_R18_Coin m (a, b, c, d, e, f, x) = some (rQ (gI (worthV a b c d e f).1 x))
  | 0, _, _, x, hx => by simp at hx
  | n + 1, 0, h, _, _ => by omega
  | n + 1, m + 1, h, x, hx => by
    obtain ⟨H, h8⟩ := wOK_iff hw
    by_cases hxn : x ∈ (fordV a b).take n
    · exact coin_rec hw n (m + 1) (by omega) x hxn
    · by_cases hn : n < (fordV a b).length
      · rw [List.take_add_one, List.getElem?_eq_getElem hn, List.mem_append] at hx
        have hxe : x = (fordV a b)[n] := by
          rcases hx with hx | hx
          · exact absurd hx hxn
          · simpa using hx
        have ho : fordV a b = (fordV a b).take n ++ x :: (fordV a b).drop (n + 1) := by
          conv => lhs; rw [← List.take_append_drop n (fordV a b)]
          rw [List.drop_eq_getElem_cons hn, hxe]
        have hus := H.ord_mem.1 (by rw [hxe]; exact List.getElem_mem hn : x ∈ fordV a b)
        refine ref_coin hw (F_R18_Ticket (R_R18_Coin m)) (usC_in hus) fun k hk => ?_
        obtain ⟨k1, k2⟩ := mem_tksOf.1 hk
        unfold isOf at k2
        simp at k2
        refine ref_ticket hw (R_R18_Coin m) k1 fun _ _ => coin_rec hw n m (by omega) _ ?_
        exact H.ord_split ho k1 k2.1 k2.2.1 k2.2.2
      · rw [List.take_of_length_le (by omega)] at hx hxn
        exact absurd hx hxn
theorem coin_all (hw : wOK a b c d e f = true) {x : Int} (hx : 0 ≤ x ∧ x < (a.length : Int)) : R_R18_Coin ((fordV a b).length + 1) (a, b, c, d, e, f, x) = some (rQ (gI (worthV a b c d e f).1 x)) := by
  obtain ⟨H, h8⟩ := wOK_iff hw
  by_cases h : x ∈ fordV a b
  · exact coin_rec hw (fordV a b).length _ (by omega) x (by rw [List.take_length]; exact h)
  · refine ref_coin hw _ hx fun k hk => ?_
    exfalso
    obtain ⟨k1, k2⟩ := mem_tksOf.1 hk
    unfold isOf at k2
    simp at k2
    rcases (H.tk k1 k2.1).to with h' | h' | h'
    · omega
    · omega
    · exact h (H.ord_mem.2 (k2.2.2 ▸ h'.2.2))
end
def e_R18_Coin : Entry := io_R18_Coin.sp (fun (a, b, c, d, e, f, x) => (wOK a b c d e f && inB a x)) (fun (a, b, c, d, e, f, x) => (rQ (gI (worthV a b c d e f).1 x)))
theorem sp_R18_Coin (h : ∀ (a : List Bool) (b : List Tk) (c : List Th) (d : List Lk) (e : List Int) (f : Int) (x : Int), WfT [.sl tB, .sl yK, .sl yH, .sl yL, .sl tI, tI, tI] (a, b, c, d, e, f, x) → ((wOK a b c d e f && inB a x)) = true → ∃ n, R_R18_Coin n (a, b, c, d, e, f, x) = some (rQ (gI (worthV a b c d e f).1 x))) : e_R18_Coin.ok pg := sp_rec okR_R18_Coin fun (a, b, c, d, e, f, x) hw hc => h a b c d e f x hw hc
theorem e_R18_Coin_ok : e_R18_Coin.ok pg := sp_R18_Coin fun a b c d e f x _ hc => by
  rw [Bool.and_eq_true] at hc
  exact ⟨_, coin_all hc.1 (inB_iff.1 hc.2)⟩
def e_R18_Ticket : Entry := io_R18_Ticket.sp (fun (a, b, c, d, e, f, k) => (wOK a b c d e f && inB b k)) (fun (a, b, c, d, e, f, k) => (rQ (gI (worthV a b c d e f).2 k)))
theorem sp_R18_Ticket (h : ∀ (a : List Bool) (b : List Tk) (c : List Th) (d : List Lk) (e : List Int) (f : Int) (k : Int), WfT [.sl tB, .sl yK, .sl yH, .sl yL, .sl tI, tI, tI] (a, b, c, d, e, f, k) → ((wOK a b c d e f && inB b k)) = true → ∃ n, R_R18_Ticket n (a, b, c, d, e, f, k) = some (rQ (gI (worthV a b c d e f).2 k))) : e_R18_Ticket.ok pg := sp_rec okR_R18_Ticket fun (a, b, c, d, e, f, k) hw hc => h a b c d e f k hw hc
theorem e_R18_Ticket_ok : e_R18_Ticket.ok pg := sp_R18_Ticket fun a b c d e f k _ hc => by
  rw [Bool.and_eq_true] at hc
  have hk := inB_iff.1 hc.2
  obtain ⟨H, h8⟩ := wOK_iff hc.1
  exact ⟨(fordV a b).length + 1, ref_ticket hc.1 _ hk fun h _ => coin_all hc.1 (usC_in (H.tk hk (H.cnt_used hk h)).coin)⟩
def R18_Thread_b122 : ((List Bool) × (List Tk) × (List Th) × (List Lk) × (List Int) × Int × (List Int)) → (Int × (List Int) × (List Int)) → RT (Int × (List Int) × (List Int)) ((List Int) × (List Int))
| (s_0, s_1, s_2, s_3, s_4, s_5, r6), (k, r80, r81) =>
 .rq 4 (.ite (decide (k < (r6.length : Int)))
 (.rq 4 (.req (inB r6 k) (.rq 1 (.req ((wOK s_0 s_1 s_2 s_3 s_4 s_5 && inB s_1 (gI r6 k))) (let t0 := (rQ (gI (worthV s_0 s_1 s_2 s_3 s_4 s_5).2 (gI r6 k)));
 .req (okq r80 r81 && okq t0.1 t0.2) (.rq 4 (let t1 := rQ (toQ16 r80 r81 + toQ16 t0.1 t0.2);
 .again (w64 (k + 1), t1.1, t1.2))))))))
 (.done (r80, r81)))
def R18_Thread_p122 : Piece := ⟨122, true, [.sl tB, .sl yK, .sl yH, .sl yL, .sl tI, tI, .sl tI], [tI, .sl tI, .sl tI], ⟨[.keep [2, 4, 5, 6, 7], .gc, .nilRow 6 800006 3 tI, .ren 6 700006, .ren 6 900006, .cellRow 80 0 600080 3 tI, .cellRow 80 1 600081 3 tI, .cellRen 80 0 600080, .cellRen 80 1 600081, .gc], [2, 4, 5, 6, 7], [.lf (qp 32), .lf (qp 64), .lf (qp 80), .lf (qr 900006), .lf (qm 0)], [(32, true, .cells [qi 0, qi 1, qi 2, qi 3, qi 4, qi 5]), (64, true, .cells [.fix (.nil), .fix (.nil)]), (80, true, .cells [qr 600080, qr 600081]), (900006, true, .arr 3 (qi 6)), (600080, true, .arr 3 (qm 1)), (600081, true, .arr 3 (qm 2))]⟩, [⟨2, ⟨[.keep [4, 5], .gc, .cellRow 80 0 600080 3 tI, .cellRow 80 1 600081 3 tI, .cellRen 80 0 600080, .cellRen 80 1 600081, .gc], [4, 5], [.lf (qp 64), .lf (qp 80)], [(64, true, .cells [.fix (.nil), .fix (.nil)]), (80, true, .cells [qr 600080, qr 600081]), (600080, true, .arr 3 (qm 0)), (600081, true, .arr 3 (qm 1))]⟩, [.sl tI, .sl tI]⟩], R18_Thread_b122⟩
def R18_Thread : ((List Bool) × (List Tk) × (List Th) × (List Lk) × (List Int) × Int × Int) → RT Unit ((List Int) × (List Int))
| (s_0, s_1, s_2, s_3, s_4, s_5, i) =>
 .rq 7 (.req ((decide (s_1.length ≤ 1000000))) (.rq 2 (.call (lo R18_Thread_b122 (s_0, s_1, s_2, s_3, s_4, s_5, (tksOf s_1 (2 : Int) i)) (0, (rQ (((0 : Int).toNat : Nat) : Rat)).1, (rQ (((0 : Int).toNat : Nat) : Rat)).2)) default fun v0 =>
 .rq 2 (.done (v0.1, v0.2)))))
def F_R18_Thread (x : (List Bool) × (List Tk) × (List Th) × (List Lk) × (List Int) × Int × Int) : Option ((List Int) × (List Int)) := (R18_Thread x).run fun _ => none
def io_R18_Thread : Io := ⟨n_R18_Thread, [.sl tB, .sl yK, .sl yH, .sl yL, .sl tI, tI, tI], [.agg [qm 0, qm 1, qm 2, qm 3, qm 4, qm 5], .lf (qm 6)], [], [[.sl tB, .sl yK, .sl yH, .sl yL, .sl tI, tI], [tI]], [.sl tI, .sl tI], .agg [qr 0, qr 1], [], [(true, .arr 3 (qm 0)), (true, .arr 3 (qm 1))], false⟩
def R18_Thread_P : List Piece := [R18_Thread_p122]
def R18_Thread_T : CallT := tab [e_R18_Ticket, e_R15_Tickets, e_R04_Add, e_R04_Int]
theorem R18_Thread_To : SoundT pg R18_Thread_T := tab_sound ⟨e_R18_Ticket_ok, e_R15_Tickets_ok, e_R04_Add_ok, e_R04_Int_ok, trivial⟩
theorem R18_Thread_k122 : (R18_Thread_p122).OK pg (R18_Thread_T) (tell 27 (R18_Thread_P)) (codeOf f_R18_Thread) 27 := ⟨by kernel_rfl, fun i x => by kernel_rfl⟩
theorem R18_Thread_go : FnOK pg (R18_Thread_T) io_R18_Thread f_R18_Thread (R18_Thread_P) [.cellRow 64 0 600064 3 tI, .cellRow 64 1 600065 3 tI, .cellRen 64 0 600064, .cellRen 64 1 600065] (R18_Thread) := ⟨by kernel_rfl, by kernel_rfl, fun x => by kernel_rfl⟩
theorem ok_R18_Thread : io_R18_Thread.Okay pg (F_R18_Thread) := fn_ok pg_mixed (R18_Thread_To) (R18_Thread_go) ⟨R18_Thread_k122, trivial⟩
theorem th_loopR {a : List Bool} {b : List Tk} {c : List Th} {d : List Lk} {e : List Int} {f : Int} (hw : wOK a b c d e f = true) (l : List Int) (hl : l.length ≤ 1000) (hs : ∀ k ∈ l, 0 ≤ k ∧ k < (b.length : Int)) : ∀ (n i m : Nat) (q : Rat), i + n = l.length → 0 ≤ q → sm m q → m + 25629 * n ≤ 100000000 →
    lo R18_Thread_b122 (a, b, c, d, e, f, l) ((i : Int), (rQ q).1, (rQ q).2) = some (rQ (q + rsum ((l.drop i).map (gI (worthV a b c d e f).2))))
  | 0, i, m, q, h, _, _, _ => by
    rw [lo_eq, R18_Thread_b122]
    simp only [RT.run]
    rw [if_neg (by simp; omega), List.drop_eq_nil_of_le (by omega)]
    show some (rQ q) = some (rQ (q + 0))
    rw [Rat.add_zero]
  | n + 1, i, m, q, h, h0, hm, hb => by
    obtain ⟨H, h8⟩ := wOK_iff hw
    have W := H.wb h8
    have hi : i < l.length := by omega
    have hk := hs _ (List.getElem_mem hi)
    obtain ⟨s2, s3⟩ := W.k _ (gI_mem (xs := (worthV a b c d e f).2) (k := l[i]) (by rw [worthV_len.2]; exact hk))
    have ih := th_loopR hw l hl hs n (i + 1) _ (q + gI (worthV a b c d e f).2 l[i]) (by omega) (Rat.add_nonneg h0 s2) (sm_add h0 s2 hm s3) (by omega)
    rw [lo_eq, R18_Thread_b122]
    simp only [RT.run]
    rw [if_pos (by simp; omega), if_pos (inB_iff.2 ⟨by omega, by omega⟩), gI_lt hi, hw, inB_iff.2 hk, if_pos (by decide), okq_rQ hm (by omega), okq_rQ s3 (by decide), if_pos (by decide), w64_in (by omega), show (i : Int) + 1 = ((i + 1 : Nat) : Int) by omega, toQ16_rQ h0, toQ16_rQ s2]
    show lo R18_Thread_b122 _ (_, (rQ (q + gI (worthV a b c d e f).2 l[i])).1, (rQ (q + gI (worthV a b c d e f).2 l[i])).2) = _
    rw [ih, List.drop_eq_getElem_cons hi, List.map_cons, rsum_cons, Rat.add_assoc]
def e_R18_Thread : Entry := io_R18_Thread.sp (fun (a, b, c, d, e, f, i) => (wOK a b c d e f)) (fun (a, b, c, d, e, f, i) => (rQ (sumOf (worthV a b c d e f).2 (isOf b 2 i) (ints b.length))))
theorem sp_R18_Thread (h : ∀ (a : List Bool) (b : List Tk) (c : List Th) (d : List Lk) (e : List Int) (f : Int) (i : Int), WfT [.sl tB, .sl yK, .sl yH, .sl yL, .sl tI, tI, tI] (a, b, c, d, e, f, i) → ((wOK a b c d e f)) = true → (R18_Thread (a, b, c, d, e, f, i)).run (fun _ => none) = some (rQ (sumOf (worthV a b c d e f).2 (isOf b 2 i) (ints b.length)))) : e_R18_Thread.ok pg := sp_ok ok_R18_Thread fun (a, b, c, d, e, f, i) hw hc => h a b c d e f i hw hc
theorem e_R18_Thread_ok : e_R18_Thread.ok pg := sp_R18_Thread fun a b c d e f i _ hc => by
  obtain ⟨H, h8⟩ := wOK_iff hc
  have hlb := H.lenB
  have htl := tksOf_len (b := b) (w := 2) (x := i)
  rw [R18_Thread]
  simp only [RT.run]
  rw [if_pos (decide_eq_true (by omega))]
  have := th_loopR hc (tksOf b 2 i) (by omega) (fun k hk => (mem_tksOf.1 hk).1) (tksOf b 2 i).length 0 1 0 (by omega) (by decide) (sm_zero _ (by decide)) (by omega)
  rw [show ((0 : Nat) : Int) = 0 from rfl, List.drop_zero, Rat.zero_add] at this
  show (lo R18_Thread_b122 _ (0, (rQ 0).1, (rQ 0).2)).bind _ = _
  rw [this]
  rfl
def R18_Same_b58 : ((List ((List Int) × List Int)) × (List ((List Int) × List Int))) → Int → RT Int (LR Unit Unit)
| (a, l), i =>
 .rq 4 (.ite (decide (i < (a.length : Int)))
 (.rq 2 (.req (inB a i) (.rq 3 (.req (inB l i) (.rq 1 (.req (isM 38 (gI l i).1 && isM 38 (gI l i).2) (.rq 1 (.ite (!(decide ((gI a i).1 = digs B32 (val B16 (gI l i).1)) && decide ((gI a i).2 = digs B32 (val B16 (gI l i).2))))
 (.rq 1 (.done (.ex ())))
 (.rq 3 (.again (w64 (i + 1))))))))))))
 (.done (.rt ())))
def R18_Same_p58 : Piece := ⟨58, true, [.sl (.pair (.sl tV) (.sl tV)), .sl (.pair (.sl tI) (.sl tI))], [tI], ⟨[.keep [0, 1, 5], .gc], [0, 1, 5], [.lf (qi 0), .lf (qi 1), .lf (qm 0)], []⟩, [⟨1, ⟨[.keep [4], .gc], [4], [.lf (.fix (.bool false))], []⟩, []⟩, ⟨2, ⟨[.keep [], .gc], [], [], []⟩, []⟩], R18_Same_b58⟩
def R18_Same : ((List ((List Int) × List Int)) × (List ((List Int) × List Int))) → RT Unit Bool
| (a, l) =>
 .rq 6 (.ite ((a.length : Int) != (l.length : Int))
 (.rq 1 (.done false))
 (.rq 1 (.call (lo R18_Same_b58 (a, l) 0) default fun v0 =>
 .ite v0.isRt
 (.rq 1 (.done true))
 (.done false))))
def F_R18_Same (x : (List ((List Int) × List Int)) × (List ((List Int) × List Int))) : Option Bool := (R18_Same x).run fun _ => none
def io_R18_Same : Io := ⟨n_R18_Same, [.sl (.pair (.sl tV) (.sl tV)), .sl (.pair (.sl tI) (.sl tI))], [.lf (qm 0), .lf (qm 1)], [], [[.sl (.pair (.sl tV) (.sl tV))], [.sl (.pair (.sl tI) (.sl tI))]], [tB], .lf (qm 0), [], [], false⟩
def R18_Same_P : List Piece := [R18_Same_p58]
def R18_Same_T : CallT := tab [e_R04_Same]
theorem R18_Same_To : SoundT pg R18_Same_T := tab_sound ⟨e_R04_Same_ok, trivial⟩
theorem R18_Same_k58 : (R18_Same_p58).OK pg (R18_Same_T) (tell 27 (R18_Same_P)) (codeOf f_R18_Same) 27 := ⟨by kernel_rfl, fun i x => by kernel_rfl⟩
theorem R18_Same_go : FnOK pg (R18_Same_T) io_R18_Same f_R18_Same (R18_Same_P) [] (R18_Same) := ⟨by kernel_rfl, by kernel_rfl, fun x => by kernel_rfl⟩
theorem ok_R18_Same : io_R18_Same.Okay pg (F_R18_Same) := fn_ok pg_mixed (R18_Same_To) (R18_Same_go) ⟨R18_Same_k58, trivial⟩
def toB (y : List Int × List Int) : List Int × List Int := (digs B32 (val B16 y.1), digs B32 (val B16 y.2))
theorem toB_rQ (q : Rat) : toB (rQ q) = rq q := by
  unfold toB rq
  rw [show val B16 (rQ q).1 = q.num.toNat from rQ_num, show val B16 (rQ q).2 = q.den from rQ_den]
theorem same_loop (a l : List (List Int × List Int)) (hl : a.length = l.length) (ha : a.length ≤ 9223372036854775807) (hok : ∀ y ∈ l, isM 38 y.1 = true ∧ isM 38 y.2 = true) : ∀ (n i : Nat), i + n = a.length →
    lo R18_Same_b58 (a, l) (i : Int) = some (if a.drop i = (l.drop i).map toB then .rt () else .ex ())
  | 0, i, h => by
    rw [lo_eq, R18_Same_b58]
    simp only [RT.run]
    rw [if_neg (by simp; omega), List.drop_eq_nil_of_le (by omega), List.drop_eq_nil_of_le (by omega), List.map_nil, if_pos rfl]
  | n + 1, i, h => by
    have hi : i < a.length := by omega
    have hi' : i < l.length := by omega
    obtain ⟨h1, h2⟩ := hok _ (List.getElem_mem hi')
    have ih := same_loop a l hl ha hok n (i + 1) (by omega)
    rw [lo_eq, R18_Same_b58]
    simp only [RT.run]
    rw [if_pos (by simp; omega), if_pos (inB_iff.2 ⟨by omega, by omega⟩), if_pos (inB_iff.2 ⟨by omega, by omega⟩), gI_lt hi, gI_lt hi', h1, h2, if_pos (by decide), w64_in (by omega), show (i : Int) + 1 = ((i + 1 : Nat) : Int) by omega, ih, List.drop_eq_getElem_cons hi, List.drop_eq_getElem_cons hi', List.map_cons]
    by_cases he : a[i] = toB l[i]
    · rw [he]
      rw [if_neg (by simp [toB])]
      simp only [List.cons.injEq, true_and]
    · rw [if_pos, if_neg (fun h => he (List.cons.inj h).1)]
      simp only [Bool.not_eq_true', Bool.and_eq_false_iff, decide_eq_false_iff_not]
      by_cases h3 : a[i].1 = digs B32 (val B16 l[i].1)
      · exact .inr fun h4 => he (Prod.ext h3 h4)
      · exact .inl h3
def sameOK (l : List (List Int × List Int)) : Bool := l.all fun y => isM 38 y.1 && isM 38 y.2
def e_R18_Same : Entry := io_R18_Same.sp (fun (a, l) => (sameOK l)) (fun (a, l) => (decide (a = l.map toB)))
theorem sp_R18_Same (h : ∀ (a : List ((List Int) × List Int)) (l : List ((List Int) × List Int)), WfT [.sl (.pair (.sl tV) (.sl tV)), .sl (.pair (.sl tI) (.sl tI))] (a, l) → ((sameOK l)) = true → (R18_Same (a, l)).run (fun _ => none) = some (decide (a = l.map toB))) : e_R18_Same.ok pg := sp_ok ok_R18_Same fun (a, l) hw hc => h a l hw hc
theorem e_R18_Same_ok : e_R18_Same.ok pg := sp_R18_Same fun a l hw hc => by
  have hok : ∀ y ∈ l, isM 38 y.1 = true ∧ isM 38 y.2 = true := fun y hy => by
    have := List.all_eq_true.1 hc y hy
    rwa [Bool.and_eq_true] at this
  rw [R18_Same]
  simp only [RT.run]
  by_cases hl : a.length = l.length
  · have hla : a.length ≤ 9223372036854775807 := hw.1.1
    rw [if_neg (by simp; omega)]
    have := same_loop a l hl hla hok a.length 0 (by omega)
    rw [show ((0 : Nat) : Int) = 0 from rfl, List.drop_zero, List.drop_zero] at this
    rw [this, Option.bind_some]
    by_cases he : a = l.map toB
    · rw [if_pos he, decide_eq_true he]; rfl
    · rw [if_neg he, decide_eq_false he]; rfl
  · rw [if_pos (by simp; omega), decide_eq_false (fun h => hl (by rw [h, List.length_map]))]
def law18_share : (Int × Int × Int × Int) → RT Unit (Bool × Int × Int × Int × Int × Bool)
| (coin, amount, kind, to) =>
 .rq 7 (.done (true, coin, amount, kind, to, true))
def F_law18_share (x : Int × Int × Int × Int) : Option (Bool × Int × Int × Int × Int × Bool) := (law18_share x).run fun _ => none
def io_law18_share : Io := ⟨n_law18_share, [tI, tI, tI, tI], [.lf (qm 0), .lf (qm 1), .lf (qm 2), .lf (qm 3)], [], [[tI], [tI], [tI], [tI]], [tB, tI, tI, tI, tI, tB], .agg [qm 0, qm 1, qm 2, qm 3, qm 4, qm 5], [], [], false⟩
def law18_share_P : List Piece := []
def law18_share_T : CallT := tab []
theorem law18_share_To : SoundT pg law18_share_T := tab_sound trivial
theorem law18_share_go : FnOK pg (law18_share_T) io_law18_share f_law18_share (law18_share_P) [] (law18_share) := ⟨by kernel_rfl, by kernel_rfl, fun x => by kernel_rfl⟩
theorem ok_law18_share : io_law18_share.Okay pg (F_law18_share) := fn_ok pg_mixed (law18_share_To) (law18_share_go) trivial
def e_law18_share : Entry := io_law18_share.sp (fun (a, b, c, d) => true) (fun (a, b, c, d) => ((true, a, b, c, d, true)))
theorem sp_law18_share (h : ∀ (a : Int) (b : Int) (c : Int) (d : Int), WfT [tI, tI, tI, tI] (a, b, c, d) → (law18_share (a, b, c, d)).run (fun _ => none) = some ((true, a, b, c, d, true))) : e_law18_share.ok pg := sp_ok ok_law18_share fun (a, b, c, d) hw hc => h a b c d hw
theorem e_law18_share_ok : e_law18_share.ok pg := sp_law18_share fun a b c d _ => by
  rw [law18_share]; rfl
def law18_alive_b62 : (Int × (List ((List Int) × List Int)) × (List Bool) × (List Tk) × (List Th)) → RT Unit Bool
| (s_5, x15, x5, x9, x12) =>
 .rq 4 (let t0 := (wOK x5 x9 x12 [] [] s_5);
 let t1 := (rq (tkW x5 x9 x12 [] [] s_5 (0 : Int)));
 let t2 := (wOK x5 x9 x12 [] [] s_5);
 let t3 := (rq (tkW x5 x9 x12 [] [] s_5 (9 : Int)));
 let t4 := isM 38 (rQ (mkRat (((20 : Int).toNat : Nat) : Int) (3 : Int).toNat)).1 && isM 38 (rQ (mkRat (((20 : Int).toNat : Nat) : Int) (3 : Int).toNat)).2;
 let t5 := decide ((gI x15 1).1 = digs B32 (val B16 (rQ (mkRat (((20 : Int).toNat : Nat) : Int) (3 : Int).toNat)).1)) && decide ((gI x15 1).2 = digs B32 (val B16 (rQ (mkRat (((20 : Int).toNat : Nat) : Int) (3 : Int).toNat)).2));
 let t6 := isM 38 (rQ (((10 : Int).toNat : Nat) : Rat)).1 && isM 38 (rQ (((10 : Int).toNat : Nat) : Rat)).2;
 let t7 := decide (t1.1 = digs B32 (val B16 (rQ (((10 : Int).toNat : Nat) : Rat)).1)) && decide (t1.2 = digs B32 (val B16 (rQ (((10 : Int).toNat : Nat) : Rat)).2));
 let t8 := isM 38 (rQ (((0 : Int).toNat : Nat) : Rat)).1 && isM 38 (rQ (((0 : Int).toNat : Nat) : Rat)).2;
 let t9 := decide (t3.1 = digs B32 (val B16 (rQ (((0 : Int).toNat : Nat) : Rat)).1)) && decide (t3.2 = digs B32 (val B16 (rQ (((0 : Int).toNat : Nat) : Rat)).2));
 .ite ((x15.length : Int) == 2)
 (.rq 1 (.req (inB x15 0) (.rq 1 (.req (decide ((3 : Int) ≠ 0)) (.req (isM 38 (rQ (mkRat (((10 : Int).toNat : Nat) : Int) (3 : Int).toNat)).1 && isM 38 (rQ (mkRat (((10 : Int).toNat : Nat) : Int) (3 : Int).toNat)).2) (.rq 2 (.ite (decide ((gI x15 0).1 = digs B32 (val B16 (rQ (mkRat (((10 : Int).toNat : Nat) : Int) (3 : Int).toNat)).1)) && decide ((gI x15 0).2 = digs B32 (val B16 (rQ (mkRat (((10 : Int).toNat : Nat) : Int) (3 : Int).toNat)).2)))
 (.rq 1 (.req (inB x15 1) (.rq 1 (.req (decide ((3 : Int) ≠ 0)) (.req t4 (.rq 2 (.ite t5
 (.rq 1 (.req t0 (.rq 1 (.req t6 (.rq 2 (.ite t7
 (.rq 1 (.req t2 (.rq 1 (.req t8 (.rq 2 (.done t9))))))
 (.rq 2 (.done false))))))))
 (.rq 2 (.ite false
 (.rq 1 (.req t2 (.rq 1 (.req t8 (.rq 2 (.done t9))))))
 (.rq 2 (.done false)))))))))))
 (.rq 2 (.ite false
 (.rq 1 (.req t0 (.rq 1 (.req t6 (.rq 2 (.ite t7
 (.rq 1 (.req t2 (.rq 1 (.req t8 (.rq 2 (.done t9))))))
 (.rq 2 (.done false))))))))
 (.rq 2 (.ite false
 (.rq 1 (.req t2 (.rq 1 (.req t8 (.rq 2 (.done t9))))))
 (.rq 2 (.done false)))))))))))))
 (.rq 2 (.ite false
 (.rq 1 (.req (inB x15 1) (.rq 1 (.req (decide ((3 : Int) ≠ 0)) (.req t4 (.rq 2 (.ite t5
 (.rq 1 (.req t0 (.rq 1 (.req t6 (.rq 2 (.ite t7
 (.rq 1 (.req t2 (.rq 1 (.req t8 (.rq 2 (.done t9))))))
 (.rq 2 (.done false))))))))
 (.rq 2 (.ite false
 (.rq 1 (.req t2 (.rq 1 (.req t8 (.rq 2 (.done t9))))))
 (.rq 2 (.done false)))))))))))
 (.rq 2 (.ite false
 (.rq 1 (.req t0 (.rq 1 (.req t6 (.rq 2 (.ite t7
 (.rq 1 (.req t2 (.rq 1 (.req t8 (.rq 2 (.done t9))))))
 (.rq 2 (.done false))))))))
 (.rq 2 (.ite false
 (.rq 1 (.req t2 (.rq 1 (.req t8 (.rq 2 (.done t9))))))
 (.rq 2 (.done false)))))))))
def law18_alive_p62 : Piece := ⟨62, false, [tI, .sl (.pair (.sl tV) (.sl tV)), .sl tB, .sl yK, .sl yH], [], ⟨[.keep [2, 3], .gc], [2, 3], [.lf (qp 32), .lf (qr 241)], [(32, true, .cells [qr 80, qr 144, qr 192, .fix (.nil), .fix (.nil), qi 0]), (241, true, .arr 41 (qi 1)), (80, false, .arr 4 (qi 2)), (144, false, .arr 97 (qi 3)), (192, false, .arr 82 (qi 4))]⟩, [⟨0, ⟨[.keep [0], .gc], [0], [.lf (qm 0)], []⟩, [tB]⟩], (fun i _ => law18_alive_b62 i)⟩
def law18_alive : Unit → RT Unit Bool
| _ =>
 .rq 16 (let t0 := ((true, (0 : Int), (10 : Int), (2 : Int), (1 : Int), true));
 let t1 := ((true, (1 : Int), (1 : Int), (1 : Int), (0 : Int), true));
 let t2 := ((true, (1 : Int), (2 : Int), (1 : Int), (1 : Int), true));
 let t3 := (2, (-1), (-1), 1, 1);
 let t4 := [t3, t3];
 let t5 := [(t0.1, t0.2.1, t0.2.2.1, t0.2.2.2.1, t0.2.2.2.2.1, t0.2.2.2.2.2), (t1.1, t1.2.1, t1.2.2.1, t1.2.2.2.1, t1.2.2.2.2.1, t1.2.2.2.2.2), (t2.1, t2.2.1, t2.2.2.1, t2.2.2.2.1, t2.2.2.2.2.1, t2.2.2.2.2.2)];
 .req ((wOK [true, true] t5 t4 [] [] (5 : Int))) (.rq 1 (.call (on law18_alive_b62 (5, ((thW [true, true] t5 t4 [] [] (5 : Int)).map rq), [true, true], t5, t4)) default fun v0 =>
 .done v0)))
def F_law18_alive (x : Unit) : Option Bool := (law18_alive x).run fun _ => none
def io_law18_alive : Io := ⟨n_law18_alive, [], [], [], [], [tB], .lf (qm 0), [], [], false⟩
def law18_alive_P : List Piece := [law18_alive_p62]
def law18_alive_T : CallT := tab [e_law18_share, e_worth_Ticket, e_worth_Threads, e_R04_Same, e_R04_Int, e_R04_Of]
theorem law18_alive_To : SoundT pg law18_alive_T := tab_sound ⟨e_law18_share_ok, e_worth_Ticket_ok, e_worth_Threads_ok, e_R04_Same_ok, e_R04_Int_ok, e_R04_Of_ok, trivial⟩
theorem law18_alive_k62 : (law18_alive_p62).OK pg (law18_alive_T) (tell 45 (law18_alive_P)) (codeOf f_law18_alive) 45 := ⟨by kernel_rfl, fun i x => by kernel_rfl⟩
theorem law18_alive_go : FnOK pg (law18_alive_T) io_law18_alive f_law18_alive (law18_alive_P) [] (law18_alive) := ⟨by kernel_rfl, by kernel_rfl, fun x => by kernel_rfl⟩
theorem ok_law18_alive : io_law18_alive.Okay pg (F_law18_alive) := fn_ok pg_mixed (law18_alive_To) (law18_alive_go) ⟨law18_alive_k62, trivial⟩
def e_law18_alive : Entry := io_law18_alive.sp (fun _ => true) (fun _ => true)
theorem sp_law18_alive (h : (law18_alive ()).run (fun _ => none) = some true) : e_law18_alive.ok pg := sp_ok ok_law18_alive fun _ _ hc => h
theorem e_law18_alive_ok : e_law18_alive.ok pg := sp_law18_alive (by kernel_rfl)
end
end Go.Proofs.YtlfdidaeachpoaaGreat

namespace Go.Proofs.YtlfdidaeachpoaaGreat
open Go Go.RowKit
set_option maxRecDepth 100000
noncomputable section
theorem isM_rQ {q : Rat} {n : Nat} (h : sm n q) (hn : n ≤ 1073741824) : isM 38 (rQ q).1 = true ∧ isM 38 (rQ q).2 = true := by
  have := okq_rQ h hn
  rw [okq_iff] at this
  exact ⟨isM_up (by decide) this.1, isM_up (by decide) this.2.1⟩
theorem sameOK_map {l : List Rat} {n : Nat} (h : ∀ q ∈ l, sm n q) (hn : n ≤ 1073741824) : sameOK (l.map rQ) = true := by
  unfold sameOK
  refine List.all_eq_true.2 fun y hy => ?_
  obtain ⟨q, hq, rfl⟩ := List.mem_map.1 hy
  obtain ⟨h1, h2⟩ := isM_rQ (h q hq) hn
  rw [h1, h2]; rfl
theorem toB_map (l : List Rat) : (l.map rQ).map toB = l.map rq := by
  rw [List.map_map]
  exact List.map_congr_left fun q _ => toB_rQ q
theorem take_rQ (l : List Rat) {i : Nat} (h : i < l.length) : (l.take i).map rQ ++ [rQ (gI l (i : Int))] = (l.take (i + 1)).map rQ := by
  rw [List.take_add_one, List.getElem?_eq_getElem h, List.map_append, gI_lt h]
  rfl
theorem ap_small {α : Type} {k : Nat} {xs ys : List α} (hk : k ≤ 1000) (h : xs.length + ys.length ≤ 1000000) : apOK k xs ys = true := by
  rw [apOK_iff]
  refine ⟨?_, by rw [maxLen_eq]; omega⟩
  exact Nat.le_trans (Nat.mul_le_mul h hk) (by decide)
theorem thW_len {a : List Bool} {b : List Tk} {c : List Th} {d : List Lk} {e : List Int} {f : Int} : (thW a b c d e f).length = c.length := by simp [thW, ints]
theorem thW_get {a : List Bool} {b : List Tk} {c : List Th} {d : List Lk} {e : List Int} {f : Int} {i : Int} (h : 0 ≤ i ∧ i < (c.length : Int)) : gI (thW a b c d e f) i = sumOf (worthV a b c d e f).2 (isOf b 2 i) (ints b.length) := thPart_get h
theorem thW_sm {a : List Bool} {b : List Tk} {c : List Th} {d : List Lk} {e : List Int} {f : Int} (hw : wOK a b c d e f = true) : ∀ q ∈ thW a b c d e f, 0 ≤ q ∧ sm 2500000 q := fun q hq => by
  obtain ⟨H, h8⟩ := wOK_iff hw
  have hlb := H.lenB
  obtain ⟨i, _, rfl⟩ := List.mem_map.1 hq
  obtain ⟨h1, h2⟩ := sumOf_sm (n := 25628) (H.wb h8).k (isOf b 2 i) (l := ints b.length) (fun k hk => by rw [worthV_len.2]; exact mem_ints.1 hk)
  exact ⟨h1, sm_mono (by rw [ints_len]; omega) h2⟩
def law18_WorthTells_b122 : ((List Bool) × (List Tk) × (List Th) × (List Lk) × (List Int) × Int) → (Int × (List ((List Int) × List Int))) → RT (Int × (List ((List Int) × List Int))) (List ((List Int) × List Int))
| (l_0, l_1, l_2, l_3, l_4, l_5), (x6, r3) =>
 .rq 5 (.ite (decide (x6 < (l_0.length : Int)))
 (.rq 3 (.req ((wOK l_0 l_1 l_2 l_3 l_4 l_5 && inB l_0 x6)) (.rq 1 (let t0 := (rQ (gI (worthV l_0 l_1 l_2 l_3 l_4 l_5).1 x6));
 let t1 := [(t0.1, t0.2)];
 .req (apOK 48 r3 t1) (.rq 4 (.again (w64 (x6 + 1), r3 ++ t1)))))))
 (.done r3))
def law18_WorthTells_p122 : Piece := ⟨122, true, [.sl tB, .sl yK, .sl yH, .sl yL, .sl tI, tI], [tI, .sl (.pair (.sl tI) (.sl tI))], ⟨[.keep [1, 3, 4, 5, 6], .gc, .nilRow 3 800003 35 (.pair (.sl tI) (.sl tI)), .ren 3 700003, .ren 3 900003, .gc], [1, 3, 4, 5, 6], [.lf (qp 16), .lf (qr 900003), .lf (.fix (.nil)), .lf (.fix (.nil)), .lf (qm 0)], [(16, true, .cells [qi 0, qi 1, qi 2, qi 3, qi 4, qi 5]), (900003, true, .arr 35 (qm 1))]⟩, [⟨2, ⟨[.keep [1, 3, 4, 5], .gc, .nilRow 3 800003 35 (.pair (.sl tI) (.sl tI)), .ren 3 700003, .ren 3 900003, .gc], [1, 3, 4, 5], [.lf (qp 16), .lf (qr 900003), .lf (.fix (.nil)), .lf (.fix (.nil))], [(16, true, .cells [qi 0, qi 1, qi 2, qi 3, qi 4, qi 5]), (900003, true, .arr 35 (qm 0))]⟩, [.sl (.pair (.sl tI) (.sl tI))]⟩], law18_WorthTells_b122⟩
def law18_WorthTells_b250 : ((List Bool) × (List Tk) × (List Th) × (List Lk) × (List Int) × Int) → (Int × (List ((List Int) × List Int))) → RT (Int × (List ((List Int) × List Int))) (LR Unit (List ((List Int) × List Int)))
| (l_0, l_1, l_2, l_3, l_4, l_5), (L, r4) =>
 .rq 5 (.ite (decide (L < (l_1.length : Int)))
 (.rq 3 (.req ((wOK l_0 l_1 l_2 l_3 l_4 l_5 && inB l_1 L)) (.rq 1 (let t0 := (rQ (gI (worthV l_0 l_1 l_2 l_3 l_4 l_5).2 L));
 let t1 := [(t0.1, t0.2)];
 .req (apOK 48 r4 t1) (.rq 3 (.req ((wOK l_0 l_1 l_2 l_3 l_4 l_5)) (.rq 2 (let t2 := r4 ++ t1;
 .req (inB t2 L) (.rq 1 (let t3 := (rq (tkW l_0 l_1 l_2 l_3 l_4 l_5 L));
 let t4 := gI t2 L;
 .req (isM 38 t4.1 && isM 38 t4.2) (.rq 1 (.ite (!(decide (t3.1 = digs B32 (val B16 t4.1)) && decide (t3.2 = digs B32 (val B16 t4.2))))
 (.rq 1 (.done (.ex ())))
 (.rq 3 (.again (w64 (L + 1), t2)))))))))))))))
 (.done (.rt r4)))
def law18_WorthTells_p250 : Piece := ⟨250, true, [.sl tB, .sl yK, .sl yH, .sl yL, .sl tI, tI, .sl (.pair (.sl tI) (.sl tI))], [tI, .sl (.pair (.sl tI) (.sl tI))], ⟨[.keep [1, 3, 4, 5, 7], .gc, .nilRow 3 800003 35 (.pair (.sl tI) (.sl tI)), .nilRow 4 800004 35 (.pair (.sl tI) (.sl tI)), .ren 3 700003, .ren 4 700004, .ren 3 900003, .ren 4 900004, .gc], [1, 3, 4, 5, 7], [.lf (qp 16), .lf (qr 900003), .lf (qr 900004), .lf (.fix (.nil)), .lf (qm 0)], [(16, true, .cells [qi 0, qi 1, qi 2, qi 3, qi 4, qi 5]), (900003, true, .arr 35 (qi 6)), (900004, true, .arr 35 (qm 1))]⟩, [⟨1, ⟨[.keep [2], .gc], [2], [.lf (.fix (.bool false))], []⟩, []⟩, ⟨4, ⟨[.keep [1, 3, 4, 5], .gc, .nilRow 3 800003 35 (.pair (.sl tI) (.sl tI)), .nilRow 4 800004 35 (.pair (.sl tI) (.sl tI)), .ren 3 700003, .ren 4 700004, .ren 3 900003, .ren 4 900004, .gc], [1, 3, 4, 5], [.lf (qp 16), .lf (qr 900003), .lf (qr 900004), .lf (.fix (.nil))], [(16, true, .cells [qi 0, qi 1, qi 2, qi 3, qi 4, qi 5]), (900003, true, .arr 35 (qi 6)), (900004, true, .arr 35 (qm 0))]⟩, [.sl (.pair (.sl tI) (.sl tI))]⟩], (fun i => law18_WorthTells_b250 (i.1, i.2.1, i.2.2.1, i.2.2.2.1, i.2.2.2.2.1, i.2.2.2.2.2.1))⟩
def law18_WorthTells_b506 : ((List Bool) × (List Tk) × (List Th) × (List Lk) × (List Int) × Int) → (Int × (List ((List Int) × List Int))) → RT (Int × (List ((List Int) × List Int))) (List ((List Int) × List Int))
| (l_0, l_1, l_2, l_3, l_4, l_5), (i, r5) =>
 .rq 5 (.ite (decide (i < (l_2.length : Int)))
 (.rq 3 (.req ((wOK l_0 l_1 l_2 l_3 l_4 l_5)) (.rq 1 (let t0 := (rQ (sumOf (worthV l_0 l_1 l_2 l_3 l_4 l_5).2 (isOf l_1 2 i) (ints l_1.length)));
 let t1 := [(t0.1, t0.2)];
 .req (apOK 48 r5 t1) (.rq 4 (.again (w64 (i + 1), r5 ++ t1)))))))
 (.done r5))
def law18_WorthTells_p506 : Piece := ⟨506, true, [.sl tB, .sl yK, .sl yH, .sl yL, .sl tI, tI, .sl (.pair (.sl tI) (.sl tI)), .sl (.pair (.sl tI) (.sl tI))], [tI, .sl (.pair (.sl tI) (.sl tI))], ⟨[.keep [1, 3, 4, 5, 8], .gc, .nilRow 3 800003 35 (.pair (.sl tI) (.sl tI)), .nilRow 4 800004 35 (.pair (.sl tI) (.sl tI)), .nilRow 5 800005 35 (.pair (.sl tI) (.sl tI)), .ren 3 700003, .ren 4 700004, .ren 5 700005, .ren 3 900003, .ren 4 900004, .ren 5 900005, .gc], [1, 3, 4, 5, 8], [.lf (qp 16), .lf (qr 900003), .lf (qr 900004), .lf (qr 900005), .lf (qm 0)], [(16, true, .cells [qi 0, qi 1, qi 2, qi 3, qi 4, qi 5]), (900003, true, .arr 35 (qi 6)), (900004, true, .arr 35 (qi 7)), (900005, true, .arr 35 (qm 1))]⟩, [⟨6, ⟨[.keep [1, 3, 4, 5], .gc, .nilRow 3 800003 35 (.pair (.sl tI) (.sl tI)), .nilRow 4 800004 35 (.pair (.sl tI) (.sl tI)), .nilRow 5 800005 35 (.pair (.sl tI) (.sl tI)), .ren 3 700003, .ren 4 700004, .ren 5 700005, .ren 3 900003, .ren 4 900004, .ren 5 900005, .gc], [1, 3, 4, 5], [.lf (qp 16), .lf (qr 900003), .lf (qr 900004), .lf (qr 900005)], [(16, true, .cells [qi 0, qi 1, qi 2, qi 3, qi 4, qi 5]), (900003, true, .arr 35 (qi 6)), (900004, true, .arr 35 (qi 7)), (900005, true, .arr 35 (qm 0))]⟩, [.sl (.pair (.sl tI) (.sl tI))]⟩], (fun i => law18_WorthTells_b506 (i.1, i.2.1, i.2.2.1, i.2.2.2.1, i.2.2.2.2.1, i.2.2.2.2.2.1))⟩
def law18_WorthTells_b254 : ((List Bool) × (List Tk) × (List Th) × (List Lk) × (List Int) × Int × (List ((List Int) × List Int)) × (List ((List Int) × List Int)) × (List ((List Int) × List Int))) → RT Unit Bool
| (l_0, l_1, l_2, l_3, l_4, l_5, r3, r4, r5) =>
 .rq 1 (let t0 := (wOK l_0 l_1 l_2 l_3 l_4 l_5);
 .req t0 (.rq 1 (let t1 := ((worthV l_0 l_1 l_2 l_3 l_4 l_5).1.map rq);
 .req ((sameOK r3)) (.rq 1 (let t2 := ((thW l_0 l_1 l_2 l_3 l_4 l_5).map rq);
 let t3 := (sameOK r5);
 let t4 := (decide (t2 = r5.map toB));
 .ite ((decide (t1 = r3.map toB)))
 (.rq 1 (.req t0 (.rq 1 (let t5 := ((worthV l_0 l_1 l_2 l_3 l_4 l_5).2.map rq);
 .req ((sameOK r4)) (.rq 2 (.ite ((decide (t5 = r4.map toB)))
 (.rq 1 (.req t0 (.rq 1 (.req t3 (.rq 2 (.ite t4
 (.rq 3 (.done (true)))
 (.rq 2 (.done false))))))))
 (.rq 2 (.ite false
 (.rq 3 (.done (true)))
 (.rq 2 (.done false))))))))))
 (.rq 2 (.ite false
 (.rq 1 (.req t0 (.rq 1 (.req t3 (.rq 2 (.ite t4
 (.rq 3 (.done (true)))
 (.rq 2 (.done false))))))))
 (.rq 2 (.ite false
 (.rq 3 (.done (true)))
 (.rq 2 (.done false)))))))))))
def law18_WorthTells_p254 : Piece := ⟨254, false, [.sl tB, .sl yK, .sl yH, .sl yL, .sl tI, tI, .sl (.pair (.sl tI) (.sl tI)), .sl (.pair (.sl tI) (.sl tI)), .sl (.pair (.sl tI) (.sl tI))], [], ⟨[.keep [1, 3, 4, 5], .gc], [1, 3, 4, 5], [.lf (qp 16), .lf (qr 900003), .lf (qr 900004), .lf (qr 900005)], [(16, true, .cells [qi 0, qi 1, qi 2, qi 3, qi 4, qi 5]), (900003, true, .arr 35 (qi 6)), (900004, true, .arr 35 (qi 7)), (900005, true, .arr 35 (qi 8))]⟩, [⟨0, ⟨[.keep [2], .gc], [2], [.lf (qm 0)], []⟩, [tB]⟩], (fun i _ => law18_WorthTells_b254 i)⟩
def law18_WorthTells : ((List Bool) × (List Tk) × (List Th) × (List Lk) × (List Int) × Int) → RT Unit Bool
| (a0_0, a0_1, a0_2, a0_3, a0_4, a0_5) =>
 .rq 7 (let t0 := (smallV a0_0 a0_1 a0_2 a0_3 a0_4);
 let t1 := !t0;
 .req (((decide (a0_1.length ≤ 1000000))) || (!(!t1))) (.rq 4 (let t2 := t1 || (!((decide (a0_1.length ≤ 30) && decide (cnt2 a0_1 ≤ 8))));
 .req (t0 || (!(!t2))) (.rq 2 (.ite (t2 || (!((fineV a0_0 a0_1 a0_2 a0_3 a0_4 a0_5))))
 (.rq 2 (.done (true)))
 (.rq 4 (let t3 := (a0_0, a0_1, a0_2, a0_3, a0_4, a0_5);
 .call (lo law18_WorthTells_b122 t3 (0, [])) default fun v0 =>
 .rq 1 (.call (lo law18_WorthTells_b250 t3 (0, [])) default fun v1 =>
 .ite v1.isRt
 (.rq 1 (.call (lo law18_WorthTells_b506 t3 (0, [])) default fun v2 =>
 .call (on law18_WorthTells_b254 (a0_0, a0_1, a0_2, a0_3, a0_4, a0_5, v0, v1.getR, v2)) default fun v3 =>
 .done v3))
 (.done false)))))))))
def F_law18_WorthTells (x : (List Bool) × (List Tk) × (List Th) × (List Lk) × (List Int) × Int) : Option Bool := (law18_WorthTells x).run fun _ => none
def io_law18_WorthTells : Io := ⟨n_law18_WorthTells, [.sl tB, .sl yK, .sl yH, .sl yL, .sl tI, tI], [.agg [qm 0, qm 1, qm 2, qm 3, qm 4, qm 5]], [], [[.sl tB, .sl yK, .sl yH, .sl yL, .sl tI, tI]], [tB], .lf (qm 0), [], [], false⟩
def law18_WorthTells_P : List Piece := [law18_WorthTells_p122, law18_WorthTells_p250, law18_WorthTells_p506, law18_WorthTells_p254]
def law18_WorthTells_T : CallT := tab [e_law18_alive, e_R18_Same, e_R18_Thread, e_R18_Ticket, e_R18_Coin, e_worth_Ticket, e_worth_Threads, e_worth_Tickets, e_worth_Coins, e_R17_Light, e_R14_Fine, e_R14_Small, e_R04_Same]
theorem law18_WorthTells_To : SoundT pg law18_WorthTells_T := tab_sound ⟨e_law18_alive_ok, e_R18_Same_ok, e_R18_Thread_ok, e_R18_Ticket_ok, e_R18_Coin_ok, e_worth_Ticket_ok, e_worth_Threads_ok, e_worth_Tickets_ok, e_worth_Coins_ok, e_R17_Light_ok, e_R14_Fine_ok, e_R14_Small_ok, e_R04_Same_ok, trivial⟩
theorem law18_WorthTells_k122 : (law18_WorthTells_p122).OK pg (law18_WorthTells_T) (tell 90 (law18_WorthTells_P)) (codeOf f_law18_WorthTells) 90 := ⟨by kernel_rfl, fun i x => by kernel_rfl⟩
theorem law18_WorthTells_k250 : (law18_WorthTells_p250).OK pg (law18_WorthTells_T) (tell 90 (law18_WorthTells_P)) (codeOf f_law18_WorthTells) 90 := ⟨by kernel_rfl, fun i x => by kernel_rfl⟩
theorem law18_WorthTells_k506 : (law18_WorthTells_p506).OK pg (law18_WorthTells_T) (tell 90 (law18_WorthTells_P)) (codeOf f_law18_WorthTells) 90 := ⟨by kernel_rfl, fun i x => by kernel_rfl⟩
theorem law18_WorthTells_k254 : (law18_WorthTells_p254).OK pg (law18_WorthTells_T) (tell 90 (law18_WorthTells_P)) (codeOf f_law18_WorthTells) 90 := ⟨by kernel_rfl, fun i x => by kernel_rfl⟩
theorem law18_WorthTells_go : FnOK pg (law18_WorthTells_T) io_law18_WorthTells f_law18_WorthTells (law18_WorthTells_P) [] (law18_WorthTells) := ⟨by kernel_rfl, by kernel_rfl, fun x => by kernel_rfl⟩
theorem ok_law18_WorthTells : io_law18_WorthTells.Okay pg (F_law18_WorthTells) := fn_ok pg_mixed (law18_WorthTells_To) (law18_WorthTells_go) ⟨law18_WorthTells_k122, law18_WorthTells_k250, law18_WorthTells_k506, law18_WorthTells_k254, trivial⟩
section
variable {a : List Bool} {b : List Tk} {c : List Th} {d : List Lk} {e : List Int} {f : Int}
theorem wt_1 (hw : wOK a b c d e f = true) : ∀ (n i : Nat), i + n = a.length → lo law18_WorthTells_b122 (a, b, c, d, e, f) ((i : Int), ((worthV a b c d e f).1.take i).map rQ) = some ((worthV a b c d e f).1.map rQ)
  | 0, i, h => by
    rw [lo_eq, law18_WorthTells_b122]
    simp only [RT.run]
    rw [if_neg (by simp; omega), List.take_of_length_le (by rw [worthV_len.1]; omega)]
  | n + 1, i, h => by
    obtain ⟨H, h8⟩ := wOK_iff hw
    have hca := H.coins
    rw [lo_eq, law18_WorthTells_b122]
    simp only [RT.run, pe]
    rw [if_pos (by simp; omega), hw, inB_iff.2 (show 0 ≤ (i : Int) ∧ (i : Int) < (a.length : Int) by omega), if_pos (by decide), if_pos (ap_small (by decide) (by simp; omega)), take_rQ _ (by rw [worthV_len.1]; omega), w64_in (by omega), show (i : Int) + 1 = ((i + 1 : Nat) : Int) by omega, wt_1 hw n (i + 1) (by omega)]
theorem wt_2 (hw : wOK a b c d e f = true) : ∀ (n i : Nat), i + n = b.length → lo law18_WorthTells_b250 (a, b, c, d, e, f) ((i : Int), ((worthV a b c d e f).2.take i).map rQ) = some (.rt ((worthV a b c d e f).2.map rQ))
  | 0, i, h => by
    rw [lo_eq, law18_WorthTells_b250]
    simp only [RT.run]
    rw [if_neg (by simp; omega), List.take_of_length_le (by rw [worthV_len.2]; omega)]
  | n + 1, i, h => by
    obtain ⟨H, h8⟩ := wOK_iff hw
    have hlb := H.lenB
    have hi : 0 ≤ (i : Int) ∧ (i : Int) < (b.length : Int) := by omega
    have hk := (H.wb h8).k _ (gI_mem (xs := (worthV a b c d e f).2) (k := (i : Int)) (by rw [worthV_len.2]; exact hi))
    obtain ⟨m1, m2⟩ := isM_rQ hk.2 (by decide)
    have hg : gI (((worthV a b c d e f).2.take (i + 1)).map rQ) (i : Int) = rQ (gI (worthV a b c d e f).2 (i : Int)) := by
      rw [gI_map rQ (by rw [List.length_take, worthV_len.2]; omega), gI_lt (by rw [List.length_take, worthV_len.2]; omega), gI_lt (by rw [worthV_len.2]; omega), List.getElem_take]
    have hin : inB (((worthV a b c d e f).2.take (i + 1)).map rQ) (i : Int) = true := inB_iff.2 (by rw [List.length_map, List.length_take, worthV_len.2]; omega)
    have ht : tkW a b c d e f (i : Int) = gI (worthV a b c d e f).2 (i : Int) := by unfold tkW; rw [if_pos (inB_iff.2 hi)]
    have e1 : rq (gI (worthV a b c d e f).2 (i : Int)) = toB (rQ (gI (worthV a b c d e f).2 (i : Int))) := (toB_rQ _).symm
    rw [lo_eq, law18_WorthTells_b250]
    simp only [RT.run, pe]
    rw [if_pos (by simp; omega), hw, inB_iff.2 hi, if_pos (by decide), if_pos (ap_small (by decide) (by simp; omega)), take_rQ _ (by rw [worthV_len.2]; omega), if_pos rfl, if_pos hin, hg, m1, m2, if_pos (by decide), ht, if_neg (by rw [e1]; simp [toB]), w64_in (by omega), show (i : Int) + 1 = ((i + 1 : Nat) : Int) by omega, wt_2 hw n (i + 1) (by omega)]
theorem wt_3 (hw : wOK a b c d e f = true) : ∀ (n i : Nat), i + n = c.length → lo law18_WorthTells_b506 (a, b, c, d, e, f) ((i : Int), ((thW a b c d e f).take i).map rQ) = some ((thW a b c d e f).map rQ)
  | 0, i, h => by
    rw [lo_eq, law18_WorthTells_b506]
    simp only [RT.run]
    rw [if_neg (by simp; omega), List.take_of_length_le (by rw [thW_len]; omega)]
  | n + 1, i, h => by
    obtain ⟨H, h8⟩ := wOK_iff hw
    have hlc := H.lenC
    rw [lo_eq, law18_WorthTells_b506]
    simp only [RT.run, pe]
    rw [if_pos (by simp; omega), hw, if_pos (by decide), if_pos (ap_small (by decide) (by simp; omega)), ← thW_get (by omega), take_rQ _ (by rw [thW_len]; omega), w64_in (by omega), show (i : Int) + 1 = ((i + 1 : Nat) : Int) by omega, wt_3 hw n (i + 1) (by omega)]
end
theorem WorthTells_F (a : List Bool) (b : List Tk) (c : List Th) (d : List Lk) (e : List Int) (f : Int) : F_law18_WorthTells (a, b, c, d, e, f) = some true := by
  show (law18_WorthTells _).run _ = _
  rw [law18_WorthTells]
  simp only [RT.run]
  cases hs : smallV a b c d e with
  | false => rw [if_pos (by simp), if_pos (by simp), if_pos (by simp)]
  | true =>
    have hb : b.length ≤ 200 := by
      unfold smallV at hs
      simp only [Bool.and_eq_true, decide_eq_true_eq] at hs
      omega
    rw [if_pos (by rw [decide_eq_true (show b.length ≤ 1000000 by omega)]; rfl), if_pos (by rfl)]
    cases hl : (decide (b.length ≤ 30) && decide (cnt2 b ≤ 8)) with
    | false => rfl
    | true =>
      cases hf : fineV a b c d e f with
      | false => rfl
      | true =>
        rw [if_neg (by decide)]
        have hw : wOK a b c d e f = true := by
          rw [Bool.and_eq_true] at hl
          unfold wOK
          rw [hf, hl.2]; rfl
        obtain ⟨H, h8⟩ := wOK_iff hw
        have W := H.wb h8
        have l1 := wt_1 hw a.length 0 (by omega)
        have l2 := wt_2 hw b.length 0 (by omega)
        have l3 := wt_3 hw c.length 0 (by omega)
        rw [List.take_zero, List.map_nil, show ((0 : Nat) : Int) = 0 from rfl] at l1 l2 l3
        rw [l1, l2, l3]
        simp only [Option.bind_some, LR.isRt, LR.getR, if_true]
        show (on law18_WorthTells_b254 _).bind _ = _
        have : on law18_WorthTells_b254 (a, b, c, d, e, f, (worthV a b c d e f).1.map rQ, (worthV a b c d e f).2.map rQ, (thW a b c d e f).map rQ) = some true := by
          show (law18_WorthTells_b254 _).run _ = _
          rw [law18_WorthTells_b254]
          simp only [RT.run, toB_map, hw, sameOK_map (fun q hq => (W.c q hq).2) (by decide), sameOK_map (fun q hq => (W.k q hq).2) (by decide), sameOK_map (fun q hq => (thW_sm hw q hq).2) (by decide), decide_true, if_true]
        rw [this]
        rfl
end
end Go.Proofs.YtlfdidaeachpoaaGreat

namespace Go.Proofs.YtlfdidaeachpoaaGreat
open Go Go.RowKit
theorem exists_list {α : Type} {Q : Nat → α → Prop} : ∀ (n : Nat), (∀ i, i < n → ∃ x, Q i x) → ∃ xs : List α, xs.length = n ∧ ∀ i (h : i < xs.length), Q i xs[i]
  | 0, _ => ⟨[], rfl, fun i hi => absurd hi (Nat.not_lt_zero i)⟩
  | n + 1, h => by
    obtain ⟨xs, h1, h2⟩ := exists_list n fun i hi => h i (by omega)
    obtain ⟨x, hx⟩ := h n (by omega)
    refine ⟨xs ++ [x], by simp [h1], fun i hi => ?_⟩
    by_cases hin : i < xs.length
    · rw [List.getElem_append_left hin]
      exact h2 i hin
    · have : i = n := by simp at hi; omega
      subst this
      rw [List.getElem_append_right (by omega)]
      simpa [h1] using hx
theorem cell_at {w : World} {a : Addr} {u : Value} (h : w.cell? a = some u) : a.spot = none ∧ a.block < w.heap.size := by
  unfold World.cell? at h
  split at h
  · rename_i c _ _ hb
    split at h
    · cases h
    · rename_i hs
      refine ⟨by simpa using hs, ?_⟩
      apply Decidable.byContradiction
      intro hlt
      rw [Array.getElem?_eq_none (Nat.le_of_not_lt hlt)] at hb
      cases hb
  · cases h
theorem add_block (a : Addr) (n : Nat) : (a.add n).block = a.block := by
  unfold Addr.add
  split <;> rfl
theorem add_plain (b o n : Nat) : Addr.add ⟨b, o, none⟩ n = ⟨b, o + n, none⟩ := by
  unfold Addr.add
  split
  · rename_i h; subst h; rfl
  · rfl
def inHeap (w : World) : Nat → Prop := fun b => b < w.heap.size
section
variable {H : Type} {enc : TypeId × Value → H} {P : Program} {w : World} {held : Bool}
theorem fields_rep {g : TypeId → Option Ty} {fuel : Nat} {cs : List Value}
    (ih : ∀ (t : TypeId) (ty : Ty) (cs : List Value) (y : DataW H × List MemPlace), g t = some ty → P.cellsOf t = ty.size → DataW.trod enc P w 0 (fun _ => true) held fuel t cs = some y → ∃ x, RepD w (inHeap w) ty cs x) :
    ∀ (fs : List Field) (off : Nat) (ty : Ty), tyFs P g fs off = some ty → (∀ f ∈ fs, ∃ y, DataW.trod enc P w 0 (fun _ => true) held fuel f.type ((cs.drop f.offset).take (P.cellsOf f.type)) = some y) →
      ∃ x, RepD w (inHeap w) ty ((cs.drop off).take ty.size) x
  | [], _, _, h, _ => by cases h
  | f :: fs, off, ty, h, hf => by
    unfold tyFs at h
    split at h
    · cases h
    · rename_i a ha
      split at h
      · rename_i hc
        obtain ⟨y, hy⟩ := hf f (List.mem_cons_self ..)
        rw [hc.1, hc.2] at hy
        obtain ⟨x, hx⟩ := ih f.type a _ y ha hc.2 hy
        split at h
        · cases h
          exact ⟨x, hx⟩
        · rename_i f' fs'
          split at h
          · rename_i b hb
            cases h
            obtain ⟨x', hx'⟩ := fields_rep ih (f' :: fs') (off + a.size) b hb fun z hz => hf z (List.mem_cons_of_mem _ hz)
            refine ⟨(x, x'), _, _, ?_, hx, hx'⟩
            show (cs.drop off).take (a.size + b.size) = _
            rw [List.take_add, List.drop_drop]
          · cases h
      · cases h
theorem trod_rep : ∀ (n : Nat) (t : TypeId) (ty : Ty) (fuel : Nat) (cs : List Value) (y : DataW H × List MemPlace), tyOf P n t = some ty → P.cellsOf t = ty.size → DataW.trod enc P w 0 (fun _ => true) held fuel t cs = some y → ∃ x, RepD w (inHeap w) ty cs x := by
  intro n
  induction n with
  | zero => intro t ty fuel cs y h; cases h
  | succ n ih =>
    intro t ty fuel cs y ht hsz h
    unfold tyOf at ht
    split at ht
    · rename_i k hu
      cases ht
      obtain ⟨m, rfl, _, hw⟩ := DataW.trod_int hu h
      exact ⟨m, rfl, hw⟩
    · rename_i hu
      cases ht
      obtain ⟨b, rfl, _⟩ := DataW.trod_bool hu h
      exact ⟨b, rfl⟩
    · rename_i hu
      cases ht
      obtain ⟨s, rfl, _, hs⟩ := DataW.trod_string hu h
      exact ⟨s, rfl, hs⟩
    · rename_i e hu
      split at ht
      · rename_i a ha
        split at ht
        · rename_i hc
          cases ht
          rcases DataW.trod_slice hu h with ⟨rfl, _⟩ | ⟨ad, len, cap, elems, rest, m, _, rfl, _, _, hlc, hcm, hlen, hel, _, _⟩
          · exact ⟨[], none, 0, rfl, Nat.le_refl _, Nat.zero_le _, fun _ => rfl, fun i hi => absurd hi (Nat.not_lt_zero i)⟩
          · have hpos := a.size_pos
            have had : 0 < len → ad.spot = none := by
              intro h0
              have h1 := hel 0 h0
              rw [List.getElem?_eq_getElem (by omega), Option.bind_eq_some_iff] at h1
              obtain ⟨us, hus, _⟩ := h1
              obtain ⟨_, hl, hcell⟩ := World.cells?_some hus
              have c0 := hcell 0 (by omega)
              rw [List.getElem?_eq_getElem (by omega), Nat.zero_mul] at c0
              exact (cell_at c0).1
            have each : ∀ i, i < len → ∃ x : a.den, ∃ b o us, (some ad : Option Addr) = some ⟨b, o, none⟩ ∧ inHeap w b ∧ us.length = a.size ∧ Mem w b (o + i * a.size) us ∧ RepD w (inHeap w) a us x := by
              intro i hi
              have h1 := hel i hi
              rw [List.getElem?_eq_getElem (by omega), Option.bind_eq_some_iff] at h1
              obtain ⟨us, hus, hy⟩ := h1
              obtain ⟨_, hl, hcell⟩ := World.cells?_some hus
              obtain ⟨x, hx⟩ := ih e a m us _ ha hc hy
              have c0 := hcell 0 (by omega)
              rw [List.getElem?_eq_getElem (by omega)] at c0
              have hb := (cell_at c0).2
              rw [add_block, add_block] at hb
              have hsp := had (by omega)
              obtain ⟨b, o, sp⟩ := ad
              simp only at hsp
              subst hsp
              refine ⟨x, b, o, us, rfl, hb, by omega, fun j u hu' => ?_, hx⟩
              have hj : j < us.length := by
                apply Decidable.byContradiction
                intro hn
                rw [List.getElem?_eq_none (by omega)] at hu'
                cases hu'
              have := hcell j (by omega)
              rw [hu', add_plain, add_plain] at this
              rw [← hc]
              exact this
            obtain ⟨xs, hxl, hxs⟩ := exists_list len each
            refine ⟨xs, some ad, cap, by rw [hxl], by omega, hcm, (fun h => by cases h), fun i hi => ?_⟩
            obtain ⟨b, o, us, h1, h2, h3, h4, h5⟩ := hxs i hi
            exact ⟨b, o, us, h1, h2, h3, h4, h5⟩
        · cases ht
      · cases ht
    · rename_i fs hu
      obtain ⟨xs, m, _, _, hl, hxl, hf⟩ := DataW.trod_struct hu h
      obtain ⟨x, hx⟩ := fields_rep (enc := enc) (held := held) (fuel := m) (cs := cs) (fun t ty cs y h1 h2 h3 => ih t ty m cs y h1 h2 h3) fs.toList 0 ty ht (fun f hf' => by
        obtain ⟨i, hi, rfl⟩ := List.mem_iff_getElem.1 hf'
        have hi' : i < fs.size := by simpa using hi
        have := hf i fs.toList[i] (by simp [hi'])
        rw [List.getElem?_eq_getElem (by omega)] at this
        exact ⟨_, this⟩)
      refine ⟨x, ?_⟩
      rw [List.drop_zero, List.take_of_length_le (by omega)] at hx
      exact hx
    · cases ht
end
theorem callPost_below {w : World} {ok : Nat → Prop} {n : Nat} {r : CallRes} {v : Value} {w' : World} {β' : Nat → Option Value} {ok' : Nat → Prop} (h : CallPost w (fun _ => none) ok n r v w' β' ok') : Below w.heap.size w w' :=
  ⟨h.os, h.tape, h.output, h.size, fun k hk => h.block k hk (fun _ _ _ e => by cases e)⟩
end Go.Proofs.YtlfdidaeachpoaaGreat
