/- Part 6 of the walk and of the plain law. -/
import Derived.Test.YtlfdidaeachpoaaGreatCOT5
import Derived.Test.YtlfdidaeachpoaaGreatCOT2
import Derived.Below
import Derived.ChangeArms
import Derived.DataReads
set_option linter.unusedSimpArgs false
set_option linter.unusedVariables false
namespace Go.Proofs.YtlfdidaeachpoaaGreat
open Go Go.RowKit
set_option maxRecDepth 100000
noncomputable section
theorem wg_hyp {a : List Bool} {b : List Tk} {c : List Th} {d : List Lk} {e : List Int} {f : Int} (H : zcv a b c d e f) : (∀ q ∈ wgV a b c d e f,0 ≤ q ∧ sm 5000 q) ∧ (wgV a b c d e f).length ≤ 100 := by
 have hlc := H.lenC
 exact ⟨fun q hq => ⟨(H.wg_mem q hq).1,zeR (by decide) (H.wg_mem q hq).2⟩,by rw [zfR]; omega⟩
def zbP : ((List Bool) × (List Tk) × (List Th) × (List Lk) × (List Int) × Int) → RT Unit (Int × Int × Int × (List Int))
| (s_0,s_1,s_2,s_3,s_4,s_5) =>
 .rq 4 (.req ((wOK s_0 s_1 s_2 s_3 s_4 s_5)) (.call (F_zT (((wgV s_0 s_1 s_2 s_3 s_4 s_5).map rq))) default fun v0 =>
 .rq 4 (.done (v0.1,v0.2.1,v0.2.2.1,v0.2.2.2))))
def F_zbP (x : (List Bool) × (List Tk) × (List Th) × (List Lk) × (List Int) × Int) : Option (Int × Int × Int × (List Int)) := (zbP x).run fun _ => none
def io_zbP : Io := ⟨n_zbP,[.sl tB,.sl yK,.sl yH,.sl yL,.sl tI,tI],[.agg [qm 0,qm 1,qm 2,qm 3,qm 4,qm 5]],[],[[.sl tB,.sl yK,.sl yH,.sl yL,.sl tI,tI]],[tU,tU,tI,.sl tU],.tup [(true,[qm 0,qm 1,qr 0]),(false,[qm 2])],[],[(true,.arr 48 (qm 3))],false⟩
def zbP_P : List zch := []
def zbP_T : zcl := tab [e_zT,e_zy]
theorem zbP_To : zck pg zbP_T := zci ⟨e_zT_ok,e_zy_ok,trivial⟩
theorem zbP_go : zcy pg (zbP_T) io_zbP f_zbP (zbP_P) [.cellRow 32 2 600034 48 tU,.cellRen 32 2 600034] (zbP) := ⟨by kernel_rfl,by kernel_rfl,fun x => by kernel_rfl⟩
theorem ok_zbP : io_zbP.Okay pg (F_zbP) := zcu zcj (zbP_To) (zbP_go) trivial
def e_zbP : zcq := io_zbP.sp (fun (a,b,c,d,e,f) => (wOK a b c d e f)) (fun (a,b,c,d,e,f) => (brV (wgV a b c d e f)))
theorem sp_zbP (h : ∀ (a : List Bool) (b : List Tk) (c : List Th) (d : List Lk) (e : List Int) (f : Int),WfT [.sl tB,.sl yK,.sl yH,.sl yL,.sl tI,tI] (a,b,c,d,e,f) → ((wOK a b c d e f)) = true → (zbP (a,b,c,d,e,f)).run (fun _ => none) = some (brV (wgV a b c d e f))) : e_zbP.ok pg := zcw ok_zbP fun (a,b,c,d,e,f) hw hc => h a b c d e f hw hc
theorem e_zbP_ok : e_zbP.ok pg := sp_zbP fun a b c d e f _ hc => by
 obtain ⟨H,h8⟩ := zdc hc
 rw [zbP]
 simp only [RT.run]
 rw [if_pos hc,bring_F (wg_hyp H).1 (wg_hyp H).2]
 rfl
def xK : Nat := 5000
def zbX : ((List Int) × (List Int)) → RT Unit (List Int)
| (a_0,b_0) =>
 .rq 13 (.ite (((a_0.length : Int) == 0) || ((b_0.length : Int) == 0))
 (.rq 2 (.done []))
 (.rq 2 (.req (okM 38 a_0 && okM 38 b_0) (.rq 2 (.req (isM 37 a_0 && isM 37 b_0) (.req (okM 37 (zcg B16 (val B16 a_0 * val B16 b_0)) && (okM 37 (zcg B16 (Nat.gcd (val B16 a_0) (val B16 b_0))) && decide (0 < val B16 (zcg B16 (Nat.gcd (val B16 a_0) (val B16 b_0)))))) (.rq 9 (.done (zcg B16 (val B16 (zcg B16 (val B16 a_0 * val B16 b_0)) / val B16 (zcg B16 (Nat.gcd (val B16 a_0) (val B16 b_0)))))))))))))
def F_zbX (x : (List Int) × (List Int)) : Option (List Int) := (zbX x).run fun _ => none
def io_zbX : Io := ⟨n_zbX,[.sl tI,.sl tI],[.agg [qm 0],.agg [qm 1]],[],[[.sl tI],[.sl tI]],[.sl tI],.agg [qr 0],[],[(true,.arr 3 (qm 0))],false⟩
def zbX_P : List zch := []
def zbX_T : zcl := tab [e_zbe,e_zac,e_zO]
theorem zbX_To : zck pg zbX_T := zci ⟨e_zbe_ok,e_zac_ok,zhH,trivial⟩
theorem zbX_go : zcy pg (zbX_T) io_zbX f_zbX (zbX_P) [.cellRow 64 0 600064 3 tI,.cellRen 64 0 600064] (zbX) := ⟨by kernel_rfl,by kernel_rfl,fun x => by kernel_rfl⟩
theorem ok_zbX : io_zbX.Okay pg (F_zbX) := zcu zcj (zbX_To) (zbX_go) trivial
theorem den_lt {n k : Nat} {q : Rat} (h : sm n q) (hk : n ≤ k) : q.den < 2 ^ k := lt_pow hk h.2
theorem digs16_ne {m : Nat} (h : 0 < m) : ((zcg B16 m).length : Int) ≠ 0 := by
 rw [zgt (by decide) h]
 simp only [List.length_cons]
 omega
theorem lcmR_F {m d k : Nat} (hm : 0 < m) (hd : 0 < d) (h1 : m < 2 ^ k) (h2 : d < 2 ^ k) (hk : k ≤ 1000000) : F_zbX (zcg B16 m,zcg B16 d) = some (zcg B16 (Nat.lcm m d)) := by
 have l1 := (zdA h1).2
 have l2 := (zdA h2).2
 have hg : 0 < Nat.gcd m d := Nat.gcd_pos_of_pos_left _ hm
 have hgk : Nat.gcd m d < 2 ^ k := Nat.lt_of_le_of_lt (Nat.gcd_le_left _ hm) h1
 have l3 := (zdA hgk).2
 have hmd : m * d < 2 ^ (k + k) := by rw [Nat.pow_add]; exact Nat.mul_lt_mul'' h1 h2
 have l4 := (zdA hmd).2
 have w : ∀ v,wfd B16 (zcg B16 v) = true := fun v => zcS (by decide) v
 have iM : ∀ v n,(zcg B16 v).length ≤ 2 ^ n → isM n (zcg B16 v) = true := fun v n h => zgl h
 show (zbX _).run _ = _
 rw [zbX]
 simp only [RT.run,zcz (show 2 ≤ B16 by decide)]
 rw [if_neg (by simp only [Bool.or_eq_true,beq_iff_eq]; rintro (h | h); exact digs16_ne hm h; exact digs16_ne hd h),if_pos (by rw [Bool.and_eq_true,zcV,zcV]; exact ⟨⟨by omega,w _⟩,by omega,w _⟩),
  if_pos (by rw [iM _ _ (by omega),iM _ _ (by omega)]; rfl),if_pos (by rw [Bool.and_eq_true,Bool.and_eq_true,zcV,zcV,decide_eq_true_eq]; exact ⟨⟨by omega,w _⟩,⟨by omega,w _⟩,hg⟩)]
 rfl
def e_zbX : zcq := io_zbX.en F_zbX
theorem e_zbX_ok : e_zbX.ok pg := zeS ok_zbX
def zbc_b58 : (List ((List Int) × List Int)) → (Int × (List Int)) → RT (Int × (List Int)) (List Int)
| l,(i,r48) =>
 .rq 4 (.ite (decide (i < (l.length : Int)))
 (.rq 3 (.req (inB l i) (.rq 2 (.call (F_zbX (r48,(gI l i).2)) default fun v0 =>
 .rq 4 (.again (w64 (i + 1),v0))))))
 (.done r48))
def zbc_p58 : zch := ⟨58,true,[.sl (.pair (.sl tI) (.sl tI))],[tI,.sl tI],⟨[.keep [0,2,3,4],.gc,.cellRow 48 0 600048 3 tI,.cellRen 48 0 600048,.gc],[0,2,3,4],[.lf (qi 0),.lf (qp 32),.lf (qp 48),.lf (qm 0)],[(32,true,.cells [.fix (.nil)]),(48,true,.cells [qr 600048]),(600048,true,.arr 3 (qm 1))]⟩,[⟨2,⟨[.keep [2,3],.gc,.cellRow 48 0 600048 3 tI,.cellRen 48 0 600048,.gc],[2,3],[.lf (qp 32),.lf (qp 48)],[(32,true,.cells [.fix (.nil)]),(48,true,.cells [qr 600048]),(600048,true,.arr 3 (qm 0))]⟩,[.sl tI]⟩],zbc_b58⟩
def zbc : (List ((List Int) × List Int)) → RT Unit (List Int)
| l =>
 .rq 5 (.call (lo zbc_b58 l (0,zcg B16 (1 : Int).toNat)) default fun v1 =>
 .rq 2 (.done v1))
def F_zbc (x : (List ((List Int) × List Int))) : Option (List Int) := (zbc x).run fun _ => none
def io_zbc : Io := ⟨n_zbc,[.sl (.pair (.sl tI) (.sl tI))],[.lf (qm 0)],[],[[.sl (.pair (.sl tI) (.sl tI))]],[.sl tI],.agg [qr 0],[],[(true,.arr 3 (qm 0))],false⟩
def zbc_P : List zch := [zbc_p58]
def zbc_T : zcl := tab [e_zbX,e_zbf]
theorem zbc_To : zck pg zbc_T := zci ⟨e_zbX_ok,zid,trivial⟩
theorem zbc_k58 : (zbc_p58).OK pg (zbc_T) (zcB 20 (zbc_P)) (zcs f_zbc) 20 := ⟨by kernel_rfl,fun i x => by kernel_rfl⟩
theorem zbc_go : zcy pg (zbc_T) io_zbc f_zbc (zbc_P) [.cellRow 32 0 600032 3 tI,.cellRen 32 0 600032] (zbc) := ⟨by kernel_rfl,by kernel_rfl,fun x => by kernel_rfl⟩
theorem ok_zbc : io_zbc.Okay pg (F_zbc) := zcu zcj (zbc_To) (zbc_go) ⟨zbc_k58,trivial⟩
section
variable {L : List Rat} (hL : ∀ q ∈ L,0 ≤ q ∧ sm 5000 q) (hl : L.length ≤ 100)
include hL hl
theorem lcR_loop : ∀ (n i m k : Nat),i + n = L.length → 0 < m → m < 2 ^ k → 5000 ≤ k → k + 5000 * n ≤ 1000000 →
  lo zbc_b58 (L.map rQ) ((i : Int),zcg B16 m) = some (zcg B16 ((L.drop i).foldl (fun m q => Nat.lcm m q.den) m))
 | 0,i,m,k,h,_,_,_,_ => by
  rw [zcr,zbc_b58]
  simp only [RT.run,List.length_map]
  rw [if_neg (by simp; omega),List.drop_eq_nil_of_le (by omega)]
  rfl
 | n + 1,i,m,k,h,h0,hm,hk5,hk => by
  have hi : i < L.length := by omega
  have hg : gI (L.map rQ) (i : Int) = rQ L[i] := by rw [zek rQ (by omega),zcL hi]
  obtain ⟨s1,s2⟩ := hL _ (List.getElem_mem hi)
  have ih := lcR_loop n (i + 1) (Nat.lcm m L[i].den) (k + 5000) (by omega) (Nat.lcm_pos h0 L[i].den_pos) (by
   exact lcm_sm hm s2) (by omega) (by omega)
  rw [zcr,zbc_b58]
  simp only [RT.run,List.length_map]
  rw [if_pos (by simp; omega),if_pos (zcn.2 (by rw [List.length_map]; omega)),hg]
  show (F_zbX (zcg B16 m,zcg B16 L[i].den)).bind _ = _
  rw [lcmR_F h0 L[i].den_pos hm (den_lt s2 hk5) (by omega),Option.bind_some,zcm (by omega),show (i : Int) + 1 = ((i + 1 : Nat) : Int) by omega,ih,List.drop_eq_getElem_cons hi,List.foldl_cons]
theorem lcmL_F : F_zbc (L.map rQ) = some (zcg B16 (lcmV L)) := by
 show (zbc _).run _ = _
 rw [zbc]
 simp only [RT.run]
 have h1 := lcR_loop hL hl L.length 0 1 xK (by omega) (by decide) (lt_pow (m := 1) (by decide) (by decide)) (by decide) (by unfold xK; omega)
 rw [List.drop_zero,show ((0 : Nat) : Int) = 0 from rfl] at h1
 show (lo zbc_b58 _ (0,zcg B16 1)).bind _ = _
 rw [h1]
 rfl
end
def e_zbc : zcq := io_zbc.en F_zbc
theorem e_zbc_ok : e_zbc.ok pg := zeS ok_zbc
def zce : ((List Int) × (List Int) × (List Int)) → RT Unit (List Int)
| (q_0,q_1,m_0) =>
 .rq 6 (.req (okM 38 q_0 && okM 38 m_0) (.rq 2 (.req (okM 37 (zcg B16 (val B16 q_0 * val B16 m_0)) && (okM 37 q_1 && decide (0 < val B16 q_1))) (.rq 9 (.done (zcg B16 (val B16 (zcg B16 (val B16 q_0 * val B16 m_0)) / val B16 q_1)))))))
def F_zce (x : (List Int) × (List Int) × (List Int)) : Option (List Int) := (zce x).run fun _ => none
def io_zce : Io := ⟨n_zce,[.sl tI,.sl tI,.sl tI],[.agg [qm 0,qm 1],.agg [qm 2]],[],[[.sl tI,.sl tI],[.sl tI]],[.sl tI],.agg [qr 0],[],[(true,.arr 3 (qm 0))],false⟩
def zce_P : List zch := []
def zce_T : zcl := tab [e_zac,e_zO]
theorem zce_To : zck pg zce_T := zci ⟨e_zac_ok,zhH,trivial⟩
theorem zce_go : zcy pg (zce_T) io_zce f_zce (zce_P) [.cellRow 64 0 600064 3 tI,.cellRen 64 0 600064] (zce) := ⟨by kernel_rfl,by kernel_rfl,fun x => by kernel_rfl⟩
theorem ok_zce : io_zce.Okay pg (F_zce) := zcu zcj (zce_To) (zce_go) trivial
theorem up_F {q : Rat} {m k n : Nat} (hq : 0 ≤ q ∧ sm n q) (hn : n ≤ 100000) (hm : m < 2 ^ k) (hk : k ≤ 1000000) (hd : q.den ∣ m) : F_zce ((rQ q).1,(rQ q).2,zcg B16 m) = some (zcg B16 (upV m q)) := by
 obtain ⟨s1,s2⟩ := hq.2
 have l1 := (zdA s1).2
 have l2 := (zdA s2).2
 have l3 := (zdA hm).2
 have hp : q.num.toNat * m < 2 ^ (n + k) := by rw [Nat.pow_add]; exact Nat.mul_lt_mul'' s1 hm
 have l4 := (zdA hp).2
 have w : ∀ v,wfd B16 (zcg B16 v) = true := fun v => zcS (by decide) v
 show (zce (zcg B16 q.num.toNat,zcg B16 q.den,zcg B16 m)).run _ = _
 rw [zce]
 simp only [RT.run,zcz (show 2 ≤ B16 by decide)]
 rw [if_pos (by rw [Bool.and_eq_true,zcV,zcV]; exact ⟨⟨by omega,w _⟩,by omega,w _⟩),if_pos (by rw [Bool.and_eq_true,Bool.and_eq_true,zcV,zcV,decide_eq_true_eq]; exact ⟨⟨by omega,w _⟩,⟨by omega,w _⟩,q.den_pos⟩)]
 unfold upV
 rw [Nat.mul_comm (m / q.den),Nat.mul_div_assoc _ hd]
def e_zce : zcq := io_zce.en F_zce
theorem e_zce_ok : e_zce.ok pg := zeS ok_zce
def zhi : ((List ((List Int) × List Int)) × (List Int)) → (Int × (List Int) × (List Int)) → RT (Int × (List Int) × (List Int)) ((List Int) × (List Int))
| (l,r64),(i,r8,r112) =>
 .rq 4 (.ite (decide (i < (l.length : Int)))
 (.rq 2 (.req (inB l i) (.rq 2 (.call (F_zce ((gI l i).1,(gI l i).2,r64)) default fun v2 =>
 .rq 4 (.req (okM 39 r112 && okM 39 v2) (.rq 2 (.req (wfd B16 v2) (.rq 8 (.req (zdK 8 r8 [if v2.length ≤ 4 then ((val B16 v2 : Nat) : Int) else 0]) (.rq 4 (.again (w64 (i + 1),r8 ++ [if v2.length ≤ 4 then ((val B16 v2 : Nat) : Int) else 0],zcg B16 (val B16 r112 + val B16 v2)))))))))))))
 (.done (r8,r112)))
def zan_p506 : zch := ⟨506,true,[.sl (.pair (.sl tI) (.sl tI)),tU,tB,tU,tU,.sl tI],[tI,.sl tU,.sl tI],⟨[.keep [0,2,4,5,6,7,8,9],.gc,.nilRow 8 800008 48 tU,.ren 8 700008,.ren 8 900008,.cellRow 64 0 600064 3 tI,.cellRow 112 0 600112 3 tI,.cellRen 64 0 600064,.cellRen 112 0 600112,.gc],[0,2,4,5,6,7,8,9],[.lf (qi 0),.lf (qp 32),.lf (qp 64),.lf (qi 1),.lf (qi 2),.lf (qp 112),.lf (qr 900008),.lf (qm 0)],[(32,true,.cells [qi 3,qi 4,.fix (.nil)]),(64,true,.cells [qr 600064]),(112,true,.cells [qr 600112]),(900008,true,.arr 48 (qm 1)),(600064,true,.arr 3 (qi 5)),(600112,true,.arr 3 (qm 2))]⟩,[⟨2,⟨[.keep [2,5,6,7,8],.gc,.nilRow 8 800008 48 tU,.ren 8 700008,.ren 8 900008,.cellRow 112 0 600112 3 tI,.cellRen 112 0 600112,.gc],[2,5,6,7,8],[.lf (qp 32),.lf (qi 1),.lf (qi 2),.lf (qp 112),.lf (qr 900008)],[(32,true,.cells [qi 3,qi 4,.fix (.nil)]),(112,true,.cells [qr 600112]),(900008,true,.arr 48 (qm 0)),(600112,true,.arr 3 (qm 1))]⟩,[.sl tU,.sl tI]⟩],(fun i => zhi (i.1,i.2.2.2.2.2))⟩
def zan : (List ((List Int) × List Int)) → RT Unit (Int × Int × Int × (List Int))
| l =>
 .rq 3 (.call (F_zbc l) default fun v0 =>
 .rq 3 (.req (wfd B16 v0) (.rq 10 (.call (lo zhi (l,v0) (0,[],[])) default fun v3 =>
 .rq 1 (.req (wfd B16 v3.2) (.rq 11 (.ite ((!(decide (v0.length ≤ 4))) || (!(decide (v3.2.length ≤ 4))))
 (.rq 3 (.done (0,0,10,[])))
 (.rq 6 (.done (if v0.length ≤ 4 then ((val B16 v0 : Nat) : Int) else 0,if v3.2.length ≤ 4 then ((val B16 v3.2 : Nat) : Int) else 0,0,v3.1))))))))))
def F_zan (x : (List ((List Int) × List Int))) : Option (Int × Int × Int × (List Int)) := (zan x).run fun _ => none
def io_zan : Io := ⟨n_zan,[.sl (.pair (.sl tI) (.sl tI))],[.lf (qm 0)],[],[[.sl (.pair (.sl tI) (.sl tI))]],[tU,tU,tI,.sl tU],.tup [(true,[qm 0,qm 1,qr 0]),(false,[qm 2])],[],[(true,.arr 48 (qm 3))],false⟩
def zan_P : List zch := [zan_p506]
def zan_T : zcl := tab [e_zce,e_zbc,e_zaV,e_zay]
theorem zan_To : zck pg zan_T := zci ⟨e_zce_ok,e_zbc_ok,e_zaV_ok,e_zay_ok,trivial⟩
theorem zan_k506 : (zan_p506).OK pg (zan_T) (zcB 63 (zan_P)) (zcs f_zan) 63 := ⟨by kernel_rfl,fun i x => by kernel_rfl⟩
theorem zan_go : zcy pg (zan_T) io_zan f_zan (zan_P) [.cellRow 32 2 600034 48 tU,.cellRen 32 2 600034] (zan) := ⟨by kernel_rfl,by kernel_rfl,fun x => by kernel_rfl⟩
theorem ok_zan : io_zan.Okay pg (F_zan) := zcu zcj (zan_To) (zan_go) ⟨zan_k506,trivial⟩
section
variable {L : List Rat} (hL : ∀ q ∈ L,0 ≤ q ∧ sm 5000 q) (hl : L.length ≤ 100)
include hL hl
theorem brR_loop {m k : Nat} (hm : m < 2 ^ k) (hk : k ≤ 600000) (hd : ∀ q ∈ L,q.den ∣ m) : ∀ (n i s u : Nat) (r : List Int),i + n = L.length → s < 2 ^ u → u + 606000 * n ≤ 100000000 → r.length ≤ i →
  lo zhi (L.map rQ,zcg B16 m) ((i : Int),r,zcg B16 s) = some (r ++ (L.drop i).map (fun q => if (zcg B16 (upV m q)).length ≤ 4 then toI (upV m q) else 0),zcg B16 (s + ((L.drop i).map (upV m)).sum))
 | 0,i,s,u,r,h,_,_,_ => by
  rw [zcr,zhi]
  simp only [RT.run,List.length_map]
  rw [if_neg (by simp; omega),List.drop_eq_nil_of_le (by omega)]
  simp
 | n + 1,i,s,u,r,h,hs,hu,hr => by
  have hi : i < L.length := by omega
  have hg : gI (L.map rQ) (i : Int) = rQ L[i] := by rw [zek rQ (by omega),zcL hi]
  have hub := up_bound hL hm (List.getElem_mem hi)
  have l1 := (zdA hub).2
  have l2 := (zdA hs).2
  have w : ∀ v,wfd B16 (zcg B16 v) = true := fun v => zcS (by decide) v
  have hs' : s + upV m L[i] < 2 ^ (u + 606000) := by
   have h1 : 2 ^ u ≤ 2 ^ (u + 605999) := Nat.pow_le_pow_right (by decide) (by omega)
   have h2 : 2 ^ (k + 5000) ≤ 2 ^ (u + 605999) := Nat.pow_le_pow_right (by decide) (by omega)
   have h3 : 2 ^ (u + 606000) = 2 ^ (u + 605999) * 2 := Nat.pow_succ ..
   omega
  have ih := brR_loop hm hk hd n (i + 1) (s + upV m L[i]) (u + 606000) (r ++ [if (zcg B16 (upV m L[i])).length ≤ 4 then toI (upV m L[i]) else 0]) (by omega) hs' (by omega) (by simp; omega)
  rw [zcr,zhi]
  simp only [RT.run,List.length_map]
  rw [if_pos (by simp; omega),if_pos (zcn.2 (by rw [List.length_map]; omega)),hg,up_F (hL _ (List.getElem_mem hi)) (by decide) hm (by omega) (hd _ (List.getElem_mem hi)),Option.bind_some,
   if_pos (by rw [Bool.and_eq_true,zcV,zcV]; exact ⟨⟨by omega,w _⟩,by omega,w _⟩),w,if_pos rfl,if_pos (zgc (by decide) (by simp; omega)),zcz (by decide),zcz (by decide),zcm (by omega),show (i : Int) + 1 = ((i + 1 : Nat) : Int) by omega]
  show lo zhi _ (_,r ++ [if (zcg B16 (upV m L[i])).length ≤ 4 then toI (upV m L[i]) else 0],_) = _
  rw [ih,List.drop_eq_getElem_cons hi,List.map_cons,List.map_cons,List.sum_cons,List.append_assoc,Nat.add_assoc]
  rfl
theorem bringR_F : F_zan (L.map rQ) = some (brV L) := by
 have hlt := lcm_lt hL
 have hdv : ∀ q ∈ L,q.den ∣ lcmV L := (lcm_dvd L 1).2
 have w : ∀ v,wfd B16 (zcg B16 v) = true := fun v => zcS (by decide) v
 have h1 := brR_loop hL hl hlt (by omega) hdv L.length 0 0 1 [] (by omega) (by decide) (by omega) (by simp)
 rw [List.drop_zero,List.nil_append,Nat.zero_add,show ((0 : Nat) : Int) = 0 from rfl] at h1
 show (zan _).run _ = _
 rw [zan]
 simp only [RT.run]
 rw [lcmL_F hL hl,Option.bind_some,w,if_pos rfl]
 show (lo zhi (_,_) (0,[],zcg B16 0)).bind _ = _
 rw [h1,Option.bind_some]
 simp only [w,if_true,zcz (show 2 ≤ B16 by decide)]
 unfold brV
 have e1 : (L.map (upV (lcmV L))).sum = (upsV L).sum := rfl
 rw [e1]
 by_cases c1 : lcmV L < 18446744073709551616
 ·by_cases c2 : (upsV L).sum < 18446744073709551616
  ·rw [if_neg (by rw [decide_eq_true ((fits16 _).2 c1),decide_eq_true ((fits16 _).2 c2)]; decide),if_pos ((fits16 _).2 c1),if_pos ((fits16 _).2 c2),if_pos (show lcmV L < 18446744073709551616 ∧ (upsV L).sum < 18446744073709551616 from ⟨c1,c2⟩)]
   congr 4
   unfold i64s upsV
   rw [List.map_map]
   refine List.map_congr_left fun q hq => ?_
   rw [if_pos ((fits16 _).2 (Nat.lt_of_le_of_lt (sum_ge (List.mem_map_of_mem hq)) c2))]
   rfl
  ·rw [if_pos (by rw [decide_eq_false (fun h => c2 ((fits16 _).1 h))]; simp),if_neg (fun h => c2 h.2)]
 ·rw [if_pos (by rw [decide_eq_false (fun h => c1 ((fits16 _).1 h))]; simp),if_neg (fun h => c1 h.1)]
end
def e_zan : zcq := io_zan.en F_zan
theorem e_zan_ok : e_zan.ok pg := zeS ok_zan
def zbJ_b58 : ((List Bool) × (List Tk) × (List Th) × (List Lk) × (List Int) × Int) → (Int × (List ((List Int) × List Int))) → RT (Int × (List ((List Int) × List Int))) (List ((List Int) × List Int))
| (s_0,s_1,s_2,s_3,s_4,s_5),(i,r4) =>
 .rq 5 (.ite (decide (i < (s_2.length : Int)))
 (.rq 3 (.req ((wOK s_0 s_1 s_2 s_3 s_4 s_5 && inB s_2 i)) (.rq 1 (let t0 := (rQ (gI (wgV s_0 s_1 s_2 s_3 s_4 s_5) i));
 let t1 := [(t0.1,t0.2)];
 .req (zdK 48 r4 t1) (.rq 4 (.again (w64 (i + 1),r4 ++ t1)))))))
 (.done r4))
def zbJ_p58 : zch := ⟨58,true,[.sl tB,.sl yK,.sl yH,.sl yL,.sl tI,tI,tU,tU],[tI,.sl (.pair (.sl tI) (.sl tI))],⟨[.keep [1,2,4,5],.gc,.nilRow 4 800004 35 (.pair (.sl tI) (.sl tI)),.ren 4 700004,.ren 4 900004,.gc],[1,2,4,5],[.lf (qp 16),.lf (qp 32),.lf (qr 900004),.lf (qm 0)],[(16,true,.cells [qi 0,qi 1,qi 2,qi 3,qi 4,qi 5]),(32,true,.cells [qi 6,qi 7,.fix (.nil)]),(900004,true,.arr 35 (qm 1))]⟩,[⟨2,⟨[.keep [2,4],.gc,.nilRow 4 800004 35 (.pair (.sl tI) (.sl tI)),.ren 4 700004,.ren 4 900004,.gc],[2,4],[.lf (qp 32),.lf (qr 900004)],[(32,true,.cells [qi 6,qi 7,.fix (.nil)]),(900004,true,.arr 35 (qm 0))]⟩,[.sl (.pair (.sl tI) (.sl tI))]⟩],(fun i => zbJ_b58 (i.1,i.2.1,i.2.2.1,i.2.2.2.1,i.2.2.2.2.1,i.2.2.2.2.2.1))⟩
def zbJ : ((List Bool) × (List Tk) × (List Th) × (List Lk) × (List Int) × Int) → RT Unit (Int × Int × Int × (List Int))
| (s_0,s_1,s_2,s_3,s_4,s_5) =>
 .rq 5 (.call (lo zbJ_b58 (s_0,s_1,s_2,s_3,s_4,s_5) (0,[])) default fun v0 =>
 .rq 1 (.call (F_zan v0) default fun v1 =>
 .rq 4 (.done (v1.1,v1.2.1,v1.2.2.1,v1.2.2.2))))
def F_zbJ (x : (List Bool) × (List Tk) × (List Th) × (List Lk) × (List Int) × Int) : Option (Int × Int × Int × (List Int)) := (zbJ x).run fun _ => none
def io_zbJ : Io := ⟨n_zbJ,[.sl tB,.sl yK,.sl yH,.sl yL,.sl tI,tI],[.agg [qm 0,qm 1,qm 2,qm 3,qm 4,qm 5]],[],[[.sl tB,.sl yK,.sl yH,.sl yL,.sl tI,tI]],[tU,tU,tI,.sl tU],.tup [(true,[qm 0,qm 1,qr 0]),(false,[qm 2])],[],[(true,.arr 48 (qm 3))],false⟩
def zbJ_P : List zch := [zbJ_p58]
def zbJ_T : zcl := tab [e_zan,e_zaX]
theorem zbJ_To : zck pg zbJ_T := zci ⟨e_zan_ok,e_zaX_ok,trivial⟩
theorem zbJ_k58 : (zbJ_p58).OK pg (zbJ_T) (zcB 23 (zbJ_P)) (zcs f_zbJ) 23 := ⟨by kernel_rfl,fun i x => by kernel_rfl⟩
theorem zbJ_go : zcy pg (zbJ_T) io_zbJ f_zbJ (zbJ_P) [.cellRow 32 2 600034 48 tU,.cellRen 32 2 600034] (zbJ) := ⟨by kernel_rfl,by kernel_rfl,fun x => by kernel_rfl⟩
theorem ok_zbJ : io_zbJ.Okay pg (F_zbJ) := zcu zcj (zbJ_To) (zbJ_go) ⟨zbJ_k58,trivial⟩
theorem of_loop {a : List Bool} {b : List Tk} {c : List Th} {d : List Lk} {e : List Int} {f : Int} (hw : wOK a b c d e f = true) : ∀ (n i : Nat),i + n = c.length → lo zbJ_b58 (a,b,c,d,e,f) ((i : Int),((wgV a b c d e f).take i).map rQ) = some ((wgV a b c d e f).map rQ)
 | 0,i,h => by
  rw [zcr,zbJ_b58]
  simp only [RT.run]
  rw [if_neg (by simp; omega),List.take_of_length_le (by rw [zfR]; omega)]
 | n + 1,i,h => by
  obtain ⟨H,h8⟩ := zdc hw
  have hlc := H.lenC
  rw [zcr,zbJ_b58]
  simp only [RT.run,pe]
  rw [if_pos (by simp; omega),hw,zcn.2 (show 0 ≤ (i : Int) ∧ (i : Int) < (c.length : Int) by omega),if_pos (by decide),if_pos (zgc (by decide) (by simp; omega)),take_rQ _ (by rw [zfR]; omega),zcm (by omega),show (i : Int) + 1 = ((i + 1 : Nat) : Int) by omega,of_loop hw n (i + 1) (by omega)]
def e_zbJ : zcq := io_zbJ.sp (fun (a,b,c,d,e,f) => (wOK a b c d e f)) (fun (a,b,c,d,e,f) => (brV (wgV a b c d e f)))
theorem sp_zbJ (h : ∀ (a : List Bool) (b : List Tk) (c : List Th) (d : List Lk) (e : List Int) (f : Int),WfT [.sl tB,.sl yK,.sl yH,.sl yL,.sl tI,tI] (a,b,c,d,e,f) → ((wOK a b c d e f)) = true → (zbJ (a,b,c,d,e,f)).run (fun _ => none) = some (brV (wgV a b c d e f))) : e_zbJ.ok pg := zcw ok_zbJ fun (a,b,c,d,e,f) hw hc => h a b c d e f hw hc
theorem e_zbJ_ok : e_zbJ.ok pg := sp_zbJ fun a b c d e f _ hc => by
 obtain ⟨H,h8⟩ := zdc hc
 have l1 := of_loop hc c.length 0 (by omega)
 rw [List.take_zero,List.map_nil,show ((0 : Nat) : Int) = 0 from rfl] at l1
 rw [zbJ]
 simp only [RT.run]
 rw [l1,Option.bind_some,bringR_F (wg_hyp H).1 (wg_hyp H).2]
 rfl
def zbZ : ((List Int) × (List Int) × (List Int) × (List Int)) → RT Unit Int
| (a_0,a_1,b_0,b_1) =>
 .rq 7 (.req (okM 38 a_0 && okM 38 b_1) (.rq 4 (.req (okM 38 b_0 && okM 38 a_1) (.req (wfd B16 (zcg B16 (val B16 a_0 * val B16 b_1)) && wfd B16 (zcg B16 (val B16 b_0 * val B16 a_1))) (.rq 1 (.done (zde ((val B16 (zcg B16 (val B16 a_0 * val B16 b_1)) : Nat) : Int) ((val B16 (zcg B16 (val B16 b_0 * val B16 a_1)) : Nat) : Int))))))))
def F_zbZ (x : (List Int) × (List Int) × (List Int) × (List Int)) : Option Int := (zbZ x).run fun _ => none
def io_zbZ : Io := ⟨n_zbZ,[.sl tI,.sl tI,.sl tI,.sl tI],[.agg [qm 0,qm 1],.agg [qm 2,qm 3]],[],[[.sl tI,.sl tI],[.sl tI,.sl tI]],[tI],.lf (qm 0),[],[],false⟩
def zbZ_P : List zch := []
def zbZ_T : zcl := tab [e_zO,e_zaq]
theorem zbZ_To : zck pg zbZ_T := zci ⟨zhH,e_zaq_ok,trivial⟩
theorem zbZ_go : zcy pg (zbZ_T) io_zbZ f_zbZ (zbZ_P) [] (zbZ) := ⟨by kernel_rfl,by kernel_rfl,fun x => by kernel_rfl⟩
theorem ok_zbZ : io_zbZ.Okay pg (F_zbZ) := zcu zcj (zbZ_To) (zbZ_go) trivial
def e_zbZ : zcq := io_zbZ.sp (fun (a0,a1,b0,b1) => (okq a0 a1 && okq b0 b1)) (fun (a0,a1,b0,b1) => (zde ((val B16 a0 * val B16 b1 : Nat) : Int) ((val B16 b0 * val B16 a1 : Nat) : Int)))
theorem sp_zbZ (h : ∀ (a0 : List Int) (a1 : List Int) (b0 : List Int) (b1 : List Int),WfT [.sl tI,.sl tI,.sl tI,.sl tI] (a0,a1,b0,b1) → ((okq a0 a1 && okq b0 b1)) = true → (zbZ (a0,a1,b0,b1)).run (fun _ => none) = some (zde ((val B16 a0 * val B16 b1 : Nat) : Int) ((val B16 b0 * val B16 a1 : Nat) : Int))) : e_zbZ.ok pg := zcw ok_zbZ fun (a0,a1,b0,b1) hw hc => h a0 a1 b0 b1 hw hc
theorem e_zbZ_ok : e_zbZ.ok pg := sp_zbZ fun a0 a1 b0 b1 _ h => by
 simp only [Bool.and_eq_true,okq_iff] at h
 obtain ⟨⟨p1,p2,p3⟩,q1,q2,q3⟩ := h
 have w : ∀ v,wfd B16 (zcg B16 v) = true := fun v => zcS (by decide) v
 rw [zbZ]
 simp only [RT.run,zcz (show 2 ≤ B16 by decide),w]
 rw [if_pos (by rw [zec (by decide) p1,zec (by decide) q2]; rfl),if_pos (by rw [zec (by decide) q1,zec (by decide) p2]; rfl),if_pos (by decide)]
section
variable {a : List Bool} {b : List Tk} {c : List Th} {d : List Lk} {e : List Int} {f : Int}
end
end
end Go.Proofs.YtlfdidaeachpoaaGreat
namespace Go.Proofs.YtlfdidaeachpoaaGreat
open Go Go.RowKit
set_option maxRecDepth 100000
noncomputable section
def pickG : List Nat → Nat → Nat → Int
 | [],_,_ => -1
 | w :: l,r,i => if r < w then (i : Int) else pickG l (r - w) (i + 1)
def toNs (l : List Int) : List Nat := l.map Int.toNat
theorem toNs_toI' (l : List Nat) : toNs (l.map toI) = l := by
 unfold toNs
 rw [List.map_map]
 conv => rhs; rw [← List.map_id l]
 exact List.map_congr_left fun x _ => Int.toNat_natCast x
abbrev Br := Int × Int × Int × List Int
theorem brV_sum (L : List Rat) (hL : L.length ≤ 100) : (brV L).2.2.2.length ≤ 100000 ∧ (toNs (brV L).2.2.2).sum < 18446744073709551616 ∧ ((brV L).2.2.1 = 0 → ((toNs (brV L).2.2.2).sum : Int) = (brV L).2.1 ∧ (brV L).2.2.2.length = L.length ∧ ∀ x ∈ (brV L).2.2.2,0 ≤ x ∧ x < 18446744073709551616) := by
 unfold brV
 by_cases h : lcmV L < 18446744073709551616 ∧ (upsV L).sum < 18446744073709551616
 ·rw [if_pos h]
  have e : toNs (i64s (upsV L)) = upsV L := toNs_toI' _
  simp only
  rw [e]
  refine ⟨by simp [i64s,upsV]; omega,h.2,fun _ => ⟨rfl,by simp [i64s,upsV],fun x hx => ?_⟩⟩
  obtain ⟨w,hw,rfl⟩ := List.mem_map.1 hx
  have := sum_ge hw
  omega
 ·rw [if_neg h]
  exact ⟨by simp,by decide,fun h => by cases h⟩
def opB (x : Br) : Br := if ((x.2.2.1 == 0) && (x.2.1 == 0)) = true then (x.1,x.2.1,16,x.2.2.2) else x
def lottery_At : ((List Bool) × (List Tk) × (List Th) × (List Lk) × (List Int) × Int × Int) → RT Unit (Int × Int)
| (s_0,s_1,s_2,s_3,s_4,s_5,r) =>
 .rq 4 (.req ((wOK s_0 s_1 s_2 s_3 s_4 s_5)) (.rq 8 (let t0 := (opB (brV (wgV s_0 s_1 s_2 s_3 s_4 s_5)));
 .ite (t0.2.2.1 != 0)
 (.rq 3 (.done ((-1),t0.2.2.1)))
 (.rq 3 (.req ((decide (t0.2.2.2.length ≤ 100000) && decide ((toNs t0.2.2.2).sum < 18446744073709551616))) (.rq 7 (.ite (!(decide (0 ≤ pickG (toNs t0.2.2.2) r.toNat 0)))
 (.rq 2 (.done ((-1),1)))
 (.rq 3 (.done (pickG (toNs t0.2.2.2) r.toNat 0,0))))))))))
def chM (p q : Rat) : Rat := mkRat ((p.num.toNat * q.den : Nat) : Int) (p.den * q.num.toNat)
def chV (L : List Rat) (i : Int) : Rat := if (inB L i && decide (zcK L ≠ 0)) = true then chM (gI L i) (zcK L) else 0
theorem wg_sum {a : List Bool} {b : List Tk} {c : List Th} {d : List Lk} {e : List Int} {f : Int} (H : zcv a b c d e f) : 0 ≤ zcK (wgV a b c d e f) ∧ sm 20000 (zcK (wgV a b c d e f)) := by
 obtain ⟨h1,h2⟩ := rsum_sm H.wg_mem
 have hlc := H.lenC
 exact ⟨h1,zeR (by rw [zfR]; omega) h2⟩
theorem num_zero {q : Rat} (h : 0 ≤ q) : q.num.toNat = 0 ↔ q = 0 := by
 have h1 := Rat.num_nonneg.2 h
 rw [← Rat.num_eq_zero]
 omega
theorem chM_sm {p q : Rat} {m n : Nat} (hp : sm m p) (hq0 : 0 ≤ q) (hq : sm n q) (hne : q ≠ 0) : 0 ≤ chM p q ∧ sm (m + n) (chM p q) := by
 have h1 := Nat.mul_lt_mul'' hp.1 hq.2
 have h2 := Nat.mul_lt_mul'' hp.2 hq.1
 rw [← Nat.pow_add] at h1 h2
 exact ⟨zfh _ _,zfX (Nat.mul_ne_zero p.den_nz (fun h => hne ((num_zero hq0).1 h))) h1 h2⟩
theorem ch_sm {a : List Bool} {b : List Tk} {c : List Th} {d : List Lk} {e : List Int} {f : Int} (H : zcv a b c d e f) (i : Int) : 0 ≤ chV (wgV a b c d e f) i ∧ sm 21000 (chV (wgV a b c d e f) i) := by
 unfold chV
 split
 ·rename_i h
  rw [Bool.and_eq_true,decide_eq_true_eq] at h
  obtain ⟨s1,s2⟩ := wg_sum H
  have hi := zcn.1 h.1
  rw [zfR] at hi
  obtain ⟨h1,h2⟩ := chM_sm (H.wg_sm hi).2 s1 s2 h.2
  exact ⟨h1,zeR (by decide) h2⟩
 ·exact ⟨by decide,zhz _ (by decide)⟩
def zby : ((List Int) × (List Int) × (List Int) × (List Int)) → RT Unit (Bool × (List Int) × (List Int))
| (a_0,a_1,b_0,b_1) =>
 .rq 9 (.req (okMs [a_0,b_1]) (.rq 5 (.req (okMs [a_1,b_0]) (let t0 := zcg B32 (zeB [a_0,b_1]);
 let t1 := zcg B32 (zeB [a_1,b_0]);
 .req (okL 36 t0 && okL 36 t1) (.rq 4 (let t2 := mkR (val B32 t0) (val B32 t1);
 .done (t2.1,t2.2.1,t2.2.2)))))))
def F_zby (x : (List Int) × (List Int) × (List Int) × (List Int)) : Option (Bool × (List Int) × (List Int)) := (zby x).run fun _ => none
def io_zby : Io := ⟨n_zby,[.sl tV,.sl tV,.sl tV,.sl tV],[.agg [qm 0,qm 1],.agg [qm 2,qm 3]],[],[[.sl tV,.sl tV],[.sl tV,.sl tV]],[tB,.sl tV,.sl tV],.tup [(true,[qr 0,qr 1]),(false,[qm 0])],[],[(true,.arr 122 (qm 1)),(true,.arr 122 (qm 2))],false⟩
def zby_P : List zch := []
def zby_T : zcl := tab [e_zaA,e_zaz]
theorem zby_To : zck pg zby_T := zci ⟨e_zaA_ok,zhY,trivial⟩
theorem zby_go : zcy pg (zby_T) io_zby f_zby (zby_P) [.cellRow 64 0 600064 122 tV,.cellRow 64 1 600065 122 tV,.cellRen 64 0 600064,.cellRen 64 1 600065] (zby) := ⟨by kernel_rfl,by kernel_rfl,fun x => by kernel_rfl⟩
theorem ok_zby : io_zby.Okay pg (F_zby) := zcu zcj (zby_To) (zby_go) trivial
theorem div_F {p q : Rat} {m n : Nat} (hp : sm m p) (hq : sm n q) (hm : m ≤ 1000000) (hn : n ≤ 1000000) : F_zby ((rq p).1,(rq p).2,(rq q).1,(rq q).2) = some (mkR (p.num.toNat * q.den) (p.den * q.num.toNat)) := by
 have l1 := rq_len hp
 have l2 := rq_len hq
 have m1 := zia (a := (rq p).1) (b := (rq q).2) (zcS (by decide) _) (zcS (by decide) _)
 have m2 := zia (a := (rq p).2) (b := (rq q).1) (zcS (by decide) _) (zcS (by decide) _)
 rw [rq_num,rq_den] at m1 m2
 show (zby _).run _ = _
 rw [zby]
 simp only [RT.run,prod2,zcz (show 2 ≤ B32 by decide),rq_num,rq_den]
 rw [if_pos (by rw [zeX]; simp [lenS]; omega),if_pos (by rw [zeX]; simp [lenS]; omega),if_pos (by rw [Bool.and_eq_true,okL36,okL36]; omega)]
def e_zby : zcq := io_zby.en F_zby
theorem e_zby_ok : e_zby.ok pg := zeS ok_zby
def zU : ((List Bool) × (List Tk) × (List Th) × (List Lk) × (List Int) × Int × Int) → RT Unit ((List Int) × (List Int))
| (s_0,s_1,s_2,s_3,s_4,s_5,i) =>
 .rq 3 (.req ((wOK s_0 s_1 s_2 s_3 s_4 s_5)) (.rq 9 (let t0 := ((wgV s_0 s_1 s_2 s_3 s_4 s_5).map rq);
 .ite ((decide (i < 0)) || (decide ((t0.length : Int) ≤ i)))
 (.rq 2 (.done ([],zcg B32 1)))
 (.rq 2 (.req (inB t0 i) (.rq 2 (.req (okS t0) (let t1 := rq (sumQ t0);
 let t2 := gI t0 i;
 .call (F_zby (t2.1,t2.2,t1.1,t1.2)) default fun v0 =>
 .rq 8 (.ite (!v0.1)
 (.rq 2 (.done ([],zcg B32 1)))
 (.rq 2 (.done (v0.2.1,v0.2.2))))))))))))
def F_zU (x : (List Bool) × (List Tk) × (List Th) × (List Lk) × (List Int) × Int × Int) : Option ((List Int) × (List Int)) := (zU x).run fun _ => none
def io_zU : Io := ⟨n_zU,[.sl tB,.sl yK,.sl yH,.sl yL,.sl tI,tI,tI],[.agg [qm 0,qm 1,qm 2,qm 3,qm 4,qm 5],.lf (qm 6)],[],[[.sl tB,.sl yK,.sl yH,.sl yL,.sl tI,tI],[tI]],[.sl tV,.sl tV],.agg [qr 0,qr 1],[],[(true,.arr 122 (qm 0)),(true,.arr 122 (qm 1))],false⟩
def zU_P : List zch := []
def zU_T : zcl := tab [e_zby,e_zy,e_zX,e_zag]
theorem zU_To : zck pg zU_T := zci ⟨e_zby_ok,e_zy_ok,e_zX_ok,zgp,trivial⟩
theorem zU_go : zcy pg (zU_T) io_zU f_zU (zU_P) [.cellRow 64 0 600064 122 tV,.cellRow 64 1 600065 122 tV,.cellRen 64 0 600064,.cellRen 64 1 600065] (zU) := ⟨by kernel_rfl,by kernel_rfl,fun x => by kernel_rfl⟩
theorem ok_zU : io_zU.Okay pg (F_zU) := zcu zcj (zU_To) (zU_go) trivial
def e_zU : zcq := io_zU.sp (fun (a,b,c,d,e,f,i) => (wOK a b c d e f)) (fun (a,b,c,d,e,f,i) => (rq (chV (wgV a b c d e f) i)))
theorem sp_zU (h : ∀ (a : List Bool) (b : List Tk) (c : List Th) (d : List Lk) (e : List Int) (f : Int) (i : Int),WfT [.sl tB,.sl yK,.sl yH,.sl yL,.sl tI,tI,tI] (a,b,c,d,e,f,i) → ((wOK a b c d e f)) = true → (zU (a,b,c,d,e,f,i)).run (fun _ => none) = some (rq (chV (wgV a b c d e f) i))) : e_zU.ok pg := zcw ok_zU fun (a,b,c,d,e,f,i) hw hc => h a b c d e f i hw hc
theorem e_zU_ok : e_zU.ok pg := sp_zU fun a b c d e f i _ hc => by
 obtain ⟨H,h8⟩ := zdc hc
 have hlc := H.lenC
 obtain ⟨s1,s2⟩ := wg_sum H
 rw [zU]
 simp only [RT.run]
 rw [if_pos hc,List.length_map]
 unfold chV
 cases hin : inB (wgV a b c d e f) i with
 | false =>
  rw [if_pos]
  ·rfl
  ·unfold inB at hin
   simp only [Bool.and_eq_false_iff,decide_eq_false_iff_not] at hin
   simp only [Bool.or_eq_true,decide_eq_true_eq]
   omega
 | true =>
  have hi := zcn.1 hin
  have hi' : 0 ≤ i ∧ i < (c.length : Int) := by rw [← zfR (a := a) (b := b) (c := c) (d := d) (e := e) (f := f)]; exact hi
  rw [if_neg (by simp; omega),if_pos (zcn.2 (by rw [List.length_map]; exact hi)),okS_map (n := 510) (fun q hq => (H.wg_mem q hq).2) (wg_hyp H).2 (by decide),if_pos rfl,sumQ_map fun q hq => (H.wg_mem q hq).1,zek rq hi,div_F (H.wg_sm hi').2 s2 (by decide) (by decide),Option.bind_some]
  unfold mkR chM
  by_cases hz : zcK (wgV a b c d e f) = 0
  ·have hd : (gI (wgV a b c d e f) i).den * (zcK (wgV a b c d e f)).num.toNat = 0 := by rw [hz]; simp
   rw [if_pos hd,if_pos (by decide),if_neg (by rw [decide_eq_false (fun h => h hz)]; decide)]
   rfl
  ·have hne : (gI (wgV a b c d e f) i).den * (zcK (wgV a b c d e f)).num.toNat ≠ 0 := Nat.mul_ne_zero (gI (wgV a b c d e f) i).den_nz (fun h => hz ((num_zero s1).1 h))
   rw [if_neg hne,if_neg (by simp),if_pos (by rw [decide_eq_true hz]; rfl)]
def zbH : ((List Int) × (List Int)) → RT Unit Bool
| (q_0,q_1) =>
 .rq 8 (.done ((q_0.length : Int) == 0))
def F_zbH (x : (List Int) × (List Int)) : Option Bool := (zbH x).run fun _ => none
def io_zbH : Io := ⟨n_zbH,[.sl tI,.sl tI],[.agg [qm 0,qm 1]],[],[[.sl tI,.sl tI]],[tB],.lf (qm 0),[],[],false⟩
def zbH_P : List zch := []
def zbH_T : zcl := tab []
theorem zbH_To : zck pg zbH_T := zci trivial
theorem zbH_go : zcy pg (zbH_T) io_zbH f_zbH (zbH_P) [] (zbH) := ⟨by kernel_rfl,by kernel_rfl,fun x => by kernel_rfl⟩
theorem ok_zbH : io_zbH.Okay pg (F_zbH) := zcu zcj (zbH_To) (zbH_go) trivial
def e_zbH : zcq := io_zbH.sp (fun (x,y) => true) (fun (x,y) => ((x.length : Int) == 0))
theorem sp_zbH (h : ∀ (x : List Int) (y : List Int),WfT [.sl tI,.sl tI] (x,y) → (zbH (x,y)).run (fun _ => none) = some ((x.length : Int) == 0)) : e_zbH.ok pg := zcw ok_zbH fun (x,y) hw hc => h x y hw
theorem e_zbH_ok : e_zbH.ok pg := sp_zbH fun x y _ => by
 rw [zbH]; rfl
def zcb : ((List Int) × (List Int) × (List Int) × (List Int)) → RT Unit ((List Int) × (List Int))
| (a_0,a_1,b_0,b_1) =>
 .rq 7 (.req (okM 38 a_0 && okM 38 b_1) (.rq 4 (.req (okM 38 a_1 && okM 38 b_0) (.rq 1 (.req (isM 36 (zcg B16 (val B16 a_0 * val B16 b_1)) && (isM 36 (zcg B16 (val B16 a_1 * val B16 b_0)) && decide (val B16 (zcg B16 (val B16 a_1 * val B16 b_0)) ≠ 0))) (.rq 1 (let t0 := rQ (zdl (zcg B16 (val B16 a_0 * val B16 b_1)) (zcg B16 (val B16 a_1 * val B16 b_0)));
 .done (t0.1,t0.2))))))))
def F_zcb (x : (List Int) × (List Int) × (List Int) × (List Int)) : Option ((List Int) × (List Int)) := (zcb x).run fun _ => none
def io_zcb : Io := ⟨n_zcb,[.sl tI,.sl tI,.sl tI,.sl tI],[.agg [qm 0,qm 1],.agg [qm 2,qm 3]],[],[[.sl tI,.sl tI],[.sl tI,.sl tI]],[.sl tI,.sl tI],.agg [qr 0,qr 1],[],[(true,.arr 3 (qm 0)),(true,.arr 3 (qm 1))],false⟩
def zcb_P : List zch := []
def zcb_T : zcl := tab [e_zbL,e_zO]
theorem zcb_To : zck pg zcb_T := zci ⟨e_zbL_ok,zhH,trivial⟩
theorem zcb_go : zcy pg (zcb_T) io_zcb f_zcb (zcb_P) [.cellRow 64 0 600064 3 tI,.cellRow 64 1 600065 3 tI,.cellRen 64 0 600064,.cellRen 64 1 600065] (zcb) := ⟨by kernel_rfl,by kernel_rfl,fun x => by kernel_rfl⟩
theorem ok_zcb : io_zcb.Okay pg (F_zcb) := zcu zcj (zcb_To) (zcb_go) trivial
theorem divR_F {p q : Rat} {m n : Nat} (hp : sm m p) (hq : sm n q) (hm : m ≤ 1000000) (hn : n ≤ 1000000) (h0 : 0 ≤ q) (hne : q ≠ 0) : F_zcb ((rQ p).1,(rQ p).2,(rQ q).1,(rQ q).2) = some (rQ (chM p q)) := by
 have l1 := zdA hp.1
 have l2 := zdA hp.2
 have l3 := zdA hq.1
 have l4 := zdA hq.2
 have h1 := Nat.mul_lt_mul'' hp.1 hq.2
 have h2 := Nat.mul_lt_mul'' hp.2 hq.1
 rw [← Nat.pow_add] at h1 h2
 have l5 := zdA h1
 have l6 := zdA h2
 have w : ∀ v,wfd B16 (zcg B16 v) = true := fun v => zcS (by decide) v
 have hz : p.den * q.num.toNat ≠ 0 := Nat.mul_ne_zero p.den_nz (fun h => hne ((num_zero h0).1 h))
 show (zcb (zcg B16 p.num.toNat,zcg B16 p.den,zcg B16 q.num.toNat,zcg B16 q.den)).run _ = _
 rw [zcb]
 simp only [RT.run,zcz (show 2 ≤ B16 by decide)]
 rw [if_pos (by rw [Bool.and_eq_true,zcV,zcV]; exact ⟨⟨by omega,w _⟩,by omega,w _⟩),if_pos (by rw [Bool.and_eq_true,zcV,zcV]; exact ⟨⟨by omega,w _⟩,by omega,w _⟩),
  if_pos (by rw [zgl (by omega),zgl (by omega),decide_eq_true hz]; rfl)]
 unfold zdl chM
 rw [zcz (by decide),zcz (by decide)]
def e_zcb : zcq := io_zcb.en F_zcb
theorem e_zcb_ok : e_zcb.ok pg := zeS ok_zcb
def zY_b58 : ((List Bool) × (List Tk) × (List Th) × (List Lk) × (List Int) × Int) → (Int × (List Int) × (List Int)) → RT (Int × (List Int) × (List Int)) ((List Int) × (List Int))
| (s_0,s_1,s_2,s_3,s_4,s_5),(k,r80,r81) =>
 .rq 5 (.ite (decide (k < (s_2.length : Int)))
 (.rq 3 (.req ((wOK s_0 s_1 s_2 s_3 s_4 s_5 && inB s_2 k)) (let t0 := (rQ (gI (wgV s_0 s_1 s_2 s_3 s_4 s_5) k));
 .req (okq r80 r81 && okq t0.1 t0.2) (.rq 4 (let t1 := rQ (zdl r80 r81 + zdl t0.1 t0.2);
 .again (w64 (k + 1),t1.1,t1.2))))))
 (.done (r80,r81)))
def zY_p58 : zch := ⟨58,true,[tI,.sl tB,.sl yK,.sl yH,.sl yL,.sl tI,tI],[tI,.sl tI,.sl tI],⟨[.keep [1,2,4,5,6],.gc,.cellRow 80 0 600080 3 tI,.cellRow 80 1 600081 3 tI,.cellRen 80 0 600080,.cellRen 80 1 600081,.gc],[1,2,4,5,6],[.lf (qi 0),.lf (qp 32),.lf (qp 64),.lf (qp 80),.lf (qm 0)],[(32,true,.cells [qi 1,qi 2,qi 3,qi 4,qi 5,qi 6]),(64,true,.cells [.fix (.nil),.fix (.nil)]),(80,true,.cells [qr 600080,qr 600081]),(600080,true,.arr 3 (qm 1)),(600081,true,.arr 3 (qm 2))]⟩,[⟨2,⟨[.keep [1,2,4,5],.gc,.cellRow 80 0 600080 3 tI,.cellRow 80 1 600081 3 tI,.cellRen 80 0 600080,.cellRen 80 1 600081,.gc],[1,2,4,5],[.lf (qi 0),.lf (qp 32),.lf (qp 64),.lf (qp 80)],[(32,true,.cells [qi 1,qi 2,qi 3,qi 4,qi 5,qi 6]),(64,true,.cells [.fix (.nil),.fix (.nil)]),(80,true,.cells [qr 600080,qr 600081]),(600080,true,.arr 3 (qm 0)),(600081,true,.arr 3 (qm 1))]⟩,[.sl tI,.sl tI]⟩],(fun i => zY_b58 (i.2.1,i.2.2.1,i.2.2.2.1,i.2.2.2.2.1,i.2.2.2.2.2.1,i.2.2.2.2.2.2))⟩
def zY : ((List Bool) × (List Tk) × (List Th) × (List Lk) × (List Int) × Int × Int) → RT Unit ((List Int) × (List Int))
| (s_0,s_1,s_2,s_3,s_4,s_5,i) =>
 .rq 6 (.call (lo zY_b58 (s_0,s_1,s_2,s_3,s_4,s_5) (0,(rQ (((0 : Int).toNat : Nat) : Rat)).1,(rQ (((0 : Int).toNat : Nat) : Rat)).2)) default fun v0 =>
 .rq 13 (.ite (((decide (i < 0)) || (decide ((s_2.length : Int) ≤ i))) || (((v0.1.length : Int) == 0)))
 (.rq 2 (.done ((rQ (((0 : Int).toNat : Nat) : Rat)).1,(rQ (((0 : Int).toNat : Nat) : Rat)).2)))
 (.rq 2 (.req ((wOK s_0 s_1 s_2 s_3 s_4 s_5 && inB s_2 i)) (.rq 1 (let t0 := (rQ (gI (wgV s_0 s_1 s_2 s_3 s_4 s_5) i));
 .call (F_zcb (t0.1,t0.2,v0.1,v0.2)) default fun v1 =>
 .rq 1 (.done (v1.1,v1.2))))))))
def F_zY (x : (List Bool) × (List Tk) × (List Th) × (List Lk) × (List Int) × Int × Int) : Option ((List Int) × (List Int)) := (zY x).run fun _ => none
def io_zY : Io := ⟨n_zY,[.sl tB,.sl yK,.sl yH,.sl yL,.sl tI,tI,tI],[.agg [qm 0,qm 1,qm 2,qm 3,qm 4,qm 5],.lf (qm 6)],[],[[.sl tB,.sl yK,.sl yH,.sl yL,.sl tI,tI],[tI]],[.sl tI,.sl tI],.agg [qr 0,qr 1],[],[(true,.arr 3 (qm 0)),(true,.arr 3 (qm 1))],false⟩
def zY_P : List zch := [zY_p58]
def zY_T : zcl := tab [e_zcb,e_zbH,e_zaX,e_zbK,e_zbs]
theorem zY_To : zck pg zY_T := zci ⟨e_zcb_ok,e_zbH_ok,e_zaX_ok,e_zbK_ok,zhn,trivial⟩
theorem zY_k58 : (zY_p58).OK pg (zY_T) (zcB 39 (zY_P)) (zcs f_zY) 39 := ⟨by kernel_rfl,fun i x => by kernel_rfl⟩
theorem zY_go : zcy pg (zY_T) io_zY f_zY (zY_P) [.cellRow 64 0 600064 3 tI,.cellRow 64 1 600065 3 tI,.cellRen 64 0 600064,.cellRen 64 1 600065] (zY) := ⟨by kernel_rfl,by kernel_rfl,fun x => by kernel_rfl⟩
theorem ok_zY : io_zY.Okay pg (F_zY) := zcu zcj (zY_To) (zY_go) ⟨zY_k58,trivial⟩
theorem chR_loop {a : List Bool} {b : List Tk} {c : List Th} {d : List Lk} {e : List Int} {f : Int} (hw : wOK a b c d e f = true) : ∀ (n i m : Nat) (q : Rat),i + n = c.length → 0 ≤ q → sm m q → m + 511 * n ≤ 100000 →
  lo zY_b58 (a,b,c,d,e,f) ((i : Int),(rQ q).1,(rQ q).2) = some (rQ (q + zcK ((wgV a b c d e f).drop i)))
 | 0,i,m,q,h,_,_,_ => by
  rw [zcr,zY_b58]
  simp only [RT.run]
  rw [if_neg (by simp; omega),List.drop_eq_nil_of_le (by rw [zfR]; omega)]
  show some (rQ q) = some (rQ (q + 0))
  rw [Rat.add_zero]
 | n + 1,i,m,q,h,h0,hm,hb => by
  obtain ⟨H,h8⟩ := zdc hw
  have hlc := H.lenC
  have hi : 0 ≤ (i : Int) ∧ (i : Int) < (c.length : Int) := by omega
  have hil : i < (wgV a b c d e f).length := by rw [zfR]; omega
  obtain ⟨s2,s3⟩ := H.wg_sm hi
  have ih := chR_loop hw n (i + 1) _ (q + gI (wgV a b c d e f) (i : Int)) (by omega) (Rat.add_nonneg h0 s2) (sm_add h0 s2 hm s3) (by omega)
  rw [zcr,zY_b58]
  simp only [RT.run]
  rw [if_pos (by simp; omega),hw,zcn.2 hi,if_pos (by decide),zeZ hm (by omega),zeZ s3 (by decide),if_pos (by decide),zcm (by omega),show (i : Int) + 1 = ((i + 1 : Nat) : Int) by omega,zeq h0,zeq s2]
  show lo zY_b58 _ (_,(rQ (q + gI (wgV a b c d e f) (i : Int))).1,(rQ (q + gI (wgV a b c d e f) (i : Int))).2) = _
  rw [ih,List.drop_eq_getElem_cons hil,zcT,zcL hil,Rat.add_assoc]
def e_zY : zcq := io_zY.sp (fun (a,b,c,d,e,f,i) => (wOK a b c d e f)) (fun (a,b,c,d,e,f,i) => (rQ (chV (wgV a b c d e f) i)))
theorem sp_zY (h : ∀ (a : List Bool) (b : List Tk) (c : List Th) (d : List Lk) (e : List Int) (f : Int) (i : Int),WfT [.sl tB,.sl yK,.sl yH,.sl yL,.sl tI,tI,tI] (a,b,c,d,e,f,i) → ((wOK a b c d e f)) = true → (zY (a,b,c,d,e,f,i)).run (fun _ => none) = some (rQ (chV (wgV a b c d e f) i))) : e_zY.ok pg := zcw ok_zY fun (a,b,c,d,e,f,i) hw hc => h a b c d e f i hw hc
theorem e_zY_ok : e_zY.ok pg := sp_zY fun a b c d e f i _ hc => by
 obtain ⟨H,h8⟩ := zdc hc
 have hlc := H.lenC
 obtain ⟨s1,s2⟩ := wg_sum H
 have hl := chR_loop hc c.length 0 1 0 (by omega) (by decide) (zhz _ (by decide)) (by omega)
 rw [show ((0 : Nat) : Int) = 0 from rfl,List.drop_zero,Rat.zero_add] at hl
 rw [zY]
 simp only [RT.run]
 show (lo zY_b58 _ (0,(rQ 0).1,(rQ 0).2)).bind _ = _
 rw [hl,Option.bind_some]
 have hzz : (((rQ (zcK (wgV a b c d e f))).1.length : Int) == 0) = decide (zcK (wgV a b c d e f) = 0) := by
  rw [Bool.eq_iff_iff,beq_iff_eq,decide_eq_true_eq,← num_zero s1]
  show ((zcg 65536 (zcK (wgV a b c d e f)).num.toNat).length : Int) = 0 ↔ _
  rw [show ((zcg 65536 (zcK (wgV a b c d e f)).num.toNat).length : Int) = 0 ↔ (zcg 65536 (zcK (wgV a b c d e f)).num.toNat).length = 0 by omega]
  exact digs_nil (by decide)
 simp only [hzz]
 unfold chV
 have hinn : inB (wgV a b c d e f) i = inB c i := by unfold inB; rw [zfR]
 rw [hinn]
 cases hin : inB c i with
 | false =>
  have ho : (decide (i < 0) || decide ((c.length : Int) ≤ i)) = true := by
   unfold inB at hin
   simp only [Bool.and_eq_false_iff,decide_eq_false_iff_not] at hin
   simp only [Bool.or_eq_true,decide_eq_true_eq]
   omega
  rw [ho]
  simp
 | true =>
  have hi := zcn.1 hin
  have ho : (decide (i < 0) || decide ((c.length : Int) ≤ i)) = false := by simp; omega
  rw [ho]
  by_cases hz : zcK (wgV a b c d e f) = 0
  ·simp [hz]
  ·have hd : decide (zcK (wgV a b c d e f) = 0) = false := decide_eq_false hz
   rw [hd,hc]
   simp only [Bool.not_false,Bool.or_true,Bool.or_self,Bool.and_self,if_true,Bool.false_eq_true,if_false]
   rw [divR_F (H.wg_sm hi).2 s2 (by decide) (by decide) s1 hz,if_pos (by simp [hz])]
   rfl
end
end Go.Proofs.YtlfdidaeachpoaaGreat
namespace Go.Proofs.YtlfdidaeachpoaaGreat
open Go
end Go.Proofs.YtlfdidaeachpoaaGreat
namespace Go.Proofs.YtlfdidaeachpoaaGreat
open Go Go.RowKit
set_option maxRecDepth 100000
noncomputable section
def zbu : Int → RT Unit Int
| t =>
 .rq 3 (.ite (t == 0)
 (.rq 1 (.done 0))
 (.rq 3 (.req (t != 0) (.rq 1 (.done (Int.tmod (zcx (0 - t)) t))))))
def F_zbu (x : Int) : Option Int := (zbu x).run fun _ => none
def io_zbu : Io := ⟨n_zbu,[tU],[.lf (qm 0)],[],[[tU]],[tU],.lf (qm 0),[],[],false⟩
def zbu_P : List zch := []
def zbu_T : zcl := tab []
theorem zbu_To : zck pg zbu_T := zci trivial
theorem zbu_go : zcy pg (zbu_T) io_zbu f_zbu (zbu_P) [] (zbu) := ⟨by kernel_rfl,by kernel_rfl,fun x => by kernel_rfl⟩
theorem ok_zbu : io_zbu.Okay pg (F_zbu) := zcu zcj (zbu_To) (zbu_go) trivial
def restV (t : Int) : Int := if (t == 0) = true then 0 else 18446744073709551616 % t
def e_zbu : zcq := io_zbu.sp (fun t => true) (fun t => (restV t))
theorem sp_zbu (h : ∀ (t : Int),WfT [tU] t → (zbu t).run (fun _ => none) = some (restV t)) : e_zbu.ok pg := zcw ok_zbu fun t hw hc => h t hw
theorem e_zbu_ok : e_zbu.ok pg := sp_zbu fun t hw => by
 have ht : 0 ≤ t ∧ t < 18446744073709551616 := hw
 rw [zbu]
 simp only [RT.run]
 unfold restV
 by_cases h0 : t = 0
 ·have hb : (t == 0) = true := by simpa using h0
  rw [hb,if_pos rfl,if_pos rfl]
 ·have hb : (t == 0) = false := by simpa using h0
  rw [hb,if_neg (by decide),if_pos (by simpa using h0),if_neg (by decide)]
  have e1 : zcx (0 - t) = 18446744073709551616 - t := by rw [zhG]; omega
  rw [e1,Int.tmod_eq_emod_of_nonneg (by omega),Int.sub_emod_right]
def zbC : Unit → RT Unit (List Int)
| _ =>
 .rq 4 (.done [0,0,0,0,1])
def F_zbC (x : Unit) : Option (List Int) := (zbC x).run fun _ => none
def io_zbC : Io := ⟨n_zbC,[],[],[],[],[.sl tI],.agg [qr 0],[],[(true,.arr 3 (qm 0))],false⟩
def zbC_P : List zch := []
def zbC_T : zcl := tab []
theorem zbC_To : zck pg zbC_T := zci trivial
theorem zbC_go : zcy pg (zbC_T) io_zbC f_zbC (zbC_P) [.cellRow 0 0 600000 3 tI,.cellRen 0 0 600000] (zbC) := ⟨by kernel_rfl,by kernel_rfl,fun x => by kernel_rfl⟩
theorem ok_zbC : io_zbC.Okay pg (F_zbC) := zcu zcj (zbC_To) (zbC_go) trivial
def e_zbC : zcq := io_zbC.sp (fun _ => true) (fun _ => [0,0,0,0,1])
theorem sp_zbC (h : (zbC ()).run (fun _ => none) = some [0,0,0,0,1]) : e_zbC.ok pg := zcw ok_zbC fun _ _ hc => h
theorem e_zbC_ok : e_zbC.ok pg := sp_zbC (by rw [zbC]; rfl)
theorem whole_val : val B16 [0,0,0,0,1] = 18446744073709551616 := by decide
end
end Go.Proofs.YtlfdidaeachpoaaGreat
namespace Go.Proofs.YtlfdidaeachpoaaGreat
open Go Go.RowKit
set_option maxRecDepth 100000
noncomputable section
theorem ibit_and1 {x : Nat} (hx : x < 2 ^ 64) : zdy .and .u64 (x : Int) 1 = ((x % 2 : Nat) : Int) := by
 unfold zdy
 have e : ∀ z : Nat,z < 2 ^ 64 → (BitVec.ofInt IntKind.u64.bits (z : Int)).toNat = z := fun z hz => by
  rw [BitVec.toNat_ofInt]
  have : (2 : Nat) ^ IntKind.u64.bits = 18446744073709551616 := rfl
  rw [this]
  omega
 have e2 : (BitVec.ofInt IntKind.u64.bits (1 : Int)).toNat = 1 := e 1 (by decide)
 simp only [BitVec.toNat_and,e x hx,e2]
 have h := Nat.and_two_pow_sub_one_eq_mod x 1
 rw [show (2 : Nat) ^ 1 - 1 = 1 from rfl,show (2 : Nat) ^ 1 = 2 from rfl] at h
 rw [h,u64_in]
 omega
theorem shl_w (x : Nat) (j : Nat) (h : j ≤ 64) : shlI .u64 (x : Int) (j : Int) = (((x * 2 ^ j) % 18446744073709551616 : Nat) : Int) := by
 unfold shlI
 rw [Int.toNat_natCast,show min j IntKind.u64.bits = j from Nat.min_eq_left h]
 have e : (x : Int) * 2 ^ j = ((x * 2 ^ j : Nat) : Int) := by rw [Int.natCast_mul,Int.natCast_pow]; rfl
 rw [e]
 show zcx _ = _
 rw [zhG]
 omega
theorem or_even {x y : Nat} (hy : y < 2) : 2 * x ||| y = 2 * x + y := by
 have := Nat.two_pow_add_eq_or_of_lt (i := 1) (b := y) (by omega) x
 rw [show (2 : Nat) ^ 1 = 2 from rfl] at this
 exact this.symm
theorem dbl {x y : Nat} (hx : x < 18446744073709551616) (hy : y < 2) : zdy .or .u64 (shlI .u64 (x : Int) 1) (y : Int) = (((x * 2) % 18446744073709551616 + y : Nat) : Int) := by
 have h := shl_w x 1 (by decide)
 rw [show ((1 : Nat) : Int) = 1 from rfl,show (2 : Nat) ^ 1 = 2 from rfl] at h
 have e : (x * 2) % 18446744073709551616 = 2 * (x % 9223372036854775808) := by omega
 rw [h,e,ibit_or (by omega) (by omega),or_even hy]
def M128 : Int := 340282366920938463463374607431768211456
theorem M128_eq : M128 = 340282366920938463463374607431768211456 := rfl
def zbp : (Int × Int) → RT Unit (Int × Int)
| (a,b) =>
 .rq 47 (let t0 := zee .u64 a 32;
 let t1 := zee .u64 b 32;
 let t2 := zdy .and .u64 a 4294967295;
 let t3 := zdy .and .u64 b 4294967295;
 let t4 := zcx (t2 * t3);
 let t5 := zcx ((zcx (t0 * t3)) + (zee .u64 t4 32));
 let t6 := zcx ((zdy .and .u64 t5 4294967295) + (zcx (t2 * t1)));
 .done (zcx ((zcx ((zcx (t0 * t1)) + (zee .u64 t5 32))) + (zee .u64 t6 32)),zdy .or .u64 (shlI .u64 t6 32) (zdy .and .u64 t4 4294967295)))
def F_zbp (x : Int × Int) : Option (Int × Int) := (zbp x).run fun _ => none
def io_zbp : Io := ⟨n_zbp,[tU,tU],[.lf (qm 0),.lf (qm 1)],[],[[tU],[tU]],[tU,tU],.agg [qm 0,qm 1],[],[],false⟩
def zbp_P : List zch := []
def zbp_T : zcl := tab []
theorem zbp_To : zck pg zbp_T := zci trivial
theorem zbp_go : zcy pg (zbp_T) io_zbp f_zbp (zbp_P) [] (zbp) := ⟨by kernel_rfl,by kernel_rfl,fun x => by kernel_rfl⟩
theorem ok_zbp : io_zbp.Okay pg (F_zbp) := zcu zcj (zbp_To) (zbp_go) trivial
def e_zbp : zcq := io_zbp.sp (fun (a,b) => true) (fun (a,b) => (((a.toNat * b.toNat / 18446744073709551616 : Nat) : Int),((a.toNat * b.toNat % 18446744073709551616 : Nat) : Int)))
theorem sp_zbp (h : ∀ (a : Int) (b : Int),WfT [tU,tU] (a,b) → (zbp (a,b)).run (fun _ => none) = some (((a.toNat * b.toNat / 18446744073709551616 : Nat) : Int),((a.toNat * b.toNat % 18446744073709551616 : Nat) : Int))) : e_zbp.ok pg := zcw ok_zbp fun (a,b) hw hc => h a b hw
theorem e_zbp_ok : e_zbp.ok pg := sp_zbp fun a b hw => by
 have ha : 0 ≤ a ∧ a < 18446744073709551616 := hw.1
 have hb : 0 ≤ b ∧ b < 18446744073709551616 := hw.2
 obtain ⟨A,rfl⟩ := Int.eq_ofNat_of_zero_le ha.1
 obtain ⟨B,rfl⟩ := Int.eq_ofNat_of_zero_le hb.1
 rw [zbp]
 simp only [RT.run,Int.toNat_natCast]
 rw [shr32,shr32,ibit_low (by omega),ibit_low (by omega)]
 have d1 := Nat.div_add_mod A 4294967296
 have d2 := Nat.div_add_mod B 4294967296
 have b1 : A / 4294967296 ≤ 4294967295 := by omega
 have b2 : A % 4294967296 ≤ 4294967295 := by omega
 have b3 : B / 4294967296 ≤ 4294967295 := by omega
 have b4 : B % 4294967296 ≤ 4294967295 := by omega
 generalize A / 4294967296 = ah at *
 generalize A % 4294967296 = al at *
 generalize B / 4294967296 = bh at *
 generalize B % 4294967296 = bl at *
 have p1 := Nat.mul_le_mul b1 b3
 have p2 := Nat.mul_le_mul b1 b4
 have p3 := Nat.mul_le_mul b2 b3
 have p4 := Nat.mul_le_mul b2 b4
 have hAB : A * B = (ah * bh) * 18446744073709551616 + (ah * bl + al * bh) * 4294967296 + al * bl := by
  rw [← d1,← d2]
  grind
 have m1 : ((ah : Int) * (bh : Int)) = ((ah * bh : Nat) : Int) := (Int.natCast_mul _ _).symm
 have m2 : ((ah : Int) * (bl : Int)) = ((ah * bl : Nat) : Int) := (Int.natCast_mul _ _).symm
 have m3 : ((al : Int) * (bh : Int)) = ((al * bh : Nat) : Int) := (Int.natCast_mul _ _).symm
 have m4 : ((al : Int) * (bl : Int)) = ((al * bl : Nat) : Int) := (Int.natCast_mul _ _).symm
 rw [hAB,m1,m2,m3,m4]
 generalize ah * bh = p at *
 generalize ah * bl = q at *
 generalize al * bh = r at *
 generalize al * bl = s at *
 have w4 : zcx (s : Int) = (s : Int) := zcD (by omega)
 have w3 : zcx (r : Int) = (r : Int) := zcD (by omega)
 have w2 : zcx (q : Int) = (q : Int) := zcD (by omega)
 have w1 : zcx (p : Int) = (p : Int) := zcD (by omega)
 rw [w4,w3,w2,w1,shr32]
 have w5 : zcx ((q : Int) + ((s / 4294967296 : Nat) : Int)) = ((q + s / 4294967296 : Nat) : Int) := by rw [zcD] <;> omega
 rw [w5,shr32,ibit_low (by omega)]
 have w6 : zcx ((((q + s / 4294967296) % 4294967296 : Nat) : Int) + (r : Int)) = (((q + s / 4294967296) % 4294967296 + r : Nat) : Int) := by rw [zcD] <;> omega
 rw [w6,shr32,ibit_low (by omega)]
 have w7 : zcx ((p : Int) + (((q + s / 4294967296) / 4294967296 : Nat) : Int)) = ((p + (q + s / 4294967296) / 4294967296 : Nat) : Int) := by rw [zcD] <;> omega
 rw [w7]
 have w8 : zcx (((p + (q + s / 4294967296) / 4294967296 : Nat) : Int) + ((((q + s / 4294967296) % 4294967296 + r) / 4294967296 : Nat) : Int)) = ((p + (q + s / 4294967296) / 4294967296 + ((q + s / 4294967296) % 4294967296 + r) / 4294967296 : Nat) : Int) := by rw [zcD] <;> omega
 have hs := shl_w ((q + s / 4294967296) % 4294967296 + r) 32 (by decide)
 rw [show ((32 : Nat) : Int) = 32 from rfl,show (2 : Nat) ^ 32 = 4294967296 from rfl] at hs
 have he : (((q + s / 4294967296) % 4294967296 + r) * 4294967296) % 18446744073709551616 = (((q + s / 4294967296) % 4294967296 + r) % 4294967296) * 4294967296 := by omega
 have ho := or_add (a := ((q + s / 4294967296) % 4294967296 + r) % 4294967296) (b := s % 4294967296) (by omega)
 rw [show (2 : Nat) ^ 32 = 4294967296 from rfl] at ho
 rw [w8,hs,he,ibit_or (by omega) (by omega),ho]
 congr 2
 ·omega
 ·omega
def zbx : (Int × Int) → RT Unit (Int × Bool)
| (a_0,a_1) =>
 .rq 6 (.ite (decide (0 < a_0))
 (.rq 2 (.done (0,false)))
 (.rq 4 (.done (a_1,true))))
def F_zbx (x : Int × Int) : Option (Int × Bool) := (zbx x).run fun _ => none
def io_zbx : Io := ⟨n_zbx,[tU,tU],[.agg [qm 0,qm 1]],[],[[tU,tU]],[tU,tB],.tup [(false,[qm 0]),(false,[qm 1])],[],[],false⟩
def zbx_P : List zch := []
def zbx_T : zcl := tab []
theorem zbx_To : zck pg zbx_T := zci trivial
theorem zbx_go : zcy pg (zbx_T) io_zbx f_zbx (zbx_P) [] (zbx) := ⟨by kernel_rfl,by kernel_rfl,fun x => by kernel_rfl⟩
theorem ok_zbx : io_zbx.Okay pg (F_zbx) := zcu zcj (zbx_To) (zbx_go) trivial
def e_zbx : zcq := io_zbx.sp (fun (x,y) => true) (fun (x,y) => (if 0 < x then (0,false) else (y,true)))
theorem sp_zbx (h : ∀ (x : Int) (y : Int),WfT [tU,tU] (x,y) → (zbx (x,y)).run (fun _ => none) = some (if 0 < x then (0,false) else (y,true))) : e_zbx.ok pg := zcw ok_zbx fun (x,y) hw hc => h x y hw
theorem e_zbx_ok : e_zbx.ok pg := sp_zbx fun x y _ => by
 rw [zbx]
 simp only [RT.run,decide_eq_true_eq]
 split <;> rfl
def zbT : (Int × Int) → RT Unit (Int × Bool)
| (a,b) =>
 .rq 10 (let t0 := (if 0 < (((a.toNat * b.toNat / 18446744073709551616 : Nat) : Int)) then (0,false) else ((((a.toNat * b.toNat % 18446744073709551616 : Nat) : Int)),true));
 .done (t0.1,t0.2))
def F_zbT (x : Int × Int) : Option (Int × Bool) := (zbT x).run fun _ => none
def io_zbT : Io := ⟨n_zbT,[tU,tU],[.lf (qm 0),.lf (qm 1)],[],[[tU],[tU]],[tU,tB],.tup [(false,[qm 0]),(false,[qm 1])],[],[],false⟩
def zbT_P : List zch := []
def zbT_T : zcl := tab [e_zbx,e_zbp]
theorem zbT_To : zck pg zbT_T := zci ⟨e_zbx_ok,e_zbp_ok,trivial⟩
theorem zbT_go : zcy pg (zbT_T) io_zbT f_zbT (zbT_P) [] (zbT) := ⟨by kernel_rfl,by kernel_rfl,fun x => by kernel_rfl⟩
theorem ok_zbT : io_zbT.Okay pg (F_zbT) := zcu zcj (zbT_To) (zbT_go) trivial
def e_zbT : zcq := io_zbT.sp (fun (a,b) => (decide (a.toNat * b.toNat < 18446744073709551616))) (fun (a,b) => (((a.toNat * b.toNat : Nat) : Int),true))
theorem sp_zbT (h : ∀ (a : Int) (b : Int),WfT [tU,tU] (a,b) → ((decide (a.toNat * b.toNat < 18446744073709551616))) = true → (zbT (a,b)).run (fun _ => none) = some (((a.toNat * b.toNat : Nat) : Int),true)) : e_zbT.ok pg := zcw ok_zbT fun (a,b) hw hc => h a b hw hc
theorem e_zbT_ok : e_zbT.ok pg := sp_zbT fun a b _ hc => by
 have hc := of_decide_eq_true hc
 rw [zbT]
 simp only [RT.run]
 rw [Nat.div_eq_of_lt hc,Nat.mod_eq_of_lt hc]
 rfl
def zaJ_b30 : (Int × Int × Bool × Int) → RT Unit (Int × Bool)
| (x6,hi,ok,a_1) =>
 .rq 7 (.ite (ok && (decide (x6 < a_1)))
 (.rq 7 (.done (((if decide (zcx (hi + (1 : Int)) < hi) = true then (0,false) else (zcx (hi + (1 : Int)),true))).1,((if decide (zcx (hi + (1 : Int)) < hi) = true then (0,false) else (zcx (hi + (1 : Int)),true))).2)))
 (.done (hi,ok)))
def zaJ_p30 : zch := ⟨30,false,[tU,tU,tB,tU,tU,tU,tU],[],⟨[.keep [2,4,6,7,8],.gc],[2,4,6,7,8],[.lf (qp 32),.lf (qp 64),.lf (qi 0),.lf (qi 1),.lf (qi 2)],[(32,true,.cells [qi 3,qi 4]),(64,true,.cells [qi 5,qi 6])]⟩,[⟨0,⟨[.keep [4,6,7,8],.gc],[4,6,7,8],[.lf (qp 64),.lf (qi 0),.lf (qm 0),.lf (qm 1)],[(64,true,.cells [qi 5,qi 6])]⟩,[tU,tB]⟩],(fun i _ => zaJ_b30 (i.1,i.2.1,i.2.2.1,i.2.2.2.2.1))⟩
def zaJ : (Int × Int × Int × Int) → RT Unit (Int × Int × Bool)
| (a_0,a_1,b_0,b_1) =>
 .rq 20 (let t0 := zcx (a_1 + b_1);
 .call (on zaJ_b30 (t0,((if decide (zcx (a_0 + b_0) < a_0) = true then (0,false) else (zcx (a_0 + b_0),true))).1,((if decide (zcx (a_0 + b_0) < a_0) = true then (0,false) else (zcx (a_0 + b_0),true))).2,a_1)) default fun v0 =>
 .rq 2 (.ite (!v0.2)
 (.rq 3 (.done (0,0,false)))
 (.rq 5 (.done (v0.1,t0,true)))))
def F_zaJ (x : Int × Int × Int × Int) : Option (Int × Int × Bool) := (zaJ x).run fun _ => none
def io_zaJ : Io := ⟨n_zaJ,[tU,tU,tU,tU],[.agg [qm 0,qm 1],.agg [qm 2,qm 3]],[],[[tU,tU],[tU,tU]],[tU,tU,tB],.tup [(true,[qm 0,qm 1]),(false,[qm 2])],[],[],false⟩
def zaJ_P : List zch := [zaJ_p30]
def zaJ_T : zcl := tab [e_zbI]
theorem zaJ_To : zck pg zaJ_T := zci ⟨e_zbI_ok,trivial⟩
theorem zaJ_k30 : (zaJ_p30).OK pg (zaJ_T) (zcB 40 (zaJ_P)) (zcs f_zaJ) 40 := ⟨by kernel_rfl,fun i x => by kernel_rfl⟩
theorem zaJ_go : zcy pg (zaJ_T) io_zaJ f_zaJ (zaJ_P) [] (zaJ) := ⟨by kernel_rfl,by kernel_rfl,fun x => by kernel_rfl⟩
theorem ok_zaJ : io_zaJ.Okay pg (F_zaJ) := zcu zcj (zaJ_To) (zaJ_go) ⟨zaJ_k30,trivial⟩
def e_zaJ : zcq := io_zaJ.sp (fun (a0,a1,b0,b1) => (decide ((a0 + b0) * 18446744073709551616 + (a1 + b1) < M128))) (fun (a0,a1,b0,b1) => (((a0 + b0) * 18446744073709551616 + (a1 + b1)) / 18446744073709551616,((a0 + b0) * 18446744073709551616 + (a1 + b1)) % 18446744073709551616,true))
theorem sp_zaJ (h : ∀ (a0 : Int) (a1 : Int) (b0 : Int) (b1 : Int),WfT [tU,tU,tU,tU] (a0,a1,b0,b1) → ((decide ((a0 + b0) * 18446744073709551616 + (a1 + b1) < M128))) = true → (zaJ (a0,a1,b0,b1)).run (fun _ => none) = some (((a0 + b0) * 18446744073709551616 + (a1 + b1)) / 18446744073709551616,((a0 + b0) * 18446744073709551616 + (a1 + b1)) % 18446744073709551616,true)) : e_zaJ.ok pg := zcw ok_zaJ fun (a0,a1,b0,b1) hw hc => h a0 a1 b0 b1 hw hc
theorem e_zaJ_ok : e_zaJ.ok pg := sp_zaJ fun a0 a1 b0 b1 hw hc => by
 have hc := of_decide_eq_true hc
 have hM := M128_eq
 have h1 : 0 ≤ a0 ∧ a0 < 18446744073709551616 := hw.1
 have h2 : 0 ≤ a1 ∧ a1 < 18446744073709551616 := hw.2.1
 have h3 : 0 ≤ b0 ∧ b0 < 18446744073709551616 := hw.2.2.1
 have h4 : 0 ≤ b1 ∧ b1 < 18446744073709551616 := hw.2.2.2
 have w1 : zcx (a0 + b0) = a0 + b0 := zcD (by omega)
 rw [zaJ]
 simp only [RT.run]
 rw [w1,decide_eq_false (show ¬ a0 + b0 < a0 by omega),if_neg (by decide)]
 have hin : on zaJ_b30 (zcx (a1 + b1),a0 + b0,true,a1) = some (((a0 + b0) * 18446744073709551616 + (a1 + b1)) / 18446744073709551616,true) := by
  show (zaJ_b30 _).run _ = _
  rw [zaJ_b30]
  simp only [RT.run]
  have e := zhG (a1 + b1)
  by_cases hv : a1 + b1 < 18446744073709551616
  ·rw [decide_eq_false (by omega),if_neg (by decide)]
   congr 2
   omega
  ·have w2 : zcx (a0 + b0 + 1) = a0 + b0 + 1 := zcD (by omega)
   rw [decide_eq_true (show zcx (a1 + b1) < a1 by omega),if_pos (by decide),w2,decide_eq_false (show ¬ a0 + b0 + 1 < a0 + b0 by omega),if_neg (by decide)]
   congr 2
   omega
 rw [hin,Option.bind_some,if_neg (by simp),zhG]
 congr 3
 omega
def zbh : (Int × Int × Int) → RT Unit (Int × Int × Bool)
| (a_0,a_1,b) =>
 .rq 12 (.req ((decide (a_0.toNat * b.toNat < 18446744073709551616))) (.rq 7 (.ite (!(true))
 (.rq 3 (.done (0,0,false)))
 (.rq 3 (.req ((decide (((((a_1.toNat * b.toNat / 18446744073709551616 : Nat) : Int)) + (((a_0.toNat * b.toNat : Nat) : Int))) * 18446744073709551616 + ((((a_1.toNat * b.toNat % 18446744073709551616 : Nat) : Int)) + (0 : Int)) < M128))) (.rq 4 (.done ((((((a_1.toNat * b.toNat / 18446744073709551616 : Nat) : Int)) + (((a_0.toNat * b.toNat : Nat) : Int))) * 18446744073709551616 + ((((a_1.toNat * b.toNat % 18446744073709551616 : Nat) : Int)) + (0 : Int))) / 18446744073709551616,(((((a_1.toNat * b.toNat / 18446744073709551616 : Nat) : Int)) + (((a_0.toNat * b.toNat : Nat) : Int))) * 18446744073709551616 + ((((a_1.toNat * b.toNat % 18446744073709551616 : Nat) : Int)) + (0 : Int))) % 18446744073709551616,true))))))))
def F_zbh (x : Int × Int × Int) : Option (Int × Int × Bool) := (zbh x).run fun _ => none
def io_zbh : Io := ⟨n_zbh,[tU,tU,tU],[.agg [qm 0,qm 1],.lf (qm 2)],[],[[tU,tU],[tU]],[tU,tU,tB],.tup [(true,[qm 0,qm 1]),(false,[qm 2])],[],[],false⟩
def zbh_P : List zch := []
def zbh_T : zcl := tab [e_zaJ,e_zbT,e_zbp]
theorem zbh_To : zck pg zbh_T := zci ⟨e_zaJ_ok,e_zbT_ok,e_zbp_ok,trivial⟩
theorem zbh_go : zcy pg (zbh_T) io_zbh f_zbh (zbh_P) [] (zbh) := ⟨by kernel_rfl,by kernel_rfl,fun x => by kernel_rfl⟩
theorem ok_zbh : io_zbh.Okay pg (F_zbh) := zcu zcj (zbh_To) (zbh_go) trivial
def e_zbh : zcq := io_zbh.sp (fun (a0,a1,b) => (decide ((a0 * 18446744073709551616 + a1) * b < M128))) (fun (a0,a1,b) => ((a0 * 18446744073709551616 + a1) * b / 18446744073709551616,(a0 * 18446744073709551616 + a1) * b % 18446744073709551616,true))
theorem sp_zbh (h : ∀ (a0 : Int) (a1 : Int) (b : Int),WfT [tU,tU,tU] (a0,a1,b) → ((decide ((a0 * 18446744073709551616 + a1) * b < M128))) = true → (zbh (a0,a1,b)).run (fun _ => none) = some ((a0 * 18446744073709551616 + a1) * b / 18446744073709551616,(a0 * 18446744073709551616 + a1) * b % 18446744073709551616,true)) : e_zbh.ok pg := zcw ok_zbh fun (a0,a1,b) hw hc => h a0 a1 b hw hc
theorem e_zbh_ok : e_zbh.ok pg := sp_zbh fun a0 a1 b hw hc => by
 have hc := of_decide_eq_true hc
 have hM := M128_eq
 have h1 : 0 ≤ a0 ∧ a0 < 18446744073709551616 := hw.1
 have h2 : 0 ≤ a1 ∧ a1 < 18446744073709551616 := hw.2.1
 have h3 : 0 ≤ b ∧ b < 18446744073709551616 := hw.2.2
 have e : (a0 * 18446744073709551616 + a1) * b = (a0 * b) * 18446744073709551616 + a1 * b := by grind
 have p0 := Int.mul_nonneg h1.1 h3.1
 have p1 := Int.mul_nonneg h2.1 h3.1
 rw [e] at hc ⊢
 obtain ⟨A,rfl⟩ := Int.eq_ofNat_of_zero_le h1.1
 obtain ⟨C,rfl⟩ := Int.eq_ofNat_of_zero_le h2.1
 obtain ⟨B,rfl⟩ := Int.eq_ofNat_of_zero_le h3.1
 rw [zbh]
 simp only [RT.run,Int.toNat_natCast]
 rw [← Int.natCast_mul,← Int.natCast_mul] at hc ⊢
 have key : ∀ X Y : Nat,(X : Int) * 18446744073709551616 + (Y : Int) < M128 → X < 18446744073709551616 ∧ (((Y / 18446744073709551616 : Nat) : Int) + (X : Int)) * 18446744073709551616 + (((Y % 18446744073709551616 : Nat) : Int) + 0) = (X : Int) * 18446744073709551616 + (Y : Int) := fun X Y h => by omega
 obtain ⟨k1,k2⟩ := key _ _ hc
 rw [if_pos (decide_eq_true k1)]
 simp only [Bool.not_true,Bool.false_eq_true,if_false]
 have fin : ∀ Z : Int,Z < M128 → ∀ W,W = Z → (if decide (W < M128) = true then some (W / 18446744073709551616,W % 18446744073709551616,true) else none) = some (Z / 18446744073709551616,Z % 18446744073709551616,true) := fun Z hZ W hWZ => by
  subst hWZ
  exact if_pos (decide_eq_true hZ)
 exact fin _ hc _ k2
def zbQ : (Int × Int × Int) → RT Unit Int
| (a_0,a_1,i) =>
 .rq 4 (.ite (decide (64 ≤ i))
 (.rq 4 (let t0 := w64 (i - 64);
 .req (decide (0 ≤ t0)) (.rq 2 (.done (zdy .and .u64 (zee .u64 a_0 t0) 1)))))
 (.rq 3 (.req (decide (0 ≤ i)) (.rq 2 (.done (zdy .and .u64 (zee .u64 a_1 i) 1))))))
def F_zbQ (x : Int × Int × Int) : Option Int := (zbQ x).run fun _ => none
def io_zbQ : Io := ⟨n_zbQ,[tU,tU,tI],[.agg [qm 0,qm 1],.lf (qm 2)],[],[[tU,tU],[tI]],[tU],.lf (qm 0),[],[],false⟩
def zbQ_P : List zch := []
def zbQ_T : zcl := tab []
theorem zbQ_To : zck pg zbQ_T := zci trivial
theorem zbQ_go : zcy pg (zbQ_T) io_zbQ f_zbQ (zbQ_P) [] (zbQ) := ⟨by kernel_rfl,by kernel_rfl,fun x => by kernel_rfl⟩
theorem ok_zbQ : io_zbQ.Okay pg (F_zbQ) := zcu zcj (zbQ_To) (zbQ_go) trivial
def e_zbQ : zcq := io_zbQ.sp (fun (a0,a1,i) => (decide (0 ≤ i) && decide (i < 128))) (fun (a0,a1,i) => (((a0.toNat * 18446744073709551616 + a1.toNat) / 2 ^ i.toNat % 2 : Nat) : Int))
theorem sp_zbQ (h : ∀ (a0 : Int) (a1 : Int) (i : Int),WfT [tU,tU,tI] (a0,a1,i) → ((decide (0 ≤ i) && decide (i < 128))) = true → (zbQ (a0,a1,i)).run (fun _ => none) = some (((a0.toNat * 18446744073709551616 + a1.toNat) / 2 ^ i.toNat % 2 : Nat) : Int)) : e_zbQ.ok pg := zcw ok_zbQ fun (a0,a1,i) hw hc => h a0 a1 i hw hc
theorem e_zbQ_ok : e_zbQ.ok pg := sp_zbQ fun a0 a1 i hw hc => by
 have h1 : 0 ≤ a0 ∧ a0 < 18446744073709551616 := hw.1
 have h2 : 0 ≤ a1 ∧ a1 < 18446744073709551616 := hw.2.1
 simp only [Bool.and_eq_true,decide_eq_true_eq] at hc
 obtain ⟨A,rfl⟩ := Int.eq_ofNat_of_zero_le h1.1
 obtain ⟨C,rfl⟩ := Int.eq_ofNat_of_zero_le h2.1
 obtain ⟨j,rfl⟩ := Int.eq_ofNat_of_zero_le hc.1
 rw [zbQ]
 simp only [RT.run,Int.toNat_natCast]
 by_cases h : 64 ≤ j
 ·obtain ⟨k,rfl⟩ := Nat.exists_eq_add_of_le h
  have w : w64 (((64 + k : Nat) : Int) - 64) = (k : Int) := by rw [zcm] <;> omega
  have hk : A / 2 ^ k ≤ A := Nat.div_le_self _ _
  rw [if_pos (decide_eq_true (by omega)),w,if_pos (decide_eq_true (by omega)),shrN A .u64 k (show k ≤ 64 by omega),ibit_and1 (by omega),Nat.pow_add,← Nat.div_div_eq_div_mul,show (2 : Nat) ^ 64 = 18446744073709551616 from rfl]
  have : (A * 18446744073709551616 + C) / 18446744073709551616 = A := by omega
  rw [this]
 ·have hk : C / 2 ^ j ≤ C := Nat.div_le_self _ _
  rw [if_neg (by simp; omega),if_pos (decide_eq_true (by omega)),shrN C .u64 j (show j ≤ 64 by omega),ibit_and1 (by omega)]
  have e : 18446744073709551616 = 2 ^ j * (2 * 2 ^ (63 - j)) := by
   rw [← Nat.pow_succ',← Nat.pow_add,show j + (63 - j + 1) = 64 by omega]
  have e2 : (A * 18446744073709551616 + C) / 2 ^ j = C / 2 ^ j + 2 * (A * 2 ^ (63 - j)) := by
   rw [e,show A * (2 ^ j * (2 * 2 ^ (63 - j))) + C = C + 2 ^ j * (2 * (A * 2 ^ (63 - j))) by grind,Nat.add_mul_div_left _ _ (Nat.pow_pos (by decide))]
  rw [e2]
  congr 2
  omega
def zir : (Int × Int × Int) → (Int × Int × Int × Int) → RT (Int × Int × Int × Int) (Int × Int × Int)
| (d,a_0,a_1),(rest,i,q_0,q_1) =>
 .rq 2 (.ite (decide (0 ≤ i))
 (.rq 8 (.req ((decide (0 ≤ i) && decide (i < 128))) (.rq 22 (let t0 := w64 (i - 1);
 let t1 := shlI .u64 q_1 1;
 let t2 := zdy .or .u64 (shlI .u64 rest 1) ((((a_0.toNat * 18446744073709551616 + a_1.toNat) / 2 ^ i.toNat % 2 : Nat) : Int));
 let t3 := zdy .or .u64 (shlI .u64 q_0 1) (zee .u64 q_1 63);
 .ite ((decide (0 < (zee .u64 rest 63))) || (decide (d ≤ t2)))
 (.rq 12 (.again (zcx (t2 - d),t0,t3,zdy .or .u64 t1 1)))
 (.rq 3 (.again (t2,t0,t3,t1)))))))
 (.done (rest,q_0,q_1)))
def zaE_p250 : zch := ⟨250,true,[tU,tU,tU,tU,tU],[tU,tI,tU,tU],⟨[.keep [1,2,4,7,8,9],.gc],[1,2,4,7,8,9],[.lf (qi 0),.lf (qp 32),.lf (qp 64),.lf (qp 112),.lf (qm 0),.lf (qm 1)],[(32,true,.cells [qi 1,qi 2]),(64,true,.cells [qi 3,qi 4]),(112,true,.cells [qm 2,qm 3])]⟩,[⟨2,⟨[.keep [4,7,8],.gc],[4,7,8],[.lf (qp 64),.lf (qp 112),.lf (qm 0)],[(64,true,.cells [qi 3,qi 4]),(112,true,.cells [qm 1,qm 2])]⟩,[tU,tU,tU]⟩],(fun i => zir (i.1,i.2.1,i.2.2.1))⟩
def zaE : (Int × Int × Int) → RT Unit (Int × Int × Int × Bool)
| (a_0,a_1,d) =>
 .rq 6 (.ite (d == 0)
 (.rq 4 (.done (0,0,0,false)))
 (.rq 3 (.call (lo zir (d,a_0,a_1) (0,127,0,0)) default fun v0 =>
 .rq 5 (.done (v0.2.1,v0.2.2,v0.1,true)))))
def F_zaE (x : Int × Int × Int) : Option (Int × Int × Int × Bool) := (zaE x).run fun _ => none
def io_zaE : Io := ⟨n_zaE,[tU,tU,tU],[.agg [qm 0,qm 1],.lf (qm 2)],[],[[tU,tU],[tU]],[tU,tU,tU,tB],.tup [(true,[qm 0,qm 1]),(false,[qm 2]),(false,[qm 3])],[],[],false⟩
def zaE_P : List zch := [zaE_p250]
def zaE_T : zcl := tab [e_zbQ]
theorem zaE_To : zck pg zaE_T := zci ⟨e_zbQ_ok,trivial⟩
theorem zaE_k250 : (zaE_p250).OK pg (zaE_T) (zcB 54 (zaE_P)) (zcs f_zaE) 54 := ⟨by kernel_rfl,fun i x => by kernel_rfl⟩
theorem zaE_go : zcy pg (zaE_T) io_zaE f_zaE (zaE_P) [] (zaE) := ⟨by kernel_rfl,by kernel_rfl,fun x => by kernel_rfl⟩
theorem ok_zaE : io_zaE.Okay pg (F_zaE) := zcu zcj (zaE_To) (zaE_go) ⟨zaE_k250,trivial⟩
theorem div_loop {d a0 a1 : Nat} (hd : 0 < d ∧ d < 18446744073709551616) (h0 : a0 < 18446744073709551616) (h1 : a1 < 18446744073709551616) : ∀ (n q r : Nat),n ≤ 128 → q * d + r = (a0 * 18446744073709551616 + a1) / 2 ^ n → r < d →
  lo zir ((d : Int),(a0 : Int),(a1 : Int)) ((r : Int),(n : Int) - 1,((q / 18446744073709551616 : Nat) : Int),((q % 18446744073709551616 : Nat) : Int)) = some (((((a0 * 18446744073709551616 + a1) % d : Nat) : Int)),((((a0 * 18446744073709551616 + a1) / d) / 18446744073709551616 : Nat) : Int),((((a0 * 18446744073709551616 + a1) / d) % 18446744073709551616 : Nat) : Int))
 | 0,q,r,_,h,hr => by
  rw [zcr,zir]
  simp only [RT.run]
  rw [if_neg (by simp)]
  rw [Nat.pow_zero,Nat.div_one] at h
  have e := (Nat.div_mod_unique (a := a0 * 18446744073709551616 + a1) (b := d) (c := r) (d := q) hd.1).2 ⟨by rw [← h,Nat.mul_comm]; omega,hr⟩
  rw [e.1,e.2]
 | n + 1,q,r,hn,h,hr => by
  generalize hV : a0 * 18446744073709551616 + a1 = V at *
  have hVl : V < 340282366920938463463374607431768211456 := by omega
  have e1 : V / 2 ^ (n + 1) = V / 2 ^ n / 2 := by rw [Nat.pow_succ,Nat.div_div_eq_div_mul]
  have hP : V / 2 ^ n ≤ V := Nat.div_le_self _ _
  have hq : q ≤ q * d := Nat.le_mul_of_pos_right q hd.1
  have hbit : V / 2 ^ n % 2 < 2 := Nat.mod_lt _ (by decide)
  rw [zcr,zir]
  simp only [RT.run]
  have hb2 := Nat.mod_two_eq_zero_or_one (V / 2 ^ n)
  have hg : 2 * (q * d) + 2 * r + V / 2 ^ n % 2 = V / 2 ^ n := by omega
  have w1 : w64 ((n : Int) - 1) = (n : Int) - 1 := by rw [zcm] <;> omega
  have hn' : (((n + 1 : Nat) : Int) - 1) = (n : Int) := by omega
  have hq1 : V / 2 ^ n < 340282366920938463463374607431768211456 := by omega
  have t2 := dbl (x := r) (y := V / 2 ^ n % 2) (by omega) (by omega)
  have s63 := shrN (q % 18446744073709551616) .u64 63 (by decide)
  have r63 := shrN r .u64 63 (by decide)
  rw [show ((63 : Nat) : Int) = 63 from rfl,show (2 : Nat) ^ 63 = 9223372036854775808 from rfl] at s63 r63
  have t3 := dbl (x := q / 18446744073709551616) (y := q % 18446744073709551616 / 9223372036854775808) (by omega) (by omega)
  have hs1 := shl_w (q % 18446744073709551616) 1 (by decide)
  rw [show ((1 : Nat) : Int) = 1 from rfl,show (2 : Nat) ^ 1 = 2 from rfl] at hs1
  have t1 := dbl (x := q % 18446744073709551616) (y := 1) (by omega) (by omega)
  rw [show ((1 : Nat) : Int) = 1 from rfl] at t1
  simp only [Int.toNat_natCast,hV,hn',w1,t2,s63,r63,t3]
  rw [if_pos (by simp),if_pos (by simp; omega)]
  have ih0 := div_loop hd h0 h1 n (2 * q) (2 * r + V / 2 ^ n % 2) (by omega) (by rw [hV,Nat.mul_assoc]; omega)
  have ih1 := div_loop hd h0 h1 n (2 * q + 1) (2 * r + V / 2 ^ n % 2 - d)
  rw [hV] at ih0 ih1
  generalize V / 2 ^ n % 2 = x at *
  by_cases hv : d ≤ 2 * r + x
  ·rw [if_pos]
   ·have e2 : zcx (((r * 2 % 18446744073709551616 + x : Nat) : Int) - (d : Int)) = ((2 * r + x - d : Nat) : Int) := by rw [zhG]; omega
    have e3 : q / 18446744073709551616 * 2 % 18446744073709551616 + q % 18446744073709551616 / 9223372036854775808 = (2 * q + 1) / 18446744073709551616 := by omega
    have e4 : q % 18446744073709551616 * 2 % 18446744073709551616 + 1 = (2 * q + 1) % 18446744073709551616 := by omega
    rw [e2,e3,t1,e4]
    exact ih1 (by omega) (by rw [Nat.add_mul,Nat.mul_assoc]; omega) (by omega)
   ·rw [Bool.or_eq_true,decide_eq_true_eq,decide_eq_true_eq]
    omega
  ·rw [if_neg]
   ·have e2 : r * 2 % 18446744073709551616 + x = 2 * r + x := by omega
    have e3 : q / 18446744073709551616 * 2 % 18446744073709551616 + q % 18446744073709551616 / 9223372036854775808 = (2 * q) / 18446744073709551616 := by omega
    have e4 : q % 18446744073709551616 * 2 % 18446744073709551616 = (2 * q) % 18446744073709551616 := by omega
    rw [e2,e3,hs1,e4]
    exact ih0 (by omega)
   ·rw [Bool.or_eq_true,decide_eq_true_eq,decide_eq_true_eq]
    omega
def e_zaE : zcq := io_zaE.sp (fun (a0,a1,d) => (decide (d ≠ 0))) (fun (a0,a1,d) => ((((a0.toNat * 18446744073709551616 + a1.toNat) / d.toNat / 18446744073709551616 : Nat) : Int),(((a0.toNat * 18446744073709551616 + a1.toNat) / d.toNat % 18446744073709551616 : Nat) : Int),(((a0.toNat * 18446744073709551616 + a1.toNat) % d.toNat : Nat) : Int),true))
theorem sp_zaE (h : ∀ (a0 : Int) (a1 : Int) (d : Int),WfT [tU,tU,tU] (a0,a1,d) → ((decide (d ≠ 0))) = true → (zaE (a0,a1,d)).run (fun _ => none) = some ((((a0.toNat * 18446744073709551616 + a1.toNat) / d.toNat / 18446744073709551616 : Nat) : Int),(((a0.toNat * 18446744073709551616 + a1.toNat) / d.toNat % 18446744073709551616 : Nat) : Int),(((a0.toNat * 18446744073709551616 + a1.toNat) % d.toNat : Nat) : Int),true)) : e_zaE.ok pg := zcw ok_zaE fun (a0,a1,d) hw hc => h a0 a1 d hw hc
theorem e_zaE_ok : e_zaE.ok pg := sp_zaE fun a0 a1 d hw hc => by
 have h1 : 0 ≤ a0 ∧ a0 < 18446744073709551616 := hw.1
 have h2 : 0 ≤ a1 ∧ a1 < 18446744073709551616 := hw.2.1
 have h3 : 0 ≤ d ∧ d < 18446744073709551616 := hw.2.2
 have hd := of_decide_eq_true hc
 obtain ⟨A,rfl⟩ := Int.eq_ofNat_of_zero_le h1.1
 obtain ⟨C,rfl⟩ := Int.eq_ofNat_of_zero_le h2.1
 obtain ⟨D,rfl⟩ := Int.eq_ofNat_of_zero_le h3.1
 have hl := div_loop (d := D) (a0 := A) (a1 := C) (by omega) (by omega) (by omega) 128 0 0 (by decide) (by rw [Nat.div_eq_of_lt (Nat.lt_of_lt_of_le (show A * 18446744073709551616 + C < 340282366920938463463374607431768211456 by omega) (by decide)),Nat.zero_mul]) (by omega)
 rw [zaE]
 simp only [RT.run,Int.toNat_natCast]
 rw [if_neg (by simpa using hd)]
 have hl' : lo zir ((D : Int),(A : Int),(C : Int)) (0,127,0,0) = _ := hl
 rw [hl']
 rfl
def nz (t : Int) : Bool := decide (t ≠ 0)
def zbv : Int → RT Unit (Int × Int)
| t =>
 .rq 3 (.req ((decide (t ≠ 0))) (.rq 10 (.done (((((1 : Int).toNat * 18446744073709551616 + (0 : Int).toNat) / t.toNat / 18446744073709551616 : Nat) : Int),((((1 : Int).toNat * 18446744073709551616 + (0 : Int).toNat) / t.toNat % 18446744073709551616 : Nat) : Int)))))
def F_zbv (x : Int) : Option (Int × Int) := (zbv x).run fun _ => none
def io_zbv : Io := ⟨n_zbv,[tU],[.lf (qm 0)],[],[[tU]],[tU,tU],.agg [qm 0,qm 1],[],[],false⟩
def zbv_P : List zch := []
def zbv_T : zcl := tab [e_zaE]
theorem zbv_To : zck pg zbv_T := zci ⟨e_zaE_ok,trivial⟩
theorem zbv_go : zcy pg (zbv_T) io_zbv f_zbv (zbv_P) [] (zbv) := ⟨by kernel_rfl,by kernel_rfl,fun x => by kernel_rfl⟩
theorem ok_zbv : io_zbv.Okay pg (F_zbv) := zcu zcj (zbv_To) (zbv_go) trivial
def e_zbv : zcq := io_zbv.sp (fun t => (nz t)) (fun t => (((18446744073709551616 / t.toNat / 18446744073709551616 : Nat) : Int),((18446744073709551616 / t.toNat % 18446744073709551616 : Nat) : Int)))
theorem sp_zbv (h : ∀ (t : Int),WfT [tU] t → ((nz t)) = true → (zbv t).run (fun _ => none) = some (((18446744073709551616 / t.toNat / 18446744073709551616 : Nat) : Int),((18446744073709551616 / t.toNat % 18446744073709551616 : Nat) : Int))) : e_zbv.ok pg := zcw ok_zbv fun t hw hc => h t hw hc
theorem e_zbv_ok : e_zbv.ok pg := sp_zbv fun t hw hc => by
 rw [zbv]
 simp only [RT.run]
 rw [if_pos (show decide ((t : Int) ≠ 0) = true from hc)]
 rfl
def zbS : Int → RT Unit (List Int)
| t =>
 .rq 3 (.ite (t == 0)
 (.rq 2 (.done []))
 (.rq 3 (.req (okM 37 ([0,0,0,0,1]) && (okM 37 (zcg B16 t.toNat) && decide (0 < val B16 (zcg B16 t.toNat)))) (.rq 9 (.done (zcg B16 (val B16 ([0,0,0,0,1]) / val B16 (zcg B16 t.toNat))))))))
def F_zbS (x : Int) : Option (List Int) := (zbS x).run fun _ => none
def io_zbS : Io := ⟨n_zbS,[tU],[.lf (qm 0)],[],[[tU]],[.sl tI],.agg [qr 0],[],[(true,.arr 3 (qm 0))],false⟩
def zbS_P : List zch := []
def zbS_T : zcl := tab [e_zbC,e_zac,e_zbf]
theorem zbS_To : zck pg zbS_T := zci ⟨e_zbC_ok,e_zac_ok,zid,trivial⟩
theorem zbS_go : zcy pg (zbS_T) io_zbS f_zbS (zbS_P) [.cellRow 32 0 600032 3 tI,.cellRen 32 0 600032] (zbS) := ⟨by kernel_rfl,by kernel_rfl,fun x => by kernel_rfl⟩
theorem ok_zbS : io_zbS.Okay pg (F_zbS) := zcu zcj (zbS_To) (zbS_go) trivial
def e_zbS : zcq := io_zbS.sp (fun t => (nz t)) (fun t => (zcg B16 (18446744073709551616 / t.toNat)))
theorem sp_zbS (h : ∀ (t : Int),WfT [tU] t → ((nz t)) = true → (zbS t).run (fun _ => none) = some (zcg B16 (18446744073709551616 / t.toNat))) : e_zbS.ok pg := zcw ok_zbS fun t hw hc => h t hw hc
theorem e_zbS_ok : e_zbS.ok pg := sp_zbS fun t hw hc => by
 have ht : 0 ≤ t ∧ t < 18446744073709551616 := hw
 have hc : (t : Int) ≠ 0 := of_decide_eq_true hc
 rw [zbS]
 simp only [RT.run,whole_val,zcz (show 2 ≤ B16 by decide)]
 have hg : (zcg B16 t.toNat).length ≤ 4 := (fits16 _).2 (by omega)
 rw [if_neg (by simpa using hc),if_pos (by
   rw [Bool.and_eq_true,Bool.and_eq_true,zcV,zcV,decide_eq_true_eq]
   exact ⟨by decide,⟨by omega,zcS (by decide) _⟩,by omega⟩)]
def zaI_b62 : (List Int) → RT Unit ((List Int) × (List Int))
| low =>
 .rq 3 (.ite (decide (4 < (low.length : Int)))
 (.rq 1 (.req (dropOK low 4) (.rq 2 (.req (zgC low 4) (.rq 1 (.done (takeI low 4,dropI low 4)))))))
 (.done (low,[])))
def zaI_p62 : zch := ⟨62,false,[.sl tI,tU,tU],[],⟨[.keep [2,4,5],.gc],[2,4,5],[.lf (qp 32),.lf (qi 0),.lf (.fix (.nil))],[(32,true,.cells [qi 1,qi 2])]⟩,[⟨0,⟨[.keep [2,4,5],.gc,.toDat 5,.den 5 [.sl tI],.gc],[2,4,5],[.lf (qp 32),.lf (qm 0),.lf (qm 1)],[(32,true,.cells [qi 1,qi 2])]⟩,[.sl tI,.sl tI]⟩],(fun i _ => zaI_b62 i.1)⟩
def zaI : (List Int) → RT Unit (Int × Int × Bool)
| a_0 =>
 .rq 7 (.ite (decide (8 < (a_0.length : Int)))
 (.rq 3 (.done (0,0,false)))
 (.rq 4 (.call (on zaI_b62 a_0) default fun v0 =>
 .rq 2 (.req (wfd B16 v0.1) (.rq 7 (.req (wfd B16 v0.2) (.rq 10 (.done (if v0.2.length ≤ 4 then ((val B16 v0.2 : Nat) : Int) else 0,if v0.1.length ≤ 4 then ((val B16 v0.1 : Nat) : Int) else 0,true)))))))))
def F_zaI (x : (List Int)) : Option (Int × Int × Bool) := (zaI x).run fun _ => none
def io_zaI : Io := ⟨n_zaI,[.sl tI],[.agg [qm 0]],[],[[.sl tI]],[tU,tU,tB],.tup [(true,[qm 0,qm 1]),(false,[qm 2])],[],[],false⟩
def zaI_P : List zch := [zaI_p62]
def zaI_T : zcl := tab [e_zay]
theorem zaI_To : zck pg zaI_T := zci ⟨e_zay_ok,trivial⟩
theorem zaI_k62 : (zaI_p62).OK pg (zaI_T) (zcB 39 (zaI_P)) (zcs f_zaI) 39 := ⟨by kernel_rfl,fun i x => by kernel_rfl⟩
theorem zaI_go : zcy pg (zaI_T) io_zaI f_zaI (zaI_P) [] (zaI) := ⟨by kernel_rfl,by kernel_rfl,fun x => by kernel_rfl⟩
theorem ok_zaI : io_zaI.Okay pg (F_zaI) := zcu zcj (zaI_To) (zaI_go) ⟨zaI_k62,trivial⟩
def e_zaI : zcq := io_zaI.sp (fun a => (wfd B16 a && decide (a.length ≤ 8))) (fun a => (((val B16 a / 18446744073709551616 : Nat) : Int),((val B16 a % 18446744073709551616 : Nat) : Int),true))
theorem sp_zaI (h : ∀ (a : List Int),WfT [.sl tI] a → ((wfd B16 a && decide (a.length ≤ 8))) = true → (zaI a).run (fun _ => none) = some (((val B16 a / 18446744073709551616 : Nat) : Int),((val B16 a % 18446744073709551616 : Nat) : Int),true)) : e_zaI.ok pg := zcw ok_zaI fun a hw hc => h a hw hc
theorem e_zaI_ok : e_zaI.ok pg := sp_zaI fun a _ hc => by
 rw [Bool.and_eq_true,decide_eq_true_eq] at hc
 obtain ⟨hw,hl⟩ := hc
 have h64 : B16 ^ 4 = 18446744073709551616 := by decide
 rw [zaI]
 simp only [RT.run]
 rw [if_neg (by simp; omega)]
 have hin : on zaI_b62 a = some (a.take 4,a.drop 4) := by
  show (zaI_b62 _).run _ = _
  rw [zaI_b62]
  simp only [RT.run]
  by_cases h : 4 < (a.length : Int)
  ·rw [if_pos (decide_eq_true h),if_pos (by simp [dropOK]; omega),if_pos (by simp [zgC]; omega)]
   rfl
  ·rw [if_neg (by simpa using h),List.take_of_length_le (by omega),List.drop_eq_nil_of_le (by omega)]
 have w1 := wfd_take (n := 4) hw
 have w2 := wfd_drop (n := 4) hw
 have v1 := zcQ (b := B16) (by decide) w1
 have v2 : val B16 a = val B16 (a.take 4) + 18446744073709551616 * val B16 (a.drop 4) := by
  by_cases h : 4 ≤ a.length
  ·rw [zhh B16 a 4 h,h64]
  ·rw [List.take_of_length_le (by omega),List.drop_eq_nil_of_le (by omega)]; rfl
 have v3 : val B16 (a.take 4) < 18446744073709551616 := by
  rw [← h64]
  exact Nat.lt_of_lt_of_le v1 (Nat.pow_le_pow_right (by decide) (by rw [List.length_take]; omega))
 rw [hin,Option.bind_some,if_pos w1,if_pos w2,if_pos (by rw [List.length_drop]; omega),if_pos (by rw [List.length_take]; omega)]
 show some (((val B16 (a.drop 4) : Nat) : Int),((val B16 (a.take 4) : Nat) : Int),true) = _
 rw [show val B16 a / 18446744073709551616 = val B16 (a.drop 4) by omega,show val B16 a % 18446744073709551616 = val B16 (a.take 4) by omega]
def zbo : ((List Bool) × (List Tk) × (List Th) × (List Lk) × (List Int) × Int) → RT Unit (Int × Int × Int × (List Int))
| (s_0,s_1,s_2,s_3,s_4,s_5) =>
 .rq 4 (.req ((wOK s_0 s_1 s_2 s_3 s_4 s_5)) (.rq 13 (let t0 := (brV (wgV s_0 s_1 s_2 s_3 s_4 s_5));
 .ite ((t0.2.2.1 == 0) && (t0.2.1 == 0))
 (.rq 5 (.done (t0.1,t0.2.1,16,t0.2.2.2)))
 (.rq 4 (.done (t0.1,t0.2.1,t0.2.2.1,t0.2.2.2))))))
def F_zbo (x : (List Bool) × (List Tk) × (List Th) × (List Lk) × (List Int) × Int) : Option (Int × Int × Int × (List Int)) := (zbo x).run fun _ => none
def io_zbo : Io := ⟨n_zbo,[.sl tB,.sl yK,.sl yH,.sl yL,.sl tI,tI],[.agg [qm 0,qm 1,qm 2,qm 3,qm 4,qm 5]],[],[[.sl tB,.sl yK,.sl yH,.sl yL,.sl tI,tI]],[tU,tU,tI,.sl tU],.tup [(true,[qm 0,qm 1,qr 0]),(false,[qm 2])],[],[(true,.arr 48 (qm 3))],false⟩
def zbo_P : List zch := []
def zbo_T : zcl := tab [e_zbP]
theorem zbo_To : zck pg zbo_T := zci ⟨e_zbP_ok,trivial⟩
theorem zbo_go : zcy pg (zbo_T) io_zbo f_zbo (zbo_P) [.cellRow 32 2 600034 48 tU,.cellRen 32 2 600034] (zbo) := ⟨by kernel_rfl,by kernel_rfl,fun x => by kernel_rfl⟩
theorem ok_zbo : io_zbo.Okay pg (F_zbo) := zcu zcj (zbo_To) (zbo_go) trivial
def e_zbo : zcq := io_zbo.sp (fun (a,b,c,d,e,f) => (wOK a b c d e f)) (fun (a,b,c,d,e,f) => (opB (brV (wgV a b c d e f))))
theorem sp_zbo (h : ∀ (a : List Bool) (b : List Tk) (c : List Th) (d : List Lk) (e : List Int) (f : Int),WfT [.sl tB,.sl yK,.sl yH,.sl yL,.sl tI,tI] (a,b,c,d,e,f) → ((wOK a b c d e f)) = true → (zbo (a,b,c,d,e,f)).run (fun _ => none) = some (opB (brV (wgV a b c d e f)))) : e_zbo.ok pg := zcw ok_zbo fun (a,b,c,d,e,f) hw hc => h a b c d e f hw hc
theorem e_zbo_ok : e_zbo.ok pg := sp_zbo fun a b c d e f _ hc => by
 rw [zbo]
 simp only [RT.run]
 rw [if_pos hc]
 unfold opB
 split <;> rfl
theorem opB_ok {x : Br} (h : ¬ ((opB x).2.2.1 != 0) = true) : opB x = x ∧ x.2.2.1 = 0 ∧ x.2.1 ≠ 0 := by
 unfold opB at h ⊢
 by_cases hc : ((x.2.2.1 == 0) && (x.2.1 == 0)) = true
 ·rw [if_pos hc] at h
  exact absurd (show ((16 : Int) != 0) = true by decide) h
 ·rw [if_neg hc] at h ⊢
  have h1 : x.2.2.1 = 0 := by simpa using h
  refine ⟨rfl,h1,fun h2 => hc ?_⟩
  rw [h1,h2]; rfl
theorem wt_le {l : List Int} {i : Int} (hi : 0 ≤ i ∧ i < (l.length : Int)) : (gI l i).toNat ≤ (toNs l).sum := by
 obtain ⟨k,rfl⟩ := Int.eq_ofNat_of_zero_le hi.1
 rw [zcL (by omega)]
 exact sum_ge (List.mem_map.2 ⟨_,List.getElem_mem (by omega),rfl⟩)
theorem each_le {t w : Nat} (ht : 0 < t) (hw : w ≤ t) : 18446744073709551616 / t * w ≤ 18446744073709551616 :=
 Nat.le_trans (Nat.mul_le_mul_left _ hw) (Nat.div_mul_le_self _ _)
def wN (x : Br) (i : Int) : Nat := 18446744073709551616 / x.2.1.toNat * (gI x.2.2.2 i).toNat
theorem usT_wg {a : List Bool} {b : List Tk} {c : List Th} {d : List Lk} {e : List Int} {f : Int} (H : zcv a b c d e f) {i : Int} (hu : usT c i = true) (h : (brV (wgV a b c d e f)).2.2.1 = 0) (ht : (brV (wgV a b c d e f)).2.1 ≠ 0) :
  inB (brV (wgV a b c d e f)).2.2.2 i = true ∧ 0 < (brV (wgV a b c d e f)).2.1.toNat ∧ (gI (brV (wgV a b c d e f)).2.2.2 i).toNat ≤ (brV (wgV a b c d e f)).2.1.toNat ∧ 0 ≤ gI (brV (wgV a b c d e f)).2.2.2 i := by
 obtain ⟨b1,b2,b3⟩ := brV_sum (wgV a b c d e f) (wg_hyp H).2
 obtain ⟨t1,t2,t3⟩ := b3 h
 have hi := zes hu
 have hi' : 0 ≤ i ∧ i < ((brV (wgV a b c d e f)).2.2.2.length : Int) := by rw [t2,zfR]; exact hi
 have hle := wt_le hi'
 refine ⟨zcn.2 hi',by omega,by omega,?_⟩
 obtain ⟨k,rfl⟩ := Int.eq_ofNat_of_zero_le hi.1
 rw [zcL (by omega)]
 exact (t3 _ (List.getElem_mem (by omega))).1
def zaW : ((List Bool) × (List Tk) × (List Th) × (List Lk) × (List Int) × Int × Int) → RT Unit (Int × Int × Int)
| (s_0,s_1,s_2,s_3,s_4,s_5,i) =>
 .rq 14 (.ite (!((zcN s_2 i)).2.2.2.2.2)
 (.rq 3 (.done (0,0,7)))
 (.rq 1 (.req ((wOK s_0 s_1 s_2 s_3 s_4 s_5)) (.rq 8 (let t0 := (opB (brV (wgV s_0 s_1 s_2 s_3 s_4 s_5)));
 .ite (t0.2.2.1 != 0)
 (.rq 4 (.done (0,0,t0.2.2.1)))
 (.rq 2 (.req ((nz t0.2.1)) (.rq 3 (.req (inB t0.2.2.2 i) (.rq 1 (let t1 := ((18446744073709551616 / t0.2.1.toNat / 18446744073709551616 : Nat) : Int);
 let t2 := ((18446744073709551616 / t0.2.1.toNat % 18446744073709551616 : Nat) : Int);
 let t3 := gI t0.2.2.2 i;
 .req ((decide ((t1 * 18446744073709551616 + t2) * t3 < M128))) (.rq 9 (.done ((t1 * 18446744073709551616 + t2) * t3 / 18446744073709551616,(t1 * 18446744073709551616 + t2) * t3 % 18446744073709551616,0))))))))))))))
def F_zaW (x : (List Bool) × (List Tk) × (List Th) × (List Lk) × (List Int) × Int × Int) : Option (Int × Int × Int) := (zaW x).run fun _ => none
def io_zaW : Io := ⟨n_zaW,[.sl tB,.sl yK,.sl yH,.sl yL,.sl tI,tI,tI],[.agg [qm 0,qm 1,qm 2,qm 3,qm 4,qm 5],.lf (qm 6)],[],[[.sl tB,.sl yK,.sl yH,.sl yL,.sl tI,tI],[tI]],[tU,tU,tI],.tup [(true,[qm 0,qm 1]),(false,[qm 2])],[],[],false⟩
def zaW_P : List zch := []
def zaW_T : zcl := tab [e_zbo,e_zbv,e_zbh,e_zae]
theorem zaW_To : zck pg zaW_T := zci ⟨e_zbo_ok,e_zbv_ok,e_zbh_ok,e_zae_ok,trivial⟩
theorem zaW_go : zcy pg (zaW_T) io_zaW f_zaW (zaW_P) [] (zaW) := ⟨by kernel_rfl,by kernel_rfl,fun x => by kernel_rfl⟩
theorem ok_zaW : io_zaW.Okay pg (F_zaW) := zcu zcj (zaW_To) (zaW_go) trivial
def oW (x : Br) (u : Bool) (i : Int) : Int × Int × Int := if (!u) = true then (0,0,7) else if ((opB x).2.2.1 != 0) = true then (0,0,(opB x).2.2.1) else (((wN x i / 18446744073709551616 : Nat) : Int),((wN x i % 18446744073709551616 : Nat) : Int),0)
theorem getThread_ok (c : List Th) (i : Int) : (zcN c i).2.2.2.2.2 = usT c i := by
 unfold zcN usT
 cases inB c i && (gI c i).1 != 0 <;> rfl
def e_zaW : zcq := io_zaW.sp (fun (a,b,c,d,e,f,i) => (wOK a b c d e f)) (fun (a,b,c,d,e,f,i) => (oW (brV (wgV a b c d e f)) (usT c i) i))
theorem sp_zaW (h : ∀ (a : List Bool) (b : List Tk) (c : List Th) (d : List Lk) (e : List Int) (f : Int) (i : Int),WfT [.sl tB,.sl yK,.sl yH,.sl yL,.sl tI,tI,tI] (a,b,c,d,e,f,i) → ((wOK a b c d e f)) = true → (zaW (a,b,c,d,e,f,i)).run (fun _ => none) = some (oW (brV (wgV a b c d e f)) (usT c i) i)) : e_zaW.ok pg := zcw ok_zaW fun (a,b,c,d,e,f,i) hw hc => h a b c d e f i hw hc
theorem e_zaW_ok : e_zaW.ok pg := sp_zaW fun a b c d e f i _ hc => by
 obtain ⟨H,h8⟩ := zdc hc
 rw [zaW]
 simp only [RT.run,getThread_ok]
 unfold oW
 cases hu : usT c i with
 | false => rfl
 | true =>
  rw [if_neg (by decide : ¬ (!true) = true),if_neg (by decide : ¬ (!true) = true),if_pos hc]
  by_cases h : ((opB (brV (wgV a b c d e f))).2.2.1 != 0) = true
  ·rw [if_pos h,if_pos h]
  ·obtain ⟨o1,o2,o3⟩ := opB_ok h
   obtain ⟨u1,u2,u3,u4⟩ := usT_wg H hu o2 o3
   rw [if_neg h,if_neg h,o1]
   unfold wN
   generalize brV (wgV a b c d e f) = x at *
   rw [if_pos (show nz x.2.1 = true from decide_eq_true o3),if_pos u1]
   have hle := each_le u2 u3
   obtain ⟨w,hw⟩ := Int.eq_ofNat_of_zero_le u4
   have hwn : (gI x.2.2.2 i).toNat = w := by rw [hw]; rfl
   rw [hwn] at hle ⊢
   rw [hw]
   generalize 18446744073709551616 / x.2.1.toNat = E at hle ⊢
   have e1 : ((E / 18446744073709551616 : Nat) : Int) * 18446744073709551616 + ((E % 18446744073709551616 : Nat) : Int) = (E : Int) := by omega
   have fin : ∀ W : Int,W = ((E * w : Nat) : Int) → (if decide (W < M128) = true then some (W / 18446744073709551616,W % 18446744073709551616,(0 : Int)) else none) = some (((E * w / 18446744073709551616 : Nat) : Int),((E * w % 18446744073709551616 : Nat) : Int),0) := fun W hW => by
    have hM := M128_eq
    rw [if_pos (decide_eq_true (by omega))]
    subst hW
    rfl
   exact fin _ (by rw [e1,Int.natCast_mul])
def zbB : ((List Bool) × (List Tk) × (List Th) × (List Lk) × (List Int) × Int) → RT Unit (Int × Int)
| (s_0,s_1,s_2,s_3,s_4,s_5) =>
 .rq 4 (.req ((wOK s_0 s_1 s_2 s_3 s_4 s_5)) (.rq 8 (let t0 := (opB (brV (wgV s_0 s_1 s_2 s_3 s_4 s_5)));
 .ite (t0.2.2.1 != 0)
 (.rq 3 (.done (0,t0.2.2.1)))
 (.rq 5 (.done ((restV t0.2.1),0))))))
def F_zbB (x : (List Bool) × (List Tk) × (List Th) × (List Lk) × (List Int) × Int) : Option (Int × Int) := (zbB x).run fun _ => none
def io_zbB : Io := ⟨n_zbB,[.sl tB,.sl yK,.sl yH,.sl yL,.sl tI,tI],[.agg [qm 0,qm 1,qm 2,qm 3,qm 4,qm 5]],[],[[.sl tB,.sl yK,.sl yH,.sl yL,.sl tI,tI]],[tU,tI],.tup [(false,[qm 0]),(false,[qm 1])],[],[],false⟩
def zbB_P : List zch := []
def zbB_T : zcl := tab [e_zbo,e_zbu]
theorem zbB_To : zck pg zbB_T := zci ⟨e_zbo_ok,e_zbu_ok,trivial⟩
theorem zbB_go : zcy pg (zbB_T) io_zbB f_zbB (zbB_P) [] (zbB) := ⟨by kernel_rfl,by kernel_rfl,fun x => by kernel_rfl⟩
theorem ok_zbB : io_zbB.Okay pg (F_zbB) := zcu zcj (zbB_To) (zbB_go) trivial
def e_zbB : zcq := io_zbB.sp (fun (a,b,c,d,e,f) => (wOK a b c d e f)) (fun (a,b,c,d,e,f) => (if ((opB (brV (wgV a b c d e f))).2.2.1 != 0) = true then (0,(opB (brV (wgV a b c d e f))).2.2.1) else (restV (opB (brV (wgV a b c d e f))).2.1,0)))
theorem sp_zbB (h : ∀ (a : List Bool) (b : List Tk) (c : List Th) (d : List Lk) (e : List Int) (f : Int),WfT [.sl tB,.sl yK,.sl yH,.sl yL,.sl tI,tI] (a,b,c,d,e,f) → ((wOK a b c d e f)) = true → (zbB (a,b,c,d,e,f)).run (fun _ => none) = some (if ((opB (brV (wgV a b c d e f))).2.2.1 != 0) = true then (0,(opB (brV (wgV a b c d e f))).2.2.1) else (restV (opB (brV (wgV a b c d e f))).2.1,0))) : e_zbB.ok pg := zcw ok_zbB fun (a,b,c,d,e,f) hw hc => h a b c d e f hw hc
theorem e_zbB_ok : e_zbB.ok pg := sp_zbB fun a b c d e f _ hc => by
 rw [zbB]
 simp only [RT.run]
 rw [if_pos hc]
 split <;> rfl
def zJ_b58 : (Int × (List Bool) × (List Tk) × (List Th) × (List Lk) × (List Int) × Int) → (Int × (List ((List Int) × List Int))) → RT (Int × (List ((List Int) × List Int))) (List ((List Int) × List Int))
| (x10,s_0,s_1,s_2,s_3,s_4,s_5),(x11,r3) =>
 .rq 1 (.ite (decide (x11 < x10))
 (.rq 6 (.req ((wOK s_0 s_1 s_2 s_3 s_4 s_5)) (.req (inB r3 x11) (.rq 3 (let t0 := (rq (chV (wgV s_0 s_1 s_2 s_3 s_4 s_5) x11));
 .again (w64 (x11 + 1),sI r3 x11 (t0.1,t0.2)))))))
 (.done r3))
def zJ_p58 : zch := ⟨58,true,[tI,.sl tB,.sl yK,.sl yH,.sl yL,.sl tI,tI],[tI,.sl (.pair (.sl tV) (.sl tV))],⟨[.keep [1,3,10,11],.gc,.nilRow 3 800003 41 (.pair (.sl tV) (.sl tV)),.ren 3 700003,.ren 3 900003,.gc],[1,3,10,11],[.lf (qp 16),.lf (qr 900003),.lf (qi 0),.lf (qm 0)],[(16,true,.cells [qi 1,qi 2,qi 3,qi 4,qi 5,qi 6]),(900003,true,.arr 41 (qm 1))]⟩,[⟨2,⟨[.keep [3],.gc,.nilRow 3 800003 41 (.pair (.sl tV) (.sl tV)),.ren 3 700003,.ren 3 900003,.gc],[3],[.lf (qr 900003)],[(900003,true,.arr 41 (qm 0))]⟩,[.sl (.pair (.sl tV) (.sl tV))]⟩],zJ_b58⟩
def zJ : ((List Bool) × (List Tk) × (List Th) × (List Lk) × (List Int) × Int) → RT Unit (List ((List Int) × List Int))
| (s_0,s_1,s_2,s_3,s_4,s_5) =>
 .rq 5 (.req (mkOK 48 (s_2.length : Int)) (.rq 4 (let t0 := zdd (s_2.length : Int) ([],[]);
 .call (lo zJ_b58 ((t0.length : Int),s_0,s_1,s_2,s_3,s_4,s_5) (0,t0)) default fun v0 =>
 .rq 2 (.done v0))))
def F_zJ (x : (List Bool) × (List Tk) × (List Th) × (List Lk) × (List Int) × Int) : Option (List ((List Int) × List Int)) := (zJ x).run fun _ => none
def io_zJ : Io := ⟨n_zJ,[.sl tB,.sl yK,.sl yH,.sl yL,.sl tI,tI],[.agg [qm 0,qm 1,qm 2,qm 3,qm 4,qm 5]],[],[[.sl tB,.sl yK,.sl yH,.sl yL,.sl tI,tI]],[.sl (.pair (.sl tV) (.sl tV))],.lf (qr 0),[],[(true,.arr 41 (qm 0))],true⟩
def zJ_P : List zch := [zJ_p58]
def zJ_T : zcl := tab [e_zU]
theorem zJ_To : zck pg zJ_T := zci ⟨e_zU_ok,trivial⟩
theorem zJ_k58 : (zJ_p58).OK pg (zJ_T) (zcB 22 (zJ_P)) (zcs f_zJ) 22 := ⟨by kernel_rfl,fun i x => by kernel_rfl⟩
theorem zJ_go : zcy pg (zJ_T) io_zJ f_zJ (zJ_P) [.nilRow 2 800002 41 (.pair (.sl tV) (.sl tV)),.ren 2 700002,.ren 2 900002] (zJ) := ⟨by kernel_rfl,by kernel_rfl,fun x => by kernel_rfl⟩
theorem ok_zJ : io_zJ.Okay pg (F_zJ) := zcu zcj (zJ_To) (zJ_go) ⟨zJ_k58,trivial⟩
def chs (L : List Rat) (n : Nat) : List Rat := (zcO n).map (chV L)
theorem ch_loop {a : List Bool} {b : List Tk} {c : List Th} {d : List Lk} {e : List Int} {f : Int} (hw : wOK a b c d e f = true) : ∀ (n i : Nat) (r : List (List Int × List Int)),i + n = c.length → r.length = c.length →
  lo zJ_b58 ((c.length : Int),a,b,c,d,e,f) ((i : Int),r) = some (r.take i ++ (((List.range' i n).map fun (k : Nat) => (k : Int)).map fun k => rq (chV (wgV a b c d e f) k)))
 | 0,i,r,h,hr => by
  rw [zcr,zJ_b58]
  simp only [RT.run]
  rw [if_neg (by simp; omega),List.take_of_length_le (by omega)]
  simp
 | n + 1,i,r,h,hr => by
  obtain ⟨H,h8⟩ := zdc hw
  have hlc := H.lenC
  rw [zcr,zJ_b58]
  simp only [RT.run]
  rw [if_pos (by simp; omega),if_pos hw,if_pos (zcn.2 ⟨by omega,by omega⟩),zcm (by omega),show (i : Int) + 1 = ((i + 1 : Nat) : Int) by omega,zhc,List.map_cons]
  have ih := ch_loop hw n (i + 1) (sI r (i : Int) ((rq (chV (wgV a b c d e f) (i : Int))).1,(rq (chV (wgV a b c d e f) (i : Int))).2)) (by omega) (by rw [sI_len]; exact hr)
  rw [ih]
  congr 1
  rw [show ∀ (x : List Int × List Int) (l : List (List Int × List Int)),r.take i ++ x :: l = (r.take i ++ [x]) ++ l from fun x l => by simp]
  congr 1
  simp only [sI,Int.toNat_natCast]
  rw [List.take_add_one,List.take_set,List.getElem?_set_self (by omega)]
  rw [List.set_eq_of_length_le (by rw [List.length_take]; omega)]
  rfl
def e_zJ : zcq := io_zJ.sp (fun (a,b,c,d,e,f) => (wOK a b c d e f)) (fun (a,b,c,d,e,f) => ((chs (wgV a b c d e f) c.length).map rq))
theorem sp_zJ (h : ∀ (a : List Bool) (b : List Tk) (c : List Th) (d : List Lk) (e : List Int) (f : Int),WfT [.sl tB,.sl yK,.sl yH,.sl yL,.sl tI,tI] (a,b,c,d,e,f) → ((wOK a b c d e f)) = true → (zJ (a,b,c,d,e,f)).run (fun _ => none) = some ((chs (wgV a b c d e f) c.length).map rq)) : e_zJ.ok pg := zcw ok_zJ fun (a,b,c,d,e,f) hw hc => h a b c d e f hw hc
theorem e_zJ_ok : e_zJ.ok pg := sp_zJ fun a b c d e f _ hc => by
 obtain ⟨H,h8⟩ := zdc hc
 have hlc := H.lenC
 have hra : (zdd (c.length : Int) (([] : List Int),([] : List Int))) = List.replicate c.length ([],[]) := by unfold zdd; rw [Int.toNat_natCast]
 have hl := ch_loop hc c.length 0 (List.replicate c.length ([],[])) (by omega) (by simp)
 rw [show ((0 : Nat) : Int) = 0 from rfl] at hl
 rw [zJ]
 simp only [RT.run]
 rw [if_pos (zdF.2 ⟨by omega,by omega,by omega⟩),hra,List.length_replicate,hl]
 unfold chs zcO
 rw [List.range_eq_range']
 simp
def zbq : ((List Bool) × (List Tk) × (List Th) × (List Lk) × (List Int) × Int × Int × Int) → RT Unit ((List Int) × (List Int))
| (s_0,s_1,s_2,s_3,s_4,s_5,i,n) =>
 .rq 15 (.req ((wOK s_0 s_1 s_2 s_3 s_4 s_5)) (.rq 1 (let t0 := mkR (zcx (zdJ n 0)).toNat (1 : Int).toNat;
 let t1 := (rq (chV (wgV s_0 s_1 s_2 s_3 s_4 s_5) i));
 let t2 := [(t0.2.1,t0.2.2),(t1.1,t1.2)];
 .req (okS t2) (.rq 1 (let t3 := rq (prodQ t2);
 .done (t3.1,t3.2))))))
def F_zbq (x : (List Bool) × (List Tk) × (List Th) × (List Lk) × (List Int) × Int × Int × Int) : Option ((List Int) × (List Int)) := (zbq x).run fun _ => none
def io_zbq : Io := ⟨n_zbq,[.sl tB,.sl yK,.sl yH,.sl yL,.sl tI,tI,tI,tI],[.agg [qm 0,qm 1,qm 2,qm 3,qm 4,qm 5],.lf (qm 6),.lf (qm 7)],[],[[.sl tB,.sl yK,.sl yH,.sl yL,.sl tI,tI],[tI],[tI]],[.sl tV,.sl tV],.agg [qr 0,qr 1],[],[(true,.arr 122 (qm 0)),(true,.arr 122 (qm 1))],false⟩
def zbq_P : List zch := []
def zbq_T : zcl := tab [e_zU,e_zab,e_zbF]
theorem zbq_To : zck pg zbq_T := zci ⟨e_zU_ok,e_zab_ok,e_zbF_ok,trivial⟩
theorem zbq_go : zcy pg (zbq_T) io_zbq f_zbq (zbq_P) [.cellRow 96 0 600096 122 tV,.cellRow 96 1 600097 122 tV,.cellRen 96 0 600096,.cellRen 96 1 600097] (zbq) := ⟨by kernel_rfl,by kernel_rfl,fun x => by kernel_rfl⟩
theorem ok_zbq : io_zbq.Okay pg (F_zbq) := zcu zcj (zbq_To) (zbq_go) trivial
def e_zbq : zcq := io_zbq.sp (fun (a,b,c,d,e,f,i,n) => (wOK a b c d e f)) (fun (a,b,c,d,e,f,i,n) => (rq (((zdJ n 0).toNat : Rat) * chV (wgV a b c d e f) i)))
theorem sp_zbq (h : ∀ (a : List Bool) (b : List Tk) (c : List Th) (d : List Lk) (e : List Int) (f : Int) (i : Int) (n : Int),WfT [.sl tB,.sl yK,.sl yH,.sl yL,.sl tI,tI,tI,tI] (a,b,c,d,e,f,i,n) → ((wOK a b c d e f)) = true → (zbq (a,b,c,d,e,f,i,n)).run (fun _ => none) = some (rq (((zdJ n 0).toNat : Rat) * chV (wgV a b c d e f) i))) : e_zbq.ok pg := zcw ok_zbq fun (a,b,c,d,e,f,i,n) hw hc => h a b c d e f i n hw hc
theorem sm_nat64 {n : Nat} (h : n < 18446744073709551616) : 0 ≤ (n : Rat) ∧ sm 64 (n : Rat) := by
 refine ⟨by exact_mod_cast Nat.zero_le n,?_,?_⟩
 ·show ((n : Rat).num.toNat) < 2 ^ 64
  rw [show ((n : Rat)).num = (n : Int) from rfl]
  simpa using h
 ·show ((n : Rat)).den < 2 ^ 64
  rw [show ((n : Rat)).den = 1 from rfl]
  decide
theorem e_zbq_ok : e_zbq.ok pg := sp_zbq fun a b c d e f i n hw hc => by
 obtain ⟨H,h8⟩ := zdc hc
 obtain ⟨s1,s2⟩ := ch_sm H i
 have hn : -9223372036854775808 ≤ n ∧ n ≤ 9223372036854775807 := hw.2.2.2.2.2.2.2
 have hm : 0 ≤ zdJ n 0 ∧ zdJ n 0 < 18446744073709551616 := by
  unfold zdJ
  split <;> omega
 rw [zbq]
 simp only [RT.run]
 rw [if_pos hc,zcD hm]
 have hmn : (zdJ n 0).toNat < 18446744073709551616 := by omega
 generalize (zdJ n 0).toNat = m at *
 obtain ⟨r1,r2⟩ := sm_nat64 hmn
 have hmk : mkR m (1 : Int).toNat = (true,rq (m : Rat)) := by
  unfold mkR
  rw [if_neg (by decide)]
  show (true,rq (mkRat (m : Int) 1)) = _
  rw [Rat.mkRat_one]
  rfl
 rw [hmk]
 show (if okS [rq (m : Rat),rq (chV (wgV a b c d e f) i)] = true then some (rq (prodQ [rq (m : Rat),rq (chV (wgV a b c d e f) i)])) else none) = _
 have hp : prodQ [rq (m : Rat),rq (chV (wgV a b c d e f) i)] = (m : Rat) * chV (wgV a b c d e f) i := by
  show 1 * toQ _ _ * toQ _ _ = _
  rw [zgw r1,zgw s1,Rat.one_mul]
 rw [okS2 r2 s2 (by decide) (by decide),if_pos rfl,hp]
def zE_b3378 : (Int × (List Th) × (List Int) × (List Int)) → RT Unit Bool
| (i,s_2,c_0,c_1) =>
 .rq 3 (.req (inB s_2 i) (.rq 4 (.ite ((gI s_2 i).1 != 0)
 (.rq 2 (.req (okr c_0 c_1 && okr [] (zcg B32 1)) (.rq 1 (.done (decide (toQ c_0 c_1 = toQ [] (zcg B32 1)))))))
 (.rq 1 (.done false)))))
def zE_p3378 : zch := ⟨3378,false,[tI,tI,tI,.sl tB,.sl yK,.sl yH,.sl yL,.sl tI,tI,.sl tI,.sl tV,.sl tV,.sl (.pair (.sl tV) (.sl tV))],[],⟨[.keep [1,2,3,4,6,7,8],.gc],[1,2,3,4,6,7,8],[.lf (qp 16),.lf (qr 900002),.lf (qi 0),.lf (qp 64),.lf (qr 900006),.lf (qi 1),.lf (qi 2)],[(16,true,.cells [qi 3,qi 4,qi 5,qi 6,qi 7,qi 8]),(900002,true,.arr 3 (qi 9)),(64,true,.cells [qi 10,qi 11]),(900006,true,.arr 41 (qi 12))]⟩,[⟨0,⟨[.keep [1,2,3,6,7,8,24],.gc,.nilRow 2 800002 3 tI,.nilRow 6 800006 41 (.pair (.sl tV) (.sl tV)),.ren 2 700002,.ren 6 700006,.ren 2 900002,.ren 6 900006,.gc],[1,2,3,6,7,8,24],[.lf (qp 16),.lf (qr 900002),.lf (qi 0),.lf (qr 900006),.lf (qi 1),.lf (qi 2),.lf (qm 0)],[(16,true,.cells [qi 3,qi 4,qi 5,qi 6,qi 7,qi 8]),(900002,true,.arr 3 (qi 9)),(900006,true,.arr 41 (qi 12))]⟩,[tB]⟩],(fun i _ => zE_b3378 (i.1,i.2.2.2.2.2.1,i.2.2.2.2.2.2.2.2.2.2.1,i.2.2.2.2.2.2.2.2.2.2.2.1))⟩
def zE_b26 : (Int × (List Th) × (List ((List Int) × List Int))) → (Int × (List Int)) → RT (Int × (List Int)) (List Int)
| (x7,s_2,r6),(x8,r2) =>
 .rq 1 (.ite (decide (x8 < x7))
 (.rq 1 (.req (inB r6 x8) (.rq 4 (.call (on zE_b3378 (x8,s_2,(gI r6 x8).1,(gI r6 x8).2)) default fun v1 =>
 let t0 := w64 (x8 + 1);
 .ite v1
 (.rq 3 (.req (zdK 8 r2 [x8]) (.rq 3 (.again (t0,r2 ++ [x8])))))
 (.rq 2 (.again (t0,r2)))))))
 (.done r2))
def zE_p26 : zch := ⟨26,true,[tI,.sl tB,.sl yK,.sl yH,.sl yL,.sl tI,tI,.sl (.pair (.sl tV) (.sl tV))],[tI,.sl tI],⟨[.keep [1,2,6,7,8],.gc,.nilRow 2 800002 3 tI,.nilRow 6 800006 41 (.pair (.sl tV) (.sl tV)),.ren 2 700002,.ren 6 700006,.ren 2 900002,.ren 6 900006,.gc],[1,2,6,7,8],[.lf (qp 16),.lf (qr 900002),.lf (qr 900006),.lf (qi 0),.lf (qm 0)],[(16,true,.cells [qi 1,qi 2,qi 3,qi 4,qi 5,qi 6]),(900002,true,.arr 3 (qm 1)),(900006,true,.arr 41 (qi 7))]⟩,[⟨2,⟨[.keep [2],.gc,.nilRow 2 800002 3 tI,.ren 2 700002,.ren 2 900002,.gc],[2],[.lf (qr 900002)],[(900002,true,.arr 3 (qm 0))]⟩,[.sl tI]⟩],(fun i => zE_b26 (i.1,i.2.2.2.1,i.2.2.2.2.2.2.2))⟩
def zE : ((List Bool) × (List Tk) × (List Th) × (List Lk) × (List Int) × Int) → RT Unit (List Int)
| (s_0,s_1,s_2,s_3,s_4,s_5) =>
 .rq 3 (.req ((wOK s_0 s_1 s_2 s_3 s_4 s_5)) (.rq 2 (let t0 := ((chs (wgV s_0 s_1 s_2 s_3 s_4 s_5) s_2.length).map rq);
 .call (lo zE_b26 ((t0.length : Int),s_2,t0) (0,[])) default fun v2 =>
 .rq 2 (.done v2))))
def F_zE (x : (List Bool) × (List Tk) × (List Th) × (List Lk) × (List Int) × Int) : Option (List Int) := (zE x).run fun _ => none
def io_zE : Io := ⟨n_zE,[.sl tB,.sl yK,.sl yH,.sl yL,.sl tI,tI],[.agg [qm 0,qm 1,qm 2,qm 3,qm 4,qm 5]],[],[[.sl tB,.sl yK,.sl yH,.sl yL,.sl tI,tI]],[.sl tI],.lf (qr 0),[],[(true,.arr 3 (qm 0))],false⟩
def zE_P : List zch := [zE_p3378,zE_p26]
def zE_T : zcl := tab [e_zJ,e_zbg,e_zag]
theorem zE_To : zck pg zE_T := zci ⟨e_zJ_ok,e_zbg_ok,zgp,trivial⟩
theorem zE_k3378 : (zE_p3378).OK pg (zE_T) (zcB 31 (zE_P)) (zcs f_zE) 31 := ⟨by kernel_rfl,fun i x => by kernel_rfl⟩
theorem zE_k26 : (zE_p26).OK pg (zE_T) (zcB 31 (zE_P)) (zcs f_zE) 31 := ⟨by kernel_rfl,fun i x => by kernel_rfl⟩
theorem zE_go : zcy pg (zE_T) io_zE f_zE (zE_P) [.nilRow 2 800002 3 tI,.ren 2 700002,.ren 2 900002] (zE) := ⟨by kernel_rfl,by kernel_rfl,fun x => by kernel_rfl⟩
theorem ok_zE : io_zE.Okay pg (F_zE) := zcu zcj (zE_To) (zE_go) ⟨zE_k3378,zE_k26,trivial⟩
def nevV (c : List Th) (L : List Rat) : List Int := (zcO c.length).filter fun i => (gI c i).1 != 0 && decide (chV L i = 0)
def e_zE : zcq := io_zE.sp (fun (a,b,c,d,e,f) => (wOK a b c d e f)) (fun (a,b,c,d,e,f) => (nevV c (wgV a b c d e f)))
theorem sp_zE (h : ∀ (a : List Bool) (b : List Tk) (c : List Th) (d : List Lk) (e : List Int) (f : Int),WfT [.sl tB,.sl yK,.sl yH,.sl yL,.sl tI,tI] (a,b,c,d,e,f) → ((wOK a b c d e f)) = true → (zE (a,b,c,d,e,f)).run (fun _ => none) = some (nevV c (wgV a b c d e f))) : e_zE.ok pg := zcw ok_zE fun (a,b,c,d,e,f) hw hc => h a b c d e f hw hc
theorem nev_loop {a : List Bool} {b : List Tk} {c : List Th} {d : List Lk} {e : List Int} {f : Int} (hw : wOK a b c d e f = true) : ∀ (n i : Nat) (r : List Int),i + n = c.length → r.length ≤ i →
  lo zE_b26 ((c.length : Int),c,(chs (wgV a b c d e f) c.length).map rq) ((i : Int),r) = some (r ++ ((List.range' i n).map fun (k : Nat) => (k : Int)).filter fun i => (gI c i).1 != 0 && decide (chV (wgV a b c d e f) i = 0))
 | 0,i,r,h,_ => by
  rw [zcr,zE_b26]
  simp only [RT.run]
  rw [if_neg (by simp; omega)]
  simp
 | n + 1,i,r,h,hr => by
  obtain ⟨H,h8⟩ := zdc hw
  have hlc := H.lenC
  have hi : 0 ≤ (i : Int) ∧ (i : Int) < (c.length : Int) := by omega
  obtain ⟨s1,s2⟩ := ch_sm H (i : Int)
  have hcl : (chs (wgV a b c d e f) c.length).length = c.length := by simp [chs,zcO]
  have hg : gI (chs (wgV a b c d e f) c.length) (i : Int) = chV (wgV a b c d e f) (i : Int) := zeJ hi
  have hin : on zE_b3378 ((i : Int),c,(rq (chV (wgV a b c d e f) (i : Int))).1,(rq (chV (wgV a b c d e f) (i : Int))).2) = some ((gI c (i : Int)).1 != 0 && decide (chV (wgV a b c d e f) (i : Int) = 0)) := by
   show (zE_b3378 _).run _ = _
   rw [zE_b3378]
   simp only [RT.run]
   rw [if_pos (zcn.2 hi)]
   by_cases h0 : ((gI c (i : Int)).1 != 0) = true
   ·have hz := zgw (q := 0) (by decide)
    rw [rq_zero] at hz
    rw [if_pos h0,h0,okr_rq s2 (by decide),if_pos (by decide),zgw s1,hz,Bool.true_and]
   ·rw [if_neg h0,Bool.eq_false_iff.2 h0,Bool.false_and]
  rw [zcr,zE_b26]
  simp only [RT.run]
  rw [if_pos (by simp; omega),if_pos (zcn.2 (by rw [List.length_map,hcl]; exact hi)),zek rq (by rw [hcl]; exact hi),hg,hin,Option.bind_some,zcm (by omega),show (i : Int) + 1 = ((i + 1 : Nat) : Int) by omega,zhc,List.filter_cons]
  by_cases hv : ((gI c (i : Int)).1 != 0 && decide (chV (wgV a b c d e f) (i : Int) = 0)) = true
  ·rw [if_pos hv,if_pos (zgc (by decide) (by simp; omega)),nev_loop hw n (i + 1) _ (by omega) (by simp; omega),if_pos hv]
   simp
  ·rw [if_neg hv,nev_loop hw n (i + 1) _ (by omega) (by omega),if_neg hv]
theorem e_zE_ok : e_zE.ok pg := sp_zE fun a b c d e f _ hc => by
 have hcl : (chs (wgV a b c d e f) c.length).length = c.length := by simp [chs,zcO]
 have hl := nev_loop hc c.length 0 [] (by omega) (by simp)
 rw [show ((0 : Nat) : Int) = 0 from rfl] at hl
 rw [zE]
 simp only [RT.run]
 rw [if_pos hc,List.length_map,hcl,hl]
 unfold nevV zcO
 rw [List.range_eq_range']
 simp
def zaC : ((List Bool) × (List Tk) × (List Th) × (List Lk) × (List Int) × Int × Int × Int) → RT Unit Int
| (s_0,s_1,s_2,s_3,s_4,s_5,i,j) =>
 .rq 4 (.req ((wOK s_0 s_1 s_2 s_3 s_4 s_5)) (.rq 2 (.req ((wOK s_0 s_1 s_2 s_3 s_4 s_5)) (let t0 := (rq (chV (wgV s_0 s_1 s_2 s_3 s_4 s_5) i));
 let t1 := (rq (chV (wgV s_0 s_1 s_2 s_3 s_4 s_5) j));
 .req (okr t0.1 t0.2 && okr t1.1 t1.2) (.rq 1 (.done (zde ((val B32 t0.1 * val B32 t1.2 : Nat) : Int) ((val B32 t1.1 * val B32 t0.2 : Nat) : Int))))))))
def F_zaC (x : (List Bool) × (List Tk) × (List Th) × (List Lk) × (List Int) × Int × Int × Int) : Option Int := (zaC x).run fun _ => none
def io_zaC : Io := ⟨n_zaC,[.sl tB,.sl yK,.sl yH,.sl yL,.sl tI,tI,tI,tI],[.agg [qm 0,qm 1,qm 2,qm 3,qm 4,qm 5],.lf (qm 6),.lf (qm 7)],[],[[.sl tB,.sl yK,.sl yH,.sl yL,.sl tI,tI],[tI],[tI]],[tI],.lf (qm 0),[],[],false⟩
def zaC_P : List zch := []
def zaC_T : zcl := tab [e_zU,e_zbr]
theorem zaC_To : zck pg zaC_T := zci ⟨e_zU_ok,e_zbr_ok,trivial⟩
theorem zaC_go : zcy pg (zaC_T) io_zaC f_zaC (zaC_P) [] (zaC) := ⟨by kernel_rfl,by kernel_rfl,fun x => by kernel_rfl⟩
theorem ok_zaC : io_zaC.Okay pg (F_zaC) := zcu zcj (zaC_To) (zaC_go) trivial
def e_zaC : zcq := io_zaC.sp (fun (a,b,c,d,e,f,i,j) => (wOK a b c d e f)) (fun (a,b,c,d,e,f,i,j) => (zde (((chV (wgV a b c d e f) i).num.toNat * (chV (wgV a b c d e f) j).den : Nat) : Int) (((chV (wgV a b c d e f) j).num.toNat * (chV (wgV a b c d e f) i).den : Nat) : Int)))
theorem sp_zaC (h : ∀ (a : List Bool) (b : List Tk) (c : List Th) (d : List Lk) (e : List Int) (f : Int) (i : Int) (j : Int),WfT [.sl tB,.sl yK,.sl yH,.sl yL,.sl tI,tI,tI,tI] (a,b,c,d,e,f,i,j) → ((wOK a b c d e f)) = true → (zaC (a,b,c,d,e,f,i,j)).run (fun _ => none) = some (zde (((chV (wgV a b c d e f) i).num.toNat * (chV (wgV a b c d e f) j).den : Nat) : Int) (((chV (wgV a b c d e f) j).num.toNat * (chV (wgV a b c d e f) i).den : Nat) : Int))) : e_zaC.ok pg := zcw ok_zaC fun (a,b,c,d,e,f,i,j) hw hc => h a b c d e f i j hw hc
theorem e_zaC_ok : e_zaC.ok pg := sp_zaC fun a b c d e f i j _ hc => by
 obtain ⟨H,h8⟩ := zdc hc
 rw [zaC]
 simp only [RT.run]
 rw [if_pos hc,if_pos hc,okr_rq (ch_sm H i).2 (by decide),okr_rq (ch_sm H j).2 (by decide),if_pos (by decide),rq_num,rq_num,rq_den,rq_den]
def zau_b30 : (Int × Int) → RT Unit Int
| (e,x_1) =>
 .rq 7 (.ite ((e == 0) && (x_1 == 0))
 (.rq 1 (.done 16))
 (.done e))
def zau_p30 : zch := ⟨30,false,[tI,tI,tU,tU,.sl tU],[],⟨[.keep [1,4,6,7],.gc],[1,4,6,7],[.lf (qi 0),.lf (qp 64),.lf (qp 96),.lf (qi 1)],[(64,true,.cells [.fix (.nil)]),(96,true,.cells [qi 2,qi 3,qr 241]),(241,true,.arr 48 (qi 4))]⟩,[⟨0,⟨[.keep [1,4,6,7],.gc,.cellRow 96 2 600098 48 tU,.cellRen 96 2 600098,.gc],[1,4,6,7],[.lf (qi 0),.lf (qp 64),.lf (qp 96),.lf (qm 0)],[(64,true,.cells [.fix (.nil)]),(96,true,.cells [qi 2,qi 3,qr 600098]),(600098,true,.arr 48 (qi 4))]⟩,[tI]⟩],(fun i _ => zau_b30 (i.2.1,i.2.2.2.1))⟩
def zau : ((List Bool) × (List Tk) × (List Th) × (List Lk) × (List Int) × Int × Int) → RT Unit (Int × (List Int))
| (s_0,s_1,s_2,s_3,s_4,s_5,i) =>
 .rq 7 (.ite (!((inB s_2 i && (gI s_2 i).1 != 0)))
 (.rq 3 (.done (7,[])))
 (.rq 1 (.req ((wOK s_0 s_1 s_2 s_3 s_4 s_5)) (.rq 6 (let t0 := (brV (wgV s_0 s_1 s_2 s_3 s_4 s_5));
 .call (on zau_b30 (t0.2.2.1,t0.2.1)) default fun v0 =>
 .rq 2 (.ite (v0 != 0)
 (.rq 4 (.done (v0,[])))
 (.rq 3 (.req (inB t0.2.2.2 i) (.rq 4 (.req ((nz t0.2.1)) (let t1 := (zcg B16 (18446744073709551616 / t0.2.1.toNat));
 let t2 := zcg B16 (gI t0.2.2.2 i).toNat;
 .req (okM 38 t2 && okM 38 t1) (.rq 2 (.done (0,zcg B16 (val B16 t2 * val B16 t1)))))))))))))))
def F_zau (x : (List Bool) × (List Tk) × (List Th) × (List Lk) × (List Int) × Int × Int) : Option (Int × (List Int)) := (zau x).run fun _ => none
def io_zau : Io := ⟨n_zau,[.sl tB,.sl yK,.sl yH,.sl yL,.sl tI,tI,tI],[.agg [qm 0,qm 1,qm 2,qm 3,qm 4,qm 5],.lf (qm 6)],[],[[.sl tB,.sl yK,.sl yH,.sl yL,.sl tI,tI],[tI]],[tI,.sl tI],.tup [(true,[qr 0]),(false,[qm 0])],[],[(true,.arr 3 (qm 1))],false⟩
def zau_P : List zch := [zau_p30]
def zau_T : zcl := tab [e_zbS,e_zbJ,e_zam,e_zO,e_zbf]
theorem zau_To : zck pg zau_T := zci ⟨e_zbS_ok,e_zbJ_ok,zho,zhH,zid,trivial⟩
theorem zau_k30 : (zau_p30).OK pg (zau_T) (zcB 39 (zau_P)) (zcs f_zau) 39 := ⟨by kernel_rfl,fun i x => by kernel_rfl⟩
theorem zau_go : zcy pg (zau_T) io_zau f_zau (zau_P) [.cellRow 64 0 600064 3 tI,.cellRen 64 0 600064] (zau) := ⟨by kernel_rfl,by kernel_rfl,fun x => by kernel_rfl⟩
theorem ok_zau : io_zau.Okay pg (F_zau) := zcu zcj (zau_To) (zau_go) ⟨zau_k30,trivial⟩
def oR (x : Br) (u : Bool) (i : Int) : Int × List Int := if (!u) = true then (7,[]) else if ((opB x).2.2.1 != 0) = true then ((opB x).2.2.1,[]) else (0,zcg B16 (wN x i))
def e_zau : zcq := io_zau.sp (fun (a,b,c,d,e,f,i) => (wOK a b c d e f)) (fun (a,b,c,d,e,f,i) => (oR (brV (wgV a b c d e f)) (usT c i) i))
theorem sp_zau (h : ∀ (a : List Bool) (b : List Tk) (c : List Th) (d : List Lk) (e : List Int) (f : Int) (i : Int),WfT [.sl tB,.sl yK,.sl yH,.sl yL,.sl tI,tI,tI] (a,b,c,d,e,f,i) → ((wOK a b c d e f)) = true → (zau (a,b,c,d,e,f,i)).run (fun _ => none) = some (oR (brV (wgV a b c d e f)) (usT c i) i)) : e_zau.ok pg := zcw ok_zau fun (a,b,c,d,e,f,i) hw hc => h a b c d e f i hw hc
theorem e_zau_ok : e_zau.ok pg := sp_zau fun a b c d e f i _ hc => by
 obtain ⟨H,h8⟩ := zdc hc
 rw [zau]
 simp only [RT.run]
 rw [show (inB c i && (gI c i).1 != 0) = usT c i from rfl]
 unfold oR
 cases hu : usT c i with
 | false => rfl
 | true =>
  rw [if_neg (by decide : ¬ (!true) = true),if_neg (by decide : ¬ (!true) = true),if_pos hc]
  have hin : ∀ x : Br,on zau_b30 (x.2.2.1,x.2.1) = some (opB x).2.2.1 := fun x => by
   show (zau_b30 _).run _ = _
   rw [zau_b30]
   simp only [RT.run]
   unfold opB
   split <;> rfl
  rw [hin,Option.bind_some]
  by_cases h : ((opB (brV (wgV a b c d e f))).2.2.1 != 0) = true
  ·rw [if_pos h,if_pos h]
  ·obtain ⟨o1,o2,o3⟩ := opB_ok h
   obtain ⟨u1,u2,u3,u4⟩ := usT_wg H hu o2 o3
   obtain ⟨b1,b2,b3⟩ := brV_sum (wgV a b c d e f) (wg_hyp H).2
   obtain ⟨t1,t2,t3⟩ := b3 o2
   rw [if_neg h,if_neg h]
   unfold wN
   generalize brV (wgV a b c d e f) = x at *
   have hE : 18446744073709551616 / x.2.1.toNat ≤ 18446744073709551616 := Nat.div_le_self _ _
   have l1 : (zcg B16 (18446744073709551616 / x.2.1.toNat)).length ≤ 65 := zfC (by decide) (by omega)
   have l2 : (zcg B16 (gI x.2.2.2 i).toNat).length ≤ 4 := (fits16 _).2 (by omega)
   rw [if_pos u1,if_pos (show nz x.2.1 = true from decide_eq_true o3),if_pos (by rw [Bool.and_eq_true,zcV,zcV]; exact ⟨⟨by omega,zcS (by decide) _⟩,by omega,zcS (by decide) _⟩),zcz (by decide),zcz (by decide),Nat.mul_comm]
def zaT : (Int × Int) → RT Unit (Bool × Int × Int × Int × Int × Bool)
| (amount,to) =>
 .rq 5 (.done (true,0,amount,1,to,true))
def F_zaT (x : Int × Int) : Option (Bool × Int × Int × Int × Int × Bool) := (zaT x).run fun _ => none
def io_zaT : Io := ⟨n_zaT,[tI,tI],[.lf (qm 0),.lf (qm 1)],[],[[tI],[tI]],[tB,tI,tI,tI,tI,tB],.agg [qm 0,qm 1,qm 2,qm 3,qm 4,qm 5],[],[],false⟩
def zaT_P : List zch := []
def zaT_T : zcl := tab []
theorem zaT_To : zck pg zaT_T := zci trivial
theorem zaT_go : zcy pg (zaT_T) io_zaT f_zaT (zaT_P) [] (zaT) := ⟨by kernel_rfl,by kernel_rfl,fun x => by kernel_rfl⟩
theorem ok_zaT : io_zaT.Okay pg (F_zaT) := zcu zcj (zaT_To) (zaT_go) trivial
def e_zaT : zcq := io_zaT.sp (fun (a,b) => true) (fun (a,b) => ((true,0,a,1,b,true)))
theorem sp_zaT (h : ∀ (a : Int) (b : Int),WfT [tI,tI] (a,b) → (zaT (a,b)).run (fun _ => none) = some ((true,0,a,1,b,true))) : e_zaT.ok pg := zcw ok_zaT fun (a,b) hw hc => h a b hw
theorem e_zaT_ok : e_zaT.ok pg := sp_zaT fun a b _ => by
 rw [zaT]; rfl
def zbD : (Int × Int) → RT Unit (Int × (List Bool) × (List Tk) × (List Th))
| (a,b) =>
 .rq 15 (let t0 := (2,(-1),(-1),1,1);
 .done (5,[true],[((((true,0,a,1,(0 : Int),true))).1,(((true,0,a,1,(0 : Int),true))).2.1,(((true,0,a,1,(0 : Int),true))).2.2.1,(((true,0,a,1,(0 : Int),true))).2.2.2.1,(((true,0,a,1,(0 : Int),true))).2.2.2.2.1,(((true,0,a,1,(0 : Int),true))).2.2.2.2.2),((((true,0,b,1,(1 : Int),true))).1,(((true,0,b,1,(1 : Int),true))).2.1,(((true,0,b,1,(1 : Int),true))).2.2.1,(((true,0,b,1,(1 : Int),true))).2.2.2.1,(((true,0,b,1,(1 : Int),true))).2.2.2.2.1,(((true,0,b,1,(1 : Int),true))).2.2.2.2.2)],[t0,t0]))
def F_zbD (x : Int × Int) : Option (Int × (List Bool) × (List Tk) × (List Th)) := (zbD x).run fun _ => none
def io_zbD : Io := ⟨n_zbD,[tI,tI],[.lf (qm 0),.lf (qm 1)],[],[[tI],[tI]],[tI,.sl tB,.sl yK,.sl yH],.agg [qr 0,qr 1,qr 2,.fix (.nil),.fix (.nil),qm 0],[],[(true,.arr 4 (qm 1)),(true,.arr 97 (qm 2)),(true,.arr 82 (qm 3))],false⟩
def zbD_P : List zch := []
def zbD_T : zcl := tab [e_zaT]
theorem zbD_To : zck pg zbD_T := zci ⟨e_zaT_ok,trivial⟩
theorem zbD_go : zcy pg (zbD_T) io_zbD f_zbD (zbD_P) [.cellRow 64 0 600064 4 tB,.cellRow 64 1 600065 97 yK,.cellRow 64 2 600066 82 yH,.cellRen 64 0 600064,.cellRen 64 1 600065,.cellRen 64 2 600066] (zbD) := ⟨by kernel_rfl,by kernel_rfl,fun x => by kernel_rfl⟩
theorem ok_zbD : io_zbD.Okay pg (F_zbD) := zcu zcj (zbD_To) (zbD_go) trivial
def e_zbD : zcq := io_zbD.sp (fun (a,b) => true) (fun (a,b) => (5,[true],[(true,0,a,1,0,true),(true,0,b,1,1,true)],[(2,-1,-1,1,1),(2,-1,-1,1,1)]))
theorem sp_zbD (h : ∀ (a : Int) (b : Int),WfT [tI,tI] (a,b) → (zbD (a,b)).run (fun _ => none) = some (5,[true],[(true,0,a,1,0,true),(true,0,b,1,1,true)],[(2,-1,-1,1,1),(2,-1,-1,1,1)])) : e_zbD.ok pg := zcw ok_zbD fun (a,b) hw hc => h a b hw
theorem e_zbD_ok : e_zbD.ok pg := sp_zbD fun a b _ => by
 rw [zbD]; rfl
def zad_b126 : (Int × Int × Int × Int × Int × Int × Int × (List Bool) × (List Tk) × (List Th)) → RT Unit Bool
| (e,m,f,g,s_5,n_0,n_1,x8,x8_2,x8_3) =>
 .rq 4 (let t0 := (wOK x8 x8_2 x8_3 [] [] s_5);
 let t1 := (wOK x8 x8_2 x8_3 [] [] s_5);
 let t2 := (rq (((zdJ (6 : Int) 0).toNat : Rat) * chV (wgV x8 x8_2 x8_3 [] [] s_5) (1 : Int)));
 let t3 := (wOK x8 x8_2 x8_3 [] [] s_5);
 let t4 := (((nevV x8_3 (wgV x8 x8_2 x8_3 [] [] s_5))).length : Int) == 0;
 let t5 := ((zde (((chV (wgV x8 x8_2 x8_3 [] [] s_5) (0 : Int)).num.toNat * (chV (wgV x8 x8_2 x8_3 [] [] s_5) (1 : Int)).den : Nat) : Int) (((chV (wgV x8 x8_2 x8_3 [] [] s_5) (1 : Int)).num.toNat * (chV (wgV x8 x8_2 x8_3 [] [] s_5) (0 : Int)).den : Nat) : Int))) == (-1);
 let t6 := isM 38 (rQ (((4 : Int).toNat : Nat) : Rat)).1 && isM 38 (rQ (((4 : Int).toNat : Nat) : Rat)).2;
 let t7 := decide (t2.1 = zcg B32 (val B16 (rQ (((4 : Int).toNat : Nat) : Rat)).1)) && decide (t2.2 = zcg B32 (val B16 (rQ (((4 : Int).toNat : Nat) : Rat)).2));
 let q0 : RT Unit Bool := (.rq 1 (.req t1 (.rq 1 (.req t6 (.rq 2 (.ite t7
 (.rq 1 (.req t3 (.rq 3 (.ite t5
 (.rq 1 (.req t0 (.rq 4 (.done t4))))
 (.rq 2 (.done false))))))
 (.rq 2 (.ite false
 (.rq 1 (.req t0 (.rq 4 (.done t4))))
 (.rq 2 (.done false))))))))));
 let q1 : RT Unit Bool := (.rq 2 (.ite false
 (.rq 1 (.req t3 (.rq 3 (.ite t5
 (.rq 1 (.req t0 (.rq 4 (.done t4))))
 (.rq 2 (.done false))))))
 (.rq 2 (.ite false
 (.rq 1 (.req t0 (.rq 4 (.done t4))))
 (.rq 2 (.done false))))));
 let q2 : RT Unit Bool := (.rq 4 (.ite (f == 0)
 (.rq 4 (.ite (g == 7)
 q0
 q1))
 (.rq 2 (.ite false
 q0
 q1))));
 let q3 : RT Unit Bool := (.rq 2 (.ite false
 (.rq 4 (.ite (g == 7)
 q0
 q1))
 (.rq 2 (.ite false
 q0
 q1))));
 .ite (((n_0 == 0) && ((n_1 == 6148914691236517205) && true)) != false)
 (.rq 4 (.ite (e == 0)
 (.rq 4 (.ite (m == 1)
 q2
 q3))
 (.rq 2 (.ite false
 q2
 q3))))
 (.rq 2 (.ite false
 (.rq 4 (.ite (m == 1)
 q2
 q3))
 (.rq 2 (.ite false
 q2
 q3)))))
def zad_p126 : zch := ⟨126,false,[tI,tU,tI,tI,tI,tU,tU,.sl tB,.sl yK,.sl yH],[],⟨[.keep [1,2,3,4,5,7],.gc],[1,2,3,4,5,7],[.lf (qp 16),.lf (qp 32),.lf (qi 0),.lf (qi 1),.lf (qi 2),.lf (qi 3)],[(16,true,.cells [qr 129,qr 130,qr 131,.fix (.nil),.fix (.nil),qi 4]),(32,true,.cells [qi 5,qi 6]),(129,true,.arr 4 (qi 7)),(130,true,.arr 97 (qi 8)),(131,true,.arr 82 (qi 9))]⟩,[⟨0,⟨[.keep [0],.gc],[0],[.lf (qm 0)],[]⟩,[tB]⟩],(fun i _ => zad_b126 i)⟩
def zad : Unit → RT Unit Bool
| _ =>
 .rq 5 (.req ((wOK ([true]) ([(true,0,(1 : Int),1,0,true),(true,0,(2 : Int),1,1,true)]) ([(2,-1,-1,1,1),(2,-1,-1,1,1)]) [] [] (5))) (.rq 7 (.req ((wOK ([true]) ([(true,0,(1 : Int),1,0,true),(true,0,(2 : Int),1,1,true)]) ([(2,-1,-1,1,1),(2,-1,-1,1,1)]) [] [] (5))) (.rq 6 (.req ((wOK ([true]) ([(true,0,(1 : Int),1,0,true),(true,0,(2 : Int),1,1,true)]) ([(2,-1,-1,1,1),(2,-1,-1,1,1)]) [] [] (5))) (.rq 6 (let t0 := (if ((opB (brV (wgV ([true]) ([(true,0,(1 : Int),1,0,true),(true,0,(2 : Int),1,1,true)]) ([(2,-1,-1,1,1),(2,-1,-1,1,1)]) [] [] (5)))).2.2.1 != 0) = true then (0,(opB (brV (wgV ([true]) ([(true,0,(1 : Int),1,0,true),(true,0,(2 : Int),1,1,true)]) ([(2,-1,-1,1,1),(2,-1,-1,1,1)]) [] [] (5)))).2.2.1) else (restV (opB (brV (wgV ([true]) ([(true,0,(1 : Int),1,0,true),(true,0,(2 : Int),1,1,true)]) ([(2,-1,-1,1,1),(2,-1,-1,1,1)]) [] [] (5)))).2.1,0));
 let t1 := (oW (brV (wgV ([true]) ([(true,0,(1 : Int),1,0,true),(true,0,(2 : Int),1,1,true)]) ([(2,-1,-1,1,1),(2,-1,-1,1,1)]) [] [] (5))) (usT ([(2,-1,-1,1,1),(2,-1,-1,1,1)]) (0 : Int)) (0 : Int));
 .call (on zad_b126 (t1.2.2,t0.1,t0.2,((oW (brV (wgV ([true]) ([(true,0,(1 : Int),1,0,true),(true,0,(2 : Int),1,1,true)]) ([(2,-1,-1,1,1),(2,-1,-1,1,1)]) [] [] (5))) (usT ([(2,-1,-1,1,1),(2,-1,-1,1,1)]) (2 : Int)) (2 : Int))).2.2,5,t1.1,t1.2.1,[true],[(true,0,(1 : Int),1,0,true),(true,0,(2 : Int),1,1,true)],[(2,-1,-1,1,1),(2,-1,-1,1,1)])) default fun v0 =>
 .done v0)))))))
def F_zad (x : Unit) : Option Bool := (zad x).run fun _ => none
def io_zad : Io := ⟨n_zad,[],[],[],[],[tB],.lf (qm 0),[],[],false⟩
def zad_P : List zch := [zad_p126]
def zad_T : zcl := tab [e_zbD,e_zaC,e_zE,e_zbq,e_zbB,e_zaW,e_zaQ,e_zbs]
theorem zad_To : zck pg zad_T := zci ⟨e_zbD_ok,e_zaC_ok,e_zE_ok,e_zbq_ok,e_zbB_ok,e_zaW_ok,e_zaQ_ok,zhn,trivial⟩
theorem zad_k126 : (zad_p126).OK pg (zad_T) (zcB 60 (zad_P)) (zcs f_zad) 60 := ⟨by kernel_rfl,fun i x => by kernel_rfl⟩
theorem zad_go : zcy pg (zad_T) io_zad f_zad (zad_P) [] (zad) := ⟨by kernel_rfl,by kernel_rfl,fun x => by kernel_rfl⟩
theorem ok_zad : io_zad.Okay pg (F_zad) := zcu zcj (zad_To) (zad_go) ⟨zad_k126,trivial⟩
def e_zad : zcq := io_zad.sp (fun _ => true) (fun _ => true)
theorem sp_zad (h : (zad ()).run (fun _ => none) = some true) : e_zad.ok pg := zcw ok_zad fun _ _ hc => h
theorem e_zad_ok : e_zad.ok pg := sp_zad (by kernel_rfl)
def zi_b8186 : ((List Bool) × (List Tk) × (List Th) × (List Lk) × (List Int) × Int × (List ((List Int) × List Int))) → (Int × (List Int)) → RT (Int × (List Int)) (LR Unit (List Int))
| (t_0,t_1,t_2,t_3,t_4,t_5,r15),(L,r16) =>
 .rq 4 (.ite (decide (L < (r15.length : Int)))
 (.rq 2 (.req ((wOK t_0 t_1 t_2 t_3 t_4 t_5)) (.rq 4 (.req (inB r15 L) (.rq 2 (let t0 := (rQ (chV (wgV t_0 t_1 t_2 t_3 t_4 t_5) L));
 .req (isM 38 t0.1 && isM 38 t0.2) (.rq 1 (.ite (!(decide ((gI r15 L).1 = zcg B32 (val B16 t0.1)) && decide ((gI r15 L).2 = zcg B32 (val B16 t0.2))))
 (.rq 1 (.done (.ex ())))
 (.rq 6 (let t1 := ((t0.1.length : Int) == 0);
 .req ((inB t_2 L) || (!t1)) (.rq 4 (let t2 := w64 (L + 1);
 .ite (t1 && ((gI t_2 L).1 != 0))
 (.rq 3 (.req (zdK 8 r16 [L]) (.rq 4 (.again (t2,r16 ++ [L])))))
 (.rq 3 (.again (t2,r16)))))))))))))))
 (.done (.rt r16)))
def zi_p8186 : zch := ⟨8186,true,[tI,tI,tI,.sl tB,.sl yK,.sl yH,.sl yL,.sl tI,tI,.sl (.pair (.sl tV) (.sl tV))],[tI,.sl tI],⟨[.keep [1,2,3,4,15,16,17],.gc,.nilRow 15 800015 41 (.pair (.sl tV) (.sl tV)),.nilRow 16 800016 3 tI,.ren 15 700015,.ren 16 700016,.ren 15 900015,.ren 16 900016,.gc],[1,2,3,4,15,16,17],[.lf (qi 0),.lf (qi 1),.lf (qi 2),.lf (qp 64),.lf (qr 900015),.lf (qr 900016),.lf (qm 0)],[(64,true,.cells [qi 3,qi 4,qi 5,qi 6,qi 7,qi 8]),(900015,true,.arr 41 (qi 9)),(900016,true,.arr 3 (qm 1))]⟩,[⟨1,⟨[.keep [8],.gc],[8],[.lf (.fix (.bool false))],[]⟩,[]⟩,⟨2,⟨[.keep [1,2,3,4,16],.gc,.nilRow 16 800016 3 tI,.ren 16 700016,.ren 16 900016,.gc],[1,2,3,4,16],[.lf (qi 0),.lf (qi 1),.lf (qi 2),.lf (qp 64),.lf (qr 900016)],[(64,true,.cells [qi 3,qi 4,qi 5,qi 6,qi 7,qi 8]),(900016,true,.arr 3 (qm 0))]⟩,[.sl tI]⟩],(fun i => zi_b8186 (i.2.2.2.1,i.2.2.2.2.1,i.2.2.2.2.2.1,i.2.2.2.2.2.2.1,i.2.2.2.2.2.2.2.1,i.2.2.2.2.2.2.2.2.1,i.2.2.2.2.2.2.2.2.2))⟩
def zig : (Int × (List Int) × (List Int)) → RT Unit ((List Int) × (List Int))
| (s,p,p_2) =>
 .rq 2 (.ite (decide (0 < s))
 (.rq 4 (.done ((rQ (((zcx s).toNat : Nat) : Rat)).1,(rQ (((zcx s).toNat : Nat) : Rat)).2)))
 (.done (p,p_2)))
def zi_p8190 : zch := ⟨8190,false,[tI,tI,tI,.sl tB,.sl yK,.sl yH,.sl yL,.sl tI,tI,.sl tI,.sl tI,.sl tI],[],⟨[.keep [1,2,3,4,16,19],.gc],[1,2,3,4,16,19],[.lf (qi 0),.lf (qi 1),.lf (qi 2),.lf (qp 64),.lf (qr 900016),.lf (qp 304)],[(64,true,.cells [qi 3,qi 4,qi 5,qi 6,qi 7,qi 8]),(900016,true,.arr 3 (qi 9)),(304,true,.cells [qr 1569,qr 1570]),(1569,true,.arr 3 (qi 10)),(1570,true,.arr 3 (qi 11))]⟩,[⟨0,⟨[.keep [1,2,3,4,16,19],.gc,.nilRow 16 800016 3 tI,.ren 16 700016,.ren 16 900016,.cellRow 304 0 600304 3 tI,.cellRow 304 1 600305 3 tI,.cellRen 304 0 600304,.cellRen 304 1 600305,.gc],[1,2,3,4,16,19],[.lf (qi 0),.lf (qi 1),.lf (qi 2),.lf (qp 64),.lf (qr 900016),.lf (qp 304)],[(64,true,.cells [qi 3,qi 4,qi 5,qi 6,qi 7,qi 8]),(900016,true,.arr 3 (qi 9)),(304,true,.cells [qr 600304,qr 600305]),(600304,true,.arr 3 (qm 0)),(600305,true,.arr 3 (qm 1))]⟩,[.sl tI,.sl tI]⟩],(fun i _ => zig (i.2.2.1,i.2.2.2.2.2.2.2.2.2.2.1,i.2.2.2.2.2.2.2.2.2.2.2))⟩
def zhA : (Int × Int × Int × (List Bool) × (List Tk) × (List Th) × (List Lk) × (List Int) × Int × (List Int) × (List Int) × (List Int)) → RT Unit Bool
| (l,i,s,t_0,t_1,t_2,t_3,t_4,t_5,r16,r304,r305) =>
 .rq 3 (.req ((wOK t_0 t_1 t_2 t_3 t_4 t_5)) (.rq 3 (let t0 := (wOK t_0 t_1 t_2 t_3 t_4 t_5);
 .req t0 (let t1 := (rQ (chV (wgV t_0 t_1 t_2 t_3 t_4 t_5) l));
 .req (okq r304 r305 && okq t1.1 t1.2) (let t2 := (rq (((zdJ s 0).toNat : Rat) * chV (wgV t_0 t_1 t_2 t_3 t_4 t_5) l));
 let t3 := rQ (zdl r304 r305 * zdl t1.1 t1.2);
 .req (isM 38 t3.1 && isM 38 t3.2) (.rq 1 (let t4 := (wOK t_0 t_1 t_2 t_3 t_4 t_5);
 let t5 := (decide (((nevV t_2 (wgV t_0 t_1 t_2 t_3 t_4 t_5))) = r16));
 .ite (decide (t2.1 = zcg B32 (val B16 t3.1)) && decide (t2.2 = zcg B32 (val B16 t3.2)))
 (.rq 3 (.req ((wOK t_0 t_1 t_2 t_3 t_4 t_5)) (.rq 2 (.req t0 (.rq 2 (.req ((wOK t_0 t_1 t_2 t_3 t_4 t_5)) (let t6 := (rQ (chV (wgV t_0 t_1 t_2 t_3 t_4 t_5) i));
 .req ((okq t1.1 t1.2 && okq t6.1 t6.2)) (.rq 3 (.ite (((zde (((chV (wgV t_0 t_1 t_2 t_3 t_4 t_5) l).num.toNat * (chV (wgV t_0 t_1 t_2 t_3 t_4 t_5) i).den : Nat) : Int) (((chV (wgV t_0 t_1 t_2 t_3 t_4 t_5) i).num.toNat * (chV (wgV t_0 t_1 t_2 t_3 t_4 t_5) l).den : Nat) : Int))) == ((zde ((val B16 t1.1 * val B16 t6.2 : Nat) : Int) ((val B16 t6.1 * val B16 t1.2 : Nat) : Int))))
 (.rq 1 (.req t4 (.rq 4 (.ite t5
 (.rq 3 (.done (true)))
 (.rq 2 (.done false))))))
 (.rq 2 (.ite false
 (.rq 3 (.done (true)))
 (.rq 2 (.done false)))))))))))))
 (.rq 2 (.ite false
 (.rq 1 (.req t4 (.rq 4 (.ite t5
 (.rq 3 (.done (true)))
 (.rq 2 (.done false))))))
 (.rq 2 (.ite false
 (.rq 3 (.done (true)))
 (.rq 2 (.done false)))))))))))))
def zi_p16382 : zch := ⟨16382,false,[tI,tI,tI,.sl tB,.sl yK,.sl yH,.sl yL,.sl tI,tI,.sl tI,.sl tI,.sl tI],[],⟨[.keep [1,2,3,4,16,19],.gc],[1,2,3,4,16,19],[.lf (qi 0),.lf (qi 1),.lf (qi 2),.lf (qp 64),.lf (qr 900016),.lf (qp 304)],[(64,true,.cells [qi 3,qi 4,qi 5,qi 6,qi 7,qi 8]),(900016,true,.arr 3 (qi 9)),(304,true,.cells [qr 600304,qr 600305]),(600304,true,.arr 3 (qi 10)),(600305,true,.arr 3 (qi 11))]⟩,[⟨0,⟨[.keep [8],.gc],[8],[.lf (qm 0)],[]⟩,[tB]⟩],(fun i _ => zhA i)⟩
def zi : ((List Bool) × (List Tk) × (List Th) × (List Lk) × (List Int) × Int × Int × Int × Int) → RT Unit Bool
| (a0_0,a0_1,a0_2,a0_3,a0_4,a0_5,l,i,s) =>
 .rq 7 (let t0 := (smallV a0_0 a0_1 a0_2 a0_3 a0_4);
 let t1 := !t0;
 .req (((decide (a0_1.length ≤ 1000000))) || (!(!t1))) (.rq 4 (let t2 := t1 || (!((decide (a0_1.length ≤ 30) && decide (cnt2 a0_1 ≤ 8))));
 .req (t0 || (!(!t2))) (.rq 2 (.ite (t2 || (!((zfp a0_0 a0_1 a0_2 a0_3 a0_4 a0_5))))
 (.rq 2 (.done (true)))
 (.rq 2 (let t3 := (wOK a0_0 a0_1 a0_2 a0_3 a0_4 a0_5);
 .req t3 (.rq 8 (.req t3 (.rq 7 (let t4 := (oR (brV (wgV a0_0 a0_1 a0_2 a0_3 a0_4 a0_5)) (usT a0_2 l) l);
 .req ((wfd B16 t4.2 && decide (t4.2.length ≤ 8))) (.rq 14 (let t5 := (oW (brV (wgV a0_0 a0_1 a0_2 a0_3 a0_4 a0_5)) (usT a0_2 l) l);
 .ite ((((t5.1 == (((val B16 t4.2 / 18446744073709551616 : Nat) : Int))) && ((t5.2.1 == (((val B16 t4.2 % 18446744073709551616 : Nat) : Int))) && true)) != true) || (t5.2.2 != t4.1))
 (.rq 1 (.done false))
 (.rq 1 (.req ((wOK a0_0 a0_1 a0_2 a0_3 a0_4 a0_5)) (.rq 7 (let t6 := ((chs (wgV a0_0 a0_1 a0_2 a0_3 a0_4 a0_5) a0_2.length).map rq);
 .ite ((t6.length : Int) != (a0_2.length : Int))
 (.rq 1 (.done false))
 (.rq 2 (.call (lo zi_b8186 (a0_0,a0_1,a0_2,a0_3,a0_4,a0_5,t6) (0,[])) default fun v0 =>
 .ite v0.isRt
 (.rq 3 (.call (on zig (s,(rQ (((0 : Int).toNat : Nat) : Rat)).1,(rQ (((0 : Int).toNat : Nat) : Rat)).2)) default fun v1 =>
 .call (on zhA (l,i,s,a0_0,a0_1,a0_2,a0_3,a0_4,a0_5,v0.getR,v1.1,v1.2)) default fun v2 =>
 .done v2))
 (.done false))))))))))))))))))))
def F_zi (x : (List Bool) × (List Tk) × (List Th) × (List Lk) × (List Int) × Int × Int × Int × Int) : Option Bool := (zi x).run fun _ => none
def io_zi : Io := ⟨n_zi,[.sl tB,.sl yK,.sl yH,.sl yL,.sl tI,tI,tI,tI,tI],[.agg [qm 0,qm 1,qm 2,qm 3,qm 4,qm 5],.lf (qm 6),.lf (qm 7),.lf (qm 8)],[],[[.sl tB,.sl yK,.sl yH,.sl yL,.sl tI,tI],[tI],[tI],[tI]],[tB],.lf (qm 0),[],[],false⟩
def zi_P : List zch := [zi_p8186,zi_p8190,zi_p16382]
def zi_T : zcl := tab [e_zad,e_zau,e_zaC,e_zE,e_zbq,e_zJ,e_zaW,e_zaI,e_zY,e_zbH,e_zbZ,e_zaP,e_zat,e_zaN,e_zbz,e_zaQ,e_zbV,e_zbs]
theorem zi_To : zck pg zi_T := zci ⟨e_zad_ok,e_zau_ok,e_zaC_ok,e_zE_ok,e_zbq_ok,e_zJ_ok,e_zaW_ok,e_zaI_ok,e_zY_ok,e_zbH_ok,e_zbZ_ok,e_zaP_ok,e_zat_ok,e_zaN_ok,e_zbz_ok,e_zaQ_ok,e_zbV_ok,zhn,trivial⟩
theorem zi_k8186 : (zi_p8186).OK pg (zi_T) (zcB 137 (zi_P)) (zcs f_zi) 137 := ⟨by kernel_rfl,fun i x => by kernel_rfl⟩
theorem zi_k8190 : (zi_p8190).OK pg (zi_T) (zcB 137 (zi_P)) (zcs f_zi) 137 := ⟨by kernel_rfl,fun i x => by kernel_rfl⟩
theorem zi_k16382 : (zi_p16382).OK pg (zi_T) (zcB 137 (zi_P)) (zcs f_zi) 137 := ⟨by kernel_rfl,fun i x => by kernel_rfl⟩
theorem zi_go : zcy pg (zi_T) io_zi f_zi (zi_P) [] (zi) := ⟨by kernel_rfl,by kernel_rfl,fun x => by kernel_rfl⟩
theorem ok_zi : io_zi.Okay pg (F_zi) := zcu zcj (zi_To) (zi_go) ⟨zi_k8186,zi_k8190,zi_k16382,trivial⟩
theorem same_rq (q : Rat) : (decide ((rq q).1 = zcg B32 (val B16 (rQ q).1)) && decide ((rq q).2 = zcg B32 (val B16 (rQ q).2))) = true := by
 rw [← toB_rQ q]
 simp [toB]
theorem rQ_nul {q : Rat} (h : 0 ≤ q) : (((rQ q).1.length : Int) == 0) = decide (q = 0) := by
 rw [Bool.eq_iff_iff,beq_iff_eq,decide_eq_true_eq,← num_zero h]
 show ((zcg 65536 q.num.toNat).length : Int) = 0 ↔ _
 rw [show ((zcg 65536 q.num.toNat).length : Int) = 0 ↔ (zcg 65536 q.num.toNat).length = 0 by omega]
 exact digs_nil (by decide)
theorem ot_loop {a : List Bool} {b : List Tk} {c : List Th} {d : List Lk} {e : List Int} {f : Int} (hw : wOK a b c d e f = true) : ∀ (n i : Nat) (r : List Int),i + n = c.length → r.length ≤ i →
  lo zi_b8186 (a,b,c,d,e,f,(chs (wgV a b c d e f) c.length).map rq) ((i : Int),r) = some (.rt (r ++ ((List.range' i n).map fun (k : Nat) => (k : Int)).filter fun i => (gI c i).1 != 0 && decide (chV (wgV a b c d e f) i = 0)))
 | 0,i,r,h,_ => by
  have hcl : (chs (wgV a b c d e f) c.length).length = c.length := by simp [chs,zcO]
  rw [zcr,zi_b8186]
  simp only [RT.run]
  rw [if_neg (by rw [List.length_map,hcl]; simp; omega)]
  simp
 | n + 1,i,r,h,hr => by
  obtain ⟨H,h8⟩ := zdc hw
  have hlc := H.lenC
  have hi : 0 ≤ (i : Int) ∧ (i : Int) < (c.length : Int) := by omega
  obtain ⟨s1,s2⟩ := ch_sm H (i : Int)
  obtain ⟨m1,m2⟩ := isM_rQ s2 (by decide)
  have hcl : (chs (wgV a b c d e f) c.length).length = c.length := by simp [chs,zcO]
  have hg : gI (chs (wgV a b c d e f) c.length) (i : Int) = chV (wgV a b c d e f) (i : Int) := zeJ hi
  rw [zcr,zi_b8186]
  simp only [RT.run]
  rw [if_pos (by rw [List.length_map,hcl]; simp; omega),if_pos hw,if_pos (zcn.2 (by rw [List.length_map,hcl]; exact hi)),m1,m2,if_pos (by decide),zek rq (by rw [hcl]; exact hi),hg,same_rq,if_neg (by decide),
   zcn.2 hi,if_pos (by rw [Bool.true_or]),rQ_nul s1,Bool.and_comm,zcm (by omega),show (i : Int) + 1 = ((i + 1 : Nat) : Int) by omega,zhc,List.filter_cons]
  by_cases hv : ((gI c (i : Int)).1 != 0 && decide (chV (wgV a b c d e f) (i : Int) = 0)) = true
  ·rw [if_pos hv,if_pos (zgc (by decide) (by simp; omega)),ot_loop hw n (i + 1) _ (by omega) (by simp; omega),if_pos hv]
   simp
  ·rw [if_neg hv,ot_loop hw n (i + 1) _ (by omega) (by omega),if_neg hv]
theorem ot_max {s : Int} (hs : s ≤ 9223372036854775807) : on zig (s,(rQ (((0 : Int).toNat : Nat) : Rat)).1,(rQ (((0 : Int).toNat : Nat) : Rat)).2) = some (rQ (((zdJ s 0).toNat : Nat) : Rat)) := by
 show (zig _).run _ = _
 rw [zig]
 simp only [RT.run]
 by_cases h : 0 < s
 ·have : zdJ s 0 = s := by unfold zdJ; split <;> omega
  rw [if_pos (decide_eq_true h),this,zcD (by omega)]
 ·have : zdJ s 0 = 0 := by unfold zdJ; split <;> omega
  rw [if_neg (by simpa using h),this]
theorem ot_end {a : List Bool} {b : List Tk} {c : List Th} {d : List Lk} {e : List Int} {f : Int} (hw : wOK a b c d e f = true) (l i s : Int) (hs : s ≤ 9223372036854775807) :
  on zhA (l,i,s,a,b,c,d,e,f,nevV c (wgV a b c d e f),(rQ (((zdJ s 0).toNat : Nat) : Rat)).1,(rQ (((zdJ s 0).toNat : Nat) : Rat)).2) = some true := by
 obtain ⟨H,h8⟩ := zdc hw
 obtain ⟨s1,s2⟩ := ch_sm H l
 obtain ⟨t1,t2⟩ := ch_sm H i
 have hm : (zdJ s 0).toNat < 18446744073709551616 := by
  unfold zdJ
  split <;> omega
 obtain ⟨r1,r2⟩ := sm_nat64 hm
 show (zhA _).run _ = _
 rw [zhA]
 simp only [RT.run]
 generalize (zdJ s 0).toNat = m at *
 obtain ⟨m1,m2⟩ := isM_rQ (sm_mul r1 s1 r2 s2) (by decide)
 have n1 : ∀ q : Rat,val B16 (rQ q).1 = q.num.toNat := fun q => rQ_num
 have n2 : ∀ q : Rat,val B16 (rQ q).2 = q.den := fun q => rQ_den
 rw [hw,zeZ r2 (by decide),zeZ s2 (by decide),zeZ t2 (by decide),zeq r1,zeq s1,m1,m2,same_rq,n1,n1,n2,n2,beq_self_eq_true]
 simp
theorem ow_or (x : Br) (u : Bool) (i : Int) (h : u = true → ¬ ((opB x).2.2.1 != 0) = true → wN x i ≤ 18446744073709551616) :
  (wfd B16 (oR x u i).2 && decide ((oR x u i).2.length ≤ 8)) = true ∧ oW x u i = (((val B16 (oR x u i).2 / 18446744073709551616 : Nat) : Int),((val B16 (oR x u i).2 % 18446744073709551616 : Nat) : Int),(oR x u i).1) := by
 unfold oR oW
 have v0 : val B16 [] = 0 := rfl
 cases u with
 | false =>
  rw [if_pos (by decide : (!false) = true),if_pos (by decide : (!false) = true)]
  refine ⟨rfl,?_⟩
  rw [v0,Nat.zero_div,Nat.zero_mod]
  rfl
 | true =>
  rw [if_neg (by decide : ¬ (!true) = true),if_neg (by decide : ¬ (!true) = true)]
  by_cases hv : ((opB x).2.2.1 != 0) = true
  ·rw [if_pos hv,if_pos hv]
   refine ⟨rfl,?_⟩
   rw [v0,Nat.zero_div,Nat.zero_mod]
   rfl
  ·have hl := h rfl hv
   rw [if_neg hv,if_neg hv]
   refine ⟨?_,by rw [zcz (by decide)]⟩
   rw [Bool.and_eq_true,decide_eq_true_eq]
   exact ⟨zcS (by decide) _,zgu (m := 8) (Nat.lt_of_le_of_lt hl (by decide))⟩
theorem OddsTell_F (a : List Bool) (b : List Tk) (c : List Th) (d : List Lk) (e : List Int) (f l i s : Int) (hs : s ≤ 9223372036854775807) : F_zi (a,b,c,d,e,f,l,i,s) = some true := by
 show (zi _).run _ = _
 rw [zi]
 simp only [RT.run]
 cases hs' : smallV a b c d e with
 | false => rw [if_pos (by simp),if_pos (by simp),if_pos (by simp)]
 | true =>
  have hb : b.length ≤ 200 := by
   unfold smallV at hs'
   simp only [Bool.and_eq_true,decide_eq_true_eq] at hs'
   omega
  rw [if_pos (by rw [decide_eq_true (show b.length ≤ 1000000 by omega)]; rfl),if_pos (by rfl)]
  cases hl : (decide (b.length ≤ 30) && decide (cnt2 b ≤ 8)) with
  | false => rfl
  | true =>
   cases hf : zfp a b c d e f with
   | false => rfl
   | true =>
    rw [if_neg (by decide)]
    have hw : wOK a b c d e f = true := by
     rw [Bool.and_eq_true] at hl
     unfold wOK
     rw [hf,hl.2]; rfl
    obtain ⟨H,h8⟩ := zdc hw
    obtain ⟨o1,o2⟩ := ow_or (brV (wgV a b c d e f)) (usT c l) l (fun hu hv => by
     obtain ⟨p1,p2,p3⟩ := opB_ok hv
     obtain ⟨u1,u2,u3,u4⟩ := usT_wg H hu p2 p3
     exact each_le u2 u3)
    have hcl : (chs (wgV a b c d e f) c.length).length = c.length := by simp [chs,zcO]
    have hlo := ot_loop hw c.length 0 [] (by omega) (by simp)
    rw [show ((0 : Nat) : Int) = 0 from rfl,List.nil_append,← List.range_eq_range'] at hlo
    rw [hw,if_pos rfl,if_pos rfl,o1,if_pos rfl,o2]
    generalize oR (brV (wgV a b c d e f)) (usT c l) l = y
    rw [if_neg (by simp),if_pos rfl,List.length_map,hcl,if_neg (by simp),hlo,Option.bind_some]
    have he := ot_end hw l i s hs
    show ((on zig _).bind _) = _
    rw [ot_max hs,Option.bind_some]
    show ((on zhA (l,i,s,a,b,c,d,e,f,nevV c (wgV a b c d e f),(rQ (((zdJ s 0).toNat : Nat) : Rat)).1,(rQ (((zdJ s 0).toNat : Nat) : Rat)).2)).bind some) = some true
    rw [he]
    rfl
end
end Go.Proofs.YtlfdidaeachpoaaGreat
namespace Go.Proofs.YtlfdidaeachpoaaGreat
open Go Go.RowKit
theorem exists_list {α : Type} {Q : Nat → α → Prop} : ∀ (n : Nat),(∀ i,i < n → ∃ x,Q i x) → ∃ xs : List α,xs.length = n ∧ ∀ i (h : i < xs.length),Q i xs[i]
 | 0,_ => ⟨[],rfl,fun i hi => absurd hi (Nat.not_lt_zero i)⟩
 | n + 1,h => by
  obtain ⟨xs,h1,h2⟩ := exists_list n fun i hi => h i (by omega)
  obtain ⟨x,hx⟩ := h n (by omega)
  refine ⟨xs ++ [x],by simp [h1],fun i hi => ?_⟩
  by_cases hin : i < xs.length
  ·rw [List.getElem_append_left hin]
   exact h2 i hin
  ·have : i = n := by simp at hi; omega
   subst this
   rw [List.getElem_append_right (by omega)]
   simpa [h1] using hx
theorem cell_at {w : World} {a : Addr} {u : Value} (h : w.cell? a = some u) : a.spot = none ∧ a.block < w.heap.size := by
 unfold World.cell? at h
 split at h
 ·rename_i c _ _ hb
  split at h
  ·cases h
  ·rename_i hs
   refine ⟨by simpa using hs,?_⟩
   apply Decidable.byContradiction
   intro hlt
   rw [Array.getElem?_eq_none (Nat.le_of_not_lt hlt)] at hb
   cases hb
 ·cases h
theorem add_block (a : Addr) (n : Nat) : (a.add n).block = a.block := by
 unfold Addr.add
 split <;> rfl
theorem add_plain (b o n : Nat) : Addr.add ⟨b,o,none⟩ n = ⟨b,o + n,none⟩ := by
 unfold Addr.add
 split
 ·rename_i h; subst h; rfl
 ·rfl
def zfE (w : World) : Nat → Prop := fun b => b < w.heap.size
section
variable {H : Type} {enc : TypeId × Value → H} {P : Program} {w : World} {held : Bool}
theorem fields_rep {g : TypeId → Option Ty} {fuel : Nat} {cs : List Value}
  (ih : ∀ (t : TypeId) (ty : Ty) (cs : List Value) (y : DataW H × List MemPlace),g t = some ty → P.cellsOf t = ty.size → DataW.trod enc P w 0 (fun _ => true) held fuel t cs = some y → ∃ x,zcM w (zfE w) ty cs x) :
  ∀ (fs : List Field) (off : Nat) (ty : Ty),tyFs P g fs off = some ty → (∀ f ∈ fs,∃ y,DataW.trod enc P w 0 (fun _ => true) held fuel f.type ((cs.drop f.offset).take (P.cellsOf f.type)) = some y) →
   ∃ x,zcM w (zfE w) ty ((cs.drop off).take ty.size) x
 | [],_,_,h,_ => by cases h
 | f :: fs,off,ty,h,hf => by
  unfold tyFs at h
  split at h
  ·cases h
  ·rename_i a ha
   split at h
   ·rename_i hc
    obtain ⟨y,hy⟩ := hf f (List.mem_cons_self ..)
    rw [hc.1,hc.2] at hy
    obtain ⟨x,hx⟩ := ih f.type a _ y ha hc.2 hy
    split at h
    ·cases h
     exact ⟨x,hx⟩
    ·rename_i f' fs'
     split at h
     ·rename_i b hb
      cases h
      obtain ⟨x',hx'⟩ := fields_rep ih (f' :: fs') (off + a.size) b hb fun z hz => hf z (List.mem_cons_of_mem _ hz)
      refine ⟨(x,x'),_,_,?_,hx,hx'⟩
      show (cs.drop off).take (a.size + b.size) = _
      rw [List.take_add,List.drop_drop]
     ·cases h
   ·cases h
theorem trod_rep : ∀ (n : Nat) (t : TypeId) (ty : Ty) (fuel : Nat) (cs : List Value) (y : DataW H × List MemPlace),tyOf P n t = some ty → P.cellsOf t = ty.size → DataW.trod enc P w 0 (fun _ => true) held fuel t cs = some y → ∃ x,zcM w (zfE w) ty cs x := by
 intro n
 induction n with
 | zero => intro t ty fuel cs y h; cases h
 | succ n ih =>
  intro t ty fuel cs y ht hsz h
  unfold tyOf at ht
  split at ht
  ·rename_i k hu
   cases ht
   obtain ⟨m,rfl,_,hw⟩ := DataW.trod_int hu h
   exact ⟨m,rfl,hw⟩
  ·rename_i hu
   cases ht
   obtain ⟨b,rfl,_⟩ := DataW.trod_bool hu h
   exact ⟨b,rfl⟩
  ·rename_i hu
   cases ht
   obtain ⟨s,rfl,_,hs⟩ := DataW.trod_string hu h
   exact ⟨s,rfl,hs⟩
  ·rename_i e hu
   split at ht
   ·rename_i a ha
    split at ht
    ·rename_i hc
     cases ht
     rcases DataW.trod_slice hu h with ⟨rfl,_⟩ | ⟨ad,len,cap,elems,rest,m,_,rfl,_,_,hlc,hcm,hlen,hel,_,_⟩
     ·exact ⟨[],none,0,rfl,Nat.le_refl _,Nat.zero_le _,fun _ => rfl,fun i hi => absurd hi (Nat.not_lt_zero i)⟩
     ·have hpos := a.size_pos
      have had : 0 < len → ad.spot = none := by
       intro h0
       have h1 := hel 0 h0
       rw [List.getElem?_eq_getElem (by omega),Option.bind_eq_some_iff] at h1
       obtain ⟨us,hus,_⟩ := h1
       obtain ⟨_,hl,hcell⟩ := World.cells?_some hus
       have c0 := hcell 0 (by omega)
       rw [List.getElem?_eq_getElem (by omega),Nat.zero_mul] at c0
       exact (cell_at c0).1
      have each : ∀ i,i < len → ∃ x : a.den,∃ b o us,(some ad : Option Addr) = some ⟨b,o,none⟩ ∧ zfE w b ∧ us.length = a.size ∧ Mem w b (o + i * a.size) us ∧ zcM w (zfE w) a us x := by
       intro i hi
       have h1 := hel i hi
       rw [List.getElem?_eq_getElem (by omega),Option.bind_eq_some_iff] at h1
       obtain ⟨us,hus,hy⟩ := h1
       obtain ⟨_,hl,hcell⟩ := World.cells?_some hus
       obtain ⟨x,hx⟩ := ih e a m us _ ha hc hy
       have c0 := hcell 0 (by omega)
       rw [List.getElem?_eq_getElem (by omega)] at c0
       have hb := (cell_at c0).2
       rw [add_block,add_block] at hb
       have hsp := had (by omega)
       obtain ⟨b,o,sp⟩ := ad
       simp only at hsp
       subst hsp
       refine ⟨x,b,o,us,rfl,hb,by omega,fun j u hu' => ?_,hx⟩
       have hj : j < us.length := by
        apply Decidable.byContradiction
        intro hn
        rw [List.getElem?_eq_none (by omega)] at hu'
        cases hu'
       have := hcell j (by omega)
       rw [hu',add_plain,add_plain] at this
       rw [← hc]
       exact this
      obtain ⟨xs,hxl,hxs⟩ := exists_list len each
      refine ⟨xs,some ad,cap,by rw [hxl],by omega,hcm,(fun h => by cases h),fun i hi => ?_⟩
      obtain ⟨b,o,us,h1,h2,h3,h4,h5⟩ := hxs i hi
      exact ⟨b,o,us,h1,h2,h3,h4,h5⟩
    ·cases ht
   ·cases ht
  ·rename_i fs hu
   obtain ⟨xs,m,_,_,hl,hxl,hf⟩ := DataW.trod_struct hu h
   obtain ⟨x,hx⟩ := fields_rep (enc := enc) (held := held) (fuel := m) (cs := cs) (fun t ty cs y h1 h2 h3 => ih t ty m cs y h1 h2 h3) fs.toList 0 ty ht (fun f hf' => by
    obtain ⟨i,hi,rfl⟩ := List.mem_iff_getElem.1 hf'
    have hi' : i < fs.size := by simpa using hi
    have := hf i fs.toList[i] (by simp [hi'])
    rw [List.getElem?_eq_getElem (by omega)] at this
    exact ⟨_,this⟩)
   refine ⟨x,?_⟩
   rw [List.drop_zero,List.take_of_length_le (by omega)] at hx
   exact hx
  ·cases ht
end
theorem callPost_below {w : World} {ok : Nat → Prop} {n : Nat} {r : zdP} {v : Value} {w' : World} {β' : Nat → Option Value} {ok' : Nat → Prop} (h : zhu w (fun _ => none) ok n r v w' β' ok') : Below w.heap.size w w' :=
 ⟨h.os,h.tape,h.output,h.size,fun k hk => h.block k hk (fun _ _ _ e => by cases e)⟩
end Go.Proofs.YtlfdidaeachpoaaGreat
