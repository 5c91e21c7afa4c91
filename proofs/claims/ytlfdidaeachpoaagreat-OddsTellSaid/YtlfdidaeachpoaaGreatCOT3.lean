/- Part 3 of the walk and of the plain law. -/
import Derived.Test.YtlfdidaeachpoaaGreatCOT2
set_option linter.unusedSimpArgs false
set_option linter.unusedVariables false
namespace Go.Proofs.YtlfdidaeachpoaaGreat
open Go Go.RowKit
set_option maxRecDepth 100000
noncomputable section
def okL (k : Nat) {α : Type} (xs : List α) : Bool := decide (xs.length ≤ 2 ^ k)
theorem zeG {k : Nat} {α : Type} {xs : List α} : okL k xs = true ↔ xs.length ≤ 2 ^ k := by simp [okL]
theorem zik {k m : Nat} {α : Type} {xs : List α} (h : k ≤ m) (hx : okL k xs = true) : okL m xs = true := by
 rw [zeG] at *
 exact Nat.le_trans hx (Nat.pow_le_pow_right (by decide) h)
theorem okL40 {α : Type} {xs : List α} : okL 40 xs = true ↔ xs.length ≤ 1099511627776 := zeG
theorem okL39 {α : Type} {xs : List α} : okL 39 xs = true ↔ xs.length ≤ 549755813888 := zeG
theorem okL38 {α : Type} {xs : List α} : okL 38 xs = true ↔ xs.length ≤ 274877906944 := zeG
theorem okL36 {α : Type} {xs : List α} : okL 36 xs = true ↔ xs.length ≤ 68719476736 := zeG
theorem okL20 {α : Type} {xs : List α} : okL 20 xs = true ↔ xs.length ≤ 1048576 := zeG
theorem zdq {xs : List Int} (h : Wf (.sl tV) xs) : wfd B32 xs = true := by
 rw [zgP]
 exact fun d hd => h.2 d hd
def zn : (List Int) → RT Unit (List Int)
| s =>
 .rq 2 (let t0 := zdK 4 [] s;
 .may (List.isEmpty s)
 (.ite true
 (.rq 1 (.done []))
 (.rq 2 (.req t0 (.rq 1 (.done ([] ++ s))))))
 (.ite false
 (.rq 1 (.done []))
 (.rq 2 (.req t0 (.rq 1 (.done ([] ++ s)))))))
def F_zn (x : (List Int)) : Option (List Int) := (zn x).run fun _ => none
def io_zn : Io := ⟨n_zn,[.sl tV],[.lf (qm 0)],[],[[.sl tV]],[.sl tV],.lf (qr 0),[],[(true,.arr 122 (qm 0))],false⟩
def zn_P : List zch := []
def zn_T : zcl := tab []
theorem zn_To : zck pg zn_T := zci trivial
theorem zn_go : zcy pg (zn_T) io_zn f_zn (zn_P) [.nilRow 2 800002 122 tV,.ren 2 700002,.ren 2 900002] (zn) := ⟨by kernel_rfl,by kernel_rfl,fun x => by kernel_rfl⟩
theorem ok_zn : io_zn.Okay pg (F_zn) := zcu zcj (zn_To) (zn_go) trivial
def e_zn : zcq := io_zn.sp (fun s => okL 40 s) (fun s => s)
theorem sp_zn (h : ∀ (s : List Int),WfT [.sl tV] s → (okL 40 s) = true → (zn s).run (fun _ => none) = some s) : e_zn.ok pg := zcw ok_zn fun s hw hc => h s hw hc
theorem e_zn_ok : e_zn.ok pg := sp_zn fun s _ hc => by
 replace hc := okL40.1 hc
 have h : zdK 4 [] s = true := by rw [zeI,maxLen_eq]; simp; omega
 unfold zn
 simp only [RT.run,h,List.nil_append,if_true,if_false,Bool.false_eq_true]
 cases s with
 | nil => simp [bothR]
 | cons a s => simp
def zbM : ((List Int) × Int) → RT Unit Int
| (a,i) =>
 .rq 5 (.ite (decide (i < (a.length : Int)))
 (.rq 2 (.req (inB a i) (.rq 2 (.done (gI a i)))))
 (.rq 1 (.done 0)))
def F_zbM (x : (List Int) × Int) : Option Int := (zbM x).run fun _ => none
def io_zbM : Io := ⟨n_zbM,[.sl tV,tI],[.lf (qm 0),.lf (qm 1)],[],[[.sl tV],[tI]],[tV],.lf (qm 0),[],[],false⟩
def zbM_P : List zch := []
def zbM_T : zcl := tab []
theorem zbM_To : zck pg zbM_T := zci trivial
theorem zbM_go : zcy pg (zbM_T) io_zbM f_zbM (zbM_P) [] (zbM) := ⟨by kernel_rfl,by kernel_rfl,fun x => by kernel_rfl⟩
theorem ok_zbM : io_zbM.Okay pg (F_zbM) := zcu zcj (zbM_To) (zbM_go) trivial
def e_zbM : zcq := io_zbM.sp (fun (a,i) => decide (0 ≤ i)) (fun (a,i) => dig a i)
theorem sp_zbM (h : ∀ (a : List Int) (i : Int),WfT [.sl tV,tI] (a,i) → (decide (0 ≤ i)) = true → (zbM (a,i)).run (fun _ => none) = some (dig a i)) : e_zbM.ok pg := zcw ok_zbM fun (a,i) hw hc => h a i hw hc
theorem zht : e_zbM.ok pg := sp_zbM fun a i _ hc => by
 replace hc : 0 ≤ i := of_decide_eq_true hc
 unfold zbM dig
 simp only [RT.run,decide_eq_true_eq]
 split
 ·rw [if_pos (by rw [zcn]; omega)]; rfl
 ·rfl
def zar_b28 : (List Int) → Int → RT Int Int
| a,n =>
 .rq 6 (let t0 := decide (0 < n);
 let t1 := w64 (n - 1);
 .req ((inB a t1) || (!t0)) (.rq 3 (.ite (t0 && ((gI a t1) == 0))
 (.rq 3 (.again t1))
 (.done n))))
def zar_p28 : zch := ⟨28,true,[.sl tV],[tI],⟨[.keep [0,3],.gc],[0,3],[.lf (qi 0),.lf (qm 0)],[]⟩,[⟨2,⟨[.keep [0,3],.gc],[0,3],[.lf (qi 0),.lf (qm 0)],[]⟩,[tI]⟩],zar_b28⟩
def zar : (List Int) → RT Unit (List Int)
| a =>
 .rq 4 (.call (lo zar_b28 a (a.length : Int)) default fun v0 =>
 .rq 2 (.req (zgC a v0) (.req (okL 40 (takeI a v0)) (.rq 1 (.done (takeI a v0))))))
def F_zar (x : (List Int)) : Option (List Int) := (zar x).run fun _ => none
def io_zar : Io := ⟨n_zar,[.sl tV],[.lf (qm 0)],[],[[.sl tV]],[.sl tV],.lf (qr 0),[],[(true,.arr 122 (qm 0))],false⟩
def zar_P : List zch := [zar_p28]
def zar_T : zcl := tab [e_zn]
theorem zar_To : zck pg zar_T := zci ⟨e_zn_ok,trivial⟩
theorem zar_k28 : (zar_p28).OK pg (zar_T) (zcB 22 (zar_P)) (zcs f_zar) 22 := ⟨by kernel_rfl,fun i x => by kernel_rfl⟩
theorem zar_go : zcy pg (zar_T) io_zar f_zar (zar_P) [.nilRow 2 800002 122 tV,.ren 2 700002,.ren 2 900002] (zar) := ⟨by kernel_rfl,by kernel_rfl,fun x => by kernel_rfl⟩
theorem ok_zar : io_zar.Okay pg (F_zar) := zcu zcj (zar_To) (zar_go) ⟨zar_k28,trivial⟩
theorem cut_l (a : List Int) (hl : a.length ≤ 9223372036854775807) : ∀ n : Nat,n ≤ a.length → lo zar_b28 a (n : Int) = some (cutN a n : Int)
 | 0,_ => by
  rw [zcr,zar_b28]
  simp [RT.run,inB,cutN]
 | n + 1,h => by
  rw [zcr,zar_b28]
  have w : w64 (((n + 1 : Nat) : Int) - 1) = (n : Int) := by rw [zcm] <;> omega
  simp only [RT.run,w]
  rw [if_pos (by rw [zdi]; simp; omega)]
  have hg : gI a (n : Int) = a.getD n 0 := zfD a n
  rw [hg,cutN]
  by_cases h0 : a.getD n 0 = 0
  ·rw [if_pos (by rw [h0]; simp),if_pos h0]
   exact cut_l a hl n (by omega)
  ·rw [if_neg (by simp only [Bool.and_eq_true,decide_eq_true_eq,beq_iff_eq]; exact fun h => h0 h.2),if_neg h0]
def e_zar : zcq := io_zar.sp (fun a => okL 40 a) (fun a => zcg B32 (val B32 a))
theorem sp_zar (h : ∀ (a : List Int),WfT [.sl tV] a → (okL 40 a) = true → (zar a).run (fun _ => none) = some (zcg B32 (val B32 a))) : e_zar.ok pg := zcw ok_zar fun a hw hc => h a hw hc
theorem zgv : e_zar.ok pg := sp_zar fun a hw hc => by
 have hw' : Wf (.sl tV) a := hw
 have hl := hw'.1
 unfold zar
 replace hc := okL40.1 hc
 simp only [RT.run,cut_l a hl a.length (Nat.le_refl _),Option.bind_some]
 have hc' := cutN_le a a.length
 have h1 : zgC a (cutN a a.length : Int) = true := by simp [zgC]; omega
 have h2 : takeI a (cutN a a.length : Int) = cut a := by simp [takeI,cut]
 rw [if_pos h1,h2,if_pos (by rw [okL40]; show (a.take _).length ≤ _; rw [List.length_take]; omega),cut_eq (by decide) (zdq hw')]
def zbW : Int → RT Unit (List Int)
| n =>
 .rq 7 (let t0 := [zdO n,zdO (zee .u64 n 32)];
 .req (okL 40 t0) (.rq 1 (.done (zcg B32 (val B32 t0)))))
def F_zbW (x : Int) : Option (List Int) := (zbW x).run fun _ => none
def io_zbW : Io := ⟨n_zbW,[tU],[.lf (qm 0)],[],[[tU]],[.sl tV],.lf (qr 0),[],[(true,.arr 122 (qm 0))],false⟩
def zbW_P : List zch := []
def zbW_T : zcl := tab [e_zar]
theorem zbW_To : zck pg zbW_T := zci ⟨zgv,trivial⟩
theorem zbW_go : zcy pg (zbW_T) io_zbW f_zbW (zbW_P) [.nilRow 2 800002 122 tV,.ren 2 700002,.ren 2 900002] (zbW) := ⟨by kernel_rfl,by kernel_rfl,fun x => by kernel_rfl⟩
theorem ok_zbW : io_zbW.Okay pg (F_zbW) := zcu zcj (zbW_To) (zbW_go) trivial
def e_zbW : zcq := io_zbW.sp (fun n => true) (fun n => zcg B32 n.toNat)
theorem sp_zbW (h : ∀ (n : Int),WfT [tU] n → (zbW n).run (fun _ => none) = some (zcg B32 n.toNat)) : e_zbW.ok pg := zcw ok_zbW fun n hw hc => h n hw
theorem zit : e_zbW.ok pg := sp_zbW fun n hw => by
 have hw' : 0 ≤ n ∧ n < 18446744073709551616 := hw
 unfold zbW
 have h1 : zdO n = n % 4294967296 := zhX n
 have h2 : zdO (zee .u64 n 32) = n / 4294967296 := by
  have : zee .u64 n 32 = n / 4294967296 := by
   unfold zee
   rw [Int.fdiv_eq_ediv_of_nonneg _ (Int.pow_nonneg (by decide))]
   rfl
  rw [this,zgh] <;> omega
 simp only [RT.run,h1,h2]
 rw [if_pos (by rw [okL40]; simp)]
 have e : val B32 [n % 4294967296,n / 4294967296] = n.toNat := by
  simp only [val]
  rw [show B32 = 4294967296 from rfl]
  omega
 rw [e]
def zR : Int → RT Unit Bool
| x =>
 .rq 5 (.done (x != x))
def F_zR (x : Int) : Option Bool := (zR x).run fun _ => none
def io_zR : Io := ⟨n_zR,[tV],[.lf (qm 0)],[],[[tV]],[tB],.lf (qm 0),[],[],false⟩
def zR_P : List zch := []
def zR_T : zcl := tab []
theorem zR_To : zck pg zR_T := zci trivial
theorem zR_go : zcy pg (zR_T) io_zR f_zR (zR_P) [] (zR) := ⟨by kernel_rfl,by kernel_rfl,fun x => by kernel_rfl⟩
theorem ok_zR : io_zR.Okay pg (F_zR) := zcu zcj (zR_To) (zR_go) trivial
def e_zR : zcq := io_zR.sp (fun x => true) (fun x => false)
theorem sp_zR (h : ∀ (x : Int),WfT [tV] x → (zR x).run (fun _ => none) = some false) : e_zR.ok pg := zcw ok_zR fun x hw hc => h x hw
theorem e_zR_ok : e_zR.ok pg := sp_zR fun x _ => by
 simp [zR,RT.run]
def zI : (Int × Int) → RT Unit Int
| (x,y) =>
 .rq 8 (.ite (false)
 (.rq 1 (.ite (false)
 (.rq 1 (.done 0))
 (.rq 1 (.done (-1)))))
 (.rq 1 (.ite (false)
 (.rq 1 (.done 1))
 (.rq 3 (.ite (decide (x < y))
 (.rq 1 (.done (-1)))
 (.rq 3 (.ite (decide (y < x))
 (.rq 1 (.done 1))
 (.rq 1 (.done 0)))))))))
def F_zI (x : Int × Int) : Option Int := (zI x).run fun _ => none
def io_zI : Io := ⟨n_zI,[tV,tV],[.lf (qm 0),.lf (qm 1)],[],[[tV],[tV]],[tI],.lf (qm 0),[],[],false⟩
def zI_P : List zch := []
def zI_T : zcl := tab [e_zR]
theorem zI_To : zck pg zI_T := zci ⟨e_zR_ok,trivial⟩
theorem zI_go : zcy pg (zI_T) io_zI f_zI (zI_P) [] (zI) := ⟨by kernel_rfl,by kernel_rfl,fun x => by kernel_rfl⟩
theorem ok_zI : io_zI.Okay pg (F_zI) := zcu zcj (zI_To) (zI_go) trivial
def e_zI : zcq := io_zI.sp (fun (x,y) => true) (fun (x,y) => zde x y)
theorem sp_zI (h : ∀ (x : Int) (y : Int),WfT [tV,tV] (x,y) → (zI (x,y)).run (fun _ => none) = some (zde x y)) : e_zI.ok pg := zcw ok_zI fun (x,y) hw hc => h x y hw
theorem e_zI_ok : e_zI.ok pg := sp_zI fun x y _ => by
 unfold zI zde
 simp only [RT.run,Bool.false_eq_true,if_false,decide_eq_true_eq]
 split
 ·rfl
 ·split <;> rfl
def zba_b26 : ((List Int) × (List Int)) → Int → RT Int (LR Int Unit)
| (a,b),i =>
 .rq 2 (.ite (decide (0 ≤ i))
 (.rq 2 (.req (decide (0 ≤ i)) (.rq 2 (.req (decide (0 ≤ i)) (.rq 4 (let t0 := zde (dig a i) (dig b i);
 .ite (t0 != 0)
 (.rq 2 (.done (.ex t0)))
 (.rq 3 (.again (w64 (i - 1))))))))))
 (.done (.rt ())))
def zba_p26 : zch := ⟨26,true,[.sl tV,.sl tV],[tI],⟨[.keep [0,1,5],.gc],[0,1,5],[.lf (qi 0),.lf (qi 1),.lf (qm 0)],[]⟩,[⟨1,⟨[.keep [4],.gc],[4],[.lf (qm 0)],[]⟩,[tI]⟩,⟨2,⟨[.keep [],.gc],[],[],[]⟩,[]⟩],zba_b26⟩
def zba : ((List Int) × (List Int)) → RT Unit Int
| (a,b) =>
 .rq 8 (.call (lo zba_b26 (a,b) (w64 ((zdJ (a.length : Int) (b.length : Int)) - 1))) default fun v0 =>
 .ite v0.isRt
 (.rq 1 (.done 0))
 (.done v0.getX))
def F_zba (x : (List Int) × (List Int)) : Option Int := (zba x).run fun _ => none
def io_zba : Io := ⟨n_zba,[.sl tV,.sl tV],[.lf (qm 0),.lf (qm 1)],[],[[.sl tV],[.sl tV]],[tI],.lf (qm 0),[],[],false⟩
def zba_P : List zch := [zba_p26]
def zba_T : zcl := tab [e_zI,e_zbM]
theorem zba_To : zck pg zba_T := zci ⟨e_zI_ok,zht,trivial⟩
theorem zba_k26 : (zba_p26).OK pg (zba_T) (zcB 27 (zba_P)) (zcs f_zba) 27 := ⟨by kernel_rfl,fun i x => by kernel_rfl⟩
theorem zba_go : zcy pg (zba_T) io_zba f_zba (zba_P) [] (zba) := ⟨by kernel_rfl,by kernel_rfl,fun x => by kernel_rfl⟩
theorem ok_zba : io_zba.Okay pg (F_zba) := zcu zcj (zba_To) (zba_go) ⟨zba_k26,trivial⟩
theorem cmp_l (a b : List Int) : ∀ n : Nat,n ≤ 9223372036854775807 → lo zba_b26 (a,b) ((n : Int) - 1) = some (if cmpN a b n = 0 then .rt () else .ex (cmpN a b n))
 | 0,_ => by
  rw [zcr,zba_b26]
  simp [RT.run,cmpN]
 | n + 1,h => by
  rw [zcr,zba_b26]
  have e : ((n + 1 : Nat) : Int) - 1 = (n : Int) := by omega
  have w : w64 ((n : Int) - 1) = (n : Int) - 1 := by rw [zcm]; omega
  have hn : decide (0 ≤ (n : Int)) = true := by simp
  simp only [RT.run,e,w,hn,if_true]
  by_cases h0 : zde (dig a n) (dig b n) = 0
  ·rw [if_neg (by simp [h0]),show cmpN a b (n + 1) = cmpN a b n from if_pos h0]
   exact cmp_l a b n (by omega)
  ·rw [if_pos (by simp [h0]),show cmpN a b (n + 1) = zde (dig a n) (dig b n) from if_neg h0,if_neg h0]
def e_zba : zcq := io_zba.sp (fun (a,b) => true) (fun (a,b) => zde (val B32 a) (val B32 b))
theorem sp_zba (h : ∀ (a : List Int) (b : List Int),WfT [.sl tV,.sl tV] (a,b) → (zba (a,b)).run (fun _ => none) = some (zde (val B32 a) (val B32 b))) : e_zba.ok pg := zcw ok_zba fun (a,b) hw hc => h a b hw
theorem e_zba_ok : e_zba.ok pg := sp_zba fun a b hw => by
 have ha : Wf (.sl tV) a := hw.1
 have hb : Wf (.sl tV) b := hw.2
 have hla := ha.1
 have hlb := hb.1
 unfold zba
 have hm : zdJ (a.length : Int) (b.length : Int) = ((max a.length b.length : Nat) : Int) := by unfold zdJ; split <;> omega
 have hw : w64 (((max a.length b.length : Nat) : Int) - 1) = ((max a.length b.length : Nat) : Int) - 1 := by rw [zcm]; omega
 simp only [RT.run,hm,hw,cmp_l a b (max a.length b.length) (by omega),Option.bind_some]
 rw [← cmpN_all (b := B32) (k := max a.length b.length) (by decide) (zdq ha) (zdq hb) (by omega) (by omega)]
 split
 ·rename_i h; simp [LR.isRt,h]
 ·simp [LR.isRt,LR.getX]
def zaM_b122 : ((List Int) × (List Int) × Int) → (Int × Int × (List Int)) → RT (Int × Int × (List Int)) (List Int)
| (a,b,x13),(over,x14,r5) =>
 .rq 1 (.ite (decide (x14 < x13))
 (.rq 5 (.req (decide (0 ≤ x14)) (.rq 3 (.req (decide (0 ≤ x14)) (.rq 8 (let t0 := zcx (over + (zcx ((zcx (dig a x14)) + (zcx (dig b x14)))));
 let t1 := [zdO t0];
 .req (zdK 4 r5 t1) (.rq 6 (.again (zee .u64 t0 32,w64 (x14 + 1),r5 ++ t1)))))))))
 (.done r5))
def zaM_p122 : zch := ⟨122,true,[.sl tV,.sl tV,tI],[tU,tI,.sl tV],⟨[.keep [0,1,5,6,13,14],.gc,.nilRow 5 800005 122 tV,.ren 5 700005,.ren 5 900005,.gc],[0,1,5,6,13,14],[.lf (qi 0),.lf (qi 1),.lf (qr 900005),.lf (qm 0),.lf (qi 2),.lf (qm 1)],[(900005,true,.arr 122 (qm 2))]⟩,[⟨2,⟨[.keep [5],.gc,.nilRow 5 800005 122 tV,.ren 5 700005,.ren 5 900005,.gc],[5],[.lf (qr 900005)],[(900005,true,.arr 122 (qm 0))]⟩,[.sl tV]⟩],zaM_b122⟩
def zaM : ((List Int) × (List Int)) → RT Unit (List Int)
| (a,b) =>
 .rq 10 (.call (lo zaM_b122 (a,b,w64 ((zdJ (a.length : Int) (b.length : Int)) + 1)) (0,0,[])) default fun v0 =>
 .rq 1 (.req (okL 40 v0) (.rq 1 (.done (zcg B32 (val B32 v0))))))
def F_zaM (x : (List Int) × (List Int)) : Option (List Int) := (zaM x).run fun _ => none
def io_zaM : Io := ⟨n_zaM,[.sl tV,.sl tV],[.lf (qm 0),.lf (qm 1)],[],[[.sl tV],[.sl tV]],[.sl tV],.lf (qr 0),[],[(true,.arr 122 (qm 0))],false⟩
def zaM_P : List zch := [zaM_p122]
def zaM_T : zcl := tab [e_zar,e_zbM]
theorem zaM_To : zck pg zaM_T := zci ⟨zgv,zht,trivial⟩
theorem zaM_k122 : (zaM_p122).OK pg (zaM_T) (zcB 38 (zaM_P)) (zcs f_zaM) 38 := ⟨by kernel_rfl,fun i x => by kernel_rfl⟩
theorem zaM_go : zcy pg (zaM_T) io_zaM f_zaM (zaM_P) [.nilRow 4 800004 122 tV,.ren 4 700004,.ren 4 900004] (zaM) := ⟨by kernel_rfl,by kernel_rfl,fun x => by kernel_rfl⟩
theorem ok_zaM : io_zaM.Okay pg (F_zaM) := zcu zcj (zaM_To) (zaM_go) ⟨zaM_k122,trivial⟩
theorem shr32 (x : Nat) : zee .u64 (x : Int) 32 = ((x / 4294967296 : Nat) : Int) := by
 unfold zee
 rw [Int.fdiv_eq_ediv_of_nonneg _ (Int.pow_nonneg (by decide))]
 rfl
theorem zix {xs : List Int} (h : wfd B32 xs = true) (i : Nat) : ∃ d : Nat,dig xs (i : Int) = (d : Int) ∧ d < 4294967296 := by
 rw [zfd (by decide) h]
 exact ⟨_,rfl,Nat.mod_lt _ (by decide)⟩
theorem plus_l {a b : List Int} (ha : wfd B32 a = true) (hb : wfd B32 b = true) (m : Nat) (hm : m ≤ 2 ^ 40) : ∀ (r i o : Nat) (out : List Int),i + r = m → o ≤ 1 → out.length = i →
  lo zaM_b122 (a,b,(m : Int)) ((o : Int),(i : Int),out) = some (out ++ plusN B32 a b r i o)
 | 0,i,o,out,h,_,_ => by
  rw [zcr,zaM_b122]
  simp only [RT.run]
  rw [if_neg (by simp; omega)]
  simp [plusN]
 | r + 1,i,o,out,h,ho,hl => by
  rw [zcr,zaM_b122]
  obtain ⟨x,hx,hx'⟩ := zix ha i
  obtain ⟨y,hy,hy'⟩ := zix hb i
  have w1 : zcx (x : Int) = x := zcD (by omega)
  have w2 : zcx (y : Int) = y := zcD (by omega)
  have w3 : zcx ((x : Int) + (y : Int)) = ((x + y : Nat) : Int) := by rw [zcD] <;> omega
  have w4 : zcx ((o : Int) + ((x + y : Nat) : Int)) = ((o + (x + y) : Nat) : Int) := by rw [zcD] <;> omega
  have w5 : w64 ((i : Int) + 1) = ((i + 1 : Nat) : Int) := by rw [zcm] <;> omega
  have w6 : zdO ((o + (x + y) : Nat) : Int) = (((o + (x + y)) % 4294967296 : Nat) : Int) := by rw [zhX]; omega
  have h2 : decide (0 ≤ (i : Int)) = true := by simp
  simp only [RT.run,hx,hy,w1,w2,w3,w4,w5,w6,shr32,h2,if_true]
  rw [if_pos (by simp; omega),if_pos (by rw [zeI,maxLen_eq]; simp; omega)]
  rw [plus_l ha hb m hm r (i + 1) _ _ (by omega) (by omega) (by simp [hl])]
  rw [plusN,hx,hy,List.append_assoc]
  have e1 : ((o : Int) + ((x : Int) + (y : Int))) % ((B32 : Nat) : Int) = (((o + (x + y)) % 4294967296 : Nat) : Int) := by
   rw [show ((B32 : Nat) : Int) = 4294967296 from rfl]
   omega
  have e2 : ((o : Int) + ((x : Int) + (y : Int))) / ((B32 : Nat) : Int) = (((o + (x + y)) / 4294967296 : Nat) : Int) := by
   rw [show ((B32 : Nat) : Int) = 4294967296 from rfl]
   omega
  rw [e1,e2]
  rfl
def e_zaM : zcq := io_zaM.sp (fun (a,b) => okL 38 a && okL 38 b) (fun (a,b) => zcg B32 (val B32 a + val B32 b))
theorem sp_zaM (h : ∀ (a : List Int) (b : List Int),WfT [.sl tV,.sl tV] (a,b) → (okL 38 a && okL 38 b) = true → (zaM (a,b)).run (fun _ => none) = some (zcg B32 (val B32 a + val B32 b))) : e_zaM.ok pg := zcw ok_zaM fun (a,b) hw hc => h a b hw hc
theorem e_zaM_ok : e_zaM.ok pg := sp_zaM fun a b hw hc => by
 have ha : wfd B32 a = true := zdq hw.1
 have hb : wfd B32 b = true := zdq hw.2
 simp only [Bool.and_eq_true,okL38] at hc
 unfold zaM
 have hm : zdJ (a.length : Int) (b.length : Int) = ((max a.length b.length : Nat) : Int) := by unfold zdJ; split <;> omega
 have hw : w64 (((max a.length b.length : Nat) : Int) + 1) = ((max a.length b.length + 1 : Nat) : Int) := by rw [zcm] <;> omega
 have h := plus_l ha hb (max a.length b.length + 1) (by omega) (max a.length b.length + 1) 0 0 [] (by omega) (by omega) rfl
 simp only [RT.run,hm,hw]
 rw [show ((0 : Int),(0 : Int),([] : List Int)) = (((0 : Nat) : Int),((0 : Nat) : Int),[]) from rfl,h]
 simp only [Option.bind_some,List.nil_append]
 have hlen : ∀ k i o,(plusN B32 a b k i o).length = k := fun k => by
  induction k with
  | zero => intro i o; rfl
  | succ k ih => intro i o; simp [plusN,ih]
 rw [if_pos (by rw [okL40,hlen]; omega)]
 have e := plusN_sum (b := B32) (k := max a.length b.length + 1) (by decide) ha hb (by omega) (by omega)
 rw [show ((0 : Nat) : Int) = 0 from rfl,e]
theorem len_val {xs : List Int} (h : wfd B32 xs = true) {n : Nat} (hv : val B32 xs < B32 ^ n) : (zcg B32 (val B32 xs)).length ≤ n := by
 by_cases h0 : val B32 xs = 0
 ·rw [h0,zdC]; exact Nat.zero_le _
 obtain ⟨m,h1,h2,h3⟩ := zeP (b := B32) (by decide) (Nat.pos_of_ne_zero h0)
 have := (Nat.pow_lt_pow_iff_right (by decide : 1 < B32)).1 (Nat.lt_of_le_of_lt h2 hv)
 omega
theorem zhj {v n : Nat} (hv : v < B32 ^ n) : (zcg B32 v).length ≤ n := by
 have := len_val (xs := zcg B32 v) (zcS (by decide) v) (n := n) (by rw [zcz (by decide)]; exact hv)
 rwa [zcz (by decide)] at this
def zbn_b58 : ((List (List Int)) × Int) → (Int × (List Int)) → RT (Int × (List Int)) (List Int)
| (x6,x7),(x8,r3) =>
 .rq 1 (.ite (decide (x8 < x7))
 (.req (inB x6 x8) (.rq 4 (.req (okL 38 r3 && okL 38 (gI x6 x8)) (.rq 3 (.again (w64 (x8 + 1),zcg B32 (val B32 r3 + val B32 (gI x6 x8))))))))
 (.done r3))
def zbn_p58 : zch := ⟨58,true,[.sl (.sl tV),tI],[tI,.sl tV],⟨[.keep [3,6,7,8],.gc,.nilRow 3 800003 122 tV,.ren 3 700003,.ren 3 900003,.gc],[3,6,7,8],[.lf (qr 900003),.lf (qi 0),.lf (qi 1),.lf (qm 0)],[(900003,true,.arr 122 (qm 1))]⟩,[⟨2,⟨[.keep [3],.gc,.nilRow 3 800003 122 tV,.ren 3 700003,.ren 3 900003,.gc],[3],[.lf (qr 900003)],[(900003,true,.arr 122 (qm 0))]⟩,[.sl tV]⟩],zbn_b58⟩
def zbn : (List (List Int)) → RT Unit (List Int)
| l =>
 .rq 5 (.call (lo zbn_b58 (l,(l.length : Int)) (0,[])) default fun v0 =>
 .rq 2 (.done v0))
def F_zbn (x : (List (List Int))) : Option (List Int) := (zbn x).run fun _ => none
def io_zbn : Io := ⟨n_zbn,[.sl (.sl tV)],[.lf (qm 0)],[],[[.sl (.sl tV)]],[.sl tV],.lf (qr 0),[],[(true,.arr 122 (qm 0))],false⟩
def zbn_P : List zch := [zbn_p58]
def zbn_T : zcl := tab [e_zaM]
theorem zbn_To : zck pg zbn_T := zci ⟨e_zaM_ok,trivial⟩
theorem zbn_k58 : (zbn_p58).OK pg (zbn_T) (zcB 17 (zbn_P)) (zcs f_zbn) 17 := ⟨by kernel_rfl,fun i x => by kernel_rfl⟩
theorem zbn_go : zcy pg (zbn_T) io_zbn f_zbn (zbn_P) [.nilRow 2 800002 122 tV,.ren 2 700002,.ren 2 900002] (zbn) := ⟨by kernel_rfl,by kernel_rfl,fun x => by kernel_rfl⟩
theorem ok_zbn : io_zbn.Okay pg (F_zbn) := zcu zcj (zbn_To) (zbn_go) ⟨zbn_k58,trivial⟩
def sumV (l : List (List Int)) : Nat := (l.map (val B32)).sum
theorem Add_l (l : List (List Int)) (hw : ∀ x ∈ l,wfd B32 x = true) (hl : l.length ≤ 1048576) {K : Nat} (hK : K ≤ 68719476736) (hs : ∀ x ∈ l,x.length ≤ K) : ∀ (r i v : Nat),i + r = l.length → v < B32 ^ (K + i) →
  lo zbn_b58 (l,(l.length : Int)) ((i : Int),zcg B32 v) = some (zcg B32 (v + sumV (l.drop i)))
 | 0,i,v,h,_ => by
  rw [zcr,zbn_b58]
  simp only [RT.run]
  rw [if_neg (by simp; omega),List.drop_of_length_le (by omega)]
  rfl
 | r + 1,i,v,h,hv => by
  rw [zcr,zbn_b58]
  have hi : i < l.length := by omega
  have w5 : w64 ((i : Int) + 1) = ((i + 1 : Nat) : Int) := by rw [zcm] <;> omega
  have hx := List.getElem_mem hi
  simp only [RT.run,w5,zcL hi]
  have hd := zhj hv
  have hlx := hs _ hx
  rw [if_pos (by simp; omega),if_pos (by rw [zdi]; simp; omega),if_pos (by rw [Bool.and_eq_true,okL38,okL38]; omega),zcz (by decide)]
  have hv' : v + val B32 l[i] < B32 ^ (K + (i + 1)) := by
   have h1 := zcQ (b := B32) (by decide) (hw _ hx)
   have h2 : B32 ^ l[i].length ≤ B32 ^ (K + i) := Nat.pow_le_pow_right (by decide) (by omega)
   have h3 : B32 ^ (K + (i + 1)) = B32 ^ (K + i) * B32 := Nat.pow_succ ..
   rw [h3]
   generalize B32 ^ (K + i) = z at *
   generalize val B32 l[i] = y at *
   rw [show B32 = 4294967296 from rfl]
   omega
  rw [Add_l l hw hl hK hs r (i + 1) _ (by omega) hv']
  rw [List.drop_eq_getElem_cons hi,sumV,sumV,List.map_cons,List.sum_cons,Nat.add_assoc]
def okLs (l : List (List Int)) : Bool := okL 20 l && l.all (okL 36)
theorem okLs_iff {l : List (List Int)} : okLs l = true ↔ l.length ≤ 1048576 ∧ ∀ x ∈ l,x.length ≤ 68719476736 := by
 simp only [okLs,Bool.and_eq_true,List.all_eq_true,okL36,okL20]
def e_zbn : zcq := io_zbn.sp (fun l => okLs l) (fun l => zcg B32 (sumV l))
theorem sp_zbn (h : ∀ (l : List (List Int)),WfT [.sl (.sl tV)] l → (okLs l) = true → (zbn l).run (fun _ => none) = some (zcg B32 (sumV l))) : e_zbn.ok pg := zcw ok_zbn fun l hw hc => h l hw hc
theorem e_zbn_ok : e_zbn.ok pg := sp_zbn fun l hw hc => by
 have hw' : Wf (.sl (.sl tV)) l := hw
 rw [okLs_iff] at hc
 unfold zbn
 obtain ⟨K,hK⟩ : ∃ K : Nat,K = 68719476736 := ⟨_,rfl⟩
 have h := Add_l l (fun x hx => zdq (hw'.2 x hx)) hc.1 (K := K) (by omega) (fun x hx => by rw [hK]; exact hc.2 x hx) l.length 0 0 (by omega) (Nat.pow_pos (by decide))
 simp only [RT.run]
 rw [show ((0 : Int),([] : List Int)) = (((0 : Nat) : Int),zcg B32 0) from rfl,h]
 simp
end
end Go.Proofs.YtlfdidaeachpoaaGreat
namespace Go.Proofs.YtlfdidaeachpoaaGreat
open Go Go.RowKit
set_option maxRecDepth 100000
noncomputable section
def zgE : ByteArray := ⟨#[0,1,2,2,3,3,3,3,4,4,4,4,4,4,4,4,5,5,5,5,5,5,5,5,5,5,5,5,5,5,5,5,6,6,6,6,6,6,6,6,6,6,6,6,6,6,6,6,6,6,6,6,6,6,6,6,6,6,6,6,6,6,6,6,7,7,7,7,7,7,7,7,7,7,7,7,7,7,7,7,7,7,7,7,7,7,7,7,7,7,7,7,7,7,7,7,7,7,7,7,7,7,7,7,7,7,7,7,7,7,7,7,7,7,7,7,7,7,7,7,7,7,7,7,7,7,7,7,8,8,8,8,8,8,8,8,8,8,8,8,8,8,8,8,8,8,8,8,8,8,8,8,8,8,8,8,8,8,8,8,8,8,8,8,8,8,8,8,8,8,8,8,8,8,8,8,8,8,8,8,8,8,8,8,8,8,8,8,8,8,8,8,8,8,8,8,8,8,8,8,8,8,8,8,8,8,8,8,8,8,8,8,8,8,8,8,8,8,8,8,8,8,8,8,8,8,8,8,8,8,8,8,8,8,8,8,8,8,8,8,8,8,8,8,8,8,8,8,8,8,8,8,8,8,8,8]⟩
def zw_b6 : (Int × Int) → RT Unit (Int × Int)
| (x,n) =>
 .rq 2 (.ite (decide (65536 ≤ x))
 (.rq 4 (.done (zee .u32 x 16,16)))
 (.done (x,n)))
def zw_p6 : zch := ⟨6,false,[tV,tI],[],⟨[.keep [0,2],.gc],[0,2],[.lf (qi 0),.lf (qi 1)],[]⟩,[⟨0,⟨[.keep [0,2],.gc],[0,2],[.lf (qm 0),.lf (qm 1)],[]⟩,[tV,tI]⟩],(fun i _ => zw_b6 i)⟩
def zw : Int → RT Unit Int
| x =>
 .rq 1 (.call (on zw_b6 (x,0)) default fun v0 =>
 .rq 2 (.ite (decide (256 ≤ v0.1))
 (.rq 9 (let t0 := wu8 (zee .u32 v0.1 8);
 .req (inS zgE t0) (.rq 3 (.done (w64 ((w64 (v0.2 + 8)) + (w64 (byI zgE t0))))))))
 (.rq 3 (.req (inS zgE (wu8 v0.1)) (.rq 3 (.done (w64 (v0.2 + (w64 (byI zgE (wu8 v0.1)))))))))))
def F_zw (x : Int) : Option Int := (zw x).run fun _ => none
def io_zw : Io := ⟨n_zw,[tV],[.lf (qm 0)],[],[[tV]],[tI],.lf (qm 0),[],[],false⟩
def zw_P : List zch := [zw_p6]
def zw_T : zcl := tab []
theorem zw_To : zck pg zw_T := zci trivial
theorem zw_k6 : (zw_p6).OK pg (zw_T) (zcB 19 (zw_P)) (zcs f_zw) 19 := ⟨by kernel_rfl,fun i x => by kernel_rfl⟩
theorem zw_go : zcy pg (zw_T) io_zw f_zw (zw_P) [] (zw) := ⟨by kernel_rfl,by kernel_rfl,fun x => by kernel_rfl⟩
theorem ok_zw : io_zw.Okay pg (F_zw) := zcu zcj (zw_To) (zw_go) ⟨zw_k6,trivial⟩
theorem len8_all : ∀ i,i < 256 → byteAt zgE i = (bl i : Int) := by decide +kernel
theorem len8_size : zgE.size = 256 := by kernel_rfl
theorem shrN (x : Nat) (k : IntKind) (j : Nat) (h : j ≤ k.bits) : zee k (x : Int) (j : Int) = ((x / 2 ^ j : Nat) : Int) := by
 unfold zee
 rw [Int.toNat_natCast,Nat.min_eq_left h,Int.fdiv_eq_ediv_of_nonneg _ (Int.pow_nonneg (by decide)),Int.natCast_ediv,Int.natCast_pow]
 rfl
theorem wu8_eq (n : Int) : wu8 n = n % 256 := by
 unfold wu8 IntKind.wrap
 have h1 : (2 : Int) ^ IntKind.u8.bits = 256 := rfl
 have h2 : IntKind.u8.signed = false := rfl
 simp only [h1,h2]
 simp
def e_zw : zcq := io_zw.sp (fun x => true) (fun x => ((bl x.toNat : Nat) : Int))
theorem sp_zw (h : ∀ (x : Int),WfT [tV] x → (zw x).run (fun _ => none) = some ((bl x.toNat : Nat) : Int)) : e_zw.ok pg := zcw ok_zw fun x hw hc => h x hw
theorem e_zw_ok : e_zw.ok pg := sp_zw fun x hw => by
 have hw' : 0 ≤ x ∧ x < 4294967296 := hw
 obtain ⟨n,rfl⟩ := Int.eq_ofNat_of_zero_le hw'.1
 have hn : n < 4294967296 := by omega
 rw [Int.toNat_natCast]
 have e1 : zee .u32 (n : Int) 16 = ((n / 65536 : Nat) : Int) := shrN n .u32 16 (by decide)
 have e2 : zee .u32 ((n / 65536 : Nat) : Int) 8 = ((n / 65536 / 256 : Nat) : Int) := shrN _ .u32 8 (by decide)
 have e3 : zee .u32 (n : Int) 8 = ((n / 256 : Nat) : Int) := shrN _ .u32 8 (by decide)
 have bb : ∀ m : Nat,m < 256 → bl m ≤ 8 := fun m hm => bl_le.2 (by omega)
 have key : ∀ (m : Nat) (c : Int),m < 256 → 0 ≤ c ∧ c ≤ 24 → inS zgE (wu8 (m : Int)) = true ∧ w64 (c + w64 (byI zgE (wu8 (m : Int)))) = c + (bl m : Int) := fun m c hm hc => by
  have := bb m hm
  have hm' : wu8 (m : Int) = (m : Int) := by rw [wu8_eq]; omega
  rw [hm']
  refine ⟨by simp [inS,len8_size]; omega,?_⟩
  unfold byI
  rw [Int.toNat_natCast,len8_all m hm,zcm,zcm] <;> (try rw [zcm]) <;> omega
 have w24 : w64 (16 + 8) = 24 := by rw [zcm] <;> omega
 have w8 : w64 (0 + 8) = 8 := by rw [zcm] <;> omega
 rw [zw]
 simp only [RT.run,on,zw_b6,decide_eq_true_eq]
 by_cases h1 : (65536 : Int) ≤ (n : Int)
 ·rw [if_pos h1,Option.bind_some]
  simp only [e1,e2,w24]
  by_cases h2 : (256 : Int) ≤ ((n / 65536 : Nat) : Int)
  ·obtain ⟨k1,k2⟩ := key (n / 65536 / 256) 24 (by omega) (by omega)
   rw [if_pos h2,if_pos k1,k2,ziV (n := n) (j := 24) (by omega),show n / 65536 / 256 = n / 2 ^ 24 by omega]
   rfl
  ·obtain ⟨k1,k2⟩ := key (n / 65536) 16 (by omega) (by omega)
   rw [if_neg h2,if_pos k1,k2,ziV (n := n) (j := 16) (by omega)]
   rfl
 ·rw [if_neg h1,Option.bind_some]
  simp only [e3,w8]
  by_cases h2 : (256 : Int) ≤ (n : Int)
  ·obtain ⟨k1,k2⟩ := key (n / 256) 8 (by omega) (by omega)
   rw [if_pos h2,if_pos k1,k2,ziV (n := n) (j := 8) (by omega)]
   rfl
  ·obtain ⟨k1,k2⟩ := key n 0 (by omega) (by omega)
   rw [if_neg h2,if_pos k1,k2]
   simp
def zbO : (List Int) → RT Unit Int
| a =>
 .rq 2 (.req (okL 40 a) (.rq 4 (let t0 := ((zcg B32 (val B32 a)).length : Int);
 .ite (t0 == 0)
 (.rq 1 (.done 0))
 (.rq 8 (let t1 := w64 (t0 - 1);
 .req (inB (zcg B32 (val B32 a)) t1) (.rq 4 (.done (w64 ((w64 (32 * t1)) + (((bl (gI (zcg B32 (val B32 a)) t1).toNat : Nat) : Int)))))))))))
def F_zbO (x : (List Int)) : Option Int := (zbO x).run fun _ => none
def io_zbO : Io := ⟨n_zbO,[.sl tV],[.lf (qm 0)],[],[[.sl tV]],[tI],.lf (qm 0),[],[],false⟩
def zbO_P : List zch := []
def zbO_T : zcl := tab [e_zw,e_zar]
theorem zbO_To : zck pg zbO_T := zci ⟨e_zw_ok,zgv,trivial⟩
theorem zbO_go : zcy pg (zbO_T) io_zbO f_zbO (zbO_P) [] (zbO) := ⟨by kernel_rfl,by kernel_rfl,fun x => by kernel_rfl⟩
theorem ok_zbO : io_zbO.Okay pg (F_zbO) := zcu zcj (zbO_To) (zbO_go) trivial
def e_zbO : zcq := io_zbO.sp (fun a => okL 40 a) (fun a => ((bl (val B32 a) : Nat) : Int))
theorem sp_zbO (h : ∀ (a : List Int),WfT [.sl tV] a → (okL 40 a) = true → (zbO a).run (fun _ => none) = some ((bl (val B32 a) : Nat) : Int)) : e_zbO.ok pg := zcw ok_zbO fun a hw hc => h a hw hc
theorem e_zbO_ok : e_zbO.ok pg := sp_zbO fun a hw hc => by
 have ha : wfd B32 a = true := zdq hw
 rw [zbO]
 simp only [RT.run,hc,if_true]
 by_cases h0 : val B32 a = 0
 ·rw [h0,zdC]
  rfl
 ·obtain ⟨m,h1,h2,h3,h4⟩ := bl_digs (Nat.pos_of_ne_zero h0)
  have hm : m ≤ 1099511627776 := by
   have := len_val ha (zcQ (by decide) ha)
   rw [okL40] at hc
   omega
  have hw1 : w64 ((((zcg B32 (val B32 a)).length : Nat) : Int) - 1) = (m : Int) := by rw [h1,zcm] <;> omega
  have hw2 : w64 (32 * (m : Int)) = ((32 * m : Nat) : Int) := by rw [zcm] <;> omega
  have hne : (((zcg B32 (val B32 a)).length : Int) == 0) = false := by rw [h1]; simp; omega
  rw [if_neg (by rw [hne]; simp),hw1,hw2,if_pos (by rw [zdi]; simp; omega),zcL (by omega)]
  rw [List.getD,List.getElem?_eq_getElem (by omega)] at h2
  simp only [Option.getD_some] at h2
  have hb : bl (val B32 a / B32 ^ m) ≤ 32 := bl_le.2 h3
  rw [h2,Int.toNat_natCast,h4]
  generalize bl (val B32 a / B32 ^ m) = z at *
  rw [zcm (by omega),Int.natCast_add]
def zbN : (List Int) → RT Unit (Int × Bool)
| a =>
 .rq 3 (.req (okL 40 a) (.rq 1 (.ite (decide (64 < (((bl (val B32 a) : Nat) : Int))))
 (.rq 2 (.done (0,false)))
 (.rq 1 (.req (decide (0 ≤ (1 : Int))) (.rq 3 (.req (decide (0 ≤ (0 : Int))) (.rq 4 (.done (zdy .or .u64 (shlI .u64 (zcx (dig a (1 : Int))) 32) (zcx (dig a (0 : Int))),true))))))))))
def F_zbN (x : (List Int)) : Option (Int × Bool) := (zbN x).run fun _ => none
def io_zbN : Io := ⟨n_zbN,[.sl tV],[.lf (qm 0)],[],[[.sl tV]],[tU,tB],.tup [(false,[qm 0]),(false,[qm 1])],[],[],false⟩
def zbN_P : List zch := []
def zbN_T : zcl := tab [e_zbO,e_zbM]
theorem zbN_To : zck pg zbN_T := zci ⟨e_zbO_ok,zht,trivial⟩
theorem zbN_go : zcy pg (zbN_T) io_zbN f_zbN (zbN_P) [] (zbN) := ⟨by kernel_rfl,by kernel_rfl,fun x => by kernel_rfl⟩
theorem ok_zbN : io_zbN.Okay pg (F_zbN) := zcu zcj (zbN_To) (zbN_go) trivial
theorem ibit_or {x y : Nat} (hx : x < 2 ^ 64) (hy : y < 2 ^ 64) : zdy .or .u64 x y = ((x ||| y : Nat) : Int) := by
 unfold zdy
 have e : ∀ z : Nat,z < 2 ^ 64 → (BitVec.ofInt IntKind.u64.bits (z : Int)).toNat = z := fun z hz => by
  rw [BitVec.toNat_ofInt]
  have : (2 : Nat) ^ IntKind.u64.bits = 18446744073709551616 := rfl
  rw [this]
  omega
 simp only [BitVec.toNat_or,e x hx,e y hy]
 rw [u64_in]
 have := Nat.or_lt_two_pow hx hy
 omega
theorem shlN {x j : Nat} (hj : j ≤ 64) (h : x * 2 ^ j < 18446744073709551616) : shlI .u64 (x : Int) (j : Int) = ((x * 2 ^ j : Nat) : Int) := by
 unfold shlI
 rw [Int.toNat_natCast,show min j IntKind.u64.bits = j from Nat.min_eq_left hj]
 have e : (x : Int) * 2 ^ j = ((x * 2 ^ j : Nat) : Int) := by rw [Int.natCast_mul,Int.natCast_pow]; rfl
 rw [e]
 exact u64_in (by omega)
theorem zhJ {x y : Nat} (hx : x < 4294967296) (hy : y < 4294967296) : zdy .or .u64 (shlI .u64 (x : Int) 32) (y : Int) = ((x * 4294967296 + y : Nat) : Int) := by
 have h := shlN (x := x) (j := 32) (by decide) (by omega)
 rw [show (32 : Int) = ((32 : Nat) : Int) from rfl,h,ibit_or (by omega) (by omega),or_add (by omega)]
def e_zbN : zcq := io_zbN.sp (fun a => okL 40 a) (fun a => (if val B32 a < 18446744073709551616 then ((val B32 a : Nat) : Int) else 0,decide (val B32 a < 18446744073709551616)))
theorem sp_zbN (h : ∀ (a : List Int),WfT [.sl tV] a → (okL 40 a) = true → (zbN a).run (fun _ => none) = some (if val B32 a < 18446744073709551616 then ((val B32 a : Nat) : Int) else 0,decide (val B32 a < 18446744073709551616))) : e_zbN.ok pg := zcw ok_zbN fun a hw hc => h a hw hc
theorem e_zbN_ok : e_zbN.ok pg := sp_zbN fun a hw hc => by
 have ha : wfd B32 a = true := zdq hw
 rw [zbN]
 simp only [RT.run,hc,if_true,decide_eq_true_eq]
 have hb : bl (val B32 a) ≤ 64 ↔ val B32 a < 18446744073709551616 := bl_le
 by_cases h : val B32 a < 18446744073709551616
 ·have h1 := zfd (b := B32) (by decide) ha 1
  have h0 := zfd (b := B32) (by decide) ha 0
  rw [show ((1 : Nat) : Int) = 1 from rfl,Nat.pow_one] at h1
  rw [show ((0 : Nat) : Int) = 0 from rfl,Nat.pow_zero,Nat.div_one] at h0
  have m1 : val B32 a / B32 % B32 < 4294967296 := Nat.mod_lt _ (by decide)
  have m0 : val B32 a % B32 < 4294967296 := Nat.mod_lt _ (by decide)
  have w1 : zcx ((val B32 a / B32 % B32 : Nat) : Int) = ((val B32 a / B32 % B32 : Nat) : Int) := zcD (by omega)
  have w0 : zcx ((val B32 a % B32 : Nat) : Int) = ((val B32 a % B32 : Nat) : Int) := zcD (by omega)
  have hb' := hb.2 h
  rw [if_neg (by omega),h1,h0,w1,w0,zhJ m1 m0,if_pos (by decide),if_pos (by decide)]
  have : val B32 a / B32 % B32 * 4294967296 + val B32 a % B32 = val B32 a := by
   generalize val B32 a = v at *
   rw [show B32 = 4294967296 from rfl]
   omega
  rw [this]
  simp [h]
 ·have hb' : ¬ bl (val B32 a) ≤ 64 := fun h' => h (hb.1 h')
  rw [if_pos (by omega)]
  simp [h]
def ziD : (Int × Int × (List Int) × Int) → (Int × Int × (List Int)) → RT (Int × Int × (List Int)) (Int × (List Int))
| (x6,L,p,e),(i,n,r5) =>
 .rq 1 (.ite (decide (n < e))
 (.rq 1 (.req (inB p n) (.rq 13 (let t0 := w64 (x6 + n);
 let t1 := inB r5 t0;
 .req t1 (.rq 11 (.req t1 (.rq 6 (let t2 := zcx (i + (zcx ((zcx ((zcx L) * (zcx (gI p n)))) + (zcx (gI r5 t0)))));
 .again (zee .u64 t2 32,w64 (n + 1),sI r5 t0 (zdO t2))))))))))
 (.done (i,r5)))
def zN_p59802 : zch := ⟨59802,true,[.sl tV,tI,tV,.sl tV,tI,tI,.sl tV,tI],[tU,tI,.sl tV],⟨[.keep [1,5,6,7,8,17,18,19,24,25,26],.gc,.nilRow 5 800005 122 tV,.ren 5 700005,.ren 5 900005,.gc],[1,5,6,7,8,17,18,19,24,25,26],[.lf (qi 0),.lf (qr 900005),.lf (qi 1),.lf (qi 2),.lf (qm 0),.lf (qi 3),.lf (qi 4),.lf (qi 5),.lf (qi 6),.lf (qi 7),.lf (qm 1)],[(900005,true,.arr 122 (qm 2))]⟩,[⟨4,⟨[.keep [1,5,6,8,17,18,19],.gc,.nilRow 5 800005 122 tV,.ren 5 700005,.ren 5 900005,.gc],[1,5,6,8,17,18,19],[.lf (qi 0),.lf (qr 900005),.lf (qi 1),.lf (qm 0),.lf (qi 3),.lf (qi 4),.lf (qi 5)],[(900005,true,.arr 122 (qm 1))]⟩,[tU,.sl tV]⟩],(fun i => ziD (i.2.1,i.2.2.1,i.2.2.2.2.2.2.1,i.2.2.2.2.2.2.2))⟩
def zN_b58 : ((List Int) × (List Int) × Int) → (Int × (List Int)) → RT (Int × (List Int)) (List Int)
| (l,L,i),(s,r5) =>
 .rq 1 (.ite (decide (s < i))
 (.rq 1 (.req (inB L s) (.rq 7 (.call (lo ziD (s,gI L s,l,(l.length : Int)) (0,0,r5)) default fun v0 =>
 .rq 7 (let t0 := w64 (s + (l.length : Int));
 .req (inB v0.2 t0) (.rq 3 (.again (w64 (s + 1),sI v0.2 t0 (zdO v0.1)))))))))
 (.done r5))
def zN_p58 : zch := ⟨58,true,[.sl tV,.sl tV,tI],[tI,.sl tV],⟨[.keep [1,5,17,18,19],.gc,.nilRow 5 800005 122 tV,.ren 5 700005,.ren 5 900005,.gc],[1,5,17,18,19],[.lf (qi 0),.lf (qr 900005),.lf (qi 1),.lf (qi 2),.lf (qm 0)],[(900005,true,.arr 122 (qm 1))]⟩,[⟨2,⟨[.keep [5],.gc,.nilRow 5 800005 122 tV,.ren 5 700005,.ren 5 900005,.gc],[5],[.lf (qr 900005)],[(900005,true,.arr 122 (qm 0))]⟩,[.sl tV]⟩],zN_b58⟩
def zN : ((List Int) × (List Int)) → RT Unit (List Int)
| (a0,l) =>
 .rq 6 (let t0 := w64 ((a0.length : Int) + (l.length : Int));
 .req (mkOK 4 t0) (.rq 4 (.call (lo zN_b58 (l,a0,(a0.length : Int)) (0,zdd t0 0)) default fun v1 =>
 .rq 1 (.req (okL 40 v1) (.rq 1 (.done (zcg B32 (val B32 v1))))))))
def F_zN (x : (List Int) × (List Int)) : Option (List Int) := (zN x).run fun _ => none
def io_zN : Io := ⟨n_zN,[.sl tV,.sl tV],[.lf (qm 0),.lf (qm 1)],[],[[.sl tV],[.sl tV]],[.sl tV],.lf (qr 0),[],[(true,.arr 122 (qm 0))],false⟩
def zN_P : List zch := [zN_p59802,zN_p58]
def zN_T : zcl := tab [e_zar]
theorem zN_To : zck pg zN_T := zci ⟨zgv,trivial⟩
theorem zN_k59802 : (zN_p59802).OK pg (zN_T) (zcB 67 (zN_P)) (zcs f_zN) 67 := ⟨by kernel_rfl,fun i x => by kernel_rfl⟩
theorem zN_k58 : (zN_p58).OK pg (zN_T) (zcB 67 (zN_P)) (zcs f_zN) 67 := ⟨by kernel_rfl,fun i x => by kernel_rfl⟩
theorem zN_go : zcy pg (zN_T) io_zN f_zN (zN_P) [.nilRow 4 800004 122 tV,.ren 4 700004,.ren 4 900004] (zN) := ⟨by kernel_rfl,by kernel_rfl,fun x => by kernel_rfl⟩
theorem ok_zN : io_zN.Okay pg (F_zN) := zcu zcj (zN_To) (zN_go) ⟨zN_k59802,zN_k58,trivial⟩
theorem zeU {xs : List Int} (h : wfd B32 xs = true) (i : Nat) : ∃ d : Nat,xs.getD i 0 = (d : Int) ∧ d < 4294967296 := by
 have := zhE (by decide : 0 < B32) h i
 rw [show ((B32 : Nat) : Int) = 4294967296 from rfl] at this
 exact ⟨(xs.getD i 0).toNat,by omega,by omega⟩
theorem gIn (xs : List Int) (i : Nat) : gI xs (i : Int) = xs.getD i 0 := zfD xs i
theorem sIn (xs : List Int) (i : Nat) (y : Int) : sI xs (i : Int) y = xs.set i y := by simp [sI]
theorem row_l {ys : List Int} (hy : wfd B32 ys = true) {x i : Nat} (hx : x < 4294967296) (hyl : ys.length ≤ 2 ^ 40) (hi : i ≤ 2 ^ 40) : ∀ (r k o : Nat) (out : List Int),k + r = ys.length → i + ys.length ≤ out.length → out.length ≤ 2 ^ 41 → wfd B32 out = true → o < 4294967296 →
  lo ziD ((i : Int),(x : Int),ys,(ys.length : Int)) ((o : Int),(k : Int),out) = some ((rowN B32 x ys i r k out o).2,(rowN B32 x ys i r k out o).1)
 | 0,k,o,out,h,_,_,_,_ => by
  rw [zcr,ziD]
  simp only [RT.run]
  rw [if_neg (by simp; omega)]
  rfl
 | r + 1,k,o,out,h,h1,h2,hw,ho => by
  rw [zcr,ziD]
  obtain ⟨y,e1,hy'⟩ := zeU hy k
  obtain ⟨z,e2,hz⟩ := zeU hw (i + k)
  have hxy : x * y ≤ 4294967295 * 4294967295 := Nat.mul_le_mul (by omega) (by omega)
  have w1 : w64 ((i : Int) + (k : Int)) = ((i + k : Nat) : Int) := by rw [zcm] <;> omega
  have w2 : zcx (x : Int) = (x : Int) := zcD (by omega)
  have w3 : zcx (y : Int) = (y : Int) := zcD (by omega)
  have w4 : zcx (z : Int) = (z : Int) := zcD (by omega)
  have w5 : zcx ((x : Int) * (y : Int)) = ((x * y : Nat) : Int) := by rw [← Int.natCast_mul,zcD]; omega
  have w6 : zcx (((x * y : Nat) : Int) + (z : Int)) = ((x * y + z : Nat) : Int) := by rw [zcD] <;> omega
  have w7 : zcx ((o : Int) + ((x * y + z : Nat) : Int)) = ((o + (x * y + z) : Nat) : Int) := by rw [zcD] <;> omega
  have w8 : w64 ((k : Int) + 1) = ((k + 1 : Nat) : Int) := by rw [zcm] <;> omega
  have w9 : zdO ((o + (x * y + z) : Nat) : Int) = (((o + (x * y + z)) % 4294967296 : Nat) : Int) := by rw [zhX]; omega
  simp only [RT.run,gIn,sIn,w1,w2,w3,w4,w5,w6,w7,w8,w9,e1,e2,shr32]
  rw [if_pos (by simp; omega),if_pos (by rw [zdi]; simp; omega),if_pos (by rw [zdi]; simp; omega),if_pos (by rw [zdi]; simp; omega)]
  have q1 : (o : Int) + ((x : Int) * (y : Int) + (z : Int)) = ((o + (x * y + z) : Nat) : Int) := by simp only [Int.natCast_add,Int.natCast_mul]
  have e : rowN B32 x ys i (r + 1) k out o = rowN B32 x ys i r (k + 1) (out.set (i + k) (((o + (x * y + z)) % 4294967296 : Nat) : Int)) (((o + (x * y + z)) / 4294967296 : Nat) : Int) := by
   rw [rowN,e1,e2,q1]
   rfl
  rw [e]
  exact row_l hy hx hyl hi r (k + 1) _ _ (by omega) (by rw [List.length_set]; omega) (by rw [List.length_set]; omega) (zfe hw ⟨Int.natCast_nonneg _,by rw [show ((B32 : Nat) : Int) = 4294967296 from rfl]; omega⟩) (by omega)
theorem times_l {xs ys : List Int} (hx : wfd B32 xs = true) (hy : wfd B32 ys = true) (hxl : xs.length ≤ 2 ^ 39) (hyl : ys.length ≤ 2 ^ 39) : ∀ (r i : Nat) (out : List Int),i + r = xs.length → out.length = xs.length + ys.length → wfd B32 out = true →
  lo zN_b58 (ys,xs,(xs.length : Int)) ((i : Int),out) = some (mulN B32 xs ys r i out)
 | 0,i,out,h,_,_ => by
  rw [zcr,zN_b58]
  simp only [RT.run]
  rw [if_neg (by simp; omega)]
  rfl
 | r + 1,i,out,h,h1,hw => by
  rw [zcr,zN_b58]
  obtain ⟨x,e1,hx'⟩ := zeU hx i
  have hr := row_l hy (x := x) (i := i) hx' (by omega) (by omega) ys.length 0 0 out (by omega) (by omega) (by omega) hw (by omega)
  have ho := rowN_ok (b := B32) (by decide) (x := (x : Int)) (by rw [show ((B32 : Nat) : Int) = 4294967296 from rfl]; omega) hy (i := i) ys.length 0 out 0 (by omega) (by omega) hw (by decide)
  have w1 : w64 ((i : Int) + (ys.length : Int)) = ((i + ys.length : Nat) : Int) := by rw [zcm] <;> omega
  have w8 : w64 ((i : Int) + 1) = ((i + 1 : Nat) : Int) := by rw [zcm] <;> omega
  simp only [RT.run,gIn,sIn,w1,w8,e1]
  rw [if_pos (by simp; omega),if_pos (by rw [zdi]; simp; omega)]
  rw [show ((0 : Int),(0 : Int),out) = (((0 : Nat) : Int),((0 : Nat) : Int),out) from rfl,hr,Option.bind_some]
  rw [show ((0 : Nat) : Int) = 0 from rfl]
  obtain ⟨t1,t2,t3,_⟩ := ho
  rw [if_pos (by rw [zdi]; simp; omega)]
  have w9 : zdO (rowN B32 x ys i ys.length 0 out 0).2 = (rowN B32 x ys i ys.length 0 out 0).2 := zgh (by rw [show ((B32 : Nat) : Int) = 4294967296 from rfl] at t3; exact t3)
  have e : mulN B32 xs ys (r + 1) i out = mulN B32 xs ys r (i + 1) ((rowN B32 x ys i ys.length 0 out 0).1.set (i + ys.length) (rowN B32 x ys i ys.length 0 out 0).2) := by
   rw [mulN,e1]
  rw [e,w9]
  exact times_l hx hy hxl hyl r (i + 1) _ (by omega) (by rw [List.length_set,t2]; omega) (zfe t1 t3)
def e_zN : zcq := io_zN.sp (fun (a,b) => okL 38 a && okL 38 b) (fun (a,b) => zcg B32 (val B32 a * val B32 b))
theorem sp_zN (h : ∀ (a : List Int) (b : List Int),WfT [.sl tV,.sl tV] (a,b) → (okL 38 a && okL 38 b) = true → (zN (a,b)).run (fun _ => none) = some (zcg B32 (val B32 a * val B32 b))) : e_zN.ok pg := zcw ok_zN fun (a,b) hw hc => h a b hw hc
theorem e_zN_ok : e_zN.ok pg := sp_zN fun a b hw hc => by
 have ha : wfd B32 a = true := zdq hw.1
 have hb : wfd B32 b = true := zdq hw.2
 simp only [Bool.and_eq_true,okL38] at hc
 rw [zN]
 have hw : w64 ((a.length : Int) + (b.length : Int)) = ((a.length + b.length : Nat) : Int) := by rw [zcm] <;> omega
 have h := times_l ha hb (by omega) (by omega) a.length 0 (List.replicate (a.length + b.length) 0) (by omega) (by simp) (zeW (by decide))
 obtain ⟨m1,m2,m3⟩ := mulN_val (b := B32) (by decide) ha hb
 simp only [RT.run,hw,zdd,Int.toNat_natCast]
 rw [if_pos (by rw [zdF]; omega),show ((0 : Int),List.replicate (a.length + b.length) (0 : Int)) = (((0 : Nat) : Int),List.replicate (a.length + b.length) 0) from rfl,h,Option.bind_some]
 rw [if_pos (by rw [okL40,m2]; omega),m3]
def zaz_b58 : ((List (List Int)) × Int) → (Int × (List Int)) → RT (Int × (List Int)) (List Int)
| (x7,x8),(x9,r3) =>
 .rq 1 (.ite (decide (x9 < x8))
 (.req (inB x7 x9) (.rq 4 (.req (okL 38 r3 && okL 38 (gI x7 x9)) (.rq 3 (.again (w64 (x9 + 1),zcg B32 (val B32 r3 * val B32 (gI x7 x9))))))))
 (.done r3))
def zaz_p58 : zch := ⟨58,true,[.sl (.sl tV),tI],[tI,.sl tV],⟨[.keep [3,7,8,9],.gc,.nilRow 3 800003 122 tV,.ren 3 700003,.ren 3 900003,.gc],[3,7,8,9],[.lf (qr 900003),.lf (qi 0),.lf (qi 1),.lf (qm 0)],[(900003,true,.arr 122 (qm 1))]⟩,[⟨2,⟨[.keep [3],.gc,.nilRow 3 800003 122 tV,.ren 3 700003,.ren 3 900003,.gc],[3],[.lf (qr 900003)],[(900003,true,.arr 122 (qm 0))]⟩,[.sl tV]⟩],zaz_b58⟩
def zaz : (List (List Int)) → RT Unit (List Int)
| l =>
 .rq 6 (.call (lo zaz_b58 (l,(l.length : Int)) (0,zcg B32 (1 : Int).toNat)) default fun v0 =>
 .rq 2 (.done v0))
def F_zaz (x : (List (List Int))) : Option (List Int) := (zaz x).run fun _ => none
def io_zaz : Io := ⟨n_zaz,[.sl (.sl tV)],[.lf (qm 0)],[],[[.sl (.sl tV)]],[.sl tV],.lf (qr 0),[],[(true,.arr 122 (qm 0))],false⟩
def zaz_P : List zch := [zaz_p58]
def zaz_T : zcl := tab [e_zN,e_zbW]
theorem zaz_To : zck pg zaz_T := zci ⟨e_zN_ok,zit,trivial⟩
theorem zaz_k58 : (zaz_p58).OK pg (zaz_T) (zcB 18 (zaz_P)) (zcs f_zaz) 18 := ⟨by kernel_rfl,fun i x => by kernel_rfl⟩
theorem zaz_go : zcy pg (zaz_T) io_zaz f_zaz (zaz_P) [.nilRow 2 800002 122 tV,.ren 2 700002,.ren 2 900002] (zaz) := ⟨by kernel_rfl,by kernel_rfl,fun x => by kernel_rfl⟩
theorem ok_zaz : io_zaz.Okay pg (F_zaz) := zcu zcj (zaz_To) (zaz_go) ⟨zaz_k58,trivial⟩
def zeB (l : List (List Int)) : Nat := (l.map (val B32)).prod
def lenS (l : List (List Int)) : Nat := (l.map List.length).sum
theorem Mul_l (l : List (List Int)) (hw : ∀ x ∈ l,wfd B32 x = true) (hl : l.length ≤ 1048576) : ∀ (r i v : Nat) (K : Nat),i + r = l.length → v < B32 ^ K → K + lenS (l.drop i) ≤ 274877906944 →
  lo zaz_b58 (l,(l.length : Int)) ((i : Int),zcg B32 v) = some (zcg B32 (v * zeB (l.drop i)))
 | 0,i,v,K,h,_,_ => by
  rw [zcr,zaz_b58]
  simp only [RT.run]
  rw [if_neg (by simp; omega),List.drop_of_length_le (by omega)]
  simp [zeB]
 | r + 1,i,v,K,h,hv,hK => by
  rw [zcr,zaz_b58]
  have hi : i < l.length := by omega
  have w5 : w64 ((i : Int) + 1) = ((i + 1 : Nat) : Int) := by rw [zcm] <;> omega
  have hx := List.getElem_mem hi
  simp only [RT.run,w5,zcL hi]
  have hd := zhj hv
  rw [List.drop_eq_getElem_cons hi,lenS,List.map_cons,List.sum_cons] at hK
  rw [if_pos (by simp; omega),if_pos (by rw [zdi]; simp; omega),if_pos (by rw [Bool.and_eq_true,okL38,okL38]; omega),zcz (by decide)]
  have hv' : v * val B32 l[i] < B32 ^ (K + l[i].length) := by
   rw [Nat.pow_add]
   exact Nat.mul_lt_mul'' hv (zcQ (by decide) (hw _ hx))
  rw [Mul_l l hw hl r (i + 1) _ (K + l[i].length) (by omega) hv' (by rw [lenS]; omega)]
  rw [List.drop_eq_getElem_cons hi,zeB,zeB,List.map_cons,List.prod_cons,Nat.mul_assoc]
def okMs (l : List (List Int)) : Bool := okL 20 l && decide (lenS l ≤ 137438953472)
theorem zeX {l : List (List Int)} : okMs l = true ↔ l.length ≤ 1048576 ∧ lenS l ≤ 137438953472 := by simp only [okMs,Bool.and_eq_true,okL20,decide_eq_true_eq]
def e_zaz : zcq := io_zaz.sp (fun l => okMs l) (fun l => zcg B32 (zeB l))
theorem sp_zaz (h : ∀ (l : List (List Int)),WfT [.sl (.sl tV)] l → (okMs l) = true → (zaz l).run (fun _ => none) = some (zcg B32 (zeB l))) : e_zaz.ok pg := zcw ok_zaz fun l hw hc => h l hw hc
theorem zhY : e_zaz.ok pg := sp_zaz fun l hw hc => by
 have hw' : Wf (.sl (.sl tV)) l := hw
 rw [zeX] at hc
 rw [zaz]
 have h := Mul_l l (fun x hx => zdq (hw'.2 x hx)) hc.1 l.length 0 1 1 (by omega) (by decide) (by simpa using by omega)
 simp only [RT.run]
 rw [show ((0 : Int),zcg B32 ((1 : Int)).toNat) = (((0 : Nat) : Int),zcg B32 1) from rfl,h]
 simp
end
end Go.Proofs.YtlfdidaeachpoaaGreat
namespace Go.Proofs.YtlfdidaeachpoaaGreat
open Go Go.RowKit
theorem Win.top {p v1 v2 vr t u2 ur V W : Nat} (H : Win p v1 v2 vr t u2 ur V W) : t < B32 * v1 + B32 := by
 have k1 : t * (B32 * p) ≤ W := by
  rw [H.hW,Nat.add_mul,Nat.mul_assoc t]
  omega
 have k2 : V < (v1 + 1) * (B32 * p) := by
  rw [H.hV,Nat.add_mul,Nat.add_mul,Nat.mul_assoc,Nat.one_mul]
  have : (v2 + 1) * p ≤ B32 * p := Nat.mul_le_mul_right _ H.h2
  rw [Nat.add_mul,Nat.one_mul] at this
  have := H.hvr
  omega
 have k3 : t * (B32 * p) < B32 * ((v1 + 1) * (B32 * p)) := Nat.lt_of_le_of_lt k1 (Nat.lt_trans H.lt ((Nat.mul_lt_mul_left (by decide : 0 < B32)).2 k2))
 rw [← Nat.mul_assoc B32] at k3
 have k4 := Nat.lt_of_mul_lt_mul_right k3
 rw [Nat.mul_add,Nat.mul_one] at k4
 exact k4
theorem awN_drop (q : Nat) (vs : List Int) (j : Nat) : ∀ (r i o l : Nat) (us : List Int),(awN q vs j r i o l us).1.drop (j + i + r) = us.drop (j + i + r)
 | 0,_,_,_,_ => rfl
 | r + 1,i,o,l,us => by
  rw [awN]
  have := awN_drop q vs j r (i + 1) ((o + q * (dig vs i).toNat) / B32) (subD (us.getD (j + i) 0).toNat ((o + q * (dig vs i).toNat) % B32) l).2 (us.set (j + i) ((subD (us.getD (j + i) 0).toNat ((o + q * (dig vs i).toNat) % B32) l).1 : Int))
  rw [show j + (i + 1) + r = j + i + (r + 1) by omega] at this
  rw [this,List.drop_set_of_lt (by omega)]
theorem bkN_drop (vs : List Int) (j : Nat) : ∀ (r i o : Nat) (us : List Int),(bkN vs j r i o us).1.drop (j + i + r) = us.drop (j + i + r)
 | 0,_,_,_ => rfl
 | r + 1,i,o,us => by
  rw [bkN]
  have := bkN_drop vs j r (i + 1) ((o + ((us.getD (j + i) 0).toNat + (dig vs i).toNat)) / B32) (us.set (j + i) (((o + ((us.getD (j + i) 0).toNat + (dig vs i).toNat)) % B32 : Nat) : Int))
  rw [show j + (i + 1) + r = j + i + (r + 1) by omega] at this
  rw [this,List.drop_set_of_lt (by omega)]
theorem drop_zero {us : List Int} {k : Nat} (hk : k ≤ us.length) (h : val B32 us < B32 ^ k) : val B32 (us.drop k) = 0 := by
 rw [zhh B32 us k hk] at h
 apply Nat.eq_zero_of_not_pos
 intro hp
 have : B32 ^ k * 1 ≤ B32 ^ k * val B32 (us.drop k) := Nat.mul_le_mul_left _ hp
 omega
theorem val_low {us : List Int} (hw : wfd B32 us = true) {k : Nat} (hk : k ≤ us.length) (h : val B32 (us.drop k) = 0) : val B32 us < B32 ^ k := by
 rw [zhh B32 us k hk,h,Nat.mul_zero,Nat.add_zero]
 have := zcQ (by decide : 0 < B32) (wfd_take (n := k) hw)
 rwa [List.length_take,Nat.min_eq_left hk] at this
theorem div_round {us vs : List Int} {j g Q : Nat} (hu : wfd B32 us = true) (hv : wfd B32 vs = true) (hj : j + (vs.length + 1) ≤ us.length) (hV : 0 < val B32 vs)
  (hU : val B32 us < B32 ^ j * (B32 * val B32 vs)) (hQ : Q * val B32 vs ≤ val B32 us / B32 ^ j) (hQ' : val B32 us / B32 ^ j < (Q + 1) * val B32 vs) (hg : Q ≤ g) (hg' : g ≤ Q + 1) :
  ((awN g vs j (vs.length + 1) 0 0 0 us).2 = 0 ∧ g = Q ∧ wfd B32 (awN g vs j (vs.length + 1) 0 0 0 us).1 = true ∧ (awN g vs j (vs.length + 1) 0 0 0 us).1.length = us.length ∧ val B32 (awN g vs j (vs.length + 1) 0 0 0 us).1 + B32 ^ j * (Q * val B32 vs) = val B32 us) ∨
  ((awN g vs j (vs.length + 1) 0 0 0 us).2 = 1 ∧ g = Q + 1 ∧ wfd B32 (awN g vs j (vs.length + 1) 0 0 0 us).1 = true ∧ (awN g vs j (vs.length + 1) 0 0 0 us).1.length = us.length ∧
   wfd B32 (bkN vs j (vs.length + 1) 0 0 (awN g vs j (vs.length + 1) 0 0 0 us).1).1 = true ∧ (bkN vs j (vs.length + 1) 0 0 (awN g vs j (vs.length + 1) 0 0 0 us).1).1.length = us.length ∧
   val B32 (bkN vs j (vs.length + 1) 0 0 (awN g vs j (vs.length + 1) 0 0 0 us).1).1 + B32 ^ j * (Q * val B32 vs) = val B32 us) := by
 have hVlt := zcQ (by decide : 0 < B32) hv
 have pj : 0 < B32 ^ j := Nat.pow_pos (by decide)
 have hUj : val B32 us / B32 ^ j < B32 * val B32 vs := by
  rw [Nat.div_lt_iff_lt_mul pj,Nat.mul_comm]
  exact hU
 have hQB : Q < B32 := by
  apply Nat.lt_of_mul_lt_mul_right (a := val B32 vs)
  exact Nat.lt_of_le_of_lt hQ hUj
 have hgV : g * val B32 vs < B32 ^ (vs.length + 1) := by
  have h1 : g * val B32 vs ≤ B32 * val B32 vs := Nat.mul_le_mul_right _ (by omega)
  have h2 : B32 * val B32 vs < B32 * B32 ^ vs.length := (Nat.mul_lt_mul_left (by decide)).2 hVlt
  rw [Nat.pow_succ,Nat.mul_comm (B32 ^ vs.length)]
  omega
 obtain ⟨a1,a2,a3,a4⟩ := aw_val (q := g) hv hu hj hgV
 have ad := awN_drop g vs j (vs.length + 1) 0 0 0 us
 rw [Nat.add_zero] at ad
 have hUP : val B32 us < B32 ^ (j + (vs.length + 1)) := by
  refine Nat.lt_of_lt_of_le hU ?_
  rw [Nat.pow_add,Nat.pow_succ,Nat.mul_comm (B32 ^ vs.length)]
  exact Nat.mul_le_mul_left _ (Nat.mul_le_mul_left _ (Nat.le_of_lt hVlt))
 have hd0 := drop_zero hj hUP
 have aLow : val B32 (awN g vs j (vs.length + 1) 0 0 0 us).1 < B32 ^ (j + (vs.length + 1)) := val_low a1 (by rw [a2]; exact hj) (by rw [ad]; exact hd0)
 generalize hA : awN g vs j (vs.length + 1) 0 0 0 us = A at *
 obtain ⟨us1,l⟩ := A
 simp only at *
 have hmod : B32 ^ j * (val B32 us / B32 ^ j) ≤ val B32 us := Nat.mul_div_le _ _
 by_cases hgQ : g = Q
 ·left
  subst hgQ
  have h1 : B32 ^ j * (g * val B32 vs) ≤ val B32 us := Nat.le_trans (Nat.mul_le_mul_left _ hQ) hmod
  have hl : l = 0 := by
   apply Nat.eq_zero_of_not_pos
   intro hp
   have : B32 ^ (j + (vs.length + 1)) * 1 ≤ B32 ^ (j + (vs.length + 1)) * l := Nat.mul_le_mul_left _ hp
   omega
  subst hl
  rw [Nat.mul_zero,Nat.add_zero] at a4
  exact ⟨by first | rfl | trivial,by first | rfl | trivial,a1,a2,a4⟩
 ·right
  have hg1 : g = Q + 1 := by omega
  subst hg1
  have h1 : val B32 us < B32 ^ j * ((Q + 1) * val B32 vs) := by
   have := Nat.lt_mul_div_succ (val B32 us) pj
   exact Nat.lt_of_lt_of_le this (Nat.mul_le_mul_left _ hQ')
  have hl : l = 1 := by
   have : l ≠ 0 := by
    rintro rfl
    rw [Nat.mul_zero,Nat.add_zero] at a4
    omega
   omega
  subst hl
  rw [Nat.mul_one] at a4
  obtain ⟨b1,b2,b3,b4⟩ := bk_val hv (j := j) (us := us1) a1 (by rw [a2]; exact hj)
  have bd := bkN_drop vs j (vs.length + 1) 0 0 us1
  rw [Nat.add_zero] at bd
  have bLow : val B32 (bkN vs j (vs.length + 1) 0 0 us1).1 < B32 ^ (j + (vs.length + 1)) := val_low b1 (by rw [b2,a2]; exact hj) (by rw [bd,ad]; exact hd0)
  generalize hBk : bkN vs j (vs.length + 1) 0 0 us1 = Bk at *
  obtain ⟨us2,o⟩ := Bk
  simp only at *
  have e1 : B32 ^ j * ((Q + 1) * val B32 vs) = B32 ^ j * (Q * val B32 vs) + B32 ^ j * val B32 vs := by rw [Nat.add_mul,Nat.one_mul,Nat.mul_add]
  have h2 : B32 ^ j * (Q * val B32 vs) ≤ val B32 us := Nat.le_trans (Nat.mul_le_mul_left _ hQ) hmod
  have ho : o = 1 := by
   have : o ≠ 0 := by
    rintro rfl
    rw [Nat.mul_zero,Nat.add_zero] at b4
    omega
   omega
  subst ho
  rw [Nat.mul_one] at b4
  refine ⟨by first | rfl | trivial,by first | rfl | trivial,a1,a2,b1,b2.trans a2,?_⟩
  omega
theorem zjk {xs : List Int} (h : wfd B32 xs = true) : (zcg B32 (val B32 xs)).length ≤ xs.length := by
 rw [← cut_eq (by decide) h]
 exact List.length_take_le' ..
theorem digs_len' {n m : Nat} (h1 : B32 ^ m ≤ n) (h2 : n < B32 ^ (m + 1)) : (zcg B32 n).length = m + 1 := by
 have hn : 0 < n := Nat.lt_of_lt_of_le (Nat.pow_pos (by decide)) h1
 obtain ⟨k,h3,h4,h5⟩ := zeP (b := B32) (by decide) hn
 rw [h3]
 have a := (Nat.pow_lt_pow_iff_right (by decide : 1 < B32)).1 (Nat.lt_of_le_of_lt h1 h5)
 have b := (Nat.pow_lt_pow_iff_right (by decide : 1 < B32)).1 (Nat.lt_of_le_of_lt h4 h2)
 omega
theorem norm_facts {vb : Nat} (h2 : 2 ≤ (zcg B32 vb).length) : ∃ s mb : Nat,(zcg B32 vb).length = mb + 2 ∧ (32 : Int) - (bl ((zcg B32 vb).getD (mb + 1) 0).toNat : Int) = (s : Int) ∧ s < 32 ∧ 0 ≤ (zcg B32 vb).getD (mb + 1) 0 ∧ (zcg B32 vb).getD (mb + 1) 0 < 4294967296 ∧
  B32 ^ (mb + 1) ≤ vb ∧ vb * 2 ^ s < B32 ^ (mb + 2) ∧ (zcg B32 (vb * 2 ^ s)).length = mb + 2 ∧ B32 ≤ 2 * ((zcg B32 (vb * 2 ^ s)).getD (mb + 1) 0).toNat := by
 have hv : 0 < vb := by
  apply Nat.pos_of_ne_zero
  rintro rfl
  rw [zdC] at h2
  simp at h2
 obtain ⟨m,h3,h4,h5⟩ := zeP (b := B32) (by decide) hv
 obtain ⟨mb,rfl⟩ : ∃ mb,m = mb + 1 := ⟨m - 1,by omega⟩
 have pm : 0 < B32 ^ (mb + 1) := Nat.pow_pos (by decide)
 have ht : vb / B32 ^ (mb + 1) < B32 := by
  rw [Nat.div_lt_iff_lt_mul pm,Nat.mul_comm,← Nat.pow_succ]
  exact h5
 have hg : (zcg B32 vb).getD (mb + 1) 0 = ((vb / B32 ^ (mb + 1) : Nat) : Int) := by rw [digs_get (by decide),Nat.mod_eq_of_lt ht]
 have ht0 : 0 < vb / B32 ^ (mb + 1) := Nat.div_pos h4 pm
 have hdm := Nat.div_add_mod vb (B32 ^ (mb + 1))
 have hml := Nat.mod_lt vb pm
 generalize htp : vb / B32 ^ (mb + 1) = t at *
 have hbl : bl t ≤ 32 := bl_le.2 ht
 have hbl0 : 0 < bl t := by
  apply Nat.pos_of_ne_zero
  intro h
  have := bl_le.1 (Nat.le_of_eq h)
  simp at this
  omega
 have b1 : t < 2 ^ bl t := bl_le.1 (Nat.le_refl _)
 have b2 : 2 ^ (bl t - 1) ≤ t := by
  apply Nat.le_of_not_lt
  intro h
  have := bl_le.2 h
  omega
 have p1 : 2 ^ bl t * 2 ^ (32 - bl t) = B32 := by rw [← Nat.pow_add,show bl t + (32 - bl t) = 32 by omega]
 have p2 : 2 ^ (bl t - 1) * 2 ^ (32 - bl t) * 2 = B32 := by rw [← Nat.pow_add,show bl t - 1 + (32 - bl t) = 31 by omega]
 have p3 : 0 < 2 ^ (32 - bl t) := Nat.pow_pos (by decide)
 have q1 : (t + 1) * 2 ^ (32 - bl t) ≤ B32 := by rw [← p1]; exact Nat.mul_le_mul_right _ b1
 have q2 : B32 ≤ 2 * (t * 2 ^ (32 - bl t)) := by
  have := Nat.mul_le_mul_right (2 ^ (32 - bl t)) b2
  omega
 have hlo : B32 ^ (mb + 1) * (t * 2 ^ (32 - bl t)) ≤ vb * 2 ^ (32 - bl t) := by
  rw [← Nat.mul_assoc]
  exact Nat.mul_le_mul_right _ (Nat.le.intro hdm)
 have hhi : vb * 2 ^ (32 - bl t) < B32 ^ (mb + 2) := by
  have h6 : vb < B32 ^ (mb + 1) * (t + 1) := by rw [Nat.mul_add,Nat.mul_one]; omega
  have h7 := (Nat.mul_lt_mul_right p3).2 h6
  rw [Nat.mul_assoc] at h7
  refine Nat.lt_of_lt_of_le h7 ?_
  rw [Nat.pow_succ B32 (mb + 1)]
  exact Nat.mul_le_mul_left _ q1
 have hlen : (zcg B32 (vb * 2 ^ (32 - bl t))).length = mb + 2 := by
  refine digs_len' ?_ hhi
  refine Nat.le_trans ?_ hlo
  exact Nat.le_mul_of_pos_right _ (Nat.mul_pos ht0 p3)
 refine ⟨32 - bl t,mb,h3,?_,by omega,?_,?_,h4,hhi,hlen,?_⟩
 ·rw [hg,Int.toNat_natCast]; omega
 ·rw [hg]; exact Int.natCast_nonneg _
 ·rw [hg]; have hB : B32 = 4294967296 := rfl; omega
 ·have h8 : vb * 2 ^ (32 - bl t) / B32 ^ (mb + 1) < B32 := by
   rw [Nat.div_lt_iff_lt_mul pm,Nat.mul_comm B32,← Nat.pow_succ]
   exact hhi
  rw [digs_get (by decide),Nat.mod_eq_of_lt h8,Int.toNat_natCast]
  have h9 : t * 2 ^ (32 - bl t) ≤ vb * 2 ^ (32 - bl t) / B32 ^ (mb + 1) := by
   rw [Nat.le_div_iff_mul_le pm,Nat.mul_comm]
   exact hlo
  omega
end Go.Proofs.YtlfdidaeachpoaaGreat
namespace Go.Proofs.YtlfdidaeachpoaaGreat
open Go Go.RowKit
set_option maxRecDepth 100000
noncomputable section
def zav_b122 : ((List Int) × Int) → (Int × Int × (List Int)) → RT (Int × Int × (List Int)) (Int × (List Int))
| (a,d),(rest,i,r6) =>
 .rq 2 (.ite (decide (0 ≤ i))
 (.rq 4 (.req (inB a i) (.rq 9 (let t0 := (zcx d) != 0;
 .req t0 (.rq 1 (.req (inB r6 i) (.rq 4 (.req t0 (.rq 4 (let t1 := zdy .or .u64 (shlI .u64 rest 32) (zcx (gI a i));
 .again (Int.tmod t1 (zcx d),w64 (i - 1),sI r6 i (zdO (zcx (Int.tdiv t1 (zcx d)))))))))))))))
 (.done (rest,r6)))
def zav_p122 : zch := ⟨122,true,[.sl tV,tV],[tU,tI,.sl tV],⟨[.keep [0,1,6,7,8],.gc,.nilRow 6 800006 122 tV,.ren 6 700006,.ren 6 900006,.gc],[0,1,6,7,8],[.lf (qi 0),.lf (qi 1),.lf (qr 900006),.lf (qm 0),.lf (qm 1)],[(900006,true,.arr 122 (qm 2))]⟩,[⟨2,⟨[.keep [6,7],.gc,.nilRow 6 800006 122 tV,.ren 6 700006,.ren 6 900006,.gc],[6,7],[.lf (qr 900006),.lf (qm 0)],[(900006,true,.arr 122 (qm 1))]⟩,[tU,.sl tV]⟩],zav_b122⟩
def zav : ((List Int) × Int) → RT Unit (Int × (List Int))
| (a,d) =>
 .rq 4 (.req (mkOK 4 (a.length : Int)) (.rq 6 (.call (lo zav_b122 (a,d) (0,w64 ((a.length : Int) - 1),zdd (a.length : Int) 0)) default fun v0 =>
 .rq 1 (.req (okL 40 v0.2) (.rq 4 (.done (zdO v0.1,zcg B32 (val B32 v0.2))))))))
def F_zav (x : (List Int) × Int) : Option (Int × (List Int)) := (zav x).run fun _ => none
def io_zav : Io := ⟨n_zav,[.sl tV,tV],[.lf (qm 0),.lf (qm 1)],[],[[.sl tV],[tV]],[tV,.sl tV],.tup [(false,[qr 0]),(false,[qm 0])],[],[(true,.arr 122 (qm 1))],false⟩
def zav_P : List zch := [zav_p122]
def zav_T : zcl := tab [e_zar]
theorem zav_To : zck pg zav_T := zci ⟨zgv,trivial⟩
theorem zav_k122 : (zav_p122).OK pg (zav_T) (zcB 43 (zav_P)) (zcs f_zav) 43 := ⟨by kernel_rfl,fun i x => by kernel_rfl⟩
theorem zav_go : zcy pg (zav_T) io_zav f_zav (zav_P) [.nilRow 4 800004 122 tV,.ren 4 700004,.ren 4 900004] (zav) := ⟨by kernel_rfl,by kernel_rfl,fun x => by kernel_rfl⟩
theorem ok_zav : io_zav.Okay pg (F_zav) := zcu zcj (zav_To) (zav_go) ⟨zav_k122,trivial⟩
theorem tdivN (x y : Nat) : Int.tdiv (x : Int) (y : Int) = ((x / y : Nat) : Int) := by rw [Int.tdiv_eq_ediv_of_nonneg (Int.natCast_nonneg _)]; exact (Int.natCast_ediv _ _).symm
theorem tmodN (x y : Nat) : Int.tmod (x : Int) (y : Int) = ((x % y : Nat) : Int) := by rw [Int.tmod_eq_emod_of_nonneg (Int.natCast_nonneg _)]; exact (Int.natCast_emod _ _).symm
theorem short_l {xs : List Int} (hx : wfd B32 xs = true) (hxl : xs.length ≤ 2 ^ 40) {d : Nat} (hd : 0 < d) (hd' : d < 4294967296) : ∀ (k r : Nat) (out : List Int),k ≤ xs.length → out.length = xs.length → r < d →
  lo zav_b122 (xs,(d : Int)) ((r : Int),(k : Int) - 1,out) = some (((zeg B32 d xs k r out).2 : Int),(zeg B32 d xs k r out).1)
 | 0,r,out,_,_,_ => by
  rw [zcr,zav_b122]
  simp only [RT.run]
  rw [if_neg (by simp)]
  rfl
 | k + 1,r,out,hk,hl,hr => by
  rw [zcr,zav_b122]
  obtain ⟨x,e1,hx'⟩ := zeU hx k
  have ix : ((k + 1 : Nat) : Int) - 1 = (k : Int) := by omega
  have w1 : w64 ((k : Int) - 1) = (k : Int) - 1 := by rw [zcm]; omega
  have w2 : zcx (d : Int) = (d : Int) := zcD (by omega)
  have w3 : zcx (x : Int) = (x : Int) := zcD (by omega)
  have w4 := zhJ (x := r) (y := x) (by omega) hx'
  have hq : (r * 4294967296 + x) / d < 4294967296 := by
   rw [Nat.div_lt_iff_lt_mul hd]
   have : (r + 1) * 4294967296 ≤ d * 4294967296 := Nat.mul_le_mul_right _ hr
   omega
  have w5 : zcx (((r * 4294967296 + x) / d : Nat) : Int) = (((r * 4294967296 + x) / d : Nat) : Int) := zcD ⟨Int.natCast_nonneg _,Int.lt_of_lt_of_le (Int.ofNat_lt.2 hq) (by decide)⟩
  have w6 : zdO (((r * 4294967296 + x) / d : Nat) : Int) = (((r * 4294967296 + x) / d : Nat) : Int) := zgh ⟨Int.natCast_nonneg _,Int.ofNat_lt.2 hq⟩
  have hne : ((d : Int) != 0) = true := by simp; omega
  simp only [RT.run,ix,gIn,sIn,w1,w2,w3,e1,w4,tdivN,tmodN,w5,w6,hne,if_true]
  rw [if_pos (by simp),if_pos (by rw [zdi]; simp; omega),if_pos (by rw [zdi]; simp; omega)]
  have e : zeg B32 d xs (k + 1) r out = zeg B32 d xs k ((r * 4294967296 + x) % d) (out.set k (((r * 4294967296 + x) / d : Nat) : Int)) := by
   rw [zeg,e1,Int.toNat_natCast]
  rw [e]
  exact short_l hx hxl hd hd' k _ _ (by omega) (by rw [List.length_set,hl]) (Nat.mod_lt _ hd)
def e_zav : zcq := io_zav.sp (fun (a,d) => okL 39 a && decide (0 < d)) (fun (a,d) => (((val B32 a % d.toNat : Nat) : Int),zcg B32 (val B32 a / d.toNat)))
theorem sp_zav (h : ∀ (a : List Int) (d : Int),WfT [.sl tV,tV] (a,d) → (okL 39 a && decide (0 < d)) = true → (zav (a,d)).run (fun _ => none) = some (((val B32 a % d.toNat : Nat) : Int),zcg B32 (val B32 a / d.toNat))) : e_zav.ok pg := zcw ok_zav fun (a,d) hw hc => h a d hw hc
theorem e_zav_ok : e_zav.ok pg := sp_zav fun a d hw hc => by
 have ha : wfd B32 a = true := zdq hw.1
 have hd2 : 0 ≤ d ∧ d < 4294967296 := hw.2
 simp only [Bool.and_eq_true,okL39,decide_eq_true_eq] at hc
 obtain ⟨n,rfl⟩ := Int.eq_ofNat_of_zero_le hd2.1
 rw [zav,Int.toNat_natCast]
 have hw1 : w64 ((a.length : Int) - 1) = (a.length : Int) - 1 := by rw [zcm]; omega
 have h := short_l ha (by omega) (d := n) (by omega) (by omega) a.length 0 (List.replicate a.length 0) (Nat.le_refl _) (by simp) (by omega)
 obtain ⟨s1,s2,s3,s4⟩ := short_val (b := B32) (d := n) (by decide) (by omega) ha
 simp only [RT.run,hw1,zdd,Int.toNat_natCast]
 rw [if_pos (by rw [zdF]; omega),show ((0 : Int),(a.length : Int) - 1,List.replicate a.length (0 : Int)) = (((0 : Nat) : Int),(a.length : Int) - 1,List.replicate a.length 0) from rfl,h,Option.bind_some]
 have hm : val B32 a % n < n := Nat.mod_lt _ (by omega)
 rw [if_pos (by rw [okL40,s2]; omega),s3,s4,zgh (by omega)]
def zV_b122 : ((List Int) × Int × Int) → (Int × Int × (List Int)) → RT (Int × Int × (List Int)) (List Int)
| (a,n,x13),(over,x14,r5) =>
 .rq 1 (.ite (decide (x14 < x13))
 (.rq 5 (.req (decide (0 ≤ x14)) (.rq 2 (.req (decide (0 ≤ n)) (.rq 6 (.req (inB r5 x14) (.rq 6 (let t0 := zdy .or .u64 over (shlI .u64 (zcx (dig a x14)) n);
 .again (zee .u64 t0 32,w64 (x14 + 1),sI r5 x14 (zdO t0))))))))))
 (.done r5))
def zV_p122 : zch := ⟨122,true,[.sl tV,tI,tI],[tU,tI,.sl tV],⟨[.keep [0,1,5,6,13,14],.gc,.nilRow 5 800005 122 tV,.ren 5 700005,.ren 5 900005,.gc],[0,1,5,6,13,14],[.lf (qi 0),.lf (qi 1),.lf (qr 900005),.lf (qm 0),.lf (qi 2),.lf (qm 1)],[(900005,true,.arr 122 (qm 2))]⟩,[⟨2,⟨[.keep [5],.gc,.nilRow 5 800005 122 tV,.ren 5 700005,.ren 5 900005,.gc],[5],[.lf (qr 900005)],[(900005,true,.arr 122 (qm 0))]⟩,[.sl tV]⟩],zV_b122⟩
def zV : ((List Int) × Int) → RT Unit (List Int)
| (a,n) =>
 .rq 4 (let t0 := w64 ((a.length : Int) + 1);
 .req (mkOK 4 t0) (.rq 5 (let t1 := zdd t0 0;
 .call (lo zV_b122 (a,n,(t1.length : Int)) (0,0,t1)) default fun v0 =>
 .rq 2 (.done v0))))
def F_zV (x : (List Int) × Int) : Option (List Int) := (zV x).run fun _ => none
def io_zV : Io := ⟨n_zV,[.sl tV,tI],[.lf (qm 0),.lf (qm 1)],[],[[.sl tV],[tI]],[.sl tV],.lf (qr 0),[],[(true,.arr 122 (qm 0))],false⟩
def zV_P : List zch := [zV_p122]
def zV_T : zcl := tab [e_zbM]
theorem zV_To : zck pg zV_T := zci ⟨zht,trivial⟩
theorem zV_k122 : (zV_p122).OK pg (zV_T) (zcB 34 (zV_P)) (zcs f_zV) 34 := ⟨by kernel_rfl,fun i x => by kernel_rfl⟩
theorem zV_go : zcy pg (zV_T) io_zV f_zV (zV_P) [.nilRow 4 800004 122 tV,.ren 4 700004,.ren 4 900004] (zV) := ⟨by kernel_rfl,by kernel_rfl,fun x => by kernel_rfl⟩
theorem ok_zV : io_zV.Okay pg (F_zV) := zcu zcj (zV_To) (zV_go) ⟨zV_k122,trivial⟩
theorem shifted_l {xs : List Int} (hx : wfd B32 xs = true) {n : Nat} (hn : n ≤ 31) (m : Nat) (hm : m ≤ 2 ^ 40) : ∀ (r i o : Nat) (out : List Int),i + r = m → out.length = m → o < 2 ^ n →
  lo zV_b122 (xs,(n : Int),(m : Int)) ((o : Int),(i : Int),out) = some (sftN B32 (2 ^ n) xs r i o out)
 | 0,i,o,out,h,_,_ => by
  rw [zcr,zV_b122]
  simp only [RT.run]
  rw [if_neg (by simp; omega)]
  rfl
 | r + 1,i,o,out,h,hl,ho => by
  rw [zcr,zV_b122]
  obtain ⟨x,e1,hx'⟩ := zix hx i
  have hp : 2 ^ n ≤ 2 ^ 31 := Nat.pow_le_pow_right (by decide) hn
  rw [show (2 : Nat) ^ 31 = 2147483648 from rfl] at hp
  have hp0 : 0 < 2 ^ n := Nat.pow_pos (by decide)
  have hxp : x * 2 ^ n ≤ 4294967295 * 2147483648 := Nat.mul_le_mul (by omega) hp
  have w1 : w64 ((i : Int) + 1) = ((i + 1 : Nat) : Int) := by rw [zcm] <;> omega
  have w2 : zcx (x : Int) = (x : Int) := zcD (by omega)
  have w3 := shlN (x := x) (j := n) (by omega) (by omega)
  have w4 : zdy .or .u64 (o : Int) ((x * 2 ^ n : Nat) : Int) = ((o + x * 2 ^ n : Nat) : Int) := by
   rw [ibit_or (by omega) (by omega),Nat.or_comm]
   rw [Nat.mul_comm x,← Nat.two_pow_add_eq_or_of_lt ho,Nat.add_comm]
  have w5 : zdO ((o + x * 2 ^ n : Nat) : Int) = (((o + x * 2 ^ n) % 4294967296 : Nat) : Int) := by rw [zhX]; omega
  have hd0 : decide (0 ≤ (i : Int)) = true := by simp
  have hn0 : decide (0 ≤ (n : Int)) = true := by simp
  simp only [RT.run,sIn,w1,w2,w3,e1,w4,w5,shr32,hd0,hn0,if_true]
  rw [if_pos (by simp; omega),if_pos (by rw [zdi]; simp; omega)]
  have e : sftN B32 (2 ^ n) xs (r + 1) i o out = sftN B32 (2 ^ n) xs r (i + 1) ((o + x * 2 ^ n) / 4294967296) (out.set i (((o + x * 2 ^ n) % 4294967296 : Nat) : Int)) := by
   rw [sftN,e1,Int.toNat_natCast]
  rw [e]
  refine shifted_l hx hn m hm r (i + 1) _ _ (by omega) (by rw [List.length_set,hl]) ?_
  rw [Nat.div_lt_iff_lt_mul (by decide)]
  have h1 : (x + 1) * 2 ^ n ≤ 4294967296 * 2 ^ n := Nat.mul_le_mul_right _ hx'
  rw [Nat.add_mul,Nat.one_mul] at h1
  omega
def e_zV : zcq := io_zV.sp (fun (a,n) => okL 39 a && (decide (0 ≤ n) && decide (n ≤ 31))) (fun (a,n) => fixd B32 (a.length + 1) (val B32 a * 2 ^ n.toNat))
theorem sp_zV (h : ∀ (a : List Int) (n : Int),WfT [.sl tV,tI] (a,n) → (okL 39 a && (decide (0 ≤ n) && decide (n ≤ 31))) = true → (zV (a,n)).run (fun _ => none) = some (fixd B32 (a.length + 1) (val B32 a * 2 ^ n.toNat))) : e_zV.ok pg := zcw ok_zV fun (a,n) hw hc => h a n hw hc
theorem e_zV_ok : e_zV.ok pg := sp_zV fun a n hw hc => by
 have ha : wfd B32 a = true := zdq hw.1
 simp only [Bool.and_eq_true,okL39,decide_eq_true_eq] at hc
 obtain ⟨n,rfl⟩ := Int.eq_ofNat_of_zero_le hc.2.1
 rw [zV,Int.toNat_natCast]
 have hw1 : w64 ((a.length : Int) + 1) = ((a.length + 1 : Nat) : Int) := by rw [zcm] <;> omega
 have h := shifted_l ha (n := n) (by omega) (a.length + 1) (by omega) (a.length + 1) 0 0 (List.replicate (a.length + 1) 0) (by omega) (by simp) (Nat.pow_pos (by decide))
 simp only [RT.run,hw1,zdd,Int.toNat_natCast,List.length_replicate]
 rw [if_pos (by rw [zdF]; omega),show ((0 : Int),(0 : Int),List.replicate (a.length + 1) (0 : Int)) = (((0 : Nat) : Int),((0 : Nat) : Int),List.replicate (a.length + 1) 0) from rfl,h,Option.bind_some]
 rw [sft_val ha (Nat.le_trans (Nat.pow_le_pow_right (by decide) (by omega : n ≤ 32)) (by decide))]
def zaO_b58 : ((List Int) × Int × Int) → (Int × (List Int)) → RT (Int × (List Int)) (List Int)
| (a,n,x11),(x12,r5) =>
 .rq 1 (.ite (decide (x12 < x11))
 (.rq 7 (let t0 := w64 (x12 + 1);
 .req (decide (0 ≤ t0)) (.rq 4 (.req (inB a x12) (.rq 4 (.req (decide (0 ≤ n)) (.rq 1 (.req (inB r5 x12) (.rq 3 (.again (t0,sI r5 x12 (zdO (zee .u64 (zdy .or .u64 (shlI .u64 (zcx (dig a t0)) 32) (zcx (gI a x12))) n)))))))))))))
 (.done r5))
def zaO_p58 : zch := ⟨58,true,[.sl tV,tI,tI],[tI,.sl tV],⟨[.keep [0,1,5,11,12],.gc,.nilRow 5 800005 122 tV,.ren 5 700005,.ren 5 900005,.gc],[0,1,5,11,12],[.lf (qi 0),.lf (qi 1),.lf (qr 900005),.lf (qi 2),.lf (qm 0)],[(900005,true,.arr 122 (qm 1))]⟩,[⟨2,⟨[.keep [5],.gc,.nilRow 5 800005 122 tV,.ren 5 700005,.ren 5 900005,.gc],[5],[.lf (qr 900005)],[(900005,true,.arr 122 (qm 0))]⟩,[.sl tV]⟩],zaO_b58⟩
def zaO : ((List Int) × Int) → RT Unit (List Int)
| (a,n) =>
 .rq 3 (.req (mkOK 4 (a.length : Int)) (.rq 4 (.call (lo zaO_b58 (a,n,(a.length : Int)) (0,zdd (a.length : Int) 0)) default fun v0 =>
 .rq 1 (.req (okL 40 v0) (.rq 1 (.done (zcg B32 (val B32 v0))))))))
def F_zaO (x : (List Int) × Int) : Option (List Int) := (zaO x).run fun _ => none
def io_zaO : Io := ⟨n_zaO,[.sl tV,tI],[.lf (qm 0),.lf (qm 1)],[],[[.sl tV],[tI]],[.sl tV],.lf (qr 0),[],[(true,.arr 122 (qm 0))],false⟩
def zaO_P : List zch := [zaO_p58]
def zaO_T : zcl := tab [e_zar,e_zbM]
theorem zaO_To : zck pg zaO_T := zci ⟨zgv,zht,trivial⟩
theorem zaO_k58 : (zaO_p58).OK pg (zaO_T) (zcB 36 (zaO_P)) (zcs f_zaO) 36 := ⟨by kernel_rfl,fun i x => by kernel_rfl⟩
theorem zaO_go : zcy pg (zaO_T) io_zaO f_zaO (zaO_P) [.nilRow 4 800004 122 tV,.ren 4 700004,.ren 4 900004] (zaO) := ⟨by kernel_rfl,by kernel_rfl,fun x => by kernel_rfl⟩
theorem ok_zaO : io_zaO.Okay pg (F_zaO) := zcu zcj (zaO_To) (zaO_go) ⟨zaO_k58,trivial⟩
theorem down_l {xs : List Int} (hx : wfd B32 xs = true) (hxl : xs.length ≤ 2 ^ 40) {n : Nat} (hn : n ≤ 32) : ∀ (r i : Nat) (out : List Int),i + r = xs.length → out.length = xs.length →
  lo zaO_b58 (xs,(n : Int),(xs.length : Int)) ((i : Int),out) = some (fillN (downF B32 n xs) r i out)
 | 0,i,out,h,_ => by
  rw [zcr,zaO_b58]
  simp only [RT.run]
  rw [if_neg (by simp; omega)]
  rfl
 | r + 1,i,out,h,hl => by
  rw [zcr,zaO_b58]
  obtain ⟨x,e1,hx'⟩ := zix hx (i + 1)
  obtain ⟨y,e2,hy'⟩ := zeU hx i
  have w1 : w64 ((i : Int) + 1) = ((i + 1 : Nat) : Int) := by rw [zcm] <;> omega
  have w2 : zcx (x : Int) = (x : Int) := zcD (by omega)
  have w3 : zcx (y : Int) = (y : Int) := zcD (by omega)
  have w4 := zhJ hx' hy'
  have w5 := shrN (x * 4294967296 + y) .u64 n (by show n ≤ 64; omega)
  have w6 : zdO (((x * 4294967296 + y) / 2 ^ n : Nat) : Int) = (((x * 4294967296 + y) / 2 ^ n % 4294967296 : Nat) : Int) := by rw [zhX]; exact (Int.natCast_emod _ _).symm
  have hd0 : decide (0 ≤ ((i + 1 : Nat) : Int)) = true := decide_eq_true (by omega)
  have hn0 : decide (0 ≤ (n : Int)) = true := by simp
  simp only [RT.run,gIn,sIn,w1,w2,w3,e1,e2,w4,w5,w6,hd0,hn0,if_true]
  rw [if_pos (by simp; omega),if_pos (by rw [zdi]; simp; omega),if_pos (by rw [zdi]; simp; omega)]
  have hdy : dig xs (i : Int) = (y : Int) := by rw [dig_nat,e2]
  have e : fillN (downF B32 n xs) (r + 1) i out = fillN (downF B32 n xs) r (i + 1) (out.set i (((x * 4294967296 + y) / 2 ^ n % 4294967296 : Nat) : Int)) := by
   rw [fillN,downF,e1,hdy,Int.toNat_natCast,Int.toNat_natCast]
  rw [e]
  exact down_l hx hxl hn r (i + 1) _ (by omega) (by rw [List.length_set,hl])
def e_zaO : zcq := io_zaO.sp (fun (a,n) => okL 39 a && (decide (0 ≤ n) && decide (n ≤ 31))) (fun (a,n) => zcg B32 (val B32 a / 2 ^ n.toNat))
theorem sp_zaO (h : ∀ (a : List Int) (n : Int),WfT [.sl tV,tI] (a,n) → (okL 39 a && (decide (0 ≤ n) && decide (n ≤ 31))) = true → (zaO (a,n)).run (fun _ => none) = some (zcg B32 (val B32 a / 2 ^ n.toNat))) : e_zaO.ok pg := zcw ok_zaO fun (a,n) hw hc => h a n hw hc
theorem e_zaO_ok : e_zaO.ok pg := sp_zaO fun a n hw hc => by
 have ha : wfd B32 a = true := zdq hw.1
 simp only [Bool.and_eq_true,okL39,decide_eq_true_eq] at hc
 obtain ⟨n,rfl⟩ := Int.eq_ofNat_of_zero_le hc.2.1
 rw [zaO,Int.toNat_natCast]
 have h := down_l ha (by omega) (n := n) (by omega) a.length 0 (List.replicate a.length 0) (by omega) (by simp)
 simp only [RT.run,zdd,Int.toNat_natCast]
 rw [if_pos (by rw [zdF]; omega),show ((0 : Int),List.replicate a.length (0 : Int)) = (((0 : Nat) : Int),List.replicate a.length 0) from rfl,h,Option.bind_some]
 rw [down_val (by omega) ha,if_pos (by rw [okL40,zhp]; omega),fixd_val,Nat.mod_eq_of_lt]
 exact Nat.lt_of_le_of_lt (Nat.div_le_self _ _) (zcQ (by decide) ha)
def zo : Int → RT Unit Int
| x =>
 .rq 5 (.done (w64 (32 - (((bl x.toNat : Nat) : Int)))))
def F_zo (x : Int) : Option Int := (zo x).run fun _ => none
def io_zo : Io := ⟨n_zo,[tV],[.lf (qm 0)],[],[[tV]],[tI],.lf (qm 0),[],[],false⟩
def zo_P : List zch := []
def zo_T : zcl := tab [e_zw]
theorem zo_To : zck pg zo_T := zci ⟨e_zw_ok,trivial⟩
theorem zo_go : zcy pg (zo_T) io_zo f_zo (zo_P) [] (zo) := ⟨by kernel_rfl,by kernel_rfl,fun x => by kernel_rfl⟩
theorem ok_zo : io_zo.Okay pg (F_zo) := zcu zcj (zo_To) (zo_go) trivial
def e_zo : zcq := io_zo.sp (fun x => true) (fun x => 32 - ((bl x.toNat : Nat) : Int))
theorem sp_zo (h : ∀ (x : Int),WfT [tV] x → (zo x).run (fun _ => none) = some (32 - ((bl x.toNat : Nat) : Int))) : e_zo.ok pg := zcw ok_zo fun x hw hc => h x hw
theorem e_zo_ok : e_zo.ok pg := sp_zo fun x hw => by
 have hw' : 0 ≤ x ∧ x < 4294967296 := hw
 rw [zo]
 have : bl x.toNat ≤ 32 := bl_le.2 (by omega)
 simp only [RT.run]
 rw [zcm (by omega)]
theorem ibit_low {x : Nat} (hx : x < 2 ^ 64) : zdy .and .u64 (x : Int) 4294967295 = ((x % 4294967296 : Nat) : Int) := by
 unfold zdy
 have e : ∀ z : Nat,z < 2 ^ 64 → (BitVec.ofInt IntKind.u64.bits (z : Int)).toNat = z := fun z hz => by
  rw [BitVec.toNat_ofInt]
  have : (2 : Nat) ^ IntKind.u64.bits = 18446744073709551616 := rfl
  rw [this]
  omega
 have e2 : (BitVec.ofInt IntKind.u64.bits (4294967295 : Int)).toNat = 4294967295 := e 4294967295 (by decide)
 simp only [BitVec.toNat_and,e x hx,e2]
 have h := Nat.and_two_pow_sub_one_eq_mod x 32
 rw [show (2 : Nat) ^ 32 - 1 = 4294967295 from rfl,show (2 : Nat) ^ 32 = 4294967296 from rfl] at h
 rw [h,u64_in]
 omega
theorem shr63 (x : Int) : zee .u64 x 63 = x / 9223372036854775808 := by
 unfold zee
 rw [Int.fdiv_eq_ediv_of_nonneg _ (Int.pow_nonneg (by decide))]
 rfl
theorem sub_step {U y l : Nat} (hU : U < B32) (hy : y < B32) (hl : l ≤ 1) :
  zee .u64 (zcx (zcx ((U : Int) - (y : Int)) - (l : Int))) 63 = ((subD U y l).2 : Int) ∧ zdO (zcx (zcx ((U : Int) - (y : Int)) - (l : Int))) = ((subD U y l).1 : Int) := by
 have hB : B32 = 4294967296 := rfl
 rw [hB] at hU hy
 rw [shr63,zhG,zhG,zhX]
 unfold subD
 rw [hB]
 split
 ·simp only; omega
 ·simp only; omega
def zQ_b992 : ((List Int) × (List Int) × Int × Int × Int × Int) → RT Unit Bool
| (x0,l,i,L,s,t) =>
 .rq 3 (.ite (decide (4294967296 ≤ s))
 (.rq 1 (.done true))
 (.rq 4 (let t0 := w64 (L - 2);
 .req (inB l t0) (.rq 10 (let t1 := w64 ((w64 (i + L)) - 2);
 .req (inB x0 t1) (.rq 5 (.done (decide ((zdy .or .u64 (shlI .u64 t 32) (zcx (gI x0 t1))) < (zcx (s * (zcx (gI l t0)))))))))))))
def zQ_p992 : zch := ⟨992,false,[.sl tV,.sl tV,tI,tI,tU,tU],[],⟨[.keep [0,1,2,7,9,10],.gc],[0,1,2,7,9,10],[.lf (qi 0),.lf (qi 1),.lf (qi 2),.lf (qi 3),.lf (qi 4),.lf (qi 5)],[]⟩,[⟨0,⟨[.keep [0,1,2,7,9,10,69],.gc],[0,1,2,7,9,10,69],[.lf (qi 0),.lf (qi 1),.lf (qi 2),.lf (qi 3),.lf (qi 4),.lf (qi 5),.lf (qm 0)],[]⟩,[tB]⟩],(fun i _ => zQ_b992 i)⟩
def zQ_b124 : ((List Int) × (List Int) × Int × Int) → (Int × Int) → RT (Int × Int) Int
| (x0,l,i,L),(s,t) =>
 .call (on zQ_b992 (x0,l,i,L,s,t)) default fun v0 =>
 .ite v0
 (.rq 7 (let t0 := w64 (L - 1);
 .req (inB l t0) (.rq 6 (let t1 := zcx (s - 1);
 let t2 := zcx (t + (zcx (gI l t0)));
 .ite (decide (4294967296 ≤ t2))
 (.done t1)
 (.again (t1,t2))))))
 (.done s)
def zQ_p124 : zch := ⟨124,true,[.sl tV,.sl tV,tI,tI],[tU,tU],⟨[.keep [0,1,2,7,9,10],.gc],[0,1,2,7,9,10],[.lf (qi 0),.lf (qi 1),.lf (qi 2),.lf (qi 3),.lf (qm 0),.lf (qm 1)],[]⟩,[⟨2,⟨[.keep [9],.gc],[9],[.lf (qm 0)],[]⟩,[tU]⟩],zQ_b124⟩
def zQ : ((List Int) × (List Int) × Int) → RT Unit Int
| (a0,l,i) =>
 .rq 8 (let t0 := w64 (i + (l.length : Int));
 .req (inB a0 t0) (.rq 8 (let t1 := w64 (t0 - 1);
 .req (inB a0 t1) (.rq 8 (let t2 := w64 ((l.length : Int) - 1);
 let t3 := inB l t2;
 .req t3 (.rq 2 (let t4 := zcx (gI l t2);
 let t5 := t4 != 0;
 .req t5 (.rq 4 (.req t3 (.rq 2 (.req t5 (.rq 2 (let t6 := zdy .or .u64 (shlI .u64 (zcx (gI a0 t0)) 32) (zcx (gI a0 t1));
 .call (lo zQ_b124 (a0,l,i,(l.length : Int)) (zcx (Int.tdiv t6 t4),Int.tmod t6 t4)) default fun v1 =>
 .rq 2 (.done v1))))))))))))))
def F_zQ (x : (List Int) × (List Int) × Int) : Option Int := (zQ x).run fun _ => none
def io_zQ : Io := ⟨n_zQ,[.sl tV,.sl tV,tI],[.lf (qm 0),.lf (qm 1),.lf (qm 2)],[],[[.sl tV],[.sl tV],[tI]],[tU],.lf (qm 0),[],[],false⟩
def zQ_P : List zch := [zQ_p992,zQ_p124]
def zQ_T : zcl := tab []
theorem zQ_To : zck pg zQ_T := zci trivial
theorem zQ_k992 : (zQ_p992).OK pg (zQ_T) (zcB 83 (zQ_P)) (zcs f_zQ) 83 := ⟨by kernel_rfl,fun i x => by kernel_rfl⟩
theorem zQ_k124 : (zQ_p124).OK pg (zQ_T) (zcB 83 (zQ_P)) (zcs f_zQ) 83 := ⟨by kernel_rfl,fun i x => by kernel_rfl⟩
theorem zQ_go : zcy pg (zQ_T) io_zQ f_zQ (zQ_P) [] (zQ) := ⟨by kernel_rfl,by kernel_rfl,fun x => by kernel_rfl⟩
theorem ok_zQ : io_zQ.Okay pg (F_zQ) := zcu zcj (zQ_To) (zQ_go) ⟨zQ_k992,zQ_k124,trivial⟩
def e_zQ : zcq := io_zQ.en F_zQ
theorem e_zQ_ok : e_zQ.ok pg := zeS ok_zQ
theorem guess_l {us vs : List Int} {j v1 v2 u2 : Nat} (h2 : 2 ≤ vs.length) (hl : j + vs.length < us.length) (hl2 : us.length ≤ 2 ^ 41)
  (hv1 : vs.getD (vs.length - 1) 0 = (v1 : Int)) (hv2 : vs.getD (vs.length - 2) 0 = (v2 : Int)) (hu2 : us.getD (j + vs.length - 2) 0 = (u2 : Int)) (b1 : v1 < 4294967296) (b2 : v2 < 4294967296) (b3 : u2 < 4294967296) :
  ∀ (f g r : Nat),0 < f → g ≤ 4294967297 → r < 4294967296 → 4294967296 ≤ r + f * v1 →
   lo zQ_b124 (us,vs,(j : Int),(vs.length : Int)) ((g : Int),(r : Int)) = some (gsN v1 v2 u2 f g r : Int)
 | f + 1,g,r,_,hg,hr,hm => by
  rw [zcr,zQ_b124]
  have hB : B32 = 4294967296 := rfl
  have w1 : w64 ((vs.length : Int) - 1) = ((vs.length - 1 : Nat) : Int) := by rw [zcm] <;> omega
  have w2 : w64 ((vs.length : Int) - 2) = ((vs.length - 2 : Nat) : Int) := by rw [zcm] <;> omega
  have w3 : w64 ((j : Int) + (vs.length : Int)) = ((j + vs.length : Nat) : Int) := by rw [zcm] <;> omega
  have w4 : w64 (((j + vs.length : Nat) : Int) - 2) = ((j + vs.length - 2 : Nat) : Int) := by rw [zcm] <;> omega
  have x1 : zcx (v1 : Int) = (v1 : Int) := zcD (by omega)
  have x2 : zcx (v2 : Int) = (v2 : Int) := zcD (by omega)
  have x3 : zcx (u2 : Int) = (u2 : Int) := zcD (by omega)
  have x4 : zcx ((r : Int) + (v1 : Int)) = ((r + v1 : Nat) : Int) := by rw [zcD] <;> omega
  have x6 : zdy .or .u64 (shlI .u64 (r : Int) 32) (u2 : Int) = ((r * B32 + u2 : Nat) : Int) := zhJ hr b3
  have q1 : inB vs ((vs.length - 1 : Nat) : Int) = true := by rw [zdi]; simp; omega
  have q2 : inB vs ((vs.length - 2 : Nat) : Int) = true := by rw [zdi]; simp; omega
  have q3 : inB us ((j + vs.length - 2 : Nat) : Int) = true := by rw [zdi]; simp; omega
  have hon : on zQ_b992 (us,vs,(j : Int),(vs.length : Int),(g : Int),(r : Int)) = some (decide (B32 ≤ g ∨ r * B32 + u2 < g * v2)) := by
   rw [on,zQ_b992]
   simp only [RT.run,w2,w3,w4,gIn,hv2,hu2,x2,x3,x6,q2,q3,if_true]
   by_cases hg1 : B32 ≤ g
   ·rw [if_pos (decide_eq_true (by omega))]
    simp [hg1]
   ·rw [if_neg (by simpa using (by omega : (g : Int) < 4294967296))]
    have hgm : g * v2 ≤ 4294967295 * 4294967295 := Nat.mul_le_mul (by omega) (by omega)
    have wm : zcx ((g : Int) * (v2 : Int)) = ((g * v2 : Nat) : Int) := by rw [← Int.natCast_mul,zcD]; omega
    rw [wm]
    congr 1
    rw [Bool.eq_iff_iff,decide_eq_true_eq,decide_eq_true_eq,Int.ofNat_lt]
    exact ⟨fun h => .inr h,fun h => h.resolve_left hg1⟩
  rw [RT.run,hon,Option.bind_some]
  simp only [RT.run,w1,gIn,hv1,x1,x4,q1,if_true]
  have less : (B32 ≤ g ∨ r * B32 + u2 < g * v2) → (if decide ((4294967296 : Int) ≤ ((r + v1 : Nat) : Int)) = true then some (zcx ((g : Int) - 1)) else
    lo zQ_b124 (us,vs,(j : Int),(vs.length : Int)) (zcx ((g : Int) - 1),((r + v1 : Nat) : Int))) = some (gsN v1 v2 u2 (f + 1) g r : Int) := by
   intro hc
   have hg0 : 0 < g := by
    rcases hc with hc | hc
    ·exact Nat.lt_of_lt_of_le (by decide) hc
    ·apply Nat.pos_of_ne_zero
     rintro rfl
     omega
   have wg : zcx ((g : Int) - 1) = ((g - 1 : Nat) : Int) := by rw [zcD] <;> omega
   rw [wg]
   unfold gsN
   rw [if_pos hc]
   by_cases hb : B32 ≤ r + v1
   ·rw [if_pos (decide_eq_true (by omega)),if_pos hb]
   ·rw [if_neg (by simpa using (by omega : ((r + v1 : Nat) : Int) < 4294967296)),if_neg hb]
    rw [Nat.add_mul,Nat.one_mul] at hm
    have hf : 0 < f := by
     apply Nat.pos_of_ne_zero
     rintro rfl
     omega
    exact guess_l h2 hl hl2 hv1 hv2 hu2 b1 b2 b3 f (g - 1) (r + v1) hf (by omega) (by omega) (by omega)
  by_cases hc : B32 ≤ g ∨ r * B32 + u2 < g * v2
  ·rw [if_pos (decide_eq_true hc)]
   exact less hc
  ·rw [if_neg (by simpa using hc)]
   unfold gsN
   rw [if_neg hc]
theorem guess_F {us vs : List Int} {j q : Nat} (hu : wfd B32 us = true) (hv : wfd B32 vs = true) (h2 : 2 ≤ vs.length) (hl : j + vs.length < us.length) (hl2 : us.length ≤ 2 ^ 41)
  (hnorm : B32 ≤ 2 * (vs.getD (vs.length - 1) 0).toNat) (hlt : val B32 us / B32 ^ j % B32 ^ (vs.length + 1) < B32 * val B32 vs)
  (hq : q * val B32 vs ≤ val B32 us / B32 ^ j % B32 ^ (vs.length + 1)) (hq' : val B32 us / B32 ^ j % B32 ^ (vs.length + 1) < (q + 1) * val B32 vs) :
  ∃ g : Nat,F_zQ (us,vs,(j : Int)) = some (g : Int) ∧ q ≤ g ∧ g ≤ q + 1 := by
 have hB : B32 = 4294967296 := rfl
 obtain ⟨v1,hv1,b1⟩ := zeU hv (vs.length - 1)
 obtain ⟨v2,hv2,b2⟩ := zeU hv (vs.length - 2)
 obtain ⟨u0,hu0,c0⟩ := zeU hu (j + vs.length)
 obtain ⟨u1,hu1,c1⟩ := zeU hu (j + vs.length - 1)
 obtain ⟨u2,hu2,c2⟩ := zeU hu (j + vs.length - 2)
 rw [hv1,Int.toNat_natCast] at hnorm
 obtain ⟨m,hm⟩ : ∃ m,vs.length = m + 2 := ⟨vs.length - 2,by omega⟩
 have dv1 : val B32 vs / B32 ^ (m + 1) % B32 = v1 := by
  have := zem (by decide : 0 < B32) (m + 1) hv
  rw [show m + 1 = vs.length - 1 by omega] at this ⊢
  rw [hv1] at this; exact Int.ofNat_inj.1 this
 have dv2 : val B32 vs / B32 ^ m % B32 = v2 := by
  have := zem (by decide : 0 < B32) m hv
  rw [show m = vs.length - 2 by omega] at this ⊢
  rw [hv2] at this; exact Int.ofNat_inj.1 this
 have du : ∀ i u,us.getD i 0 = ((u : Nat) : Int) → val B32 us / B32 ^ i % B32 = u := fun i u h => by
  have := zem (by decide : 0 < B32) i hu
  rw [h] at this; exact Int.ofNat_inj.1 this
 have du0 := du _ _ hu0
 have du1 := du _ _ hu1
 have du2 := du _ _ hu2
 generalize hV : val B32 vs = V at *
 generalize hU : val B32 us = U at *
 have hVlt : V < B32 ^ (m + 2) := by rw [← hV,← hm]; exact zcQ (by decide) hv
 have pm : 0 < B32 ^ m := Nat.pow_pos (by decide)
 have e1 : V = (v1 * B32 + v2) * B32 ^ m + V % B32 ^ m := by
  have t1 := Nat.mod_add_div V (B32 ^ m)
  have t2 := Nat.mod_add_div (V / B32 ^ m) B32
  have t3 : V / B32 ^ m / B32 = v1 := by
   rw [Nat.div_div_eq_div_mul,← Nat.pow_succ,← dv1,Nat.mod_eq_of_lt]
   rw [Nat.div_lt_iff_lt_mul (Nat.pow_pos (by decide)),← Nat.pow_succ']
   exact hVlt
  rw [dv2,t3] at t2
  rw [Nat.mul_comm v1 B32,Nat.add_comm (B32 * v1) v2,t2,Nat.mul_comm (V / B32 ^ m)]
  omega
 have e2 : U / B32 ^ j % B32 ^ (vs.length + 1) = ((u0 * B32 + u1) * B32 + u2) * B32 ^ m + U / B32 ^ j % B32 ^ m := by
  rw [hm]
  have f : ∀ k,U / B32 ^ j / B32 ^ k % B32 = U / B32 ^ (j + k) % B32 := fun k => by rw [Nat.div_div_eq_div_mul,← Nat.pow_add]
  have s : ∀ k,U / B32 ^ j % B32 ^ (k + 1) = U / B32 ^ j / B32 ^ k % B32 * B32 ^ k + U / B32 ^ j % B32 ^ k := fun k => by
   rw [Nat.pow_succ,Nat.mod_mul]
   rw [Nat.mul_comm (B32 ^ k)]
   omega
  have g0 := f (m + 2)
  have g1 := f (m + 1)
  have g2 := f m
  rw [show j + (m + 2) = j + vs.length by omega,du0] at g0
  rw [show j + (m + 1) = j + vs.length - 1 by omega,du1] at g1
  rw [show j + m = j + vs.length - 2 by omega,du2] at g2
  have s0 := s (m + 2)
  have s1 := s (m + 1)
  have s2 := s m
  rw [g0] at s0
  rw [g1] at s1
  rw [g2] at s2
  rw [show m + 2 + 1 = m + 3 by omega] at s0 ⊢
  rw [show m + 1 + 1 = m + 2 by omega] at s1
  rw [s0,s1,s2]
  rw [Nat.pow_succ B32 (m + 1),Nat.pow_succ B32 m]
  simp only [Nat.add_mul,Nat.mul_assoc,Nat.mul_comm B32,Nat.mul_left_comm B32]
  omega
 generalize hW : U / B32 ^ j % B32 ^ (vs.length + 1) = W at *
 have H : Win (B32 ^ m) v1 v2 (V % B32 ^ m) (u0 * B32 + u1) u2 (U / B32 ^ j % B32 ^ m) V W := ⟨e1,e2,Nat.mod_lt _ pm,Nat.mod_lt _ pm,b2,c2,hnorm,hlt⟩
 have hv1p : 0 < v1 := by omega
 have hqB : q < B32 := by
  apply Nat.lt_of_mul_lt_mul_right (a := V)
  exact Nat.lt_of_le_of_lt hq hlt
 have hstart := H.start hq
 have htop := H.top
 have htB : (u0 * B32 + u1) < (B32 + 1) * v1 + v1 := by
  rw [Nat.add_mul,Nat.one_mul]
  omega
 have hg0 : (u0 * B32 + u1) / v1 ≤ B32 + 1 := by
  rw [← Nat.lt_succ_iff,Nat.div_lt_iff_lt_mul hv1p,Nat.succ_mul]
  exact htB
 have hdm := Nat.div_add_mod (u0 * B32 + u1) v1
 have hrlt := Nat.mod_lt (u0 * B32 + u1) hv1p
 have gs := gsN_ok H hq hq' hqB 3 ((u0 * B32 + u1) / v1) ((u0 * B32 + u1) % v1) (by rw [Nat.mul_comm]; exact hdm) ((Nat.le_div_iff_mul_le hv1p).2 hstart) hg0 (fun h => by
  rw [h] at hdm
  have : v1 * (B32 + 1) = v1 * B32 + v1 := by rw [Nat.mul_add,Nat.mul_one]
  have k4 : u0 * B32 + u1 < B32 * v1 + B32 := htop
  rw [Nat.mul_comm B32 v1] at k4
  omega) (by omega) (by omega)
 refine ⟨gsN v1 v2 u2 3 ((u0 * B32 + u1) / v1) ((u0 * B32 + u1) % v1),?_,gs.1,gs.2⟩
 have hl := guess_l (us := us) (vs := vs) (j := j) (v1 := v1) (v2 := v2) (u2 := u2) h2 hl hl2 hv1 hv2 hu2 b1 b2 c2 3 ((u0 * B32 + u1) / v1) ((u0 * B32 + u1) % v1) (by omega) (by omega) (by omega) (by omega)
 unfold F_zQ
 rw [zQ]
 have w1 : w64 ((vs.length : Int) - 1) = ((vs.length - 1 : Nat) : Int) := by rw [zcm] <;> omega
 have w3 : w64 ((j : Int) + (vs.length : Int)) = ((j + vs.length : Nat) : Int) := by rw [zcm] <;> omega
 have w4 : w64 (((j + vs.length : Nat) : Int) - 1) = ((j + vs.length - 1 : Nat) : Int) := by rw [zcm] <;> omega
 have x1 : zcx (v1 : Int) = (v1 : Int) := zcD (by omega)
 have x2 : zcx (u1 : Int) = (u1 : Int) := zcD (by omega)
 have x3 : zcx (u0 : Int) = (u0 : Int) := zcD (by omega)
 have x6 : zdy .or .u64 (shlI .u64 (u0 : Int) 32) (u1 : Int) = ((u0 * B32 + u1 : Nat) : Int) := zhJ c0 c1
 have x7 : zcx ((((u0 * B32 + u1) / v1 : Nat) : Int)) = (((u0 * B32 + u1) / v1 : Nat) : Int) := by
  have h9 := hg0
  rw [hB] at h9
  refine zcD ⟨Int.natCast_nonneg _,?_⟩
  have h10 : (((u0 * B32 + u1) / v1 : Nat) : Int) ≤ ((4294967296 + 1 : Nat) : Int) := Int.ofNat_le.2 (by rw [hB]; exact h9)
  exact Int.lt_of_le_of_lt h10 (by decide)
 have y0 : ((v1 : Int) != 0) = true := by simp; omega
 have y1 : inB vs ((vs.length - 1 : Nat) : Int) = true := by rw [zdi]; simp; omega
 have y2 : inB us ((j + vs.length : Nat) : Int) = true := by rw [zdi]; simp; omega
 have y3 : inB us ((j + vs.length - 1 : Nat) : Int) = true := by rw [zdi]; simp; omega
 simp only [RT.run,w1,w3,w4,gIn,hv1,hu0,hu1,x1,x2,x3,x6,tdivN,tmodN,x7,y0,y1,y2,y3,if_true,hl,Option.bind_some]
def zaL_b58 : ((List Int) × Int × Int × Int) → (Int × Int × Int × (List Int)) → RT (Int × Int × Int × (List Int)) (Int × (List Int))
| (v,j,q,x15),(over,less,x16,p0) =>
 .rq 1 (.ite (decide (x16 < x15))
 (.rq 6 (.req (decide (0 ≤ x16)) (.rq 8 (let t0 := w64 (j + x16);
 let t1 := inB p0 t0;
 .req t1 (.rq 14 (.req t1 (.rq 9 (let t2 := zcx (over + (zcx (q * (zcx (dig v x16)))));
 let t3 := zcx ((zcx ((zcx (gI p0 t0)) - (zdy .and .u64 t2 4294967295))) - less);
 .again (zee .u64 t2 32,zee .u64 t3 63,w64 (x16 + 1),sI p0 t0 (zdO t3))))))))))
 (.done (less,p0)))
def zaL_p58 : zch := ⟨58,true,[.sl tV,tI,tU,tI],[tU,tU,tI,.sl tV],⟨[.keep [0,1,2,3,9,10,15,16],.gc],[0,1,2,3,9,10,15,16],[.lf (qr 1048576),.lf (qi 0),.lf (qi 1),.lf (qi 2),.lf (qm 0),.lf (qm 1),.lf (qi 3),.lf (qm 2)],[(1048576,true,.arr 122 (qm 3))]⟩,[⟨2,⟨[.keep [10],.gc],[10],[.lf (qm 0)],[(1048576,true,.arr 122 (qm 1))]⟩,[tU,.sl tV]⟩],zaL_b58⟩
def zaL : ((List Int) × Int × Int × (List Int)) → RT Unit (Bool × (List Int))
| (v,j,q,u) =>
 .rq 7 (.call (lo zaL_b58 (v,j,q,w64 ((v.length : Int) + 1)) (0,0,0,u)) default fun v0 =>
 .rq 3 (.done (decide (0 < v0.1),v0.2)))
def F_zaL (x : (List Int) × Int × Int × (List Int)) : Option (Bool × (List Int)) := (zaL x).run fun _ => none
def io_zaL : Io := ⟨n_zaL,[.sl tV,tI,tU,.sl tV],[.lf (qr 0),.lf (qm 0),.lf (qm 1),.lf (qm 2)],[.arr 122 (qm 3)],[[],[.sl tV],[tI],[tU]],[tB,.sl tV],.lf (qm 0),[(true,.arr 122 (qm 1))],[],false⟩
def zaL_P : List zch := [zaL_p58]
def zaL_T : zcl := tab [e_zbM]
theorem zaL_To : zck pg zaL_T := zci ⟨zht,trivial⟩
theorem zaL_k58 : (zaL_p58).OK pg (zaL_T) (zcB 53 (zaL_P)) (zcs f_zaL) 53 := ⟨by kernel_rfl,fun i x => by kernel_rfl⟩
theorem zaL_go : zcy pg (zaL_T) io_zaL f_zaL (zaL_P) [] (zaL) := ⟨by kernel_rfl,by kernel_rfl,fun x => by kernel_rfl⟩
theorem ok_zaL : io_zaL.Okay pg (F_zaL) := zcu zcj (zaL_To) (zaL_go) ⟨zaL_k58,trivial⟩
def e_zaL : zcq := io_zaL.en F_zaL
theorem e_zaL_ok : e_zaL.ok pg := zeS ok_zaL
def zaK_b14 : ((List Int) × Int × Int) → (Int × Int × (List Int)) → RT (Int × Int × (List Int)) (List Int)
| (v,j,x10),(over,x11,p0) =>
 .rq 1 (.ite (decide (x11 < x10))
 (.rq 7 (let t0 := w64 (j + x11);
 let t1 := inB p0 t0;
 .req t1 (.rq 4 (.req (decide (0 ≤ x11)) (.rq 10 (.req t1 (.rq 6 (let t2 := zcx (over + (zcx ((zcx (gI p0 t0)) + (zcx (dig v x11)))));
 .again (zee .u64 t2 32,w64 (x11 + 1),sI p0 t0 (zdO t2))))))))))
 (.done p0))
def zaK_p14 : zch := ⟨14,true,[.sl tV,tI,tI],[tU,tI,.sl tV],⟨[.keep [0,1,2,6,10,11],.gc],[0,1,2,6,10,11],[.lf (qr 1048576),.lf (qi 0),.lf (qi 1),.lf (qm 0),.lf (qi 2),.lf (qm 1)],[(1048576,true,.arr 122 (qm 2))]⟩,[⟨2,⟨[.keep [],.gc],[],[],[(1048576,true,.arr 122 (qm 0))]⟩,[.sl tV]⟩],zaK_b14⟩
def zaK : ((List Int) × Int × (List Int)) → RT Unit (List Int)
| (v,j,u) =>
 .rq 5 (.call (lo zaK_b14 (v,j,w64 ((v.length : Int) + 1)) (0,0,u)) default fun v0 =>
 .done v0)
def F_zaK (x : (List Int) × Int × (List Int)) : Option (List Int) := (zaK x).run fun _ => none
def io_zaK : Io := ⟨n_zaK,[.sl tV,tI,.sl tV],[.lf (qr 0),.lf (qm 0),.lf (qm 1)],[.arr 122 (qm 2)],[[],[.sl tV],[tI]],[.sl tV],.tup [],[(true,.arr 122 (qm 0))],[],false⟩
def zaK_P : List zch := [zaK_p14]
def zaK_T : zcl := tab [e_zbM]
theorem zaK_To : zck pg zaK_T := zci ⟨zht,trivial⟩
theorem zaK_k14 : (zaK_p14).OK pg (zaK_T) (zcB 38 (zaK_P)) (zcs f_zaK) 38 := ⟨by kernel_rfl,fun i x => by kernel_rfl⟩
theorem zaK_go : zcy pg (zaK_T) io_zaK f_zaK (zaK_P) [] (zaK) := ⟨by kernel_rfl,by kernel_rfl,fun x => by kernel_rfl⟩
theorem ok_zaK : io_zaK.Okay pg (F_zaK) := zcu zcj (zaK_To) (zaK_go) ⟨zaK_k14,trivial⟩
def e_zaK : zcq := io_zaK.en F_zaK
theorem e_zaK_ok : e_zaK.ok pg := zeS ok_zaK
theorem away_l {q j : Nat} {vs : List Int} (hv : wfd B32 vs = true) (hq : q ≤ B32) (m : Nat) (hm : m ≤ 2 ^ 41) : ∀ (r i o l : Nat) (us : List Int),o < B32 → l ≤ 1 → j + i + r ≤ us.length → wfd B32 us = true → us.length ≤ 2 ^ 41 → i + r = m →
  lo zaL_b58 (vs,(j : Int),(q : Int),(m : Int)) ((o : Int),(l : Int),(i : Int),us) = some (((awN q vs j r i o l us).2 : Int),(awN q vs j r i o l us).1)
 | 0,i,o,l,us,_,_,_,_,_,h => by
  rw [zcr,zaL_b58]
  simp only [RT.run]
  rw [if_neg (by simp; omega)]
  rfl
 | r + 1,i,o,l,us,ho,hl,hlen,hw,hl2,h => by
  rw [zcr,zaL_b58]
  obtain ⟨d,hd,hd'⟩ := zix hv i
  obtain ⟨u,hu,hu'⟩ := zeU hw (j + i)
  have hB : B32 = 4294967296 := rfl
  have hqd : q * d ≤ 4294967296 * 4294967295 := Nat.mul_le_mul (by omega) (by omega)
  have w1 : w64 ((j : Int) + (i : Int)) = ((j + i : Nat) : Int) := by rw [zcm] <;> omega
  have w2 : zcx (d : Int) = (d : Int) := zcD (by omega)
  have w3 : zcx ((q : Int) * (d : Int)) = ((q * d : Nat) : Int) := by rw [← Int.natCast_mul,zcD]; omega
  have w4 : zcx ((o : Int) + ((q * d : Nat) : Int)) = ((o + q * d : Nat) : Int) := by rw [← Int.natCast_add,zcD]; omega
  have w5 : zcx (u : Int) = (u : Int) := zcD (by omega)
  have w6 : w64 ((i : Int) + 1) = ((i + 1 : Nat) : Int) := by rw [zcm] <;> omega
  have hy : (o + q * d) % 4294967296 < B32 := by omega
  obtain ⟨s1,s2⟩ := sub_step (U := u) (by omega) hy hl
  have hin : inB us ((j + i : Nat) : Int) = true := by rw [zdi]; simp; omega
  have hd0 : decide (0 ≤ (i : Int)) = true := by simp
  simp only [RT.run,gIn,sIn,w1,w2,w3,w4,w5,w6,hd,hu,ibit_low (x := o + q * d) (by omega),shr32,s1,s2,hin,hd0,if_true]
  rw [if_pos (by simp; omega)]
  have e : awN q vs j (r + 1) i o l us = awN q vs j r (i + 1) ((o + q * d) / 4294967296) (subD u ((o + q * d) % 4294967296) l).2 (us.set (j + i) ((subD u ((o + q * d) % 4294967296) l).1 : Int)) := by
   show awN q vs j r (i + 1) ((o + q * (dig vs i).toNat) / B32) _ _ = _
   rw [hd,hu]
   rfl
  rw [e]
  obtain ⟨t1,t2,_⟩ := subD_spec (x := u) (y := (o + q * d) % 4294967296) (by omega) hy hl
  exact away_l hv hq m hm r (i + 1) _ _ _ (by rw [hB]; omega) t2 (by rw [List.length_set]; omega) (zfe hw ⟨Int.natCast_nonneg _,Int.ofNat_lt.2 t1⟩) (by rw [List.length_set]; exact hl2) (by omega)
theorem away_F {us vs : List Int} {j q : Nat} (hu : wfd B32 us = true) (hv : wfd B32 vs = true) (hq : q ≤ B32) (hl : j + (vs.length + 1) ≤ us.length) (hl2 : us.length ≤ 2 ^ 41) :
  F_zaL (vs,(j : Int),(q : Int),us) = some (decide (0 < (awN q vs j (vs.length + 1) 0 0 0 us).2),(awN q vs j (vs.length + 1) 0 0 0 us).1) := by
 unfold F_zaL
 rw [zaL]
 have w : w64 ((vs.length : Int) + 1) = ((vs.length + 1 : Nat) : Int) := by rw [zcm] <;> omega
 have h := away_l (j := j) hv hq (vs.length + 1) (by omega) (vs.length + 1) 0 0 0 us (by decide) (by omega) (by omega) hu hl2 (by omega)
 simp only [RT.run,w]
 rw [show ((0 : Int),(0 : Int),(0 : Int),us) = (((0 : Nat) : Int),((0 : Nat) : Int),((0 : Nat) : Int),us) from rfl,h]
 simp
theorem back_l {j : Nat} {vs : List Int} (hv : wfd B32 vs = true) (m : Nat) (hm : m ≤ 2 ^ 41) : ∀ (r i o : Nat) (us : List Int),o ≤ 1 → j + i + r ≤ us.length → wfd B32 us = true → us.length ≤ 2 ^ 41 → i + r = m →
  lo zaK_b14 (vs,(j : Int),(m : Int)) ((o : Int),(i : Int),us) = some (bkN vs j r i o us).1
 | 0,i,o,us,_,_,_,_,h => by
  rw [zcr,zaK_b14]
  simp only [RT.run]
  rw [if_neg (by simp; omega)]
  rfl
 | r + 1,i,o,us,ho,hlen,hw,hl2,h => by
  rw [zcr,zaK_b14]
  obtain ⟨d,hd,hd'⟩ := zix hv i
  obtain ⟨u,hu,hu'⟩ := zeU hw (j + i)
  have hB : B32 = 4294967296 := rfl
  have w1 : w64 ((j : Int) + (i : Int)) = ((j + i : Nat) : Int) := by rw [zcm] <;> omega
  have w2 : zcx (d : Int) = (d : Int) := zcD (by omega)
  have w3 : zcx ((u : Int) + (d : Int)) = ((u + d : Nat) : Int) := by rw [← Int.natCast_add,zcD]; omega
  have w4 : zcx ((o : Int) + ((u + d : Nat) : Int)) = ((o + (u + d) : Nat) : Int) := by rw [← Int.natCast_add,zcD]; omega
  have w5 : zcx (u : Int) = (u : Int) := zcD (by omega)
  have w6 : w64 ((i : Int) + 1) = ((i + 1 : Nat) : Int) := by rw [zcm] <;> omega
  have w7 : zdO ((o + (u + d) : Nat) : Int) = (((o + (u + d)) % 4294967296 : Nat) : Int) := by rw [zhX]; omega
  have hin : inB us ((j + i : Nat) : Int) = true := by rw [zdi]; simp; omega
  have hd0 : decide (0 ≤ (i : Int)) = true := by simp
  simp only [RT.run,gIn,sIn,w1,w2,w3,w4,w5,w6,w7,hd,hu,shr32,hin,hd0,if_true]
  rw [if_pos (by simp; omega)]
  have e : bkN vs j (r + 1) i o us = bkN vs j r (i + 1) ((o + (u + d)) / 4294967296) (us.set (j + i) (((o + (u + d)) % 4294967296 : Nat) : Int)) := by
   show bkN vs j r (i + 1) ((o + ((us.getD (j + i) 0).toNat + (dig vs i).toNat)) / B32) _ = _
   rw [hd,hu]
   rfl
  rw [e]
  exact back_l hv m hm r (i + 1) _ _ (by omega) (by rw [List.length_set]; omega) (zfe hw ⟨Int.natCast_nonneg _,by rw [hB]; omega⟩) (by rw [List.length_set]; exact hl2) (by omega)
theorem back_F {us vs : List Int} {j : Nat} (hu : wfd B32 us = true) (hv : wfd B32 vs = true) (hl : j + (vs.length + 1) ≤ us.length) (hl2 : us.length ≤ 2 ^ 41) :
  F_zaK (vs,(j : Int),us) = some (bkN vs j (vs.length + 1) 0 0 us).1 := by
 unfold F_zaK
 rw [zaK]
 have w : w64 ((vs.length : Int) + 1) = ((vs.length + 1 : Nat) : Int) := by rw [zcm] <;> omega
 have h := back_l (j := j) hv (vs.length + 1) (by omega) (vs.length + 1) 0 0 us (by omega) (by omega) hu hl2 (by omega)
 simp only [RT.run,w]
 rw [show ((0 : Int),(0 : Int),us) = (((0 : Nat) : Int),((0 : Nat) : Int),us) from rfl,h]
 simp
end
end Go.Proofs.YtlfdidaeachpoaaGreat
namespace Go.Proofs.YtlfdidaeachpoaaGreat
open Go Go.RowKit
set_option maxRecDepth 100000
noncomputable section
def zhB : (List Int) → (Int × (List Int) × (List Int)) → RT (Int × (List Int) × (List Int)) ((List Int) × (List Int))
| x11,(e,r10,r12) =>
 .rq 2 (.ite (decide (0 ≤ e))
 (.rq 3 (.call (F_zQ (r10,x11,e)) default fun v0 =>
 .rq 5 (.call (F_zaL (x11,e,v0,r10)) default fun v1 =>
 let t0 := w64 (e - 1);
 .ite v1.1
 (.rq 6 (.call (F_zaK (x11,e,v1.2)) default fun v2 =>
 .rq 4 (.req (inB r12 e) (.rq 4 (.again (t0,v2,sI r12 e (zdO (zcx (v0 - 1)))))))))
 (.rq 4 (.req (inB r12 e) (.rq 4 (.again (t0,v1.2,sI r12 e (zdO v0)))))))))
 (.done (r10,r12)))
def zaH_p1018 : zch := ⟨1018,true,[tI,.sl tV],[tI,.sl tV,.sl tV],⟨[.keep [9,10,11,12,13],.gc,.toDat 11,.den 11 [.sl tV],.nilRow 10 800010 122 tV,.nilRow 12 800012 122 tV,.ren 10 700010,.ren 12 700012,.ren 10 900010,.ren 12 900012,.gc],[9,10,11,12,13],[.lf (qi 0),.lf (qr 900010),.lf (qi 1),.lf (qr 900012),.lf (qm 0)],[(900010,true,.arr 122 (qm 1)),(900012,true,.arr 122 (qm 2))]⟩,[⟨3,⟨[.keep [9,10,12],.gc,.nilRow 10 800010 122 tV,.nilRow 12 800012 122 tV,.ren 10 700010,.ren 12 700012,.ren 10 900010,.ren 12 900012,.gc],[9,10,12],[.lf (qi 0),.lf (qr 900010),.lf (qr 900012)],[(900010,true,.arr 122 (qm 0)),(900012,true,.arr 122 (qm 1))]⟩,[.sl tV,.sl tV]⟩],(fun i => zhB i.2)⟩
def zaH : ((List Int) × (List Int)) → RT Unit (Bool × (List Int) × (List Int))
| (a0,l) =>
 .rq 4 (.req (okL 40 a0) (.rq 1 (.req (okL 40 l) (.rq 6 (let t0 := ((zcg B32 (val B32 l)).length : Int);
 .ite (t0 == 0)
 (.rq 3 (.done (false,[],[])))
 (.rq 5 (.ite (decide ((zde (val B32 (zcg B32 (val B32 a0))) (val B32 (zcg B32 (val B32 l)))) < 0))
 (.rq 4 (.done (true,[],zcg B32 (val B32 a0))))
 (.rq 4 (.ite (t0 == 1)
 (.rq 2 (.req (inB (zcg B32 (val B32 l)) 0) (.rq 1 (let t1 := gI (zcg B32 (val B32 l)) 0;
 .req (okL 39 (zcg B32 (val B32 a0)) && decide (0 < t1)) (.rq 12 (.done (true,zcg B32 (val B32 (zcg B32 (val B32 a0)) / t1.toNat),zcg B32 (zcx (((val B32 (zcg B32 (val B32 a0)) % t1.toNat : Nat) : Int))).toNat)))))))
 (.rq 4 (let t2 := w64 (t0 - 1);
 .req (inB (zcg B32 (val B32 l)) t2) (.rq 5 (let t3 := 32 - ((bl (gI (zcg B32 (val B32 l)) t2).toNat : Nat) : Int);
 .req (okL 39 (zcg B32 (val B32 a0)) && (decide (0 ≤ t3) && decide (t3 ≤ 31))) (.rq 2 (.req (okL 39 (zcg B32 (val B32 l)) && (decide (0 ≤ t3) && decide (t3 ≤ 31))) (let t4 := fixd B32 ((zcg B32 (val B32 l)).length + 1) (val B32 (zcg B32 (val B32 l)) * 2 ^ t3.toNat);
 .req (okL 40 t4) (.rq 8 (let t5 := w64 ((w64 (((zcg B32 (val B32 a0)).length : Int) - t0)) + 1);
 .req (mkOK 4 t5) (.rq 5 (let t6 := zdd t5 0;
 .call (lo zhB (zcg B32 (val B32 t4)) (w64 ((t6.length : Int) - 1),fixd B32 ((zcg B32 (val B32 a0)).length + 1) (val B32 (zcg B32 (val B32 a0)) * 2 ^ t3.toNat),t6)) default fun v3 =>
 .rq 1 (.req (okL 40 v3.2) (.rq 2 (.req (okL 39 v3.1 && (decide (0 ≤ t3) && decide (t3 ≤ 31))) (.rq 3 (.done (true,zcg B32 (val B32 v3.2),zcg B32 (val B32 v3.1 / 2 ^ t3.toNat)))))))))))))))))))))))))))
def F_zaH (x : (List Int) × (List Int)) : Option (Bool × (List Int) × (List Int)) := (zaH x).run fun _ => none
def io_zaH : Io := ⟨n_zaH,[.sl tV,.sl tV],[.lf (qm 0),.lf (qm 1)],[],[[.sl tV],[.sl tV]],[tB,.sl tV,.sl tV],.tup [(false,[qr 0]),(false,[qr 1]),(false,[qm 0])],[],[(true,.arr 122 (qm 1)),(true,.arr 122 (qm 2))],false⟩
def zaH_P : List zch := [zaH_p1018]
def zaH_T : zcl := tab [e_zaK,e_zaL,e_zQ,e_zo,e_zaO,e_zV,e_zav,e_zba,e_zbW,e_zar]
theorem zaH_To : zck pg zaH_T := zci ⟨e_zaK_ok,e_zaL_ok,e_zQ_ok,e_zo_ok,e_zaO_ok,e_zV_ok,e_zav_ok,e_zba_ok,zit,zgv,trivial⟩
theorem zaH_k1018 : (zaH_p1018).OK pg (zaH_T) (zcB 98 (zaH_P)) (zcs f_zaH) 98 := ⟨by kernel_rfl,fun i x => by kernel_rfl⟩
theorem zaH_go : zcy pg (zaH_T) io_zaH f_zaH (zaH_P) [.nilRow 4 800004 122 tV,.nilRow 5 800005 122 tV,.ren 4 700004,.ren 5 700005,.ren 4 900004,.ren 5 900005] (zaH) := ⟨by kernel_rfl,by kernel_rfl,fun x => by kernel_rfl⟩
theorem ok_zaH : io_zaH.Okay pg (F_zaH) := zcu zcj (zaH_To) (zaH_go) ⟨zaH_k1018,trivial⟩
theorem div_l {vs : List Int} (hv : wfd B32 vs = true) (h2 : 2 ≤ vs.length) (hnorm : B32 ≤ 2 * (vs.getD (vs.length - 1) 0).toNat) :
  ∀ (jj : Nat) (us qs : List Int),wfd B32 us = true → jj + vs.length ≤ us.length → us.length ≤ 2 ^ 41 → val B32 us < B32 ^ jj * val B32 vs → wfd B32 qs = true → jj ≤ qs.length → (∀ i,i < jj → qs.getD i 0 = 0) → qs.length ≤ 2 ^ 41 →
   ∃ us' qs',lo zhB vs ((jj : Int) - 1,us,qs) = some (us',qs') ∧ wfd B32 us' = true ∧ us'.length = us.length ∧ wfd B32 qs' = true ∧ qs'.length = qs.length ∧ val B32 us' < val B32 vs ∧
    ∃ D,val B32 us = val B32 us' + D * val B32 vs ∧ val B32 qs' = val B32 qs + D
 | 0,us,qs,hu,_,_,hU,hq,_,_,_ => by
  refine ⟨us,qs,?_,hu,rfl,hq,rfl,by simpa using hU,0,by simp,by simp⟩
  rw [zcr,zhB]
  simp only [RT.run]
  rw [if_neg (by simp)]
 | jj + 1,us,qs,hu,hl,hl2,hU,hq,hql,hqz,hql2 => by
  have hV : 0 < val B32 vs := by
   apply Nat.pos_of_ne_zero
   intro h
   rw [h,Nat.mul_zero] at hU
   exact Nat.not_lt_zero _ hU
  have pj : 0 < B32 ^ jj := Nat.pow_pos (by decide)
  have hVlt := zcQ (by decide : 0 < B32) hv
  have hU' : val B32 us < B32 ^ jj * (B32 * val B32 vs) := by rw [← Nat.mul_assoc,← Nat.pow_succ]; exact hU
  have hUj : val B32 us / B32 ^ jj < B32 * val B32 vs := by rw [Nat.div_lt_iff_lt_mul pj,Nat.mul_comm]; exact hU'
  have hwin : val B32 us / B32 ^ jj % B32 ^ (vs.length + 1) = val B32 us / B32 ^ jj := by
   rw [Nat.mod_eq_of_lt]
   refine Nat.lt_trans hUj ?_
   rw [Nat.pow_succ,Nat.mul_comm (B32 ^ vs.length)]
   exact (Nat.mul_lt_mul_left (by decide)).2 hVlt
  have hQ := Nat.div_mul_le_self (val B32 us / B32 ^ jj) (val B32 vs)
  have hQ' : val B32 us / B32 ^ jj < (val B32 us / B32 ^ jj / val B32 vs + 1) * val B32 vs := by
   rw [Nat.mul_comm]
   exact Nat.lt_mul_div_succ _ hV
  have hQB : val B32 us / B32 ^ jj / val B32 vs < B32 := by rw [Nat.div_lt_iff_lt_mul hV]; exact hUj
  obtain ⟨g,hg,hg1,hg2⟩ := guess_F (j := jj) hu hv h2 (by omega) hl2 hnorm (by rw [hwin]; exact hUj) (by rw [hwin]; exact hQ) (by rw [hwin]; exact hQ')
  generalize hQd : val B32 us / B32 ^ jj / val B32 vs = Q at *
  have hB : B32 = 4294967296 := rfl
  have ix : (((jj + 1 : Nat) : Int) - 1) = (jj : Int) := by omega
  have wj : w64 ((jj : Int) - 1) = (jj : Int) - 1 := by rw [zcm]; omega
  have rd := div_round hu hv (j := jj) (by omega) hV hU' hQ hQ' hg1 hg2
  have hq1 : wfd B32 (qs.set jj (Q : Int)) = true := zfe hq ⟨Int.natCast_nonneg _,Int.ofNat_lt.2 hQB⟩
  have hqv := zhx (b := B32) (xs := qs) (i := jj) (d := (Q : Int)) (by omega)
  rw [hqz jj (by omega)] at hqv
  simp only [Int.toNat_natCast,Int.toNat_zero,Nat.mul_zero,Nat.add_zero] at hqv
  have step : ∀ us1 : List Int,wfd B32 us1 = true → us1.length = us.length → val B32 us1 + B32 ^ jj * (Q * val B32 vs) = val B32 us →
    ∃ us' qs',lo zhB vs ((jj : Int) - 1,us1,qs.set jj (Q : Int)) = some (us',qs') ∧ wfd B32 us' = true ∧ us'.length = us.length ∧ wfd B32 qs' = true ∧ qs'.length = qs.length ∧ val B32 us' < val B32 vs ∧
     ∃ D,val B32 us = val B32 us' + D * val B32 vs ∧ val B32 qs' = val B32 qs + D := by
   intro us1 hw1 hl1 hv1
   have hlt : val B32 us1 < B32 ^ jj * val B32 vs := by
    have h3 : val B32 us < B32 ^ jj * ((Q + 1) * val B32 vs) := Nat.lt_of_lt_of_le (Nat.lt_mul_div_succ (val B32 us) pj) (Nat.mul_le_mul_left _ hQ')
    rw [Nat.add_mul,Nat.one_mul,Nat.mul_add] at h3
    omega
   obtain ⟨us',qs',h4,h5,h6,h7,h8,h9,D,h10,h11⟩ := div_l hv h2 hnorm jj us1 (qs.set jj (Q : Int)) hw1 (by omega) (by omega) hlt hq1 (by rw [List.length_set]; omega)
    (fun i hi => by rw [List.getD,List.getElem?_set]; rw [if_neg (by omega)]; exact hqz i (by omega)) (by rw [List.length_set]; omega)
   refine ⟨us',qs',h4,h5,by omega,h7,by rw [h8,List.length_set],h9,D + B32 ^ jj * Q,?_,?_⟩
   ·rw [Nat.add_mul,Nat.mul_assoc]; omega
   ·rw [h11]; omega
  rw [zcr,zhB,ix]
  simp only [RT.run,hg,Option.bind_some]
  rw [if_pos (by simp)]
  have hqs : inB qs (jj : Int) = true := by rw [zdi]; simp; omega
  rw [away_F (q := g) hu hv (by omega) (by omega) hl2]
  simp only [Option.bind_some,wj,sIn]
  rcases rd with ⟨r1,r2,r3,r4,r5⟩ | ⟨r1,r2,r3,r4,r5,r6,r7⟩
  ·rw [r1,if_neg (by simp),if_pos hqs,r2]
   have wq : zdO (Q : Int) = (Q : Int) := zgh ⟨Int.natCast_nonneg _,by omega⟩
   rw [r2] at r3 r4 r5
   rw [wq]
   exact step _ r3 r4 r5
  ·rw [r1,if_pos (by simp),back_F r3 hv (by omega) (by omega)]
   simp only [Option.bind_some]
   rw [if_pos hqs,r2]
   have wq : zdO (zcx (((Q + 1 : Nat) : Int) - 1)) = (Q : Int) := by
    rw [show ((Q + 1 : Nat) : Int) - 1 = (Q : Int) by omega,zcD (by omega),zgh (by omega)]
   rw [r2] at r5 r6 r7
   rw [wq]
   exact step _ r5 r6 r7
def zff (va vb : Nat) : Bool × List Int × List Int := if vb = 0 then (false,[],[]) else (true,zcg B32 (va / vb),zcg B32 (va % vb))
def e_zaH : zcq := io_zaH.sp (fun (a,b) => okL 38 a && okL 38 b) (fun (a,b) => zff (val B32 a) (val B32 b))
theorem sp_zaH (h : ∀ (a : List Int) (b : List Int),WfT [.sl tV,.sl tV] (a,b) → (okL 38 a && okL 38 b) = true → (zaH (a,b)).run (fun _ => none) = some (zff (val B32 a) (val B32 b))) : e_zaH.ok pg := zcw ok_zaH fun (a,b) hw hc => h a b hw hc
theorem e_zaH_ok : e_zaH.ok pg := sp_zaH fun a b hw hc => by
 have ha : wfd B32 a = true := zdq hw.1
 have hb : wfd B32 b = true := zdq hw.2
 simp only [Bool.and_eq_true,okL38] at hc
 obtain ⟨la,lb⟩ := hc
 have la' := zjk ha
 have lb' := zjk hb
 have wa := zcS (b := B32) (by decide) (val B32 a)
 have wb := zcS (b := B32) (by decide) (val B32 b)
 have va := zcz (b := B32) (by decide) (val B32 a)
 have vb := zcz (b := B32) (by decide) (val B32 b)
 rw [zaH]
 simp only [RT.run]
 rw [if_pos (by rw [okL40]; omega),if_pos (by rw [okL40]; omega)]
 generalize hA : val B32 a = A at *
 generalize hBv : val B32 b = V at *
 by_cases hV : V = 0
 ·subst hV
  rw [if_pos (by rw [zdC]; rfl)]
  rfl
 have hV0 : 0 < V := Nat.pos_of_ne_zero hV
 have hlV : 0 < (zcg B32 V).length := by rw [zgt (by decide) hV0]; simp
 rw [if_neg (by simp only [beq_iff_eq]; omega)]
 have hdr : zff A V = (true,zcg B32 (A / V),zcg B32 (A % V)) := if_neg hV
 rw [hdr]
 simp only [va,vb]
 by_cases hlt : A < V
 ·rw [if_pos (by
   have : zde (A : Int) (V : Int) = -1 := by unfold zde; rw [if_pos (Int.ofNat_lt.2 hlt)]
   rw [this]; rfl),Nat.div_eq_of_lt hlt,Nat.mod_eq_of_lt hlt,zdC]
 rw [if_neg (by
  have : ¬ zde (A : Int) (V : Int) < 0 := by
   unfold zde
   rw [if_neg (by omega)]
   split <;> omega
  simpa using this)]
 by_cases h1 : (zcg B32 V).length = 1
 ·-- one digit
  have hVB : V < B32 := by
   have h3 := zcQ (b := B32) (by decide) wb
   rw [vb,h1,Nat.pow_one] at h3
   exact h3
  have hd : gI (zcg B32 V) 0 = (V : Int) := by
   have : gI (zcg B32 V) ((0 : Nat) : Int) = (V : Int) := by rw [gIn,digs_get (by decide),Nat.pow_zero,Nat.div_one,Nat.mod_eq_of_lt hVB]
   exact this
  have hB : B32 = 4294967296 := rfl
  have hm : A % V < V := Nat.mod_lt _ hV0
  rw [if_pos (by rw [h1]; rfl)]
  have w : zcx ((A % V : Nat) : Int) = ((A % V : Nat) : Int) := zcD ⟨Int.natCast_nonneg _,by omega⟩
  simp only [hd,Int.toNat_natCast,w]
  rw [if_pos (by rw [zcn]; omega),if_pos (by rw [Bool.and_eq_true,okL39,decide_eq_true_eq]; omega)]
 rw [if_neg (by simp only [beq_iff_eq]; omega)]
 obtain ⟨s,mb,f1,f2,f3,f4,f5,f6,f7,f8,f9⟩ := norm_facts (vb := V) (by omega)
 have hAV : V ≤ A := Nat.le_of_not_lt hlt
 obtain ⟨ma,g1,g2,g3⟩ := zeP (b := B32) (by decide) (Nat.lt_of_lt_of_le hV0 hAV)
 have hml : mb + 1 ≤ ma := by
  have := (Nat.pow_lt_pow_iff_right (by decide : 1 < B32)).1 (Nat.lt_of_le_of_lt (Nat.le_trans f6 hAV) g3)
  omega
 have w1 : w64 (((mb + 2 : Nat) : Int) - 1) = ((mb + 1 : Nat) : Int) := by rw [zcm] <;> omega
 have w2 : w64 (((ma + 1 : Nat) : Int) - ((mb + 2 : Nat) : Int)) = ((ma + 1 : Nat) : Int) - ((mb + 2 : Nat) : Int) := by rw [zcm]; omega
 have w3 : w64 (((ma + 1 : Nat) : Int) - ((mb + 2 : Nat) : Int) + 1) = ((ma - mb : Nat) : Int) := by rw [zcm] <;> omega
 have w4 : w64 (((ma - mb : Nat) : Int) - 1) = ((ma - mb : Nat) : Int) - 1 := by rw [zcm]; omega
 have hs32 : 2 ^ s ≤ B32 := by
  have : (2 : Nat) ^ s ≤ 2 ^ 32 := Nat.pow_le_pow_right (by decide) (by omega)
  exact this
 have hps : 0 < 2 ^ s := Nat.pow_pos (by decide)
 have hAs : A * 2 ^ s < B32 ^ (ma + 2) := by
  rw [Nat.pow_succ B32 (ma + 1)]
  exact Nat.lt_of_lt_of_le ((Nat.mul_lt_mul_right hps).2 g3) (Nat.mul_le_mul_left _ hs32)
 have hVs : V * 2 ^ s < B32 ^ (mb + 3) := Nat.lt_of_lt_of_le f7 (Nat.pow_le_pow_right (by decide) (by omega))
 have fv : val B32 (fixd B32 (mb + 2 + 1) (V * 2 ^ s)) = V * 2 ^ s := by rw [fixd_val,Nat.mod_eq_of_lt hVs]
 have fu : val B32 (fixd B32 (ma + 1 + 1) (A * 2 ^ s)) = A * 2 ^ s := by rw [fixd_val,Nat.mod_eq_of_lt hAs]
 have fvv : val B32 (zcg B32 (V * 2 ^ s)) = V * 2 ^ s := zcz (by decide) _
 have hdiv := div_l (vs := zcg B32 (V * 2 ^ s)) (zcS (by decide) _) (by rw [f8]; omega) (by rw [f8]; exact f9) (ma - mb) (fixd B32 (ma + 1 + 1) (A * 2 ^ s)) (List.replicate (ma - mb) 0)
  (fixd_wf (by decide) _ _) (by rw [f8,zhp]; omega) (by rw [zhp]; omega) (by
   rw [fu,fvv,← Nat.mul_assoc]
   refine (Nat.mul_lt_mul_right hps).2 ?_
   refine Nat.lt_of_lt_of_le g3 ?_
   rw [show ma + 1 = (ma - mb) + (mb + 1) by omega,Nat.pow_add]
   exact Nat.mul_le_mul_left _ f6) (zeW (by decide)) (by simp) (fun i hi => by simp [List.getD,hi]) (by simp; omega)
 obtain ⟨us',qs',d1,d2,d3,d4,d5,d6,D,d7,d8⟩ := hdiv
 rw [fu,fvv] at d7
 rw [fvv] at d6
 rw [zfm,Nat.zero_add] at d8
 rw [zhp] at d3
 rw [List.length_replicate] at d5
 have hD : D = A / V := by
  have h3 : (A * 2 ^ s) / (V * 2 ^ s) = D := by
   rw [d7,Nat.add_mul_div_right _ _ (Nat.mul_pos hV0 hps),Nat.div_eq_of_lt d6,Nat.zero_add]
  rw [← h3,Nat.mul_div_mul_right _ _ hps]
 have hR : val B32 us' = A % V * 2 ^ s := by
  have h3 : (A * 2 ^ s) % (V * 2 ^ s) = val B32 us' := by
   rw [d7,Nat.add_mul_mod_self_right,Nat.mod_eq_of_lt d6]
  rw [← h3,Nat.mul_mod_mul_right]
 have hgi : gI (zcg B32 V) ((mb + 1 : Nat) : Int) = (zcg B32 V).getD (mb + 1) 0 := gIn _ _
 rw [f1,g1]
 simp only [w1,w2,w3,w4,hgi,f2,Int.toNat_natCast,List.length_replicate,fv,zdd]
 rw [if_pos (by rw [zdi,f1]; simp),if_pos (by simp only [Bool.and_eq_true,okL39,decide_eq_true_eq]; omega),if_pos (by simp only [Bool.and_eq_true,okL39,decide_eq_true_eq]; omega),
  if_pos (by rw [okL40,zhp]; omega),if_pos (by rw [zdF]; omega),d1]
 simp only [Option.bind_some]
 rw [if_pos (by rw [okL40]; omega),if_pos (by simp only [Bool.and_eq_true,okL39,decide_eq_true_eq]; omega),d8,hD,hR,Nat.mul_div_cancel _ hps]
def zbd_b28 : Unit → ((List Int) × (List Int)) → RT ((List Int) × (List Int)) (List Int)
| _,(r0,r1) =>
 .rq 3 (.ite (decide (0 < (r1.length : Int)))
 (.rq 2 (.req (okL 38 r0 && okL 38 r1) (.rq 11 (.again (r1,(zff (val B32 r0) (val B32 r1)).2.2)))))
 (.done r0))
def zbd_p28 : zch := ⟨28,true,[],[.sl tV,.sl tV],⟨[.keep [0,1],.gc,.nilRow 0 800000 122 tV,.nilRow 1 800001 122 tV,.ren 0 700000,.ren 1 700001,.ren 0 900000,.ren 1 900001,.gc],[0,1],[.lf (qr 900000),.lf (qr 900001)],[(900000,true,.arr 122 (qm 0)),(900001,true,.arr 122 (qm 1))]⟩,[⟨2,⟨[.keep [0],.gc,.nilRow 0 800000 122 tV,.ren 0 700000,.ren 0 900000,.gc],[0],[.lf (qr 900000)],[(900000,true,.arr 122 (qm 0))]⟩,[.sl tV]⟩],zbd_b28⟩
def zbd : ((List Int) × (List Int)) → RT Unit (List Int)
| (a,b) =>
 .rq 2 (.req (okL 40 a) (.rq 1 (.req (okL 40 b) (.rq 2 (.call (lo zbd_b28 () (zcg B32 (val B32 a),zcg B32 (val B32 b))) default fun v0 =>
 .rq 2 (.done v0))))))
def F_zbd (x : (List Int) × (List Int)) : Option (List Int) := (zbd x).run fun _ => none
def io_zbd : Io := ⟨n_zbd,[.sl tV,.sl tV],[.lf (qm 0),.lf (qm 1)],[],[[.sl tV],[.sl tV]],[.sl tV],.lf (qr 0),[],[(true,.arr 122 (qm 0))],false⟩
def zbd_P : List zch := [zbd_p28]
def zbd_T : zcl := tab [e_zaH,e_zar]
theorem zbd_To : zck pg zbd_T := zci ⟨e_zaH_ok,zgv,trivial⟩
theorem zbd_k28 : (zbd_p28).OK pg (zbd_T) (zcB 25 (zbd_P)) (zcs f_zbd) 25 := ⟨by kernel_rfl,fun i x => by kernel_rfl⟩
theorem zbd_go : zcy pg (zbd_T) io_zbd f_zbd (zbd_P) [.nilRow 4 800004 122 tV,.ren 4 700004,.ren 4 900004] (zbd) := ⟨by kernel_rfl,by kernel_rfl,fun x => by kernel_rfl⟩
theorem ok_zbd : io_zbd.Okay pg (F_zbd) := zcu zcj (zbd_To) (zbd_go) ⟨zbd_k28,trivial⟩
theorem digs_len_mono {m n : Nat} (h : m ≤ n) : (zcg B32 m).length ≤ (zcg B32 n).length := by
 by_cases hm : m = 0
 ·subst hm
  rw [zdC]
  exact Nat.zero_le _
 obtain ⟨a,h1,h2,h3⟩ := zeP (b := B32) (by decide) (Nat.pos_of_ne_zero hm)
 obtain ⟨b,h4,h5,h6⟩ := zeP (b := B32) (by decide) (Nat.lt_of_lt_of_le (Nat.pos_of_ne_zero hm) h)
 have := (Nat.pow_lt_pow_iff_right (by decide : 1 < B32)).1 (Nat.lt_of_le_of_lt (Nat.le_trans h2 h) h6)
 omega
theorem zhk {k : Nat} {xs : List Int} (hw : wfd B32 xs = true) (h : okL k xs = true) : okL k (zcg B32 (val B32 xs)) = true := by
 rw [zeG] at *
 exact Nat.le_trans (zjk hw) h
theorem okL_le {k m n : Nat} (h : m ≤ n) (h' : okL k (zcg B32 n) = true) : okL k (zcg B32 m) = true := by
 rw [zeG] at *
 exact Nat.le_trans (digs_len_mono h) h'
theorem gcd_l : ∀ (V A : Nat),okL 38 (zcg B32 A) = true → okL 38 (zcg B32 V) = true → lo zbd_b28 () (zcg B32 A,zcg B32 V) = some (zcg B32 (Nat.gcd A V)) := by
 intro V
 induction V using Nat.strongRecOn with
 | ind V ih =>
  intro A hA hV
  rw [zcr,zbd_b28]
  simp only [RT.run]
  by_cases h : V = 0
  ·subst h
   rw [if_neg (by simp [zdC]),Nat.gcd_zero_right]
  ·have hV0 := Nat.pos_of_ne_zero h
   have hl : 0 < (zcg B32 V).length := by rw [zgt (by decide) hV0]; simp
   have hm := Nat.mod_lt A hV0
   rw [if_pos (by simp only [decide_eq_true_eq]; omega),if_pos (by rw [hA,hV]; rfl),zcz (by decide),zcz (by decide),zff,if_neg h]
   rw [ih (A % V) hm V hV (okL_le (Nat.le_of_lt hm) hV),Nat.gcd_comm A V,Nat.gcd_rec V A,Nat.gcd_comm]
def e_zbd : zcq := io_zbd.sp (fun (a,b) => okL 38 a && okL 38 b) (fun (a,b) => zcg B32 (Nat.gcd (val B32 a) (val B32 b)))
theorem sp_zbd (h : ∀ (a : List Int) (b : List Int),WfT [.sl tV,.sl tV] (a,b) → (okL 38 a && okL 38 b) = true → (zbd (a,b)).run (fun _ => none) = some (zcg B32 (Nat.gcd (val B32 a) (val B32 b)))) : e_zbd.ok pg := zcw ok_zbd fun (a,b) hw hc => h a b hw hc
theorem e_zbd_ok : e_zbd.ok pg := sp_zbd fun a b hw hc => by
 have ha : wfd B32 a = true := zdq hw.1
 have hb : wfd B32 b = true := zdq hw.2
 rw [Bool.and_eq_true] at hc
 rw [zbd]
 simp only [RT.run]
 rw [if_pos (zik (by decide) hc.1),if_pos (zik (by decide) hc.2),gcd_l _ _ (zhk ha hc.1) (zhk hb hc.2)]
 rfl
def zbY : ((List Int) × (List Int)) → RT Unit (List Int)
| (a,b) =>
 .rq 4 (.req (okL 38 a && okL 38 b) (.req (okL 38 a && okL 38 (zcg B32 (Nat.gcd (val B32 a) (val B32 b)))) (.rq 9 (let t0 := zff (val B32 a) (val B32 (zcg B32 (Nat.gcd (val B32 a) (val B32 b))));
 .ite (!t0.1)
 (.rq 1 (.done []))
 (.rq 3 (let t1 := [t0.2.1,b];
 .req (okMs t1) (.rq 1 (.done (zcg B32 (zeB t1))))))))))
def F_zbY (x : (List Int) × (List Int)) : Option (List Int) := (zbY x).run fun _ => none
def io_zbY : Io := ⟨n_zbY,[.sl tV,.sl tV],[.lf (qm 0),.lf (qm 1)],[],[[.sl tV],[.sl tV]],[.sl tV],.lf (qr 0),[],[(true,.arr 122 (qm 0))],false⟩
def zbY_P : List zch := []
def zbY_T : zcl := tab [e_zbd,e_zaH,e_zaz]
theorem zbY_To : zck pg zbY_T := zci ⟨e_zbd_ok,e_zaH_ok,zhY,trivial⟩
theorem zbY_go : zcy pg (zbY_T) io_zbY f_zbY (zbY_P) [.nilRow 4 800004 122 tV,.ren 4 700004,.ren 4 900004] (zbY) := ⟨by kernel_rfl,by kernel_rfl,fun x => by kernel_rfl⟩
theorem ok_zbY : io_zbY.Okay pg (F_zbY) := zcu zcj (zbY_To) (zbY_go) trivial
def e_zbY : zcq := io_zbY.sp (fun (a,b) => okL 36 a && okL 36 b) (fun (a,b) => zcg B32 (Nat.lcm (val B32 a) (val B32 b)))
theorem sp_zbY (h : ∀ (a : List Int) (b : List Int),WfT [.sl tV,.sl tV] (a,b) → (okL 36 a && okL 36 b) = true → (zbY (a,b)).run (fun _ => none) = some (zcg B32 (Nat.lcm (val B32 a) (val B32 b)))) : e_zbY.ok pg := zcw ok_zbY fun (a,b) hw hc => h a b hw hc
theorem e_zbY_ok : e_zbY.ok pg := sp_zbY fun a b hw hc => by
 have ha : wfd B32 a = true := zdq hw.1
 have hb : wfd B32 b = true := zdq hw.2
 rw [Bool.and_eq_true] at hc
 have h1 := zik (m := 38) (by decide) hc.1
 have h2 := zik (m := 38) (by decide) hc.2
 rw [zbY]
 simp only [RT.run]
 have hg : okL 38 (zcg B32 (Nat.gcd (val B32 a) (val B32 b))) = true := by
  by_cases h0 : val B32 a = 0
  ·rw [h0,Nat.gcd_zero_left]; exact zhk hb h2
  ·exact okL_le (Nat.gcd_le_left _ (Nat.pos_of_ne_zero h0)) (zhk ha h1)
 rw [if_pos (by rw [h1,h2]; rfl),if_pos (by rw [h1,hg]; rfl),zcz (by decide),zff]
 by_cases h0 : Nat.gcd (val B32 a) (val B32 b) = 0
 ·rw [if_pos h0]
  have e1 := Nat.eq_zero_of_gcd_eq_zero_left h0
  simp [e1,zdC]
 ·rw [if_neg h0]
  have hq := okL_le (Nat.div_le_self (val B32 a) (Nat.gcd (val B32 a) (val B32 b))) (zhk ha hc.1)
  rw [if_neg (by simp)]
  simp only
  rw [if_pos (by
   rw [zeX]
   rw [okL36] at hq hc
   rw [okL36] at hc
   simp [lenS]
   omega)]
  have e : zeB [zcg B32 (val B32 a / Nat.gcd (val B32 a) (val B32 b)),b] = Nat.lcm (val B32 a) (val B32 b) := by
   simp only [zeB,List.map_cons,List.map_nil,List.prod_cons,List.prod_nil,Nat.mul_one,zcz (show 2 ≤ B32 by decide)]
   rw [Nat.lcm,Nat.mul_comm,← Nat.mul_div_assoc _ (Nat.gcd_dvd_left _ _),Nat.mul_comm]
  rw [e]
end
end Go.Proofs.YtlfdidaeachpoaaGreat
namespace Go.Proofs.YtlfdidaeachpoaaGreat
open Go Go.RowKit
set_option maxRecDepth 100000
noncomputable section
abbrev B16 : Nat := 65536
def okM (k : Nat) (xs : List Int) : Bool := decide (xs.length ≤ 2 ^ k) && wfd B16 xs
theorem zcV {k : Nat} {xs : List Int} : okM k xs = true ↔ xs.length ≤ 2 ^ k ∧ wfd B16 xs = true := by
 simp [okM]
theorem getD16 {xs : List Int} (h : wfd B16 xs = true) (i : Nat) : ∃ d : Nat,xs.getD i 0 = (d : Int) ∧ d < 65536 := by
 have := zhE (by decide : 0 < B16) h i
 have hB : (B16 : Int) = 65536 := rfl
 exact ⟨(xs.getD i 0).toNat,by omega,by omega⟩
theorem tdiv16 (x : Nat) : Int.tdiv (x : Int) 65536 = ((x / 65536 : Nat) : Int) := tdivN x 65536
theorem tmod16 (x : Nat) : Int.tmod (x : Int) 65536 = ((x % 65536 : Nat) : Int) := tmodN x 65536
theorem zgb {b : Nat} {xs ys : List Int} (hb : b ≤ 64) (h : xs.length + ys.length ≤ 2199023255552) : zdK b xs ys = true := by
 rw [zeI,maxLen_eq]
 have : (xs.length + ys.length) * b ≤ 2199023255552 * 64 := Nat.mul_le_mul h hb
 omega
theorem inB_t {xs : List Int} {i : Nat} (h : i < xs.length) : inB xs (i : Int) = true := by rw [zdi]; exact decide_eq_true h
def zaY : ((List Int) × Int) → RT Unit Int
| (a_0,i) =>
 .rq 7 (.ite (decide (i < (a_0.length : Int)))
 (.rq 3 (.req (inB a_0 i) (.rq 2 (.done (gI a_0 i)))))
 (.rq 1 (.done 0)))
def F_zaY (x : (List Int) × Int) : Option Int := (zaY x).run fun _ => none
def io_zaY : Io := ⟨n_zaY,[.sl tI,tI],[.agg [qm 0],.lf (qm 1)],[],[[.sl tI],[tI]],[tI],.lf (qm 0),[],[],false⟩
def zaY_P : List zch := []
def zaY_T : zcl := tab []
theorem zaY_To : zck pg zaY_T := zci trivial
theorem zaY_go : zcy pg (zaY_T) io_zaY f_zaY (zaY_P) [] (zaY) := ⟨by kernel_rfl,by kernel_rfl,fun x => by kernel_rfl⟩
theorem ok_zaY : io_zaY.Okay pg (F_zaY) := zcu zcj (zaY_To) (zaY_go) trivial
def e_zaY : zcq := io_zaY.sp (fun (a,i) => decide (0 ≤ i)) (fun (a,i) => dig a i)
theorem sp_zaY (h : ∀ (a : List Int) (i : Int),WfT [.sl tI,tI] (a,i) → (decide (0 ≤ i)) = true → (zaY (a,i)).run (fun _ => none) = some (dig a i)) : e_zaY.ok pg := zcw ok_zaY fun (a,i) hw hc => h a i hw hc
theorem e_zaY_ok : e_zaY.ok pg := sp_zaY fun a i _ hc => by
 replace hc : 0 ≤ i := of_decide_eq_true hc
 rw [zaY,dig]
 simp only [RT.run,decide_eq_true_eq]
 split
 ·rw [if_pos (by rw [zcn]; omega)]; rfl
 ·rfl
theorem dig16 {xs : List Int} (h : wfd B16 xs = true) (i : Nat) : ∃ d : Nat,dig xs (i : Int) = (d : Int) ∧ d < 65536 ∧ d = val B16 xs / B16 ^ i % B16 := by
 have e := zfd (b := B16) (by decide) h (i := i)
 exact ⟨_,e,Nat.mod_lt _ (by decide),rfl⟩
def zaS_b28 : (List Int) → Int → RT Int Int
| d,n =>
 .rq 6 (let t0 := decide (0 < n);
 let t1 := w64 (n - 1);
 .req ((inB d t1) || (!t0)) (.rq 3 (.ite (t0 && ((gI d t1) == 0))
 (.rq 3 (.again t1))
 (.done n))))
def zaS_p28 : zch := ⟨28,true,[.sl tI],[tI],⟨[.keep [0,2,3],.gc],[0,2,3],[.lf (qi 0),.lf (qp 32),.lf (qm 0)],[(32,true,.cells [.fix (.nil)])]⟩,[⟨2,⟨[.keep [0,2,3],.gc],[0,2,3],[.lf (qi 0),.lf (qp 32),.lf (qm 0)],[(32,true,.cells [.fix (.nil)])]⟩,[tI]⟩],zaS_b28⟩
def zaS : (List Int) → RT Unit (List Int)
| d =>
 .rq 4 (.call (lo zaS_b28 d (d.length : Int)) default fun v0 =>
 .rq 3 (.req (zgC d v0) (.req (zdK 8 [] (takeI d v0)) (.rq 2 (.done ([] ++ (takeI d v0)))))))
def F_zaS (x : (List Int)) : Option (List Int) := (zaS x).run fun _ => none
def io_zaS : Io := ⟨n_zaS,[.sl tI],[.lf (qm 0)],[],[[.sl tI]],[.sl tI],.agg [qr 0],[],[(true,.arr 3 (qm 0))],false⟩
def zaS_P : List zch := [zaS_p28]
def zaS_T : zcl := tab []
theorem zaS_To : zck pg zaS_T := zci trivial
theorem zaS_k28 : (zaS_p28).OK pg (zaS_T) (zcB 24 (zaS_P)) (zcs f_zaS) 24 := ⟨by kernel_rfl,fun i x => by kernel_rfl⟩
theorem zaS_go : zcy pg (zaS_T) io_zaS f_zaS (zaS_P) [.cellRow 32 0 600032 3 tI,.cellRen 32 0 600032] (zaS) := ⟨by kernel_rfl,by kernel_rfl,fun x => by kernel_rfl⟩
theorem ok_zaS : io_zaS.Okay pg (F_zaS) := zcu zcj (zaS_To) (zaS_go) ⟨zaS_k28,trivial⟩
theorem cut16_l {xs : List Int} (hl : xs.length ≤ 2 ^ 40) : ∀ m : Nat,m ≤ xs.length → lo zaS_b28 xs (m : Int) = some ((cutN xs m : Nat) : Int)
 | 0,_ => by
  rw [zcr,zaS_b28]
  simp [RT.run,inB,cutN]
 | m + 1,h => by
  rw [zcr,zaS_b28]
  have w : w64 (((m + 1 : Nat) : Int) - 1) = (m : Int) := by rw [zcm] <;> omega
  simp only [RT.run,w,gIn]
  rw [if_pos (by rw [zdi]; simp; omega),cutN]
  by_cases h0 : xs.getD m 0 = 0
  ·rw [if_pos (by rw [h0]; simp),if_pos h0]
   exact cut16_l hl m (by omega)
  ·rw [if_neg (by simp only [Bool.and_eq_true,decide_eq_true_eq,beq_iff_eq]; exact fun h => h0 h.2),if_neg h0]
def e_zaS : zcq := io_zaS.sp (fun d => okM 40 d) (fun d => zcg B16 (val B16 d))
theorem sp_zaS (h : ∀ (d : List Int),WfT [.sl tI] d → (okM 40 d) = true → (zaS d).run (fun _ => none) = some (zcg B16 (val B16 d))) : e_zaS.ok pg := zcw ok_zaS fun d hw hc => h d hw hc
theorem e_zaS_ok : e_zaS.ok pg := sp_zaS fun d _ hc => by
 rw [zcV] at hc
 rw [zaS]
 simp only [RT.run,cut16_l hc.1 d.length (Nat.le_refl _),Option.bind_some]
 have hc' := cutN_le d d.length
 have h1 : zgC d (cutN d d.length : Int) = true := by simp [zgC]; omega
 have h2 : takeI d (cutN d d.length : Int) = cut d := by simp [takeI,cut]
 rw [if_pos h1,h2,if_pos (zgb (by decide) (by show 0 + (d.take _).length ≤ _; rw [List.length_take]; omega)),← cut_eq (by decide) hc.2]
 rfl
def zbf_b28 : Unit → (Int × (List Int)) → RT (Int × (List Int)) (List Int)
| _,(n,r3) =>
 .rq 2 (.ite (decide (0 < n))
 (.rq 5 (let t0 := [w64 (Int.tmod n 65536)];
 .req (zdK 8 r3 t0) (.rq 4 (.again (zcx (Int.tdiv n 65536),r3 ++ t0)))))
 (.done r3))
def zbf_p28 : zch := ⟨28,true,[],[tU,.sl tI],⟨[.keep [0,2,3],.gc,.nilRow 3 800003 3 tI,.ren 3 700003,.ren 3 900003,.gc],[0,2,3],[.lf (qm 0),.lf (qp 32),.lf (qr 900003)],[(32,true,.cells [.fix (.nil)]),(900003,true,.arr 3 (qm 1))]⟩,[⟨2,⟨[.keep [2,3],.gc,.nilRow 3 800003 3 tI,.ren 3 700003,.ren 3 900003,.gc],[2,3],[.lf (qp 32),.lf (qr 900003)],[(32,true,.cells [.fix (.nil)]),(900003,true,.arr 3 (qm 0))]⟩,[.sl tI]⟩],zbf_b28⟩
def zbf : Int → RT Unit (List Int)
| n =>
 .rq 2 (.call (lo zbf_b28 () (n,[])) default fun v0 =>
 .rq 3 (.done v0))
def F_zbf (x : Int) : Option (List Int) := (zbf x).run fun _ => none
def io_zbf : Io := ⟨n_zbf,[tU],[.lf (qm 0)],[],[[tU]],[.sl tI],.agg [qr 0],[],[(true,.arr 3 (qm 0))],false⟩
def zbf_P : List zch := [zbf_p28]
def zbf_T : zcl := tab []
theorem zbf_To : zck pg zbf_T := zci trivial
theorem zbf_k28 : (zbf_p28).OK pg (zbf_T) (zcB 16 (zbf_P)) (zcs f_zbf) 16 := ⟨by kernel_rfl,fun i x => by kernel_rfl⟩
theorem zbf_go : zcy pg (zbf_T) io_zbf f_zbf (zbf_P) [.cellRow 32 0 600032 3 tI,.cellRen 32 0 600032] (zbf) := ⟨by kernel_rfl,by kernel_rfl,fun x => by kernel_rfl⟩
theorem ok_zbf : io_zbf.Okay pg (F_zbf) := zcu zcj (zbf_To) (zbf_go) ⟨zbf_k28,trivial⟩
theorem of16_l : ∀ (x : Nat) (out : List Int),x < 2 ^ 64 → out.length + x < 2 ^ 64 + 10 → out.length ≤ 10000 → (x < 65536 ^ (10000 - out.length)) → lo zbf_b28 () ((x : Int),out) = some (out ++ zcg B16 x) := by
 intro x
 induction x using Nat.strongRecOn with
 | ind x ih =>
  intro out hx ho hl hp
  rw [zcr,zbf_b28]
  by_cases h : x = 0
  ·subst h
   simp [RT.run,zdC]
  ·have hx0 := Nat.pos_of_ne_zero h
   have hl' : out.length < 10000 := by
    apply Nat.lt_of_le_of_ne hl
    intro e
    rw [e,Nat.sub_self,Nat.pow_zero] at hp
    omega
   have w1 : zcx ((x / 65536 : Nat) : Int) = ((x / 65536 : Nat) : Int) := zcD ⟨Int.natCast_nonneg _,by omega⟩
   have w2 : w64 ((x % 65536 : Nat) : Int) = ((x % 65536 : Nat) : Int) := zcm (by omega)
   simp only [RT.run,tdiv16,tmod16,w1,w2]
   rw [if_pos (by simp; omega),if_pos (zgb (by decide) (by simp; omega))]
   rw [ih (x / 65536) (by omega) _ (by omega) (by simp; omega) (by simp; omega) (by
    rw [List.length_append,List.length_singleton,Nat.div_lt_iff_lt_mul (by decide),← Nat.pow_succ,show (10000 - (out.length + 1)).succ = 10000 - out.length by omega]
    exact hp),zgt (by decide) hx0,List.append_assoc]
   rfl
def e_zbf : zcq := io_zbf.sp (fun n => true) (fun n => zcg B16 n.toNat)
theorem sp_zbf (h : ∀ (n : Int),WfT [tU] n → (zbf n).run (fun _ => none) = some (zcg B16 n.toNat)) : e_zbf.ok pg := zcw ok_zbf fun n hw hc => h n hw
theorem zid : e_zbf.ok pg := sp_zbf fun n hw => by
 have hw' : 0 ≤ n ∧ n < 18446744073709551616 := hw
 obtain ⟨m,rfl⟩ := Int.eq_ofNat_of_zero_le hw'.1
 rw [zbf,Int.toNat_natCast]
 simp only [RT.run]
 rw [of16_l m [] (by omega) (by simp; omega) (by simp) (by
  refine Nat.lt_of_lt_of_le (show m < 65536 ^ 4 by omega) (Nat.pow_le_pow_right (by decide) (by simp)))]
 rfl
def zio : (List Int) → (Int × Int) → RT (Int × Int) Int
| a,(n,i) =>
 .rq 2 (.ite (decide (0 ≤ i))
 (.rq 5 (.req (inB a i) (.rq 7 (.again (zcx ((zcx (n * 65536)) + (zcx (gI a i))),w64 (i - 1))))))
 (.done n))
def zay_p122 : zch := ⟨122,true,[.sl tI],[tU,tI],⟨[.keep [1,4,5],.gc],[1,4,5],[.lf (qp 16),.lf (qm 0),.lf (qm 1)],[(16,true,.cells [qi 0])]⟩,[⟨2,⟨[.keep [4],.gc],[4],[.lf (qm 0)],[]⟩,[tU]⟩],zio⟩
def zay : (List Int) → RT Unit (Int × Bool)
| a_0 =>
 .rq 7 (.ite (decide (4 < (a_0.length : Int)))
 (.rq 2 (.done (0,false)))
 (.rq 6 (.call (lo zio a_0 (0,w64 ((a_0.length : Int) - 1))) default fun v0 =>
 .rq 3 (.done (v0,true)))))
def F_zay (x : (List Int)) : Option (Int × Bool) := (zay x).run fun _ => none
def io_zay : Io := ⟨n_zay,[.sl tI],[.agg [qm 0]],[],[[.sl tI]],[tU,tB],.tup [(false,[qm 0]),(false,[qm 1])],[],[],false⟩
def zay_P : List zch := [zay_p122]
def zay_T : zcl := tab []
theorem zay_To : zck pg zay_T := zci trivial
theorem zay_k122 : (zay_p122).OK pg (zay_T) (zcB 28 (zay_P)) (zcs f_zay) 28 := ⟨by kernel_rfl,fun i x => by kernel_rfl⟩
theorem zay_go : zcy pg (zay_T) io_zay f_zay (zay_P) [] (zay) := ⟨by kernel_rfl,by kernel_rfl,fun x => by kernel_rfl⟩
theorem ok_zay : io_zay.Okay pg (F_zay) := zcu zcj (zay_To) (zay_go) ⟨zay_k122,trivial⟩
theorem word16_l {xs : List Int} (hw : wfd B16 xs = true) (hl : xs.length ≤ 4) : ∀ (m o : Nat),m ≤ xs.length → o = val B16 xs / B16 ^ m → lo zio xs ((o : Int),(m : Int) - 1) = some (val B16 xs : Int)
 | 0,o,_,ho => by
  rw [zcr,zio]
  rw [Nat.pow_zero,Nat.div_one] at ho
  subst ho
  simp [RT.run]
 | m + 1,o,hm,ho => by
  rw [zcr,zio]
  obtain ⟨d,hd,hd'⟩ := getD16 hw m
  have hv := zcQ (by decide : 0 < B16) hw
  have hv4 : val B16 xs < B16 ^ 4 := Nat.lt_of_lt_of_le hv (Nat.pow_le_pow_right (by decide) hl)
  have dv : val B16 xs / B16 ^ m % B16 = d := by
   have := zem (by decide : 0 < B16) m hw
   rw [hd] at this; exact Int.ofNat_inj.1 this
  have step : o * 65536 + d = val B16 xs / B16 ^ m := by
   rw [ho,← dv,Nat.pow_succ,← Nat.div_div_eq_div_mul]
   have := Nat.div_add_mod (val B16 xs / B16 ^ m) B16
   have hB : B16 = 65536 := rfl
   rw [hB] at this ⊢
   omega
  have hle : val B16 xs / B16 ^ m ≤ val B16 xs := Nat.div_le_self _ _
  have h64 : B16 ^ 4 = 18446744073709551616 := by decide
  have e0 : (((m + 1 : Nat) : Int) - 1) = (m : Int) := by omega
  have w1 : zcx ((o : Int) * 65536) = ((o * 65536 : Nat) : Int) := by rw [zcD] <;> omega
  have w2 : zcx (d : Int) = (d : Int) := zcD (by omega)
  have w3 : zcx (((o * 65536 : Nat) : Int) + (d : Int)) = ((o * 65536 + d : Nat) : Int) := by rw [zcD] <;> omega
  have w4 : w64 ((m : Int) - 1) = (m : Int) - 1 := zcm (by omega)
  simp only [RT.run,e0,gIn,hd,w1,w2,w3,w4]
  rw [if_pos (by simp),if_pos (inB_t (by omega))]
  exact word16_l hw hl m _ (by omega) step
def e_zay : zcq := io_zay.sp (fun a => wfd B16 a) (fun a => (if a.length ≤ 4 then ((val B16 a : Nat) : Int) else 0,decide (a.length ≤ 4)))
theorem sp_zay (h : ∀ (a : List Int),WfT [.sl tI] a → (wfd B16 a) = true → (zay a).run (fun _ => none) = some (if a.length ≤ 4 then ((val B16 a : Nat) : Int) else 0,decide (a.length ≤ 4))) : e_zay.ok pg := zcw ok_zay fun a hw hc => h a hw hc
theorem e_zay_ok : e_zay.ok pg := sp_zay fun a _ hw => by
 rw [zay]
 simp only [RT.run]
 by_cases h : a.length ≤ 4
 ·rw [if_neg (by simp; omega),if_pos h]
  have w : w64 ((a.length : Int) - 1) = (a.length : Int) - 1 := zcm (by omega)
  have := word16_l hw h a.length 0 (Nat.le_refl _) (by rw [Nat.div_eq_of_lt (zcQ (by decide) hw)])
  rw [w]
  change (lo zio a (((0 : Nat) : Int),_)).bind _ = _
  rw [this]
  simp [h]
 ·rw [if_pos (by simp; omega),if_neg h]
  simp [h]
def zaq_b14 : (Int × (List Int)) → RT Unit Int
| (n,b) =>
 .rq 5 (.ite (decide (n < (b.length : Int)))
 (.rq 4 (.done (b.length : Int)))
 (.done n))
def zaq_p14 : zch := ⟨14,false,[tI,.sl tI,.sl tI],[],⟨[.keep [2,3,5],.gc],[2,3,5],[.lf (qp 32),.lf (qp 48),.lf (qi 0)],[(32,true,.cells [qi 1]),(48,true,.cells [qi 2])]⟩,[⟨0,⟨[.keep [2,3,5],.gc],[2,3,5],[.lf (qp 32),.lf (qp 48),.lf (qm 0)],[(32,true,.cells [qi 1]),(48,true,.cells [qi 2])]⟩,[tI]⟩],(fun i _ => zaq_b14 (i.1,i.2.2))⟩
def zil : ((List Int) × (List Int)) → Int → RT Int (LR Int Unit)
| (a,b),i =>
 .rq 2 (.ite (decide (0 ≤ i))
 (.rq 2 (.req (decide (0 ≤ i)) (.rq 2 (.req (decide (0 ≤ i)) (.rq 1 (.ite (decide ((dig a i) < (dig b i)))
 (.rq 1 (.done (.ex (-1))))
 (.rq 2 (.req (decide (0 ≤ i)) (.rq 2 (.req (decide (0 ≤ i)) (.rq 1 (.ite (decide ((dig b i) < (dig a i)))
 (.rq 1 (.done (.ex 1)))
 (.rq 3 (.again (w64 (i - 1))))))))))))))))
 (.done (.rt ())))
def zaq_p122 : zch := ⟨122,true,[.sl tI,.sl tI],[tI],⟨[.keep [2,3,6],.gc],[2,3,6],[.lf (qp 32),.lf (qp 48),.lf (qm 0)],[(32,true,.cells [qi 0]),(48,true,.cells [qi 1])]⟩,[⟨1,⟨[.keep [4],.gc],[4],[.lf (qm 0)],[]⟩,[tI]⟩,⟨2,⟨[.keep [],.gc],[],[],[]⟩,[]⟩],zil⟩
def zaq : ((List Int) × (List Int)) → RT Unit Int
| (a_0,b_0) =>
 .rq 7 (.call (on zaq_b14 ((a_0.length : Int),b_0)) default fun v0 =>
 .rq 3 (.call (lo zil (a_0,b_0) (w64 (v0 - 1))) default fun v1 =>
 .ite v1.isRt
 (.rq 1 (.done 0))
 (.done v1.getX)))
def F_zaq (x : (List Int) × (List Int)) : Option Int := (zaq x).run fun _ => none
def io_zaq : Io := ⟨n_zaq,[.sl tI,.sl tI],[.agg [qm 0],.agg [qm 1]],[],[[.sl tI],[.sl tI]],[tI],.lf (qm 0),[],[],false⟩
def zaq_P : List zch := [zaq_p14,zaq_p122]
def zaq_T : zcl := tab [e_zaY]
theorem zaq_To : zck pg zaq_T := zci ⟨e_zaY_ok,trivial⟩
theorem zaq_k14 : (zaq_p14).OK pg (zaq_T) (zcB 38 (zaq_P)) (zcs f_zaq) 38 := ⟨by kernel_rfl,fun i x => by kernel_rfl⟩
theorem zaq_k122 : (zaq_p122).OK pg (zaq_T) (zcB 38 (zaq_P)) (zcs f_zaq) 38 := ⟨by kernel_rfl,fun i x => by kernel_rfl⟩
theorem zaq_go : zcy pg (zaq_T) io_zaq f_zaq (zaq_P) [] (zaq) := ⟨by kernel_rfl,by kernel_rfl,fun x => by kernel_rfl⟩
theorem ok_zaq : io_zaq.Okay pg (F_zaq) := zcu zcj (zaq_To) (zaq_go) ⟨zaq_k14,zaq_k122,trivial⟩
theorem cmp16_l {a b : List Int} : ∀ m : Nat,m ≤ 2 ^ 63 - 1 → lo zil (a,b) ((m : Int) - 1) = some (if cmpN a b m = 0 then .rt () else .ex (cmpN a b m))
 | 0,_ => by
  rw [zcr,zil]
  simp [RT.run,cmpN]
 | m + 1,hm => by
  rw [zcr,zil]
  have e0 : (((m + 1 : Nat) : Int) - 1) = (m : Int) := by omega
  have w : w64 ((m : Int) - 1) = (m : Int) - 1 := zcm (by omega)
  have hp : decide ((0 : Int) ≤ (m : Int)) = true := by simp
  simp only [RT.run,e0,w,hp,if_true]
  have hcn : cmpN a b (m + 1) = if zde (dig a m) (dig b m) = 0 then cmpN a b m else zde (dig a m) (dig b m) := rfl
  by_cases h1 : dig a (m : Int) < dig b (m : Int)
  ·have : zde (dig a (m : Int)) (dig b (m : Int)) = -1 := by unfold zde; rw [if_pos h1]
   rw [if_pos (decide_eq_true h1),hcn,this]
   simp
  ·rw [if_neg (by simpa using h1)]
   by_cases h2 : dig b (m : Int) < dig a (m : Int)
   ·have : zde (dig a (m : Int)) (dig b (m : Int)) = 1 := by unfold zde; rw [if_neg h1,if_pos h2]
    rw [if_pos (decide_eq_true h2),hcn,this]
    simp
   ·have : zde (dig a (m : Int)) (dig b (m : Int)) = 0 := by unfold zde; rw [if_neg h1,if_neg h2]
    rw [if_neg (by simpa using h2),hcn,this]
    simp only [if_true]
    exact cmp16_l m (by omega)
theorem cmp16_val {a b : List Int} (ha : wfd B16 a = true) (hb : wfd B16 b = true) {m : Nat} (h1 : a.length ≤ m) (h2 : b.length ≤ m) : cmpN a b m = zde (val B16 a : Int) (val B16 b : Int) := by
 rw [cmpN_val (by decide) ha hb,Nat.mod_eq_of_lt (Nat.lt_of_lt_of_le (zcQ (by decide) ha) (Nat.pow_le_pow_right (by decide) h1)),Nat.mod_eq_of_lt (Nat.lt_of_lt_of_le (zcQ (by decide) hb) (Nat.pow_le_pow_right (by decide) h2))]
def e_zaq : zcq := io_zaq.sp (fun (a,b) => wfd B16 a && wfd B16 b) (fun (a,b) => zde ((val B16 a : Nat) : Int) ((val B16 b : Nat) : Int))
theorem sp_zaq (h : ∀ (a : List Int) (b : List Int),WfT [.sl tI,.sl tI] (a,b) → (wfd B16 a && wfd B16 b) = true → (zaq (a,b)).run (fun _ => none) = some (zde ((val B16 a : Nat) : Int) ((val B16 b : Nat) : Int))) : e_zaq.ok pg := zcw ok_zaq fun (a,b) hw hc => h a b hw hc
theorem e_zaq_ok : e_zaq.ok pg := sp_zaq fun a b hw hc => by
 have ha : Wf (.sl tI) a := hw.1
 have hb : Wf (.sl tI) b := hw.2
 have la := ha.1
 have lb := hb.1
 rw [Bool.and_eq_true] at hc
 rw [zaq]
 have fin : ∀ m : Nat,a.length ≤ m → b.length ≤ m → m ≤ 2 ^ 63 - 1 →
   ((lo zil (a,b) (w64 ((m : Int) - 1))).bind fun v => if v.isRt = true then some 0 else some v.getX) = some (zde (val B16 a : Int) (val B16 b : Int)) := by
  intro m h1 h2 h4
  rw [zcm (by omega),cmp16_l m h4,← cmp16_val hc.1 hc.2 h1 h2]
  split
  ·rename_i h
   rw [h]; rfl
  ·rfl
 simp only [RT.run,on,zaq_b14,decide_eq_true_eq]
 split
 ·exact fin b.length (by omega) (Nat.le_refl _) (by omega)
 ·exact fin a.length (Nat.le_refl _) (by omega) (by omega)
def zhr : ((List Int) × (List Int)) → (Int × Int × (List Int)) → RT (Int × Int × (List Int)) (List Int)
| (a,b),(over,i,r5) =>
 .rq 16 (.ite (((decide (i < (a.length : Int))) || (decide (i < (b.length : Int)))) || (decide (0 < over)))
 (.rq 2 (.req (decide (0 ≤ i)) (.rq 2 (.req (decide (0 ≤ i)) (.rq 8 (let t0 := w64 ((w64 ((dig a i) + (dig b i))) + over);
 let t1 := [Int.tmod t0 65536];
 .req (zdK 8 r5 t1) (.rq 7 (.again (w64 (Int.tdiv t0 65536),w64 (i + 1),r5 ++ t1)))))))))
 (.done r5))
def zaV_p122 : zch := ⟨122,true,[.sl tI,.sl tI],[tI,tI,.sl tI],⟨[.keep [2,3,4,5,6,7],.gc,.nilRow 5 800005 3 tI,.ren 5 700005,.ren 5 900005,.gc],[2,3,4,5,6,7],[.lf (qp 32),.lf (qp 48),.lf (qp 64),.lf (qr 900005),.lf (qm 0),.lf (qm 1)],[(32,true,.cells [qi 0]),(48,true,.cells [qi 1]),(64,true,.cells [.fix (.nil)]),(900005,true,.arr 3 (qm 2))]⟩,[⟨2,⟨[.keep [4,5],.gc,.nilRow 5 800005 3 tI,.ren 5 700005,.ren 5 900005,.gc],[4,5],[.lf (qp 64),.lf (qr 900005)],[(64,true,.cells [.fix (.nil)]),(900005,true,.arr 3 (qm 0))]⟩,[.sl tI]⟩],zhr⟩
def zaV : ((List Int) × (List Int)) → RT Unit (List Int)
| (a_0,b_0) =>
 .rq 6 (.call (lo zhr (a_0,b_0) (0,0,[])) default fun v0 =>
 .rq 1 (.req (okM 40 v0) (.rq 1 (.done (zcg B16 (val B16 v0))))))
def F_zaV (x : (List Int) × (List Int)) : Option (List Int) := (zaV x).run fun _ => none
def io_zaV : Io := ⟨n_zaV,[.sl tI,.sl tI],[.agg [qm 0],.agg [qm 1]],[],[[.sl tI],[.sl tI]],[.sl tI],.agg [qr 0],[],[(true,.arr 3 (qm 0))],false⟩
def zaV_P : List zch := [zaV_p122]
def zaV_T : zcl := tab [e_zaS,e_zaY]
theorem zaV_To : zck pg zaV_T := zci ⟨e_zaS_ok,e_zaY_ok,trivial⟩
theorem zaV_k122 : (zaV_p122).OK pg (zaV_T) (zcB 45 (zaV_P)) (zcs f_zaV) 45 := ⟨by kernel_rfl,fun i x => by kernel_rfl⟩
theorem zaV_go : zcy pg (zaV_T) io_zaV f_zaV (zaV_P) [.cellRow 64 0 600064 3 tI,.cellRen 64 0 600064] (zaV) := ⟨by kernel_rfl,by kernel_rfl,fun x => by kernel_rfl⟩
theorem ok_zaV : io_zaV.Okay pg (F_zaV) := zcu zcj (zaV_To) (zaV_go) ⟨zaV_k122,trivial⟩
theorem zdr {xs : List Int} (h : wfd B16 xs = true) {i : Nat} (hi : xs.length ≤ i) : val B16 xs / B16 ^ i = 0 :=
 Nat.div_eq_of_lt (Nat.lt_of_lt_of_le (zcQ (by decide) h) (Nat.pow_le_pow_right (by decide) hi))
theorem zih (x i : Nat) : x / B16 ^ i = x / B16 ^ i % B16 + B16 * (x / B16 ^ (i + 1)) := by
 rw [Nat.pow_succ,← Nat.div_div_eq_div_mul]
 exact (Nat.mod_add_div _ _).symm
theorem add16_l {a b : List Int} (ha : wfd B16 a = true) (hb : wfd B16 b = true) (la : a.length ≤ 2 ^ 39) (lb : b.length ≤ 2 ^ 39) : ∀ (r i o : Nat) (out : List Int),i + r = max a.length b.length + 1 → o ≤ 1 → (r = 0 → o = 0) →
  out.length ≤ i → ∃ D,lo zhr (a,b) ((o : Int),(i : Int),out) = some (out ++ D) ∧ wfd B16 D = true ∧ val B16 D = o + val B16 a / B16 ^ i + val B16 b / B16 ^ i ∧ D.length ≤ r := by
 intro r
 induction r with
 | zero =>
  intro i o out hi ho hz hl
  have := hz rfl
  subst this
  refine ⟨[],?_,rfl,by rw [zdr ha (by omega),zdr hb (by omega)]; rfl,Nat.le_refl _⟩
  rw [zcr,zhr]
  simp only [RT.run]
  rw [if_neg (by simp; omega)]
  simp
 | succ r ih =>
  intro i o out hi ho _ hl
  rw [zcr,zhr]
  obtain ⟨da,ea,ba,va⟩ := dig16 ha i
  obtain ⟨db,eb,bb,vb⟩ := dig16 hb i
  have w1 : w64 ((da : Int) + (db : Int)) = ((da + db : Nat) : Int) := by rw [zcm] <;> omega
  have w2 : w64 (((da + db : Nat) : Int) + (o : Int)) = ((da + db + o : Nat) : Int) := by rw [zcm] <;> omega
  have w3 : w64 (((da + db + o) / 65536 : Nat) : Int) = (((da + db + o) / 65536 : Nat) : Int) := by rw [zcm]; omega
  have w4 : w64 ((i : Int) + 1) = ((i + 1 : Nat) : Int) := by rw [zcm] <;> omega
  have hp : decide ((0 : Int) ≤ (i : Int)) = true := by simp
  have hq : zdK 8 out [(((da + db + o) % 65536 : Nat) : Int)] = true := zgb (by decide) (by simp; omega)
  simp only [RT.run,ea,eb,w1,w2,w3,w4,hp,if_true,tdiv16,tmod16,hq]
  have step : ∃ D,lo zhr (a,b) ((((da + db + o) / 65536 : Nat) : Int),((i + 1 : Nat) : Int),out ++ [(((da + db + o) % 65536 : Nat) : Int)]) = some (out ++ D) ∧ wfd B16 D = true ∧ val B16 D = o + val B16 a / B16 ^ i + val B16 b / B16 ^ i ∧ D.length ≤ r + 1 := by
   obtain ⟨D,h1,h2,h3,h4⟩ := ih (i + 1) ((da + db + o) / 65536) (out ++ [(((da + db + o) % 65536 : Nat) : Int)]) (by omega) (by omega) (fun h => by
    subst h
    have z1 := zdr ha (i := i) (by omega)
    have z2 := zdr hb (i := i) (by omega)
    rw [z1] at va
    rw [z2] at vb
    simp at va vb
    omega) (by simp; omega)
   refine ⟨(((da + db + o) % 65536 : Nat) : Int) :: D,by rw [h1,List.append_assoc]; rfl,zfg.2 ⟨⟨Int.natCast_nonneg _,Int.ofNat_lt.2 (Nat.mod_lt _ (by decide))⟩,h2⟩,?_,by simp; omega⟩
   rw [val,Int.toNat_natCast,h3]
   have s1 := zih (val B16 a) i
   have s2 := zih (val B16 b) i
   rw [← va] at s1
   rw [← vb] at s2
   have hB : B16 = 65536 := rfl
   simp only [hB] at *
   omega
  by_cases h1 : ((decide ((i : Int) < (a.length : Int)) || decide ((i : Int) < (b.length : Int))) || decide ((0 : Int) < (o : Int))) = true
  ·rw [if_pos h1]; exact step
  ·rw [if_neg h1]
   simp only [Bool.or_eq_true,decide_eq_true_eq,not_or] at h1
   refine ⟨[],by simp,rfl,?_,by simp⟩
   rw [zdr ha (by omega),zdr hb (by omega)]
   show 0 = _
   omega
def e_zaV : zcq := io_zaV.sp (fun (a,b) => okM 39 a && okM 39 b) (fun (a,b) => zcg B16 (val B16 a + val B16 b))
theorem sp_zaV (h : ∀ (a : List Int) (b : List Int),WfT [.sl tI,.sl tI] (a,b) → (okM 39 a && okM 39 b) = true → (zaV (a,b)).run (fun _ => none) = some (zcg B16 (val B16 a + val B16 b))) : e_zaV.ok pg := zcw ok_zaV fun (a,b) hw hc => h a b hw hc
theorem e_zaV_ok : e_zaV.ok pg := sp_zaV fun a b _ hc => by
 rw [Bool.and_eq_true,zcV,zcV] at hc
 obtain ⟨ha,hb⟩ := hc
 rw [zaV]
 simp only [RT.run]
 obtain ⟨D,h1,h2,h3,h4⟩ := add16_l ha.2 hb.2 ha.1 hb.1 (max a.length b.length + 1) 0 0 [] (by omega) (by omega) (by simp) (by simp)
 change (lo zhr (a,b) (((0 : Nat) : Int),((0 : Nat) : Int),[])).bind _ = _
 rw [h1]
 simp only [Option.bind_some,List.nil_append]
 rw [if_pos (zcV.2 ⟨by omega,h2⟩),h3]
 simp
def zhs : ((List Int) × (List Int)) → (Int × Int × (List Int)) → RT (Int × Int × (List Int)) (List Int)
| (a,b),(under,i,r5) =>
 .rq 5 (.ite (decide (i < (a.length : Int)))
 (.rq 2 (.req (decide (0 ≤ i)) (.rq 2 (.req (decide (0 ≤ i)) (.rq 7 (let t0 := w64 (i + 1);
 let t1 := w64 ((w64 ((dig a i) - (dig b i))) - under);
 .ite (decide (t1 < 0))
 (.rq 7 (let t2 := [w64 (t1 + 65536)];
 .req (zdK 8 r5 t2) (.rq 4 (.again (1,t0,r5 ++ t2)))))
 (.rq 3 (let t3 := [t1];
 .req (zdK 8 r5 t3) (.rq 4 (.again (0,t0,r5 ++ t3)))))))))))
 (.done r5))
def zbb_p122 : zch := ⟨122,true,[.sl tI,.sl tI],[tI,tI,.sl tI],⟨[.keep [2,3,4,5,6,7],.gc,.nilRow 5 800005 3 tI,.ren 5 700005,.ren 5 900005,.gc],[2,3,4,5,6,7],[.lf (qp 32),.lf (qp 48),.lf (qp 64),.lf (qr 900005),.lf (qm 0),.lf (qm 1)],[(32,true,.cells [qi 0]),(48,true,.cells [qi 1]),(64,true,.cells [.fix (.nil)]),(900005,true,.arr 3 (qm 2))]⟩,[⟨2,⟨[.keep [4,5],.gc,.nilRow 5 800005 3 tI,.ren 5 700005,.ren 5 900005,.gc],[4,5],[.lf (qp 64),.lf (qr 900005)],[(64,true,.cells [.fix (.nil)]),(900005,true,.arr 3 (qm 0))]⟩,[.sl tI]⟩],zhs⟩
def zbb : ((List Int) × (List Int)) → RT Unit (List Int)
| (a_0,b_0) =>
 .rq 6 (.call (lo zhs (a_0,b_0) (0,0,[])) default fun v0 =>
 .rq 1 (.req (okM 40 v0) (.rq 1 (.done (zcg B16 (val B16 v0))))))
def F_zbb (x : (List Int) × (List Int)) : Option (List Int) := (zbb x).run fun _ => none
def io_zbb : Io := ⟨n_zbb,[.sl tI,.sl tI],[.agg [qm 0],.agg [qm 1]],[],[[.sl tI],[.sl tI]],[.sl tI],.agg [qr 0],[],[(true,.arr 3 (qm 0))],false⟩
def zbb_P : List zch := [zbb_p122]
def zbb_T : zcl := tab [e_zaS,e_zaY]
theorem zbb_To : zck pg zbb_T := zci ⟨e_zaS_ok,e_zaY_ok,trivial⟩
theorem zbb_k122 : (zbb_p122).OK pg (zbb_T) (zcB 35 (zbb_P)) (zcs f_zbb) 35 := ⟨by kernel_rfl,fun i x => by kernel_rfl⟩
theorem zbb_go : zcy pg (zbb_T) io_zbb f_zbb (zbb_P) [.cellRow 64 0 600064 3 tI,.cellRen 64 0 600064] (zbb) := ⟨by kernel_rfl,by kernel_rfl,fun x => by kernel_rfl⟩
theorem ok_zbb : io_zbb.Okay pg (F_zbb) := zcu zcj (zbb_To) (zbb_go) ⟨zbb_k122,trivial⟩
theorem sub16_l {a b : List Int} (ha : wfd B16 a = true) (hb : wfd B16 b = true) (la : a.length ≤ 2 ^ 39) : ∀ (r i u : Nat) (out : List Int),i + r = a.length → u ≤ 1 → out.length ≤ i →
  ∃ D uf,lo zhs (a,b) ((u : Int),(i : Int),out) = some (out ++ D) ∧ wfd B16 D = true ∧ D.length = r ∧ uf ≤ 1 ∧ val B16 D + val B16 b / B16 ^ i % B16 ^ r + u = val B16 a / B16 ^ i % B16 ^ r + B16 ^ r * uf := by
 intro r
 induction r with
 | zero =>
  intro i u out hi hu hl
  refine ⟨[],u,?_,rfl,rfl,hu,by simp [val,Nat.mod_one]⟩
  rw [zcr,zhs]
  simp only [RT.run]
  rw [if_neg (by simp; omega)]
  simp
 | succ r ih =>
  intro i u out hi hu hl
  rw [zcr,zhs]
  obtain ⟨da,ea,ba,va⟩ := dig16 ha i
  obtain ⟨db,eb,bb,vb⟩ := dig16 hb i
  have w1 : w64 ((da : Int) - (db : Int)) = (da : Int) - (db : Int) := by rw [zcm]; omega
  have w2 : w64 ((da : Int) - (db : Int) - (u : Int)) = (da : Int) - (db : Int) - (u : Int) := by rw [zcm]; omega
  have w3 : w64 ((da : Int) - (db : Int) - (u : Int) + 65536) = (da : Int) - (db : Int) - (u : Int) + 65536 := by rw [zcm]; omega
  have w4 : w64 ((i : Int) + 1) = ((i + 1 : Nat) : Int) := by rw [zcm] <;> omega
  have hp : decide ((0 : Int) ≤ (i : Int)) = true := by simp
  have hq : ∀ x : Int,zdK 8 out [x] = true := fun x => zgb (by decide) (by simp; omega)
  simp only [RT.run,ea,eb,w1,w2,w3,w4,hp,if_true,hq]
  rw [if_pos (by simp; omega)]
  have m1 := zhl B16 (val B16 a / B16 ^ i) r
  have m2 := zhl B16 (val B16 b / B16 ^ i) r
  rw [Nat.div_div_eq_div_mul,← Nat.pow_succ,← va] at m1
  rw [Nat.div_div_eq_div_mul,← Nat.pow_succ,← vb] at m2
  have step : ∀ (x u' : Nat),x < 65536 → u' ≤ 1 → x + db + u = da + 65536 * u' → ∃ D uf,lo zhs (a,b) ((u' : Int),((i + 1 : Nat) : Int),out ++ [(x : Int)]) = some (out ++ D) ∧ wfd B16 D = true ∧ D.length = r + 1 ∧ uf ≤ 1 ∧
    val B16 D + val B16 b / B16 ^ i % B16 ^ (r + 1) + u = val B16 a / B16 ^ i % B16 ^ (r + 1) + B16 ^ (r + 1) * uf := by
   intro x u' hx hu' hxe
   obtain ⟨D,uf,h1,h2,h3,h4,h5⟩ := ih (i + 1) u' (out ++ [(x : Int)]) (by omega) hu' (by simp; omega)
   refine ⟨(x : Int) :: D,uf,by rw [h1,List.append_assoc]; rfl,zfg.2 ⟨⟨Int.natCast_nonneg _,Int.ofNat_lt.2 hx⟩,h2⟩,by simp [h3],h4,?_⟩
   have pr : B16 ^ (r + 1) = B16 * B16 ^ r := by rw [Nat.pow_succ,Nat.mul_comm]
   rw [val,Int.toNat_natCast,m1,m2,pr,Nat.mul_assoc,show i.succ = i + 1 from rfl]
   have hB : B16 = 65536 := rfl
   generalize val B16 a / B16 ^ (i + 1) % B16 ^ r = P at *
   generalize val B16 b / B16 ^ (i + 1) % B16 ^ r = Q at *
   generalize B16 ^ r * uf = W at *
   generalize val B16 D = V at *
   rw [hB] at *
   omega
  by_cases h : da < db + u
  ·rw [if_pos (by simp; omega)]
   have e : (da : Int) - (db : Int) - (u : Int) + 65536 = ((da + 65536 - db - u : Nat) : Int) := by omega
   rw [e]
   exact step _ 1 (by omega) (by omega) (by omega)
  ·rw [if_neg (by simp; omega)]
   have e : (da : Int) - (db : Int) - (u : Int) = ((da - db - u : Nat) : Int) := by omega
   rw [e]
   exact step _ 0 (by omega) (by omega) (by omega)
def e_zbb : zcq := io_zbb.sp (fun (a,b) => okM 39 a && (okM 39 b && decide (val B16 b ≤ val B16 a))) (fun (a,b) => zcg B16 (val B16 a - val B16 b))
theorem sp_zbb (h : ∀ (a : List Int) (b : List Int),WfT [.sl tI,.sl tI] (a,b) → (okM 39 a && (okM 39 b && decide (val B16 b ≤ val B16 a))) = true → (zbb (a,b)).run (fun _ => none) = some (zcg B16 (val B16 a - val B16 b))) : e_zbb.ok pg := zcw ok_zbb fun (a,b) hw hc => h a b hw hc
theorem e_zbb_ok : e_zbb.ok pg := sp_zbb fun a b _ hc => by
 simp only [Bool.and_eq_true,zcV,decide_eq_true_eq] at hc
 obtain ⟨ha,hb,hle⟩ := hc
 rw [zbb]
 simp only [RT.run]
 obtain ⟨D,uf,h1,h2,h3,h4,h5⟩ := sub16_l ha.2 hb.2 ha.1 a.length 0 0 [] (by omega) (by omega) (by simp)
 change (lo zhs (a,b) (((0 : Nat) : Int),((0 : Nat) : Int),[])).bind _ = _
 rw [h1]
 simp only [Option.bind_some,List.nil_append]
 have hv := zcQ (by decide : 0 < B16) ha.2
 have hd := zcQ (by decide : 0 < B16) h2
 rw [h3] at hd
 rw [Nat.pow_zero,Nat.div_one,Nat.div_one,Nat.mod_eq_of_lt hv,Nat.mod_eq_of_lt (Nat.lt_of_le_of_lt hle hv)] at h5
 have hz : uf = 0 := by
  have : uf ≠ 1 := by
   rintro rfl
   omega
  omega
 subst hz
 rw [if_pos (zcV.2 ⟨by omega,h2⟩),show val B16 D = val B16 a - val B16 b by omega]
end
end Go.Proofs.YtlfdidaeachpoaaGreat
namespace Go.Proofs.YtlfdidaeachpoaaGreat
open Go Go.RowKit
set_option maxRecDepth 100000
noncomputable section
def zhm : (Int × (List Int) × (List Int)) → (Int × Int × (List Int)) → RT (Int × Int × (List Int)) (List Int)
| (x6,i_2,s),(L,i,r5) =>
 .rq 9 (.ite ((decide (i < (s.length : Int))) || (decide (0 < L)))
 (.rq 4 (let t0 := w64 (x6 + i);
 let t1 := inB r5 t0;
 .req t1 (.rq 4 (.req (inB i_2 x6) (.rq 3 (.req (decide (0 ≤ i)) (.rq 11 (.req t1 (.rq 7 (let t2 := w64 ((w64 ((gI r5 t0) + (w64 ((gI i_2 x6) * (dig s i))))) + L);
 .again (w64 (Int.tdiv t2 65536),w64 (i + 1),sI r5 t0 (Int.tmod t2 65536))))))))))))
 (.done r5))
def zO_p7462 : zch := ⟨7462,true,[tI,.sl tI,.sl tI],[tI,tI,.sl tI],⟨[.keep [2,3,4,5,6,7,8],.gc,.nilRow 5 800005 3 tI,.ren 5 700005,.ren 5 900005,.gc],[2,3,4,5,6,7,8],[.lf (qp 32),.lf (qp 48),.lf (qp 64),.lf (qr 900005),.lf (qi 0),.lf (qm 0),.lf (qm 1)],[(32,true,.cells [qi 1]),(48,true,.cells [qi 2]),(64,true,.cells [.fix (.nil)]),(900005,true,.arr 3 (qm 2))]⟩,[⟨4,⟨[.keep [2,3,4,5,6],.gc,.nilRow 5 800005 3 tI,.ren 5 700005,.ren 5 900005,.gc],[2,3,4,5,6],[.lf (qp 32),.lf (qp 48),.lf (qp 64),.lf (qr 900005),.lf (qi 0)],[(32,true,.cells [qi 1]),(48,true,.cells [qi 2]),(64,true,.cells [.fix (.nil)]),(900005,true,.arr 3 (qm 0))]⟩,[.sl tI]⟩],zhm⟩
def zO_b58 : ((List Int) × (List Int)) → (Int × (List Int)) → RT (Int × (List Int)) (List Int)
| (i,s),(x6,r5) =>
 .rq 5 (.ite (decide (x6 < (i.length : Int)))
 (.rq 2 (.call (lo zhm (x6,i,s) (0,0,r5)) default fun v0 =>
 .rq 3 (.again (w64 (x6 + 1),v0))))
 (.done r5))
def zO_p58 : zch := ⟨58,true,[.sl tI,.sl tI],[tI,.sl tI],⟨[.keep [2,3,4,5,6],.gc,.nilRow 5 800005 3 tI,.ren 5 700005,.ren 5 900005,.gc],[2,3,4,5,6],[.lf (qp 32),.lf (qp 48),.lf (qp 64),.lf (qr 900005),.lf (qm 0)],[(32,true,.cells [qi 0]),(48,true,.cells [qi 1]),(64,true,.cells [.fix (.nil)]),(900005,true,.arr 3 (qm 1))]⟩,[⟨2,⟨[.keep [4,5],.gc,.nilRow 5 800005 3 tI,.ren 5 700005,.ren 5 900005,.gc],[4,5],[.lf (qp 64),.lf (qr 900005)],[(64,true,.cells [.fix (.nil)]),(900005,true,.arr 3 (qm 0))]⟩,[.sl tI]⟩],zO_b58⟩
def zO : ((List Int) × (List Int)) → RT Unit (List Int)
| (a0_0,l_0) =>
 .rq 11 (let t0 := w64 ((w64 ((a0_0.length : Int) + (l_0.length : Int))) + 1);
 .req (mkOK 8 t0) (.rq 2 (.call (lo zO_b58 (a0_0,l_0) (0,zdd t0 0)) default fun v1 =>
 .rq 1 (.req (okM 40 v1) (.rq 1 (.done (zcg B16 (val B16 v1))))))))
def F_zO (x : (List Int) × (List Int)) : Option (List Int) := (zO x).run fun _ => none
def io_zO : Io := ⟨n_zO,[.sl tI,.sl tI],[.agg [qm 0],.agg [qm 1]],[],[[.sl tI],[.sl tI]],[.sl tI],.agg [qr 0],[],[(true,.arr 3 (qm 0))],false⟩
def zO_P : List zch := [zO_p7462,zO_p58]
def zO_T : zcl := tab [e_zaS,e_zaY]
theorem zO_To : zck pg zO_T := zci ⟨e_zaS_ok,e_zaY_ok,trivial⟩
theorem zO_k7462 : (zO_p7462).OK pg (zO_T) (zcB 66 (zO_P)) (zcs f_zO) 66 := ⟨by kernel_rfl,fun i x => by kernel_rfl⟩
theorem zO_k58 : (zO_p58).OK pg (zO_T) (zcB 66 (zO_P)) (zcs f_zO) 66 := ⟨by kernel_rfl,fun i x => by kernel_rfl⟩
theorem zO_go : zcy pg (zO_T) io_zO f_zO (zO_P) [.cellRow 64 0 600064 3 tI,.cellRen 64 0 600064] (zO) := ⟨by kernel_rfl,by kernel_rfl,fun x => by kernel_rfl⟩
theorem ok_zO : io_zO.Okay pg (F_zO) := zcu zcj (zO_To) (zO_go) ⟨zO_k7462,zO_k58,trivial⟩
theorem getD_zero16 {xs : List Int} (h : wfd B16 xs = true) {t s : Nat} (hv : val B16 xs < B16 ^ s) (ht : s ≤ t) : xs.getD t 0 = 0 := by
 rw [← zem (by decide : 0 < B16) t h,Nat.div_eq_of_lt (Nat.lt_of_lt_of_le hv (Nat.pow_le_pow_right (by decide) ht))]
 rfl
theorem mul16_in {a b : List Int} {i : Nat} (ha : wfd B16 a = true) (hb : wfd B16 b = true) (hi : i < a.length) (la : a.length ≤ 2 ^ 38) (lb : b.length ≤ 2 ^ 38) : ∀ (r j o : Nat) (d : List Int),j + r = b.length + 1 → o < 65536 → (r = 0 → o = 0) →
  i + b.length + 1 ≤ d.length → d.length ≤ 2 ^ 40 → wfd B16 d = true → (0 < r → d.getD (i + b.length) 0 = 0) →
  ∃ d',lo zhm ((i : Int),a,b) ((o : Int),(j : Int),d) = some d' ∧ wfd B16 d' = true ∧ d'.length = d.length ∧ val B16 d' = val B16 d + B16 ^ (i + j) * (o + (a.getD i 0).toNat * (val B16 b / B16 ^ j)) := by
 intro r
 induction r with
 | zero =>
  intro j o d hj ho hz hl hl2 hd _
  have := hz rfl
  subst this
  refine ⟨d,?_,hd,rfl,by rw [zdr hb (by omega)]; simp⟩
  rw [zcr,zhm]
  simp only [RT.run]
  rw [if_neg (by simp; omega)]
 | succ r ih =>
  intro j o d hj ho _ hl hl2 hd hzero
  rw [zcr,zhm]
  obtain ⟨ai,ea,ba⟩ := getD16 ha i
  obtain ⟨db,eb,bb,vb⟩ := dig16 hb j
  obtain ⟨x0,ex,bx⟩ := getD16 hd (i + j)
  have hab : ai * db ≤ 65535 * 65535 := Nat.mul_le_mul (by omega) (by omega)
  have w0 : w64 ((i : Int) + (j : Int)) = ((i + j : Nat) : Int) := by rw [zcm] <;> omega
  have w1 : w64 ((ai : Int) * (db : Int)) = ((ai * db : Nat) : Int) := by rw [← Int.natCast_mul,zcm]; omega
  have w2 : w64 ((x0 : Int) + ((ai * db : Nat) : Int)) = ((x0 + ai * db : Nat) : Int) := by rw [← Int.natCast_add,zcm]; omega
  have w3 : w64 (((x0 + ai * db : Nat) : Int) + (o : Int)) = ((x0 + ai * db + o : Nat) : Int) := by rw [← Int.natCast_add,zcm]; omega
  have w4 : w64 (((x0 + ai * db + o) / 65536 : Nat) : Int) = (((x0 + ai * db + o) / 65536 : Nat) : Int) := by rw [zcm]; omega
  have w5 : w64 ((j : Int) + 1) = ((j + 1 : Nat) : Int) := by rw [zcm] <;> omega
  have q1 : inB d ((i + j : Nat) : Int) = true := inB_t (by omega)
  have q2 : inB a (i : Int) = true := inB_t (by omega)
  have q3 : decide ((0 : Int) ≤ (j : Int)) = true := by simp
  simp only [RT.run,w0,q1,q2,q3,if_true,gIn,sIn,ea,eb,ex,w1,w2,w3,w4,w5,tdiv16,tmod16]
  have step : ∃ d',lo zhm ((i : Int),a,b) ((((x0 + ai * db + o) / 65536 : Nat) : Int),((j + 1 : Nat) : Int),d.set (i + j) (((x0 + ai * db + o) % 65536 : Nat) : Int)) = some d' ∧ wfd B16 d' = true ∧ d'.length = d.length ∧
    val B16 d' = val B16 d + B16 ^ (i + j) * (o + ai * (val B16 b / B16 ^ j)) := by
   have hlt : (x0 + ai * db + o) / 65536 < 65536 := by omega
   obtain ⟨d',h1,h2,h3,h4⟩ := ih (j + 1) ((x0 + ai * db + o) / 65536) (d.set (i + j) (((x0 + ai * db + o) % 65536 : Nat) : Int)) (by omega) hlt (fun h => by
    subst h
    have ej : j = b.length := by omega
    have z := hzero (by omega)
    rw [← ej,ex] at z
    have z2 := zdr hb (i := j) (by omega)
    rw [z2] at vb
    simp at vb
    subst vb
    have : x0 = 0 := by omega
    subst this
    simp
    omega) (by rw [List.length_set]; omega) (by rw [List.length_set]; omega) (zfe hd ⟨Int.natCast_nonneg _,Int.ofNat_lt.2 (Nat.mod_lt _ (by decide))⟩) (fun h => by
    rw [List.getD,List.getElem?_set,if_neg (by omega)]
    exact hzero (by omega))
   refine ⟨d',h1,h2,by rw [h3,List.length_set],?_⟩
   have hv := zhx (b := B16) (xs := d) (i := i + j) (d := (((x0 + ai * db + o) % 65536 : Nat) : Int)) (by omega)
   rw [ex,Int.toNat_natCast,Int.toNat_natCast] at hv
   rw [h4,ea,Int.toNat_natCast]
   have s2 := zih (val B16 b) j
   rw [← vb] at s2
   rw [s2,show i + (j + 1) = (i + j) + 1 by omega,Nat.pow_succ]
   have hx := Nat.mod_add_div (x0 + ai * db + o) 65536
   generalize val B16 (d.set (i + j) (((x0 + ai * db + o) % 65536 : Nat) : Int)) = V' at *
   generalize val B16 b / B16 ^ (j + 1) = T at *
   generalize (x0 + ai * db + o) / 65536 = qd at *
   generalize (x0 + ai * db + o) % 65536 = md at *
   generalize B16 ^ (i + j) = P at *
   have hB : B16 = 65536 := rfl
   have e1 : P * (md + 65536 * qd) = P * (x0 + ai * db + o) := by rw [hx]
   simp only [Nat.mul_add,← Nat.mul_assoc,hB] at e1 hv ⊢
   rw [Nat.mul_right_comm P ai 65536]
   omega
  by_cases h1 : (decide ((j : Int) < (b.length : Int)) || decide ((0 : Int) < (o : Int))) = true
  ·rw [if_pos h1]
   exact step
  ·rw [if_neg h1]
   simp only [Bool.or_eq_true,decide_eq_true_eq,not_or] at h1
   refine ⟨d,rfl,hd,rfl,?_⟩
   rw [zdr hb (by omega)]
   have : o = 0 := by omega
   subst this
   simp
theorem mul16_l {a b : List Int} (ha : wfd B16 a = true) (hb : wfd B16 b = true) (la : a.length ≤ 2 ^ 38) (lb : b.length ≤ 2 ^ 38) : ∀ (r i : Nat) (d : List Int),i + r = a.length →
  d.length = a.length + b.length + 1 → wfd B16 d = true → val B16 d < B16 ^ (i + b.length) →
  ∃ d',lo zO_b58 (a,b) ((i : Int),d) = some d' ∧ wfd B16 d' = true ∧ d'.length = d.length ∧ val B16 d' = val B16 d + B16 ^ i * ((val B16 a / B16 ^ i) * val B16 b) := by
 intro r
 induction r with
 | zero =>
  intro i d hi hl hd hv
  refine ⟨d,?_,hd,rfl,by rw [zdr ha (by omega)]; simp⟩
  rw [zcr,zO_b58]
  simp only [RT.run]
  rw [if_neg (by simp; omega)]
 | succ r ih =>
  intro i d hi hl hd hv
  rw [zcr,zO_b58]
  obtain ⟨ai,ea,ba⟩ := getD16 ha i
  have va : val B16 a / B16 ^ i % B16 = ai := by
   have := zem (by decide : 0 < B16) i ha
   rw [ea] at this; exact Int.ofNat_inj.1 this
  obtain ⟨d1,g1,g2,g3,g4⟩ := mul16_in ha hb (i := i) (by omega) la lb (b.length + 1) 0 0 d (by omega) (by omega) (by omega) (by omega) (by omega) hd (fun _ => getD_zero16 hd hv (Nat.le_refl _))
  rw [ea,Int.toNat_natCast,Nat.pow_zero,Nat.div_one,Nat.zero_add,Nat.add_zero] at g4
  have w : w64 ((i : Int) + 1) = ((i + 1 : Nat) : Int) := by rw [zcm] <;> omega
  simp only [RT.run]
  rw [if_pos (by simp; omega)]
  have g1' : lo zhm ((i : Int),a,b) ((0 : Int),(0 : Int),d) = some d1 := g1
  rw [g1']
  simp only [Option.bind_some,w]
  have hbl := zcQ (by decide : 0 < B16) hb
  have pi : 0 < B16 ^ i := Nat.pow_pos (by decide)
  have hv1 : val B16 d1 < B16 ^ (i + 1 + b.length) := by
   rw [g4]
   have e1 : B16 ^ (i + 1 + b.length) = B16 ^ i * (B16 ^ b.length * B16) := by rw [show i + 1 + b.length = i + (b.length + 1) by omega,Nat.pow_add,Nat.pow_succ]
   have e2 : ai * val B16 b ≤ 65535 * val B16 b := Nat.mul_le_mul_right _ (by omega)
   have e3 : B16 ^ i * (ai * val B16 b) ≤ B16 ^ i * (65535 * B16 ^ b.length) := Nat.mul_le_mul_left _ (Nat.le_trans e2 (Nat.mul_le_mul_left _ (Nat.le_of_lt hbl)))
   rw [Nat.pow_add] at hv
   rw [e1]
   have hB : B16 = 65536 := rfl
   have e4 : B16 ^ i * (B16 ^ b.length * B16) = B16 ^ i * B16 ^ b.length + B16 ^ i * (65535 * B16 ^ b.length) := by
    rw [← Nat.mul_add,Nat.mul_comm (B16 ^ b.length) B16]
    congr 1
    generalize B16 ^ b.length = Z
    rw [hB]
    omega
   omega
  obtain ⟨d',h1,h2,h3,h4⟩ := ih (i + 1) d1 (by omega) (by omega) g2 hv1
  refine ⟨d',h1,h2,by omega,?_⟩
  have s1 := zih (val B16 a) i
  rw [va] at s1
  rw [h4,g4,s1,Nat.pow_succ]
  generalize val B16 a / B16 ^ (i + 1) = T
  generalize B16 ^ i = P
  simp only [Nat.add_mul,Nat.mul_add,Nat.mul_assoc,Nat.add_assoc]
def e_zO : zcq := io_zO.sp (fun (a,b) => okM 38 a && okM 38 b) (fun (a,b) => zcg B16 (val B16 a * val B16 b))
theorem sp_zO (h : ∀ (a : List Int) (b : List Int),WfT [.sl tI,.sl tI] (a,b) → (okM 38 a && okM 38 b) = true → (zO (a,b)).run (fun _ => none) = some (zcg B16 (val B16 a * val B16 b))) : e_zO.ok pg := zcw ok_zO fun (a,b) hw hc => h a b hw hc
theorem zhH : e_zO.ok pg := sp_zO fun a b _ hc => by
 rw [Bool.and_eq_true,zcV,zcV] at hc
 obtain ⟨ha,hb⟩ := hc
 rw [zO]
 have w1 : w64 ((a.length : Int) + (b.length : Int)) = ((a.length + b.length : Nat) : Int) := by rw [zcm] <;> omega
 have w2 : w64 (((a.length + b.length : Nat) : Int) + 1) = ((a.length + b.length + 1 : Nat) : Int) := by rw [zcm] <;> omega
 simp only [RT.run,w1,w2,zdd,Int.toNat_natCast]
 rw [if_pos (by rw [zdF]; omega)]
 have z : val B16 (List.replicate (a.length + b.length + 1) 0) = 0 := zfm _ _
 obtain ⟨d',h1,h2,h3,h4⟩ := mul16_l ha.2 hb.2 ha.1 hb.1 a.length 0 (List.replicate (a.length + b.length + 1) 0) (by omega) (by simp) (zeW (by decide)) (by rw [z]; exact Nat.pow_pos (by decide))
 have h1' : lo zO_b58 (a,b) ((0 : Int),List.replicate (a.length + b.length + 1) 0) = some d' := h1
 rw [h1']
 simp only [Option.bind_some]
 rw [List.length_replicate] at h3
 rw [if_pos (zcV.2 ⟨by omega,h2⟩),h4,z]
 simp
def zhS : ((List Int) × (List Int)) → (Int × Int) → RT (Int × Int) Int
| (s_2,r112),(s,t) =>
 .rq 3 (.ite (decide (s < t))
 (.rq 10 (let t0 := w64 (Int.tdiv (w64 ((w64 (s + t)) + 1)) 2);
 let t1 := zcg B16 (zcx t0).toNat;
 .req (okM 38 s_2 && okM 38 t1) (.rq 1 (let t2 := zcg B16 (val B16 s_2 * val B16 t1);
 .req (wfd B16 t2 && wfd B16 r112) (.rq 1 (.ite (decide ((zde ((val B16 t2 : Nat) : Int) ((val B16 r112 : Nat) : Int)) ≤ 0))
 (.rq 2 (.again (t0,t)))
 (.rq 3 (.again (s,w64 (t0 - 1))))))))))
 (.done s))
def zac_p62620 : zch := ⟨62620,true,[tI,.sl tI,.sl tI,.sl tI,.sl tI],[tI,tI],⟨[.keep [2,3,4,5,6,7,8,9,10],.gc,.nilRow 6 800006 3 tI,.ren 6 700006,.ren 6 900006,.cellRow 112 0 600112 3 tI,.cellRen 112 0 600112,.gc],[2,3,4,5,6,7,8,9,10],[.lf (qp 32),.lf (qp 48),.lf (qp 64),.lf (qp 80),.lf (qr 900006),.lf (qp 112),.lf (qi 0),.lf (qm 0),.lf (qm 1)],[(32,true,.cells [qi 1]),(48,true,.cells [qi 2]),(64,true,.cells [.fix (.nil)]),(80,true,.cells [.fix (.nil)]),(900006,true,.arr 3 (qi 3)),(112,true,.cells [qr 600112]),(600112,true,.arr 3 (qi 4))]⟩,[⟨4,⟨[.keep [2,3,4,5,6,7,8,9],.gc,.nilRow 6 800006 3 tI,.ren 6 700006,.ren 6 900006,.cellRow 112 0 600112 3 tI,.cellRen 112 0 600112,.gc],[2,3,4,5,6,7,8,9],[.lf (qp 32),.lf (qp 48),.lf (qp 64),.lf (qp 80),.lf (qr 900006),.lf (qp 112),.lf (qi 0),.lf (qm 0)],[(32,true,.cells [qi 1]),(48,true,.cells [qi 2]),(64,true,.cells [.fix (.nil)]),(80,true,.cells [.fix (.nil)]),(900006,true,.arr 3 (qi 3)),(112,true,.cells [qr 600112]),(600112,true,.arr 3 (qi 4))]⟩,[tI]⟩],(fun i => zhS (i.2.2.1,i.2.2.2.2))⟩
def zac_b122 : ((List Int) × (List Int)) → (Int × (List Int) × (List Int)) → RT (Int × (List Int) × (List Int)) ((List Int) × (List Int))
| (i_2,s),(i,r6,r112) =>
 .rq 2 (.ite (decide (0 ≤ i))
 (.rq 3 (.req (inB i_2 i) (.rq 4 (let t0 := [gI i_2 i];
 .req (zdK 8 t0 r112) (let t1 := t0 ++ r112;
 .req (okM 40 t1) (.rq 3 (let t2 := zcg B16 (val B16 t1);
 .call (lo zhS (s,t2) (0,65535)) default fun v1 =>
 .rq 3 (.req (inB r6 i) (.rq 6 (.req (okM 38 s && okM 38 (zcg B16 (zcx v1).toNat)) (let t3 := zcg B16 (val B16 s * val B16 (zcg B16 (zcx v1).toNat));
 .req (okM 39 t2 && (okM 39 t3 && decide (val B16 t3 ≤ val B16 t2))) (.rq 4 (.again (w64 (i - 1),sI r6 i v1,zcg B16 (val B16 t2 - val B16 t3)))))))))))))))
 (.done (r6,r112)))
def zac_p122 : zch := ⟨122,true,[.sl tI,.sl tI],[tI,.sl tI,.sl tI],⟨[.keep [2,3,4,5,6,7,8],.gc,.nilRow 6 800006 3 tI,.ren 6 700006,.ren 6 900006,.cellRow 112 0 600112 3 tI,.cellRen 112 0 600112,.gc],[2,3,4,5,6,7,8],[.lf (qp 32),.lf (qp 48),.lf (qp 64),.lf (qp 80),.lf (qr 900006),.lf (qp 112),.lf (qm 0)],[(32,true,.cells [qi 0]),(48,true,.cells [qi 1]),(64,true,.cells [.fix (.nil)]),(80,true,.cells [.fix (.nil)]),(900006,true,.arr 3 (qm 1)),(112,true,.cells [qr 600112]),(600112,true,.arr 3 (qm 2))]⟩,[⟨2,⟨[.keep [4,5,6,7],.gc,.nilRow 6 800006 3 tI,.ren 6 700006,.ren 6 900006,.cellRow 112 0 600112 3 tI,.cellRen 112 0 600112,.gc],[4,5,6,7],[.lf (qp 64),.lf (qp 80),.lf (qr 900006),.lf (qp 112)],[(64,true,.cells [.fix (.nil)]),(80,true,.cells [.fix (.nil)]),(900006,true,.arr 3 (qm 0)),(112,true,.cells [qr 600112]),(600112,true,.arr 3 (qm 1))]⟩,[.sl tI,.sl tI]⟩],zac_b122⟩
def zac : ((List Int) × (List Int)) → RT Unit ((List Int) × (List Int))
| (a0_0,l_0) =>
 .rq 7 (.req (mkOK 8 (a0_0.length : Int)) (.rq 9 (.call (lo zac_b122 (a0_0,l_0) (w64 ((a0_0.length : Int) - 1),zdd (a0_0.length : Int) 0,[])) default fun v2 =>
 .rq 1 (.req (okM 40 v2.1) (.rq 3 (.done (zcg B16 (val B16 v2.1),v2.2)))))))
def F_zac (x : (List Int) × (List Int)) : Option ((List Int) × (List Int)) := (zac x).run fun _ => none
def io_zac : Io := ⟨n_zac,[.sl tI,.sl tI],[.agg [qm 0],.agg [qm 1]],[],[[.sl tI],[.sl tI]],[.sl tI,.sl tI],.tup [(true,[qr 0]),(true,[qr 1])],[],[(true,.arr 3 (qm 0)),(true,.arr 3 (qm 1))],false⟩
def zac_P : List zch := [zac_p62620,zac_p122]
def zac_T : zcl := tab [e_zO,e_zbb,e_zaq,e_zbf,e_zaS]
theorem zac_To : zck pg zac_T := zci ⟨zhH,e_zbb_ok,e_zaq_ok,zid,e_zaS_ok,trivial⟩
theorem zac_k62620 : (zac_p62620).OK pg (zac_T) (zcB 68 (zac_P)) (zcs f_zac) 68 := ⟨by kernel_rfl,fun i x => by kernel_rfl⟩
theorem zac_k122 : (zac_p122).OK pg (zac_T) (zcB 68 (zac_P)) (zcs f_zac) 68 := ⟨by kernel_rfl,fun i x => by kernel_rfl⟩
theorem zac_go : zcy pg (zac_T) io_zac f_zac (zac_P) [.cellRow 64 0 600064 3 tI,.cellRow 80 0 600080 3 tI,.cellRen 64 0 600064,.cellRen 80 0 600080] (zac) := ⟨by kernel_rfl,by kernel_rfl,fun x => by kernel_rfl⟩
theorem ok_zac : io_zac.Okay pg (F_zac) := zcu zcj (zac_To) (zac_go) ⟨zac_k62620,zac_k122,trivial⟩
theorem zgu {x m : Nat} (h : x < B16 ^ m) : (zcg B16 x).length ≤ m := by
 by_cases hx : x = 0
 ·subst hx
  rw [zdC]
  exact Nat.zero_le _
 obtain ⟨k,h1,h2,h3⟩ := zeP (b := B16) (by decide) (Nat.pos_of_ne_zero hx)
 have := (Nat.pow_lt_pow_iff_right (by decide : 1 < B16)).1 (Nat.lt_of_le_of_lt h2 h)
 omega
theorem okM_lt {x m k : Nat} (h : x < B16 ^ m) (hm : m ≤ 2 ^ k) : okM k (zcg B16 x) = true := zcV.2 ⟨Nat.le_trans (zgu h) hm,zcS (by decide) _⟩
theorem div16_in {b : List Int} {R V : Nat} (hb : wfd B16 b = true) (lb : b.length ≤ 2 ^ 37) (hV : val B16 b = V) (hV0 : 0 < V) (hR : R < B16 * V) : ∀ (s l hi : Nat),hi - l = s → l ≤ hi → hi ≤ 65535 → l * V ≤ R → R < (hi + 1) * V →
  lo zhS (b,zcg B16 R) ((l : Int),(hi : Int)) = some ((R / V : Nat) : Int) := by
 have hVl : V < B16 ^ b.length := by rw [← hV]; exact zcQ (by decide) hb
 have hRl : R < B16 ^ (b.length + 1) := by
  refine Nat.lt_trans hR ?_
  rw [Nat.pow_succ,Nat.mul_comm (B16 ^ b.length)]
  exact (Nat.mul_lt_mul_left (by decide)).2 hVl
 intro s
 induction s using Nat.strongRecOn with
 | ind s ih =>
  intro l hi hs hle hhi h1 h2
  rw [zcr,zhS]
  by_cases hlt : l < hi
  ·obtain ⟨m,hm⟩ : ∃ m,m = (l + hi + 1) / 2 := ⟨_,rfl⟩
   have w1 : w64 ((l : Int) + (hi : Int)) = ((l + hi : Nat) : Int) := by rw [zcm] <;> omega
   have w2 : w64 (((l + hi : Nat) : Int) + 1) = ((l + hi + 1 : Nat) : Int) := by rw [zcm] <;> omega
   have w3 : ((l + hi + 1 : Nat) : Int).tdiv 2 = (m : Int) := by rw [hm]; exact tdivN _ 2
   have w4 : w64 (m : Int) = (m : Int) := zcm (by omega)
   have w5 : zcx (m : Int) = (m : Int) := zcD (by omega)
   have w6 : w64 ((m : Int) - 1) = ((m - 1 : Nat) : Int) := by rw [zcm] <;> omega
   have hmB : m < B16 := by have hB : B16 = 65536 := rfl; omega
   have hVm : V * m < B16 ^ (b.length + 1) := by
    rw [Nat.pow_succ]
    exact Nat.lt_of_lt_of_le ((Nat.mul_lt_mul_right (by omega)).2 hVl) (Nat.mul_le_mul_left _ (Nat.le_of_lt hmB))
   have vm : val B16 (zcg B16 m) = m := zcz (by decide) _
   have vVm : val B16 (zcg B16 (V * m)) = V * m := zcz (by decide) _
   have vR : val B16 (zcg B16 R) = R := zcz (by decide) _
   have c2 : (okM 38 b && okM 38 (zcg B16 m)) = true := by rw [zcV.2 ⟨by omega,hb⟩,okM_lt (m := 1) (by simpa using hmB) (by decide)]; rfl
   have c3 : (wfd B16 (zcg B16 (V * m)) && wfd B16 (zcg B16 R)) = true := by rw [zcS (by decide),zcS (by decide)]; rfl
   simp only [RT.run,w1,w2,w3,w4,w5,w6,Int.toNat_natCast,c2,hV,vm,c3,vVm,vR,if_true]
   rw [if_pos (by simp; omega)]
   by_cases hc : m * V ≤ R
   ·rw [if_pos (by
     have : zde ((V * m : Nat) : Int) (R : Int) ≤ 0 := by
      unfold zde
      rw [Nat.mul_comm]
      split
      ·omega
      ·rw [if_neg (by omega)]; omega
     simpa using this)]
    exact ih (hi - m) (by omega) m hi rfl (by omega) hhi hc h2
   ·rw [if_neg (by
     have : ¬ zde ((V * m : Nat) : Int) (R : Int) ≤ 0 := by
      unfold zde
      rw [Nat.mul_comm]
      rw [if_neg (by omega),if_pos (by omega)]
      omega
     simpa using this)]
    exact ih (m - 1 - l) (by omega) l (m - 1) rfl (by omega) (by omega) h1 (by rw [show m - 1 + 1 = m by omega]; omega)
  ·have : l = hi := by omega
   subst this
   simp only [RT.run]
   rw [if_neg (by simp)]
   congr 2
   rw [Nat.div_eq_of_lt_le h1 h2]
theorem div16_l {a b : List Int} {V : Nat} (ha : wfd B16 a = true) (hb : wfd B16 b = true) (la : a.length ≤ 2 ^ 37) (lb : b.length ≤ 2 ^ 37) (hV : val B16 b = V) (hV0 : 0 < V) : ∀ (m : Nat) (q : List Int) (R : Nat),m ≤ a.length →
  R < V → q.length = a.length → wfd B16 q = true → (∀ i,i < m → q.getD i 0 = 0) →
  ∃ q' D,lo zac_b122 (a,b) ((m : Int) - 1,q,zcg B16 R) = some (q',zcg B16 ((val B16 a % B16 ^ m + B16 ^ m * R) % V)) ∧ wfd B16 q' = true ∧ q'.length = a.length ∧ val B16 q' = val B16 q + D ∧ D = (val B16 a % B16 ^ m + B16 ^ m * R) / V := by
 intro m
 induction m with
 | zero =>
  intro q R _ hR hl hq _
  refine ⟨q,0,?_,hq,hl,rfl,by simp [Nat.mod_one,Nat.div_eq_of_lt hR]⟩
  rw [zcr,zac_b122]
  simp [RT.run,Nat.mod_one,Nat.mod_eq_of_lt hR]
 | succ m ih =>
  intro q R hm hR hl hq hz
  rw [zcr,zac_b122]
  obtain ⟨am,ea,ba⟩ := getD16 ha m
  have va : val B16 a / B16 ^ m % B16 = am := by
   have := zem (by decide : 0 < B16) m ha
   rw [ea] at this; exact Int.ofNat_inj.1 this
  have hVl : V < B16 ^ b.length := by rw [← hV]; exact zcQ (by decide) hb
  have hB : B16 = 65536 := rfl
  obtain ⟨R',hR'⟩ : ∃ R',R' = am + B16 * R := ⟨_,rfl⟩
  have hR'V : R' < B16 * V := by
   have : B16 * (R + 1) ≤ B16 * V := Nat.mul_le_mul_left _ hR
   rw [Nat.mul_add,Nat.mul_one] at this
   omega
  have hR'l : R' < B16 ^ (b.length + 1) := by
   refine Nat.lt_trans hR'V ?_
   rw [Nat.pow_succ,Nat.mul_comm (B16 ^ b.length)]
   exact (Nat.mul_lt_mul_left (by decide)).2 hVl
  have hRl : R < B16 ^ b.length := Nat.lt_trans hR hVl
  have wx : wfd B16 ((am : Int) :: zcg B16 R) = true := zfg.2 ⟨⟨Int.natCast_nonneg _,by omega⟩,zcS (by decide) _⟩
  have vx : val B16 ((am : Int) :: zcg B16 R) = R' := by rw [val,Int.toNat_natCast,zcz (by decide),hR']
  have lR := zgu hRl
  obtain ⟨Q,hQ⟩ : ∃ Q,Q = R' / V := ⟨_,rfl⟩
  have hQB : Q < B16 := by rw [hQ,Nat.div_lt_iff_lt_mul hV0]; exact hR'V
  have hdm := Nat.div_add_mod R' V
  rw [← hQ] at hdm
  have hin := div16_in hb lb hV hV0 hR'V 65535 0 65535 rfl (by omega) (Nat.le_refl _) (by omega) hR'V
  rw [← hQ] at hin
  have hin' : lo zhS (b,zcg B16 R') ((0 : Int),(65535 : Int)) = some (Q : Int) := hin
  have e0 : (((m + 1 : Nat) : Int) - 1) = (m : Int) := by omega
  have w1 : zcx (Q : Int) = (Q : Int) := zcD (by omega)
  have w2 : w64 ((m : Int) - 1) = (m : Int) - 1 := zcm (by omega)
  have vQ : val B16 (zcg B16 Q) = Q := zcz (by decide) _
  have vVQ : val B16 (zcg B16 (V * Q)) = V * Q := zcz (by decide) _
  have vR' : val B16 (zcg B16 R') = R' := zcz (by decide) _
  have hVQ : V * Q ≤ R' := Nat.le.intro hdm
  have c0 : decide ((0 : Int) ≤ (m : Int)) = true := by simp
  have c1 : inB a (m : Int) = true := inB_t (by omega)
  have c2 : zdK 8 [(am : Int)] (zcg B16 R) = true := zgb (by decide) (by simp; omega)
  have c3 : okM 40 ([(am : Int)] ++ zcg B16 R) = true := zcV.2 ⟨by simp; omega,wx⟩
  have c4 : inB q (m : Int) = true := inB_t (by omega)
  have c6 : (okM 38 b && okM 38 (zcg B16 Q)) = true := by rw [zcV.2 ⟨by omega,hb⟩,okM_lt (m := 1) (by simpa using hQB) (by decide)]; rfl
  have c7 : (okM 39 (zcg B16 R') && (okM 39 (zcg B16 (V * Q)) && decide (V * Q ≤ R'))) = true := by
   rw [okM_lt hR'l (by omega),okM_lt (Nat.lt_of_le_of_lt hVQ hR'l) (by omega),decide_eq_true hVQ]; rfl
  have vx' : val B16 ([(am : Int)] ++ zcg B16 R) = R' := vx
  simp only [RT.run,e0,gIn,sIn,ea]
  rw [if_pos c0,if_pos c1,if_pos c2,if_pos c3,vx',hin']
  simp only [Option.bind_some,w1,w2,Int.toNat_natCast,hV,vQ,vVQ,vR']
  rw [if_pos c4,if_pos c6,if_pos c7]
  have hRm : R' - V * Q = R' % V := by omega
  rw [hRm]
  have hq1 : wfd B16 (q.set m (Q : Int)) = true := zfe hq ⟨Int.natCast_nonneg _,Int.ofNat_lt.2 hQB⟩
  have hqv := zhx (b := B16) (xs := q) (i := m) (d := (Q : Int)) (by omega)
  rw [hz m (by omega)] at hqv
  simp only [Int.toNat_natCast,Int.toNat_zero,Nat.mul_zero,Nat.add_zero] at hqv
  obtain ⟨q',D,h1,h2,h3,h4,h5⟩ := ih (q.set m (Q : Int)) (R' % V) (by omega) (Nat.mod_lt _ hV0) (by rw [List.length_set]; exact hl) hq1
   (fun i hi => by rw [List.getD,List.getElem?_set]; rw [if_neg (by omega)]; exact hz i (by omega))
  have key : val B16 a % B16 ^ (m + 1) + B16 ^ (m + 1) * R = (val B16 a % B16 ^ m + B16 ^ m * (R' % V)) + B16 ^ m * Q * V := by
   rw [mod_top B16 (val B16 a) m,va,Nat.pow_succ,Nat.mul_assoc (B16 ^ m) B16 R,Nat.mul_assoc (B16 ^ m) Q V]
   have : B16 ^ m * (V * Q + R' % V) = B16 ^ m * (am + B16 * R) := by rw [hdm,hR']
   rw [Nat.mul_add,Nat.mul_add,Nat.mul_comm V Q] at this
   omega
  refine ⟨q',D + B16 ^ m * Q,?_,h2,h3,by rw [h4]; omega,?_⟩
  ·rw [h1,key,Nat.add_mul_mod_self_right]
  ·rw [key,Nat.add_mul_div_right _ _ hV0,h5]
def e_zac : zcq := io_zac.sp (fun (a,b) => okM 37 a && (okM 37 b && decide (0 < val B16 b))) (fun (a,b) => (zcg B16 (val B16 a / val B16 b),zcg B16 (val B16 a % val B16 b)))
theorem sp_zac (h : ∀ (a : List Int) (b : List Int),WfT [.sl tI,.sl tI] (a,b) → (okM 37 a && (okM 37 b && decide (0 < val B16 b))) = true → (zac (a,b)).run (fun _ => none) = some (zcg B16 (val B16 a / val B16 b),zcg B16 (val B16 a % val B16 b))) : e_zac.ok pg := zcw ok_zac fun (a,b) hw hc => h a b hw hc
theorem e_zac_ok : e_zac.ok pg := sp_zac fun a b _ hc => by
 simp only [Bool.and_eq_true,zcV,decide_eq_true_eq] at hc
 obtain ⟨ha,hb,hV⟩ := hc
 rw [zac]
 have w1 : w64 ((a.length : Int) - 1) = (a.length : Int) - 1 := zcm (by omega)
 simp only [RT.run,w1,zdd,Int.toNat_natCast]
 rw [if_pos (by rw [zdF]; omega)]
 obtain ⟨q',D,h1,h2,h3,h4,h5⟩ := div16_l ha.2 hb.2 ha.1 hb.1 rfl hV a.length (List.replicate a.length 0) 0 (Nat.le_refl _) hV (by simp) (zeW (by decide)) (fun i hi => by simp [List.getD,hi])
 rw [zdC,Nat.mul_zero,Nat.add_zero,Nat.mod_eq_of_lt (zcQ (by decide) ha.2)] at h1
 rw [Nat.mul_zero,Nat.add_zero,Nat.mod_eq_of_lt (zcQ (by decide) ha.2)] at h5
 rw [h1]
 simp only [Option.bind_some]
 rw [if_pos (zcV.2 ⟨by omega,h2⟩),h4,zfm,Nat.zero_add,h5]
end
end Go.Proofs.YtlfdidaeachpoaaGreat
namespace Go.Proofs.YtlfdidaeachpoaaGreat
open Go Go.RowKit
def rq (q : Rat) : List Int × List Int := (zcg B32 q.num.toNat,zcg B32 q.den)
def rQ (q : Rat) : List Int × List Int := (zcg 65536 q.num.toNat,zcg 65536 q.den)
def toQ (n d : List Int) : Rat := mkRat (val B32 n : Nat) (val B32 d)
def zdl (n d : List Int) : Rat := mkRat (val 65536 n : Nat) (val 65536 d)
theorem zhC {n d : Nat} (hd : d ≠ 0) : (mkRat (n : Int) d).num = ((n / Nat.gcd n d : Nat) : Int) ∧ (mkRat (n : Int) d).den = d / Nat.gcd n d := by
 rw [mkRat,dif_neg hd,Rat.normalize_eq]
 simp
theorem zfh (n d : Nat) : 0 ≤ mkRat (n : Int) d := by
 by_cases hd : d = 0
 ·subst hd; simp [mkRat]
 ·rw [← Rat.num_nonneg,(zhC hd).1]; exact Int.natCast_nonneg _
theorem rq_mkRat {n d : Nat} (hd : d ≠ 0) : rq (mkRat (n : Int) d) = (zcg B32 (n / Nat.gcd n d),zcg B32 (d / Nat.gcd n d)) := by
 unfold rq
 rw [(zhC hd).1,(zhC hd).2,Int.toNat_natCast]
theorem rQ_mkRat {n d : Nat} (hd : d ≠ 0) : rQ (mkRat (n : Int) d) = (zcg 65536 (n / Nat.gcd n d),zcg 65536 (d / Nat.gcd n d)) := by
 unfold rQ
 rw [(zhC hd).1,(zhC hd).2,Int.toNat_natCast]
theorem mkRat_self {q : Rat} (h : 0 ≤ q) : mkRat ((q.num.toNat : Nat) : Int) q.den = q := by
 rw [Int.toNat_of_nonneg (Rat.num_nonneg.2 h)]
 exact Rat.mkRat_self q
theorem zgw {q : Rat} (h : 0 ≤ q) : toQ (rq q).1 (rq q).2 = q := by
 unfold toQ rq
 simp only [zcz (show 2 ≤ B32 by decide)]
 exact mkRat_self h
theorem zeq {q : Rat} (h : 0 ≤ q) : zdl (rQ q).1 (rQ q).2 = q := by
 unfold zdl rQ
 simp only [zcz (show 2 ≤ 65536 by decide)]
 exact mkRat_self h
theorem rq_den {q : Rat} : val B32 (rq q).2 = q.den := zcz (by decide) _
theorem rq_num {q : Rat} : val B32 (rq q).1 = q.num.toNat := zcz (by decide) _
theorem rQ_den {q : Rat} : val 65536 (rQ q).2 = q.den := zcz (by decide) _
theorem rQ_num {q : Rat} : val 65536 (rQ q).1 = q.num.toNat := zcz (by decide) _
def sm (n : Nat) (q : Rat) : Prop := q.num.toNat < 2 ^ n ∧ q.den < 2 ^ n
theorem zeR {n m : Nat} {q : Rat} (h : n ≤ m) (hq : sm n q) : sm m q :=
 ⟨Nat.lt_of_lt_of_le hq.1 (Nat.pow_le_pow_right (by decide) h),Nat.lt_of_lt_of_le hq.2 (Nat.pow_le_pow_right (by decide) h)⟩
theorem zfX {n d k : Nat} (hd : d ≠ 0) (h1 : n < 2 ^ k) (h2 : d < 2 ^ k) : sm k (mkRat (n : Int) d) := by
 obtain ⟨e1,e2⟩ := zhC (n := n) hd
 refine ⟨?_,?_⟩
 ·rw [e1,Int.toNat_natCast]; exact Nat.lt_of_le_of_lt (Nat.div_le_self _ _) h1
 ·rw [e2]; exact Nat.lt_of_le_of_lt (Nat.div_le_self _ _) h2
theorem add_mk {p q : Rat} (hp : 0 ≤ p) (hq : 0 ≤ q) : p + q = mkRat ((p.num.toNat * q.den + q.num.toNat * p.den : Nat) : Int) (p.den * q.den) := by
 have h := Rat.mkRat_add_mkRat (p.num.toNat : Int) (q.num.toNat : Int) p.den_nz q.den_nz
 rw [mkRat_self hp,mkRat_self hq] at h
 rw [h]
 simp only [Int.natCast_add,Int.natCast_mul]
theorem mul_mk {p q : Rat} (hp : 0 ≤ p) (hq : 0 ≤ q) : p * q = mkRat ((p.num.toNat * q.num.toNat : Nat) : Int) (p.den * q.den) := by
 have h := Rat.mkRat_mul_mkRat (p.num.toNat : Int) (q.num.toNat : Int) p.den q.den
 rw [mkRat_self hp,mkRat_self hq] at h
 rw [h,Int.natCast_mul]
theorem sm_mul {n m : Nat} {p q : Rat} (hp : 0 ≤ p) (hq : 0 ≤ q) (h1 : sm n p) (h2 : sm m q) : sm (n + m) (p * q) := by
 rw [mul_mk hp hq]
 refine zfX (Nat.mul_ne_zero p.den_nz q.den_nz) ?_ ?_
 ·rw [Nat.pow_add]; exact Nat.mul_lt_mul'' h1.1 h2.1
 ·rw [Nat.pow_add]; exact Nat.mul_lt_mul'' h1.2 h2.2
theorem sm_add {n m : Nat} {p q : Rat} (hp : 0 ≤ p) (hq : 0 ≤ q) (h1 : sm n p) (h2 : sm m q) : sm (n + m + 1) (p + q) := by
 rw [add_mk hp hq]
 have a := Nat.mul_lt_mul'' h1.1 h2.2
 have b := Nat.mul_lt_mul'' h2.1 h1.2
 have c := Nat.mul_lt_mul'' h1.2 h2.2
 rw [Nat.mul_comm (2 ^ m)] at b
 rw [← Nat.pow_add] at a b c
 have e : 2 ^ (n + m + 1) = 2 ^ (n + m) * 2 := Nat.pow_succ ..
 exact zfX (Nat.mul_ne_zero p.den_nz q.den_nz) (by omega) (by omega)
theorem zfC {b v n : Nat} (hb : 2 ≤ b) (hv : v < 2 ^ n) : (zcg b v).length ≤ n := by
 by_cases h0 : v = 0
 ·rw [h0,zdC]; exact Nat.zero_le _
 obtain ⟨m,h1,h2,h3⟩ := zeP hb (Nat.pos_of_ne_zero h0)
 have h4 : 2 ^ m ≤ b ^ m := Nat.pow_le_pow_left hb m
 have := (Nat.pow_lt_pow_iff_right (by decide : 1 < 2)).1 (Nat.lt_of_le_of_lt (Nat.le_trans h4 h2) hv)
 omega
end Go.Proofs.YtlfdidaeachpoaaGreat
namespace Go.Proofs.YtlfdidaeachpoaaGreat
open Go Go.RowKit
set_option maxRecDepth 100000
noncomputable section
def ziu : (List Int) → (Int × (List Int)) → RT (Int × (List Int)) (List Int)
| a,(i,r3) =>
 .rq 5 (.ite (decide (i < (a.length : Int)))
 (.rq 3 (.req (inB a i) (.rq 9 (let t0 := w64 (i + 1);
 let t1 := zdO (gI a i);
 let t2 := w64 (i + 2);
 .ite (decide (t0 < (a.length : Int)))
 (.rq 5 (.req (inB a t0) (.rq 8 (let t3 := [zdO (t1 + (zdO ((zdO (gI a t0)) * 65536)))];
 .req (zdK 4 r3 t3) (.rq 4 (.again (t2,r3 ++ t3)))))))
 (.rq 3 (let t4 := [t1];
 .req (zdK 4 r3 t4) (.rq 4 (.again (t2,r3 ++ t4)))))))))
 (.done r3))
def zaZ_p58 : zch := ⟨58,true,[.sl tI],[tI,.sl tV],⟨[.keep [1,3,4],.gc,.nilRow 3 800003 122 tV,.ren 3 700003,.ren 3 900003,.gc],[1,3,4],[.lf (qp 16),.lf (qr 900003),.lf (qm 0)],[(16,true,.cells [qi 0]),(900003,true,.arr 122 (qm 1))]⟩,[⟨2,⟨[.keep [3],.gc,.nilRow 3 800003 122 tV,.ren 3 700003,.ren 3 900003,.gc],[3],[.lf (qr 900003)],[(900003,true,.arr 122 (qm 0))]⟩,[.sl tV]⟩],ziu⟩
def zaZ : (List Int) → RT Unit (List Int)
| a_0 =>
 .rq 4 (.call (lo ziu a_0 (0,[])) default fun v0 =>
 .rq 2 (.done v0))
def F_zaZ (x : (List Int)) : Option (List Int) := (zaZ x).run fun _ => none
def io_zaZ : Io := ⟨n_zaZ,[.sl tI],[.agg [qm 0]],[],[[.sl tI]],[.sl tV],.lf (qr 0),[],[(true,.arr 122 (qm 0))],false⟩
def zaZ_P : List zch := [zaZ_p58]
def zaZ_T : zcl := tab []
theorem zaZ_To : zck pg zaZ_T := zci trivial
theorem zaZ_k58 : (zaZ_p58).OK pg (zaZ_T) (zcB 40 (zaZ_P)) (zcs f_zaZ) 40 := ⟨by kernel_rfl,fun i x => by kernel_rfl⟩
theorem zaZ_go : zcy pg (zaZ_T) io_zaZ f_zaZ (zaZ_P) [.nilRow 2 800002 122 tV,.ren 2 700002,.ren 2 900002] (zaZ) := ⟨by kernel_rfl,by kernel_rfl,fun x => by kernel_rfl⟩
theorem ok_zaZ : io_zaZ.Okay pg (F_zaZ) := zcu zcj (zaZ_To) (zaZ_go) ⟨zaZ_k58,trivial⟩
theorem out32_l {a : List Int} (ha : wfd B16 a = true) (la : a.length ≤ 2 ^ 38) : ∀ (r i : Nat) (out : List Int),a.length ≤ i + 2 * r → i + 2 * r ≤ a.length + 1 → out.length ≤ i →
  ∃ D,lo ziu a ((i : Int),out) = some (out ++ D) ∧ wfd B32 D = true ∧ D.length = r ∧ val B32 D = val B16 a / B16 ^ i := by
 intro r
 induction r with
 | zero =>
  intro i out hi hi' _
  refine ⟨[],?_,rfl,rfl,by rw [zdr ha (by omega)]; rfl⟩
  rw [zcr,ziu]
  simp only [RT.run]
  rw [if_neg (by simp; omega)]
  simp
 | succ r ih =>
  intro i out hi hi' ho
  obtain ⟨d0,h0,b0⟩ := getD16 ha i
  obtain ⟨d1,h1,b1⟩ := getD16 ha (i + 1)
  have v0 : val B16 a / B16 ^ i % B16 = d0 := by
   have := zem (by decide : 0 < B16) i ha
   rw [h0] at this; exact Int.ofNat_inj.1 this
  have v1 : val B16 a / B16 ^ (i + 1) % B16 = d1 := by
   have := zem (by decide : 0 < B16) (i + 1) ha
   rw [h1] at this; exact Int.ofNat_inj.1 this
  have w0 : w64 ((i : Int) + 1) = ((i + 1 : Nat) : Int) := by rw [zcm] <;> omega
  have w1 : w64 ((i : Int) + 2) = ((i + 2 : Nat) : Int) := by rw [zcm] <;> omega
  have w2 : zdO (d0 : Int) = (d0 : Int) := zgh (by omega)
  have w3 : zdO (d1 : Int) = (d1 : Int) := zgh (by omega)
  have w4 : zdO ((d1 : Int) * 65536) = ((d1 * 65536 : Nat) : Int) := by rw [zgh] <;> omega
  have w5 : zdO ((d0 : Int) + ((d1 * 65536 : Nat) : Int)) = ((d0 + d1 * 65536 : Nat) : Int) := by rw [zgh] <;> omega
  have g0 : gI a (i : Int) = (d0 : Int) := by rw [gIn,h0]
  have g1 : gI a ((i + 1 : Nat) : Int) = (d1 : Int) := by rw [gIn,h1]
  have s0 := zih (val B16 a) i
  have s1 := zih (val B16 a) (i + 1)
  rw [v0] at s0
  rw [v1] at s1
  have hB : B16 = 65536 := rfl
  have hB2 : B32 = 4294967296 := rfl
  have step : ∀ x : Nat,x < 4294967296 → x + 4294967296 * (val B16 a / B16 ^ (i + 2)) = val B16 a / B16 ^ i → ∃ D,lo ziu a (((i + 2 : Nat) : Int),out ++ [(x : Int)]) = some (out ++ D) ∧ wfd B32 D = true ∧ D.length = r + 1 ∧ val B32 D = val B16 a / B16 ^ i := by
   intro x hx hxe
   obtain ⟨D,g1,g2,g3,g4⟩ := ih (i + 2) (out ++ [(x : Int)]) (by omega) (by omega) (by simp; omega)
   refine ⟨(x : Int) :: D,by rw [g1,List.append_assoc]; rfl,zfg.2 ⟨⟨Int.natCast_nonneg _,by omega⟩,g2⟩,by simp [g3],?_⟩
   rw [val,Int.toNat_natCast,g4,hB2]
   exact hxe
  rw [zcr,ziu]
  simp only [RT.run,w0,w1,g0,g1,w2,w3,w4,w5]
  rw [if_pos (by simp; omega),if_pos (inB_t (by omega))]
  by_cases hlast : i + 1 < a.length
  ·rw [if_pos (by simp; omega),if_pos (inB_t hlast),if_pos (zgb (by decide) (by simp; omega))]
   refine step _ (by omega) ?_
   have t0 : val B16 a / B16 ^ i = d0 + 65536 * (val B16 a / B16 ^ (i + 1)) := s0
   have t1 : val B16 a / B16 ^ (i + 1) = d1 + 65536 * (val B16 a / B16 ^ (i + 2)) := s1
   rw [t0,t1]
   omega
  ·rw [if_neg (by simp; omega),if_pos (zgb (by decide) (by simp; omega))]
   refine step _ (by omega) ?_
   have z := zdr ha (i := i + 1) (by omega)
   have z2 := zdr ha (i := i + 2) (by omega)
   have t0 : val B16 a / B16 ^ i = d0 + 65536 * (val B16 a / B16 ^ (i + 1)) := s0
   rw [t0,z,z2]
theorem pow_B32 (k : Nat) : B32 ^ k = B16 ^ (2 * k) := by rw [Nat.pow_mul,show B16 ^ 2 = B32 by decide]
theorem digs_half (v : Nat) : (zcg B32 v).length = ((zcg B16 v).length + 1) / 2 := by
 by_cases hv : v = 0
 ·subst hv; rfl
 obtain ⟨m,h1,h2,h3⟩ := zeP (b := B16) (by decide) (Nat.pos_of_ne_zero hv)
 obtain ⟨k,h4,h5,h6⟩ := zeP (b := B32) (by decide) (Nat.pos_of_ne_zero hv)
 rw [pow_B32] at h5 h6
 have a := (Nat.pow_lt_pow_iff_right (by decide : 1 < B16)).1 (Nat.lt_of_le_of_lt h5 h3)
 have b := (Nat.pow_lt_pow_iff_right (by decide : 1 < B16)).1 (Nat.lt_of_le_of_lt h2 h6)
 omega
def isM (k : Nat) (x : List Int) : Bool := decide (x.length ≤ 2 ^ k) && decide (zcg B16 (val B16 x) = x)
theorem zgf {k : Nat} {x : List Int} : isM k x = true ↔ x.length ≤ 2 ^ k ∧ zcg B16 (val B16 x) = x := by simp [isM]
theorem zgl {k v : Nat} (h : (zcg B16 v).length ≤ 2 ^ k) : isM k (zcg B16 v) = true := zgf.2 ⟨h,by rw [zcz (by decide)]⟩
theorem zhI {k : Nat} {x : List Int} (h : isM k x = true) : wfd B16 x = true := by
 rw [zgf] at h
 rw [← h.2]
 exact zcS (by decide) _
def e_zaZ : zcq := io_zaZ.sp (fun a => isM 38 a) (fun a => zcg B32 (val B16 a))
theorem sp_zaZ (h : ∀ (a : List Int),WfT [.sl tI] a → (isM 38 a) = true → (zaZ a).run (fun _ => none) = some (zcg B32 (val B16 a))) : e_zaZ.ok pg := zcw ok_zaZ fun a hw hc => h a hw hc
theorem e_zaZ_ok : e_zaZ.ok pg := sp_zaZ fun a _ hc => by
 have hw := zhI hc
 rw [zgf] at hc
 rw [zaZ]
 simp only [RT.run]
 obtain ⟨D,h1,h2,h3,h4⟩ := out32_l hw hc.1 ((a.length + 1) / 2) 0 [] (by omega) (by omega) (by simp)
 have h1' : lo ziu a ((0 : Int),[]) = some D := h1
 rw [h1']
 simp only [Option.bind_some]
 rw [Nat.pow_zero,Nat.div_one] at h4
 have e1 := fixd_eq (b := B32) (by decide) h2
 have e2 := fixd_eq (b := B32) (by decide) (zcS (b := B32) (by decide) (val B16 a))
 rw [zcz (by decide),digs_half,hc.2] at e2
 rw [h4,h3] at e1
 rw [← e1,e2]
def zaF_b58 : ((List Int) × (List Int)) → Int → RT Int (LR Unit Unit)
| (a,b),i =>
 .rq 4 (.ite (decide (i < (a.length : Int)))
 (.rq 2 (.req (inB a i) (.rq 3 (.req (inB b i) (.rq 2 (.ite ((gI a i) != (gI b i))
 (.rq 1 (.done (.ex ())))
 (.rq 3 (.again (w64 (i + 1))))))))))
 (.done (.rt ())))
def zaF_p58 : zch := ⟨58,true,[.sl tV,.sl tV],[tI],⟨[.keep [0,1,5],.gc],[0,1,5],[.lf (qi 0),.lf (qi 1),.lf (qm 0)],[]⟩,[⟨1,⟨[.keep [4],.gc],[4],[.lf (.fix (.bool false))],[]⟩,[]⟩,⟨2,⟨[.keep [],.gc],[],[],[]⟩,[]⟩],zaF_b58⟩
def zaF : ((List Int) × (List Int)) → RT Unit Bool
| (a,b) =>
 .rq 6 (.ite ((a.length : Int) != (b.length : Int))
 (.rq 1 (.done false))
 (.rq 1 (.call (lo zaF_b58 (a,b) 0) default fun v0 =>
 .ite v0.isRt
 (.rq 1 (.done true))
 (.done false))))
def F_zaF (x : (List Int) × (List Int)) : Option Bool := (zaF x).run fun _ => none
def io_zaF : Io := ⟨n_zaF,[.sl tV,.sl tV],[.lf (qm 0),.lf (qm 1)],[],[[.sl tV],[.sl tV]],[tB],.lf (qm 0),[],[],false⟩
def zaF_P : List zch := [zaF_p58]
def zaF_T : zcl := tab []
theorem zaF_To : zck pg zaF_T := zci trivial
theorem zaF_k58 : (zaF_p58).OK pg (zaF_T) (zcB 26 (zaF_P)) (zcs f_zaF) 26 := ⟨by kernel_rfl,fun i x => by kernel_rfl⟩
theorem zaF_go : zcy pg (zaF_T) io_zaF f_zaF (zaF_P) [] (zaF) := ⟨by kernel_rfl,by kernel_rfl,fun x => by kernel_rfl⟩
theorem ok_zaF : io_zaF.Okay pg (F_zaF) := zcu zcj (zaF_To) (zaF_go) ⟨zaF_k58,trivial⟩
theorem same_l {a b : List Int} (hl : a.length = b.length) (la : a.length ≤ 2 ^ 63 - 1) : ∀ (r i : Nat),i + r = a.length → lo zaF_b58 (a,b) (i : Int) = some (if a.drop i = b.drop i then .rt () else .ex ()) := by
 intro r
 induction r with
 | zero =>
  intro i hi
  rw [zcr,zaF_b58]
  simp only [RT.run]
  rw [if_neg (by simp; omega),if_pos (by rw [List.drop_of_length_le (by omega),List.drop_of_length_le (by omega)])]
 | succ r ih =>
  intro i hi
  have w : w64 ((i : Int) + 1) = ((i + 1 : Nat) : Int) := by rw [zcm] <;> omega
  have ha : a.drop i = a.getD i 0 :: a.drop (i + 1) := by rw [List.drop_eq_getElem_cons (by omega)]; simp [List.getD,show i < a.length by omega]
  have hb : b.drop i = b.getD i 0 :: b.drop (i + 1) := by rw [List.drop_eq_getElem_cons (by omega)]; simp [List.getD,show i < b.length by omega]
  rw [zcr,ha,hb,zaF_b58]
  simp only [RT.run,gIn,w]
  rw [if_pos (by simp; omega),if_pos (inB_t (by omega)),if_pos (inB_t (by omega))]
  by_cases h : a.getD i 0 = b.getD i 0
  ·rw [h]
   simp only [bne_self_eq_false,Bool.false_eq_true,if_false,List.cons.injEq,true_and]
   exact ih (i + 1) (by omega)
  ·rw [if_pos (by simpa using h),if_neg (fun e => h (List.cons.inj e).1)]
def e_zaF : zcq := io_zaF.sp (fun (a,b) => true) (fun (a,b) => decide (a = b))
theorem sp_zaF (h : ∀ (a : List Int) (b : List Int),WfT [.sl tV,.sl tV] (a,b) → (zaF (a,b)).run (fun _ => none) = some (decide (a = b))) : e_zaF.ok pg := zcw ok_zaF fun (a,b) hw hc => h a b hw
theorem e_zaF_ok : e_zaF.ok pg := sp_zaF fun a b hw => by
 have ha : Wf (.sl tV) a := hw.1
 have la := ha.1
 rw [zaF]
 simp only [RT.run]
 by_cases hl : a.length = b.length
 ·rw [if_neg (by simp; omega)]
  have h' : lo zaF_b58 (a,b) (0 : Int) = _ := same_l hl (by omega) a.length 0 (by omega)
  rw [h']
  simp only [List.drop_zero]
  by_cases h : a = b
  ·rw [if_pos h]; simp [h,LR.isRt]
  ·rw [if_neg h]; simp [h,LR.isRt]
 ·rw [if_pos (by simp; omega)]
  have : a ≠ b := fun e => hl (by rw [e])
  simp [this]
def zbe_b12 : Unit → ((List Int) × (List Int)) → RT ((List Int) × (List Int)) (List Int)
| _,(a,b) =>
 .rq 4 (.ite (decide (0 < (b.length : Int)))
 (.rq 2 (.req (okM 37 a && (okM 37 b && decide (0 < val B16 b))) (.rq 11 (.again (b,zcg B16 (val B16 a % val B16 b))))))
 (.done a))
def zbe_p12 : zch := ⟨12,true,[],[.sl tI,.sl tI],⟨[.keep [2,3,4],.gc,.cellDat 48,.cellDen 48 [.sl tI],.gc],[2,3,4],[.lf (qp 32),.lf (qp 48),.lf (qp 64)],[(32,true,.cells [qm 0]),(48,true,.cells [qm 1]),(64,true,.cells [.fix (.nil)])]⟩,[⟨2,⟨[.keep [2,4],.gc],[2,4],[.lf (qp 32),.lf (qp 64)],[(32,true,.cells [qm 0]),(64,true,.cells [.fix (.nil)])]⟩,[.sl tI]⟩],zbe_b12⟩
def zbe : ((List Int) × (List Int)) → RT Unit (List Int)
| (a_0,b_0) =>
 .rq 3 (.call (lo zbe_b12 () (a_0,b_0)) default fun v0 =>
 .rq 2 (.done v0))
def F_zbe (x : (List Int) × (List Int)) : Option (List Int) := (zbe x).run fun _ => none
def io_zbe : Io := ⟨n_zbe,[.sl tI,.sl tI],[.agg [qm 0],.agg [qm 1]],[],[[.sl tI],[.sl tI]],[.sl tI],.agg [qm 0],[],[],true⟩
def zbe_P : List zch := [zbe_p12]
def zbe_T : zcl := tab [e_zac]
theorem zbe_To : zck pg zbe_T := zci ⟨e_zac_ok,trivial⟩
theorem zbe_k12 : (zbe_p12).OK pg (zbe_T) (zcB 20 (zbe_P)) (zcs f_zbe) 20 := ⟨by kernel_rfl,fun i x => by kernel_rfl⟩
theorem zbe_go : zcy pg (zbe_T) io_zbe f_zbe (zbe_P) [] (zbe) := ⟨by kernel_rfl,by kernel_rfl,fun x => by kernel_rfl⟩
theorem ok_zbe : io_zbe.Okay pg (F_zbe) := zcu zcj (zbe_To) (zbe_go) ⟨zbe_k12,trivial⟩
theorem gcd16_l {m : Nat} (hm : m ≤ 2 ^ 37) : ∀ (V A : Nat),A < B16 ^ m → V < B16 ^ m → lo zbe_b12 () (zcg B16 A,zcg B16 V) = some (zcg B16 (Nat.gcd A V)) := by
 intro V
 induction V using Nat.strongRecOn with
 | ind V ih =>
  intro A hA hV
  rw [zcr,zbe_b12]
  simp only [RT.run]
  by_cases h : V = 0
  ·subst h
   rw [if_neg (by simp [zdC]),Nat.gcd_zero_right]
  ·have hV0 := Nat.pos_of_ne_zero h
   have hl : 0 < (zcg B16 V).length := by rw [zgt (by decide) hV0]; simp
   have hml := Nat.mod_lt A hV0
   rw [zcz (by decide),zcz (by decide)]
   rw [if_pos (by simp only [decide_eq_true_eq]; omega),if_pos (by rw [okM_lt hA hm,okM_lt hV hm,decide_eq_true hV0]; rfl)]
   rw [ih (A % V) hml V hV (Nat.lt_trans hml hV),Nat.gcd_comm A V,Nat.gcd_rec V A,Nat.gcd_comm]
def e_zbe : zcq := io_zbe.sp (fun (a,b) => isM 37 a && isM 37 b) (fun (a,b) => zcg B16 (Nat.gcd (val B16 a) (val B16 b)))
theorem sp_zbe (h : ∀ (a : List Int) (b : List Int),WfT [.sl tI,.sl tI] (a,b) → (isM 37 a && isM 37 b) = true → (zbe (a,b)).run (fun _ => none) = some (zcg B16 (Nat.gcd (val B16 a) (val B16 b)))) : e_zbe.ok pg := zcw ok_zbe fun (a,b) hw hc => h a b hw hc
theorem e_zbe_ok : e_zbe.ok pg := sp_zbe fun a b _ h => by
 rw [Bool.and_eq_true] at h
 have w1 := zhI h.1
 have w2 := zhI h.2
 rw [zgf,zgf] at h
 rw [zbe]
 simp only [RT.run]
 have l1 : val B16 a < B16 ^ (max a.length b.length) := Nat.lt_of_lt_of_le (zcQ (by decide) w1) (Nat.pow_le_pow_right (by decide) (by omega))
 have l2 : val B16 b < B16 ^ (max a.length b.length) := Nat.lt_of_lt_of_le (zcQ (by decide) w2) (Nat.pow_le_pow_right (by decide) (by omega))
 have := gcd16_l (m := max a.length b.length) (by omega) (val B16 b) (val B16 a) l1 l2
 rw [h.1.2,h.2.2] at this
 rw [this]
 rfl
theorem isM_mul {a b : List Int} {k : Nat} (ha : isM k a = true) (hb : isM k b = true) : isM (k + 1) (zcg B16 (val B16 a * val B16 b)) = true := by
 have w1 := zhI ha
 have w2 := zhI hb
 rw [zgf] at ha hb
 refine zgl ?_
 have lt1 := zcQ (by decide : 0 < B16) w1
 have lt2 := zcQ (by decide : 0 < B16) w2
 have lp : val B16 a * val B16 b < B16 ^ (a.length + b.length) := by
  rw [Nat.pow_add]
  exact Nat.mul_lt_mul'' lt1 lt2
 have := zgu lp
 rw [Nat.pow_succ]
 omega
theorem isM_add {m n k : Nat} (ha : isM k (zcg B16 m) = true) (hb : isM k (zcg B16 n) = true) : isM (k + 1) (zcg B16 (m + n)) = true := by
 rw [zgf] at ha hb
 refine zgl ?_
 have lt1 := zcQ (b := B16) (by decide) (zcS (by decide) m)
 have lt2 := zcQ (b := B16) (by decide) (zcS (by decide) n)
 rw [zcz (by decide)] at lt1 lt2
 obtain ⟨M,hM⟩ : ∃ M,M = max (zcg B16 m).length (zcg B16 n).length := ⟨_,rfl⟩
 have l1 : m < B16 ^ M := Nat.lt_of_lt_of_le lt1 (Nat.pow_le_pow_right (by decide) (by omega))
 have l2 : n < B16 ^ M := Nat.lt_of_lt_of_le lt2 (Nat.pow_le_pow_right (by decide) (by omega))
 have l3 : m + n < B16 ^ (M + 1) := by
  rw [Nat.pow_succ]
  generalize B16 ^ M = z at *
  rw [show B16 = 65536 from rfl]
  omega
 have := zgu l3
 have p : 1 ≤ 2 ^ k := Nat.one_le_two_pow
 rw [Nat.pow_succ]
 omega
theorem zec {k m : Nat} {a : List Int} (h : k ≤ m) (ha : isM k a = true) : okM m a = true := by
 have w := zhI ha
 rw [zgf] at ha
 exact zcV.2 ⟨Nat.le_trans ha.1 (Nat.pow_le_pow_right (by decide) h),w⟩
theorem zgU {k m : Nat} {a : List Int} (h : k ≤ m) (ha : isM k a = true) : isM m a = true := by
 rw [zgf] at *
 exact ⟨Nat.le_trans ha.1 (Nat.pow_le_pow_right (by decide) h),ha.2⟩
def zbL : ((List Int) × (List Int)) → RT Unit ((List Int) × (List Int))
| (q_0,q_1) =>
 .rq 6 (.req (isM 37 q_0 && isM 37 q_1) (.rq 5 (.req (okM 37 q_0 && (okM 37 (zcg B16 (Nat.gcd (val B16 q_0) (val B16 q_1))) && decide (0 < val B16 (zcg B16 (Nat.gcd (val B16 q_0) (val B16 q_1)))))) (.rq 10 (.req (okM 37 q_1 && (okM 37 (zcg B16 (Nat.gcd (val B16 q_0) (val B16 q_1))) && decide (0 < val B16 (zcg B16 (Nat.gcd (val B16 q_0) (val B16 q_1)))))) (.rq 11 (.done (zcg B16 (val B16 q_0 / val B16 (zcg B16 (Nat.gcd (val B16 q_0) (val B16 q_1)))),zcg B16 (val B16 q_1 / val B16 (zcg B16 (Nat.gcd (val B16 q_0) (val B16 q_1))))))))))))
def F_zbL (x : (List Int) × (List Int)) : Option ((List Int) × (List Int)) := (zbL x).run fun _ => none
def io_zbL : Io := ⟨n_zbL,[.sl tI,.sl tI],[.agg [qm 0,qm 1]],[],[[.sl tI,.sl tI]],[.sl tI,.sl tI],.agg [qr 0,qr 1],[],[(true,.arr 3 (qm 0)),(true,.arr 3 (qm 1))],false⟩
def zbL_P : List zch := []
def zbL_T : zcl := tab [e_zbe,e_zac]
theorem zbL_To : zck pg zbL_T := zci ⟨e_zbe_ok,e_zac_ok,trivial⟩
theorem zbL_go : zcy pg (zbL_T) io_zbL f_zbL (zbL_P) [.cellRow 32 0 600032 3 tI,.cellRow 32 1 600033 3 tI,.cellRen 32 0 600032,.cellRen 32 1 600033] (zbL) := ⟨by kernel_rfl,by kernel_rfl,fun x => by kernel_rfl⟩
theorem ok_zbL : io_zbL.Okay pg (F_zbL) := zcu zcj (zbL_To) (zbL_go) trivial
def e_zbL : zcq := io_zbL.sp (fun (n,d) => isM 36 n && (isM 36 d && decide (val B16 d ≠ 0))) (fun (n,d) => rQ (zdl n d))
theorem sp_zbL (h : ∀ (n : List Int) (d : List Int),WfT [.sl tI,.sl tI] (n,d) → (isM 36 n && (isM 36 d && decide (val B16 d ≠ 0))) = true → (zbL (n,d)).run (fun _ => none) = some (rQ (zdl n d))) : e_zbL.ok pg := zcw ok_zbL fun (n,d) hw hc => h n d hw hc
theorem e_zbL_ok : e_zbL.ok pg := sp_zbL fun n d _ h => by
 simp only [Bool.and_eq_true,decide_eq_true_eq] at h
 obtain ⟨h1,h2,h3⟩ := h
 have w1 := zhI h1
 have w2 := zhI h2
 rw [zbL]
 have hg : 0 < Nat.gcd (val B16 n) (val B16 d) := Nat.gcd_pos_of_pos_right _ (Nat.pos_of_ne_zero h3)
 have lg : Nat.gcd (val B16 n) (val B16 d) < B16 ^ d.length := Nat.lt_of_le_of_lt (Nat.gcd_le_right _ (Nat.pos_of_ne_zero h3)) (zcQ (by decide) w2)
 have og : okM 37 (zcg B16 (Nat.gcd (val B16 n) (val B16 d))) = true := okM_lt lg (Nat.le_trans (zgf.1 h2).1 (by decide))
 simp only [RT.run]
 rw [if_pos (by rw [zgU (by decide) h1,zgU (by decide) h2]; rfl),zcz (by decide),if_pos (by rw [zec (by decide) h1,og,decide_eq_true hg]; rfl),if_pos (by rw [zec (by decide) h2,og,decide_eq_true hg]; rfl)]
 rw [zdl,rQ_mkRat h3]
def zcc : (Int × Int) → RT Unit ((List Int) × (List Int))
| (n,d) =>
 .rq 6 (.req (isM 36 (zcg B16 n.toNat) && (isM 36 (zcg B16 d.toNat) && decide (val B16 (zcg B16 d.toNat) ≠ 0))) (.rq 1 (let t0 := rQ (zdl (zcg B16 n.toNat) (zcg B16 d.toNat));
 .done (t0.1,t0.2))))
def F_zcc (x : Int × Int) : Option ((List Int) × (List Int)) := (zcc x).run fun _ => none
def io_zcc : Io := ⟨n_zcc,[tU,tU],[.lf (qm 0),.lf (qm 1)],[],[[tU],[tU]],[.sl tI,.sl tI],.agg [qr 0,qr 1],[],[(true,.arr 3 (qm 0)),(true,.arr 3 (qm 1))],false⟩
def zcc_P : List zch := []
def zcc_T : zcl := tab [e_zbL,e_zbf]
theorem zcc_To : zck pg zcc_T := zci ⟨e_zbL_ok,zid,trivial⟩
theorem zcc_go : zcy pg (zcc_T) io_zcc f_zcc (zcc_P) [.cellRow 64 0 600064 3 tI,.cellRow 64 1 600065 3 tI,.cellRen 64 0 600064,.cellRen 64 1 600065] (zcc) := ⟨by kernel_rfl,by kernel_rfl,fun x => by kernel_rfl⟩
theorem ok_zcc : io_zcc.Okay pg (F_zcc) := zcu zcj (zcc_To) (zcc_go) trivial
theorem isM_word {n : Int} (h : 0 ≤ n ∧ n < 18446744073709551616) : isM 2 (zcg B16 n.toNat) = true := by
 refine zgl ?_
 have : n.toNat < B16 ^ 4 := by rw [show B16 ^ 4 = 18446744073709551616 from rfl]; omega
 exact zgu this
def e_zcc : zcq := io_zcc.sp (fun (n,d) => decide (d ≠ 0)) (fun (n,d) => rQ (mkRat ((n.toNat : Nat) : Int) d.toNat))
theorem sp_zcc (h : ∀ (n : Int) (d : Int),WfT [tU,tU] (n,d) → (decide (d ≠ 0)) = true → (zcc (n,d)).run (fun _ => none) = some (rQ (mkRat ((n.toNat : Nat) : Int) d.toNat))) : e_zcc.ok pg := zcw ok_zcc fun (n,d) hw hc => h n d hw hc
theorem e_zcc_ok : e_zcc.ok pg := sp_zcc fun n d hw hc => by
 have hn : 0 ≤ n ∧ n < 18446744073709551616 := hw.1
 have hd : 0 ≤ d ∧ d < 18446744073709551616 := hw.2
 rw [decide_eq_true_eq] at hc
 rw [zcc]
 simp only [RT.run]
 rw [if_pos (by rw [zgU (by decide) (isM_word hn),zgU (by decide) (isM_word hd),zcz (by decide)]; simp; omega)]
 rw [zdl,zcz (by decide),zcz (by decide)]
def zbs : Int → RT Unit ((List Int) × (List Int))
| n =>
 .rq 6 (.done (zcg B16 n.toNat,zcg B16 (1 : Int).toNat))
def F_zbs (x : Int) : Option ((List Int) × (List Int)) := (zbs x).run fun _ => none
def io_zbs : Io := ⟨n_zbs,[tU],[.lf (qm 0)],[],[[tU]],[.sl tI,.sl tI],.agg [qr 0,qr 1],[],[(true,.arr 3 (qm 0)),(true,.arr 3 (qm 1))],false⟩
def zbs_P : List zch := []
def zbs_T : zcl := tab [e_zbf]
theorem zbs_To : zck pg zbs_T := zci ⟨zid,trivial⟩
theorem zbs_go : zcy pg (zbs_T) io_zbs f_zbs (zbs_P) [.cellRow 32 0 600032 3 tI,.cellRow 32 1 600033 3 tI,.cellRen 32 0 600032,.cellRen 32 1 600033] (zbs) := ⟨by kernel_rfl,by kernel_rfl,fun x => by kernel_rfl⟩
theorem ok_zbs : io_zbs.Okay pg (F_zbs) := zcu zcj (zbs_To) (zbs_go) trivial
theorem rQ_nat (n : Nat) : rQ (n : Rat) = (zcg B16 n,zcg B16 1) := by
 unfold rQ
 simp
def e_zbs : zcq := io_zbs.sp (fun n => true) (fun n => rQ ((n.toNat : Nat) : Rat))
theorem sp_zbs (h : ∀ (n : Int),WfT [tU] n → (zbs n).run (fun _ => none) = some (rQ ((n.toNat : Nat) : Rat))) : e_zbs.ok pg := zcw ok_zbs fun n hw hc => h n hw
theorem zhn : e_zbs.ok pg := sp_zbs fun n _ => by
 rw [zbs,rQ_nat]
 rfl
def okq (n d : List Int) : Bool := isM 30 n && (isM 30 d && decide (val B16 d ≠ 0))
theorem okq_iff {n d : List Int} : okq n d = true ↔ isM 30 n = true ∧ isM 30 d = true ∧ val B16 d ≠ 0 := by simp [okq]
theorem toQ16_add {a0 a1 b0 b1 : List Int} (h1 : val B16 a1 ≠ 0) (h2 : val B16 b1 ≠ 0) : mkRat ((val B16 a0 * val B16 b1 + val B16 b0 * val B16 a1 : Nat) : Int) (val B16 a1 * val B16 b1) = zdl a0 a1 + zdl b0 b1 := by
 unfold zdl
 rw [Rat.mkRat_add_mkRat _ _ h1 h2]
 simp only [Int.natCast_add,Int.natCast_mul]
def zbK : ((List Int) × (List Int) × (List Int) × (List Int)) → RT Unit ((List Int) × (List Int))
| (a_0,a_1,b_0,b_1) =>
 .rq 7 (.req (okM 38 a_0 && okM 38 b_1) (.rq 4 (.req (okM 38 b_0 && okM 38 a_1) (.req (okM 39 (zcg B16 (val B16 a_0 * val B16 b_1)) && okM 39 (zcg B16 (val B16 b_0 * val B16 a_1))) (.rq 4 (.req (okM 38 a_1 && okM 38 b_1) (.rq 1 (let t0 := zcg B16 (val B16 (zcg B16 (val B16 a_0 * val B16 b_1)) + val B16 (zcg B16 (val B16 b_0 * val B16 a_1)));
 .req (isM 36 t0 && (isM 36 (zcg B16 (val B16 a_1 * val B16 b_1)) && decide (val B16 (zcg B16 (val B16 a_1 * val B16 b_1)) ≠ 0))) (.rq 1 (let t1 := rQ (zdl t0 (zcg B16 (val B16 a_1 * val B16 b_1)));
 .done (t1.1,t1.2)))))))))))
def F_zbK (x : (List Int) × (List Int) × (List Int) × (List Int)) : Option ((List Int) × (List Int)) := (zbK x).run fun _ => none
def io_zbK : Io := ⟨n_zbK,[.sl tI,.sl tI,.sl tI,.sl tI],[.agg [qm 0,qm 1],.agg [qm 2,qm 3]],[],[[.sl tI,.sl tI],[.sl tI,.sl tI]],[.sl tI,.sl tI],.agg [qr 0,qr 1],[],[(true,.arr 3 (qm 0)),(true,.arr 3 (qm 1))],false⟩
def zbK_P : List zch := []
def zbK_T : zcl := tab [e_zbL,e_zO,e_zaV]
theorem zbK_To : zck pg zbK_T := zci ⟨e_zbL_ok,zhH,e_zaV_ok,trivial⟩
theorem zbK_go : zcy pg (zbK_T) io_zbK f_zbK (zbK_P) [.cellRow 64 0 600064 3 tI,.cellRow 64 1 600065 3 tI,.cellRen 64 0 600064,.cellRen 64 1 600065] (zbK) := ⟨by kernel_rfl,by kernel_rfl,fun x => by kernel_rfl⟩
theorem ok_zbK : io_zbK.Okay pg (F_zbK) := zcu zcj (zbK_To) (zbK_go) trivial
def e_zbK : zcq := io_zbK.sp (fun (a0,a1,b0,b1) => okq a0 a1 && okq b0 b1) (fun (a0,a1,b0,b1) => rQ (zdl a0 a1 + zdl b0 b1))
theorem sp_zbK (h : ∀ (a0 : List Int) (a1 : List Int) (b0 : List Int) (b1 : List Int),WfT [.sl tI,.sl tI,.sl tI,.sl tI] (a0,a1,b0,b1) → (okq a0 a1 && okq b0 b1) = true → (zbK (a0,a1,b0,b1)).run (fun _ => none) = some (rQ (zdl a0 a1 + zdl b0 b1))) : e_zbK.ok pg := zcw ok_zbK fun (a0,a1,b0,b1) hw hc => h a0 a1 b0 b1 hw hc
theorem e_zbK_ok : e_zbK.ok pg := sp_zbK fun a0 a1 b0 b1 _ h => by
 simp only [Bool.and_eq_true,okq_iff] at h
 obtain ⟨⟨p1,p2,p3⟩,q1,q2,q3⟩ := h
 rw [zbK]
 have m1 := isM_mul p1 q2
 have m2 := isM_mul q1 p2
 have m3 := isM_mul p2 q2
 have s := isM_add m1 m2
 simp only [RT.run,zcz (show 2 ≤ B16 by decide)]
 rw [if_pos (by rw [zec (by decide) p1,zec (by decide) q2]; rfl),if_pos (by rw [zec (by decide) q1,zec (by decide) p2]; rfl),if_pos (by rw [zec (by decide) m1,zec (by decide) m2]; rfl),
  if_pos (by rw [zec (by decide) p2,zec (by decide) q2]; rfl),if_pos (by rw [zgU (by decide) s,zgU (by decide) m3,decide_eq_true (Nat.mul_ne_zero p3 q3)]; rfl)]
 rw [← toQ16_add p3 q3,zdl,zcz (by decide),zcz (by decide)]
def zbV : ((List Int) × (List Int) × (List Int) × (List Int)) → RT Unit ((List Int) × (List Int))
| (a_0,a_1,b_0,b_1) =>
 .rq 7 (.req (okM 38 a_0 && okM 38 b_0) (.rq 4 (.req (okM 38 a_1 && okM 38 b_1) (.rq 1 (.req (isM 36 (zcg B16 (val B16 a_0 * val B16 b_0)) && (isM 36 (zcg B16 (val B16 a_1 * val B16 b_1)) && decide (val B16 (zcg B16 (val B16 a_1 * val B16 b_1)) ≠ 0))) (.rq 1 (let t0 := rQ (zdl (zcg B16 (val B16 a_0 * val B16 b_0)) (zcg B16 (val B16 a_1 * val B16 b_1)));
 .done (t0.1,t0.2))))))))
def F_zbV (x : (List Int) × (List Int) × (List Int) × (List Int)) : Option ((List Int) × (List Int)) := (zbV x).run fun _ => none
def io_zbV : Io := ⟨n_zbV,[.sl tI,.sl tI,.sl tI,.sl tI],[.agg [qm 0,qm 1],.agg [qm 2,qm 3]],[],[[.sl tI,.sl tI],[.sl tI,.sl tI]],[.sl tI,.sl tI],.agg [qr 0,qr 1],[],[(true,.arr 3 (qm 0)),(true,.arr 3 (qm 1))],false⟩
def zbV_P : List zch := []
def zbV_T : zcl := tab [e_zbL,e_zO]
theorem zbV_To : zck pg zbV_T := zci ⟨e_zbL_ok,zhH,trivial⟩
theorem zbV_go : zcy pg (zbV_T) io_zbV f_zbV (zbV_P) [.cellRow 64 0 600064 3 tI,.cellRow 64 1 600065 3 tI,.cellRen 64 0 600064,.cellRen 64 1 600065] (zbV) := ⟨by kernel_rfl,by kernel_rfl,fun x => by kernel_rfl⟩
theorem ok_zbV : io_zbV.Okay pg (F_zbV) := zcu zcj (zbV_To) (zbV_go) trivial
def e_zbV : zcq := io_zbV.sp (fun (a0,a1,b0,b1) => okq a0 a1 && okq b0 b1) (fun (a0,a1,b0,b1) => rQ (zdl a0 a1 * zdl b0 b1))
theorem sp_zbV (h : ∀ (a0 : List Int) (a1 : List Int) (b0 : List Int) (b1 : List Int),WfT [.sl tI,.sl tI,.sl tI,.sl tI] (a0,a1,b0,b1) → (okq a0 a1 && okq b0 b1) = true → (zbV (a0,a1,b0,b1)).run (fun _ => none) = some (rQ (zdl a0 a1 * zdl b0 b1))) : e_zbV.ok pg := zcw ok_zbV fun (a0,a1,b0,b1) hw hc => h a0 a1 b0 b1 hw hc
theorem e_zbV_ok : e_zbV.ok pg := sp_zbV fun a0 a1 b0 b1 _ h => by
 simp only [Bool.and_eq_true,okq_iff] at h
 obtain ⟨⟨p1,p2,p3⟩,q1,q2,q3⟩ := h
 rw [zbV]
 have m1 := isM_mul p1 q1
 have m3 := isM_mul p2 q2
 simp only [RT.run,zcz (show 2 ≤ B16 by decide)]
 rw [if_pos (by rw [zec (by decide) p1,zec (by decide) q1]; rfl),if_pos (by rw [zec (by decide) p2,zec (by decide) q2]; rfl),if_pos (by rw [zgU (by decide) m1,zgU (by decide) m3,decide_eq_true (Nat.mul_ne_zero p3 q3)]; rfl)]
 unfold zdl
 rw [Rat.mkRat_mul_mkRat,zcz (by decide),zcz (by decide),Int.natCast_mul]
def zaQ_b6 : ((List Int) × (List Int) × (List Int) × (List Int)) → RT Unit Bool
| (a_0,a_1,q_0,q_1) =>
 .rq 4 (.req (isM 38 q_0) (.rq 2 (.ite (decide (a_0 = (zcg B32 (val B16 q_0))))
 (.rq 4 (.req (isM 38 q_1) (.rq 3 (.done (decide (a_1 = (zcg B32 (val B16 q_1))))))))
 (.rq 2 (.done false)))))
def zaQ_p6 : zch := ⟨6,false,[.sl tV,.sl tV,.sl tI,.sl tI],[],⟨[.keep [2,3],.gc],[2,3],[.lf (qp 32),.lf (qp 48)],[(32,true,.cells [qi 0,qi 1]),(48,true,.cells [qi 2,qi 3])]⟩,[⟨0,⟨[.keep [4],.gc],[4],[.lf (qm 0)],[]⟩,[tB]⟩],(fun i _ => zaQ_b6 i)⟩
def zaQ : ((List Int) × (List Int) × (List Int) × (List Int)) → RT Unit Bool
| (a_0,a_1,q_0,q_1) =>
 .rq 3 (.call (on zaQ_b6 (a_0,a_1,q_0,q_1)) default fun v0 =>
 .done v0)
def F_zaQ (x : (List Int) × (List Int) × (List Int) × (List Int)) : Option Bool := (zaQ x).run fun _ => none
def io_zaQ : Io := ⟨n_zaQ,[.sl tV,.sl tV,.sl tI,.sl tI],[.agg [qm 0,qm 1],.agg [qm 2,qm 3]],[],[[.sl tV,.sl tV],[.sl tI,.sl tI]],[tB],.lf (qm 0),[],[],false⟩
def zaQ_P : List zch := [zaQ_p6]
def zaQ_T : zcl := tab [e_zaF,e_zaZ]
theorem zaQ_To : zck pg zaQ_T := zci ⟨e_zaF_ok,e_zaZ_ok,trivial⟩
theorem zaQ_k6 : (zaQ_p6).OK pg (zaQ_T) (zcB 19 (zaQ_P)) (zcs f_zaQ) 19 := ⟨by kernel_rfl,fun i x => by kernel_rfl⟩
theorem zaQ_go : zcy pg (zaQ_T) io_zaQ f_zaQ (zaQ_P) [] (zaQ) := ⟨by kernel_rfl,by kernel_rfl,fun x => by kernel_rfl⟩
theorem ok_zaQ : io_zaQ.Okay pg (F_zaQ) := zcu zcj (zaQ_To) (zaQ_go) ⟨zaQ_k6,trivial⟩
def e_zaQ : zcq := io_zaQ.sp (fun (a0,a1,q0,q1) => isM 38 q0 && isM 38 q1) (fun (a0,a1,q0,q1) => decide (a0 = zcg B32 (val B16 q0)) && decide (a1 = zcg B32 (val B16 q1)))
theorem sp_zaQ (h : ∀ (a0 : List Int) (a1 : List Int) (q0 : List Int) (q1 : List Int),WfT [.sl tV,.sl tV,.sl tI,.sl tI] (a0,a1,q0,q1) → (isM 38 q0 && isM 38 q1) = true → (zaQ (a0,a1,q0,q1)).run (fun _ => none) = some (decide (a0 = zcg B32 (val B16 q0)) && decide (a1 = zcg B32 (val B16 q1)))) : e_zaQ.ok pg := zcw ok_zaQ fun (a0,a1,q0,q1) hw hc => h a0 a1 q0 q1 hw hc
theorem e_zaQ_ok : e_zaQ.ok pg := sp_zaQ fun a0 a1 q0 q1 _ h => by
 rw [Bool.and_eq_true] at h
 rw [zaQ]
 simp only [RT.run,on,zaQ_b6,h.1,h.2,if_true]
 by_cases h1 : a0 = zcg B32 (val B16 q0)
 ·simp [h1]
 ·simp [h1]
end
end Go.Proofs.YtlfdidaeachpoaaGreat
namespace Go.Proofs.YtlfdidaeachpoaaGreat
open Go Go.RowKit
set_option maxRecDepth 100000
noncomputable section
theorem gcd_okL {a b : List Int} {k : Nat} (ha : wfd B32 a = true) (hb : wfd B32 b = true) (h1 : okL k a = true) (h2 : okL k b = true) : okL k (zcg B32 (Nat.gcd (val B32 a) (val B32 b))) = true := by
 by_cases h0 : val B32 a = 0
 ·rw [h0,Nat.gcd_zero_left]; exact zhk hb h2
 ·exact okL_le (Nat.gcd_le_left _ (Nat.pos_of_ne_zero h0)) (zhk ha h1)
theorem digs_nil {b n : Nat} (hb : 2 ≤ b) : (zcg b n).length = 0 ↔ n = 0 := by
 constructor
 ·intro h
  apply Nat.eq_zero_of_not_pos
  intro hp
  rw [zgt hb hp] at h
  simp at h
 ·rintro rfl; rfl
def zaA : ((List Int) × (List Int)) → RT Unit (Bool × (List Int) × (List Int))
| (num,den) =>
 .rq 4 (.req (okL 38 num && okL 38 den) (.rq 3 (.req (okL 38 den && okL 38 (zcg B32 (Nat.gcd (val B32 num) (val B32 den)))) (.rq 14 (let t0 := zff (val B32 den) (val B32 (zcg B32 (Nat.gcd (val B32 num) (val B32 den))));
 .ite ((!t0.1) || ((t0.2.1.length : Int) == 0))
 (.rq 3 (.done (false,[],[])))
 (.rq 2 (.req (okL 38 num && okL 38 (zcg B32 (Nat.gcd (val B32 num) (val B32 den)))) (.rq 12 (.done (true,(zff (val B32 num) (val B32 (zcg B32 (Nat.gcd (val B32 num) (val B32 den))))).2.1,t0.2.1))))))))))
def F_zaA (x : (List Int) × (List Int)) : Option (Bool × (List Int) × (List Int)) := (zaA x).run fun _ => none
def io_zaA : Io := ⟨n_zaA,[.sl tV,.sl tV],[.lf (qm 0),.lf (qm 1)],[],[[.sl tV],[.sl tV]],[tB,.sl tV,.sl tV],.tup [(true,[qr 0,qr 1]),(false,[qm 0])],[],[(true,.arr 122 (qm 1)),(true,.arr 122 (qm 2))],false⟩
def zaA_P : List zch := []
def zaA_T : zcl := tab [e_zbd,e_zaH]
theorem zaA_To : zck pg zaA_T := zci ⟨e_zbd_ok,e_zaH_ok,trivial⟩
theorem zaA_go : zcy pg (zaA_T) io_zaA f_zaA (zaA_P) [.cellRow 64 0 600064 122 tV,.cellRow 64 1 600065 122 tV,.cellRen 64 0 600064,.cellRen 64 1 600065] (zaA) := ⟨by kernel_rfl,by kernel_rfl,fun x => by kernel_rfl⟩
theorem ok_zaA : io_zaA.Okay pg (F_zaA) := zcu zcj (zaA_To) (zaA_go) trivial
def mkR (n d : Nat) : Bool × List Int × List Int := if d = 0 then (false,[],[]) else (true,rq (mkRat (n : Int) d))
def e_zaA : zcq := io_zaA.sp (fun (n,d) => okL 36 n && okL 36 d) (fun (n,d) => mkR (val B32 n) (val B32 d))
theorem sp_zaA (h : ∀ (n : List Int) (d : List Int),WfT [.sl tV,.sl tV] (n,d) → (okL 36 n && okL 36 d) = true → (zaA (n,d)).run (fun _ => none) = some (mkR (val B32 n) (val B32 d))) : e_zaA.ok pg := zcw ok_zaA fun (n,d) hw hc => h n d hw hc
theorem e_zaA_ok : e_zaA.ok pg := sp_zaA fun n d hw hc => by
 have hn : wfd B32 n = true := zdq hw.1
 have hd : wfd B32 d = true := zdq hw.2
 rw [Bool.and_eq_true] at hc
 have l1 := zik (m := 38) (by decide) hc.1
 have l2 := zik (m := 38) (by decide) hc.2
 have hg := gcd_okL hn hd l1 l2
 rw [zaA]
 simp only [RT.run,l1,l2,hg,Bool.and_self,if_true,zcz (show 2 ≤ B32 by decide)]
 generalize val B32 n = N at *
 generalize val B32 d = D at *
 unfold mkR
 by_cases h0 : D = 0
 ·subst h0
  rw [if_pos rfl]
  by_cases hn0 : N = 0
  ·subst hn0; rfl
  ·simp [zff,hn0,zdC]
 ·rw [if_neg h0]
  have hgp : Nat.gcd N D ≠ 0 := Nat.ne_of_gt (Nat.gcd_pos_of_pos_right _ (Nat.pos_of_ne_zero h0))
  have hq : D / Nat.gcd N D ≠ 0 := Nat.ne_of_gt (Nat.div_pos (Nat.gcd_le_right _ (Nat.pos_of_ne_zero h0)) (Nat.pos_of_ne_zero hgp))
  rw [zff,if_neg hgp,zff,if_neg hgp,rq_mkRat h0]
  simp only [Bool.not_true,Bool.false_or]
  rw [if_neg (by
   simp only [beq_iff_eq]
   intro e
   exact hq ((digs_nil (b := B32) (by decide)).1 (by omega)))]
def zag : Unit → RT Unit (List Int)
| _ =>
 .rq 4 (.done (zcg B32 (1 : Int).toNat))
def F_zag (x : Unit) : Option (List Int) := (zag x).run fun _ => none
def io_zag : Io := ⟨n_zag,[],[],[],[],[.sl tV],.agg [.fix (.nil),qr 0],[],[(true,.arr 122 (qm 0))],false⟩
def zag_P : List zch := []
def zag_T : zcl := tab [e_zbW]
theorem zag_To : zck pg zag_T := zci ⟨zit,trivial⟩
theorem zag_go : zcy pg (zag_T) io_zag f_zag (zag_P) [.cellRow 0 1 600001 122 tV,.cellRen 0 1 600001] (zag) := ⟨by kernel_rfl,by kernel_rfl,fun x => by kernel_rfl⟩
theorem ok_zag : io_zag.Okay pg (F_zag) := zcu zcj (zag_To) (zag_go) trivial
def e_zag : zcq := io_zag.sp (fun _ => true) (fun _ => zcg B32 1)
theorem sp_zag (h : (zag ()).run (fun _ => none) = some (zcg B32 1)) : e_zag.ok pg := zcw ok_zag fun _ _ hc => h
theorem zgp : e_zag.ok pg := sp_zag (by
 rw [zag]; rfl)
theorem rq_zero : rq 0 = ([],zcg B32 1) := rfl
theorem rq_one : rq 1 = (zcg B32 1,zcg B32 1) := rfl
def zbw : Unit → RT Unit ((List Int) × (List Int))
| _ =>
 .rq 5 (.done (zcg B32 (1 : Int).toNat,zcg B32 (1 : Int).toNat))
def F_zbw (x : Unit) : Option ((List Int) × (List Int)) := (zbw x).run fun _ => none
def io_zbw : Io := ⟨n_zbw,[],[],[],[],[.sl tV,.sl tV],.agg [qr 0,qr 1],[],[(true,.arr 122 (qm 0)),(true,.arr 122 (qm 1))],false⟩
def zbw_P : List zch := []
def zbw_T : zcl := tab [e_zbW]
theorem zbw_To : zck pg zbw_T := zci ⟨zit,trivial⟩
theorem zbw_go : zcy pg (zbw_T) io_zbw f_zbw (zbw_P) [.cellRow 0 0 600000 122 tV,.cellRow 0 1 600001 122 tV,.cellRen 0 0 600000,.cellRen 0 1 600001] (zbw) := ⟨by kernel_rfl,by kernel_rfl,fun x => by kernel_rfl⟩
theorem ok_zbw : io_zbw.Okay pg (F_zbw) := zcu zcj (zbw_To) (zbw_go) trivial
def e_zbw : zcq := io_zbw.sp (fun _ => true) (fun _ => rq 1)
theorem sp_zbw (h : (zbw ()).run (fun _ => none) = some (rq 1)) : e_zbw.ok pg := zcw ok_zbw fun _ _ hc => h
theorem e_zbw_ok : e_zbw.ok pg := sp_zbw (by
 rw [zbw,rq_one]; rfl)
def zbF : (Int × Int) → RT Unit (Bool × (List Int) × (List Int))
| (n,d) =>
 .rq 6 (.req (okL 36 (zcg B32 n.toNat) && okL 36 (zcg B32 d.toNat)) (.rq 4 (let t0 := mkR (val B32 (zcg B32 n.toNat)) (val B32 (zcg B32 d.toNat));
 .done (t0.1,t0.2.1,t0.2.2))))
def F_zbF (x : Int × Int) : Option (Bool × (List Int) × (List Int)) := (zbF x).run fun _ => none
def io_zbF : Io := ⟨n_zbF,[tU,tU],[.lf (qm 0),.lf (qm 1)],[],[[tU],[tU]],[tB,.sl tV,.sl tV],.tup [(true,[qr 0,qr 1]),(false,[qm 0])],[],[(true,.arr 122 (qm 1)),(true,.arr 122 (qm 2))],false⟩
def zbF_P : List zch := []
def zbF_T : zcl := tab [e_zaA,e_zbW]
theorem zbF_To : zck pg zbF_T := zci ⟨e_zaA_ok,zit,trivial⟩
theorem zbF_go : zcy pg (zbF_T) io_zbF f_zbF (zbF_P) [.cellRow 64 0 600064 122 tV,.cellRow 64 1 600065 122 tV,.cellRen 64 0 600064,.cellRen 64 1 600065] (zbF) := ⟨by kernel_rfl,by kernel_rfl,fun x => by kernel_rfl⟩
theorem ok_zbF : io_zbF.Okay pg (F_zbF) := zcu zcj (zbF_To) (zbF_go) trivial
theorem okL_word {n : Int} (h : 0 ≤ n ∧ n < 18446744073709551616) : okL 36 (zcg B32 n.toNat) = true := by
 have : n.toNat < B32 ^ 2 := by rw [show B32 ^ 2 = 18446744073709551616 from rfl]; omega
 have := zhj this
 rw [okL36]
 omega
def e_zbF : zcq := io_zbF.sp (fun (n,d) => true) (fun (n,d) => mkR n.toNat d.toNat)
theorem sp_zbF (h : ∀ (n : Int) (d : Int),WfT [tU,tU] (n,d) → (zbF (n,d)).run (fun _ => none) = some (mkR n.toNat d.toNat)) : e_zbF.ok pg := zcw ok_zbF fun (n,d) hw hc => h n d hw
theorem e_zbF_ok : e_zbF.ok pg := sp_zbF fun n d hw => by
 rw [zbF]
 simp only [RT.run,okL_word hw.1,okL_word hw.2,Bool.and_self,if_true,zcz (show 2 ≤ B32 by decide)]
def okr (n d : List Int) : Bool := okL 30 n && (okL 30 d && decide (val B32 d ≠ 0))
theorem ziq {n d : List Int} : okr n d = true ↔ n.length ≤ 2 ^ 30 ∧ d.length ≤ 2 ^ 30 ∧ val B32 d ≠ 0 := by simp [okr,zeG]
theorem toQ_add {a0 a1 b0 b1 : List Int} (h1 : val B32 a1 ≠ 0) (h2 : val B32 b1 ≠ 0) : mkRat ((val B32 a0 * val B32 b1 + val B32 b0 * val B32 a1 : Nat) : Int) (val B32 a1 * val B32 b1) = toQ a0 a1 + toQ b0 b1 := by
 unfold toQ
 rw [Rat.mkRat_add_mkRat _ _ h1 h2]
 simp only [Int.natCast_add,Int.natCast_mul]
theorem toQ_mul {a0 a1 b0 b1 : List Int} : mkRat ((val B32 a0 * val B32 b0 : Nat) : Int) (val B32 a1 * val B32 b1) = toQ a0 a1 * toQ b0 b1 := by
 unfold toQ
 rw [Rat.mkRat_mul_mkRat,Int.natCast_mul]
theorem prod2 (a b : List Int) : zeB [a,b] = val B32 a * val B32 b := by simp [zeB]
theorem zia {a b : List Int} (ha : wfd B32 a = true) (hb : wfd B32 b = true) : (zcg B32 (val B32 a * val B32 b)).length ≤ a.length + b.length := by
 refine zhj ?_
 rw [Nat.pow_add]
 exact Nat.mul_lt_mul'' (zcQ (by decide) ha) (zcQ (by decide) hb)
theorem add_len {m n k : Nat} (h1 : (zcg B32 m).length ≤ k) (h2 : (zcg B32 n).length ≤ k) : (zcg B32 (m + n)).length ≤ k + 1 := by
 have lt1 := zcQ (b := B32) (by decide) (zcS (by decide) m)
 have lt2 := zcQ (b := B32) (by decide) (zcS (by decide) n)
 rw [zcz (by decide)] at lt1 lt2
 have l1 : m < B32 ^ k := Nat.lt_of_lt_of_le lt1 (Nat.pow_le_pow_right (by decide) h1)
 have l2 : n < B32 ^ k := Nat.lt_of_lt_of_le lt2 (Nat.pow_le_pow_right (by decide) h2)
 refine zhj ?_
 rw [Nat.pow_succ]
 generalize B32 ^ k = z at *
 rw [show B32 = 4294967296 from rfl]
 omega
def zbi : ((List Int) × (List Int) × (List Int) × (List Int)) → RT Unit ((List Int) × (List Int))
| (a_0,a_1,b_0,b_1) =>
 .rq 8 (.req (okMs [a_0,b_1]) (.rq 5 (.req (okMs [b_0,a_1]) (.rq 1 (let t0 := [zcg B32 (zeB [a_0,b_1]),zcg B32 (zeB [b_0,a_1])];
 .req (okLs t0) (.rq 5 (.req (okMs [a_1,b_1]) (let t1 := zcg B32 (zeB [a_1,b_1]);
 let t2 := zcg B32 (sumV t0);
 .req (okL 36 t2 && okL 36 t1) (.rq 8 (let t3 := mkR (val B32 t2) (val B32 t1);
 .done (t3.2.1,t3.2.2)))))))))))
def F_zbi (x : (List Int) × (List Int) × (List Int) × (List Int)) : Option ((List Int) × (List Int)) := (zbi x).run fun _ => none
def io_zbi : Io := ⟨n_zbi,[.sl tV,.sl tV,.sl tV,.sl tV],[.agg [qm 0,qm 1],.agg [qm 2,qm 3]],[],[[.sl tV,.sl tV],[.sl tV,.sl tV]],[.sl tV,.sl tV],.agg [qr 0,qr 1],[],[(true,.arr 122 (qm 0)),(true,.arr 122 (qm 1))],false⟩
def zbi_P : List zch := []
def zbi_T : zcl := tab [e_zaA,e_zaz,e_zbn]
theorem zbi_To : zck pg zbi_T := zci ⟨e_zaA_ok,zhY,e_zbn_ok,trivial⟩
theorem zbi_go : zcy pg (zbi_T) io_zbi f_zbi (zbi_P) [.cellRow 64 0 600064 122 tV,.cellRow 64 1 600065 122 tV,.cellRen 64 0 600064,.cellRen 64 1 600065] (zbi) := ⟨by kernel_rfl,by kernel_rfl,fun x => by kernel_rfl⟩
theorem ok_zbi : io_zbi.Okay pg (F_zbi) := zcu zcj (zbi_To) (zbi_go) trivial
def e_zbi : zcq := io_zbi.sp (fun (a0,a1,b0,b1) => okr a0 a1 && okr b0 b1) (fun (a0,a1,b0,b1) => rq (toQ a0 a1 + toQ b0 b1))
theorem sp_zbi (h : ∀ (a0 : List Int) (a1 : List Int) (b0 : List Int) (b1 : List Int),WfT [.sl tV,.sl tV,.sl tV,.sl tV] (a0,a1,b0,b1) → (okr a0 a1 && okr b0 b1) = true → (zbi (a0,a1,b0,b1)).run (fun _ => none) = some (rq (toQ a0 a1 + toQ b0 b1))) : e_zbi.ok pg := zcw ok_zbi fun (a0,a1,b0,b1) hw hc => h a0 a1 b0 b1 hw hc
theorem e_zbi_ok : e_zbi.ok pg := sp_zbi fun a0 a1 b0 b1 hw h => by
 have w0 : wfd B32 a0 = true := zdq hw.1
 have w1 : wfd B32 a1 = true := zdq hw.2.1
 have w2 : wfd B32 b0 = true := zdq hw.2.2.1
 have w3 : wfd B32 b1 = true := zdq hw.2.2.2
 simp only [Bool.and_eq_true,ziq] at h
 obtain ⟨⟨p1,p2,p3⟩,q1,q2,q3⟩ := h
 have m1 := zia w0 w3
 have m2 := zia w2 w1
 have m3 := zia w1 w3
 have s := add_len (k := 2147483648) (Nat.le_trans m1 (by omega)) (Nat.le_trans m2 (by omega))
 rw [zbi]
 simp only [RT.run,prod2,zcz (show 2 ≤ B32 by decide),sumV,List.map_cons,List.map_nil,List.sum_cons,List.sum_nil,Nat.add_zero]
 rw [if_pos (by rw [zeX]; simp [lenS]; omega),if_pos (by rw [zeX]; simp [lenS]; omega),if_pos (by rw [okLs_iff]; simp; omega),if_pos (by rw [zeX]; simp [lenS]; omega),
  if_pos (by rw [Bool.and_eq_true,okL36,okL36]; omega)]
 rw [mkR,if_neg (Nat.mul_ne_zero p3 q3),← toQ_add p3 q3]
def sumQ (l : List (List Int × List Int)) : Rat := l.foldl (fun q x => q + toQ x.1 x.2) 0
def prodQ (l : List (List Int × List Int)) : Rat := l.foldl (fun q x => q * toQ x.1 x.2) 1
def szS (l : List (List Int × List Int)) : Nat := (l.map fun x => 32 * (x.1.length + x.2.length) + 1).sum
theorem sm_toQ {n d : List Int} (hn : wfd B32 n = true) (hd : wfd B32 d = true) (h0 : val B32 d ≠ 0) : sm (32 * (n.length + d.length)) (toQ n d) := by
 have l1 := zcQ (by decide) hn
 have l2 := zcQ (by decide) hd
 rw [pow32] at l1 l2
 exact zfX h0 (Nat.lt_of_lt_of_le l1 (Nat.pow_le_pow_right (by decide) (by omega))) (Nat.lt_of_lt_of_le l2 (Nat.pow_le_pow_right (by decide) (by omega)))
theorem toQ_nonneg (n d : List Int) : 0 ≤ toQ n d := zfh _ _
theorem okr_rq {q : Rat} {k : Nat} (h : sm k q) (hk : k ≤ 1073741824) : okr (rq q).1 (rq q).2 = true := by
 rw [ziq,rq_den]
 have a := zfC (b := B32) (by decide) h.1
 have b := zfC (b := B32) (by decide) h.2
 exact ⟨Nat.le_trans a hk,Nat.le_trans b hk,q.den_nz⟩
def zX_b58 : ((List ((List Int) × List Int)) × Int) → (Int × (List Int) × (List Int)) → RT (Int × (List Int) × (List Int)) ((List Int) × (List Int))
| (x7,x8),(x9,r48,r49) =>
 .rq 1 (.ite (decide (x9 < x8))
 (.req (inB x7 x9) (.rq 5 (.req (okr r48 r49 && okr (gI x7 x9).1 (gI x7 x9).2) (.rq 3 (let t0 := rq (toQ r48 r49 + toQ (gI x7 x9).1 (gI x7 x9).2);
 .again (w64 (x9 + 1),t0.1,t0.2))))))
 (.done (r48,r49)))
def zX_p58 : zch := ⟨58,true,[.sl (.pair (.sl tV) (.sl tV)),tI],[tI,.sl tV,.sl tV],⟨[.keep [2,3,7,8,9],.gc,.cellRow 48 0 600048 122 tV,.cellRow 48 1 600049 122 tV,.cellRen 48 0 600048,.cellRen 48 1 600049,.gc],[2,3,7,8,9],[.lf (qp 32),.lf (qp 48),.lf (qi 0),.lf (qi 1),.lf (qm 0)],[(32,true,.cells [.fix (.nil),.fix (.nil)]),(48,true,.cells [qr 600048,qr 600049]),(600048,true,.arr 122 (qm 1)),(600049,true,.arr 122 (qm 2))]⟩,[⟨2,⟨[.keep [2,3],.gc,.cellRow 48 0 600048 122 tV,.cellRow 48 1 600049 122 tV,.cellRen 48 0 600048,.cellRen 48 1 600049,.gc],[2,3],[.lf (qp 32),.lf (qp 48)],[(32,true,.cells [.fix (.nil),.fix (.nil)]),(48,true,.cells [qr 600048,qr 600049]),(600048,true,.arr 122 (qm 0)),(600049,true,.arr 122 (qm 1))]⟩,[.sl tV,.sl tV]⟩],zX_b58⟩
def zX : (List ((List Int) × List Int)) → RT Unit ((List Int) × (List Int))
| l =>
 .rq 7 (.call (lo zX_b58 (l,(l.length : Int)) (0,[],zcg B32 1)) default fun v0 =>
 .rq 2 (.done (v0.1,v0.2)))
def F_zX (x : (List ((List Int) × List Int))) : Option ((List Int) × (List Int)) := (zX x).run fun _ => none
def io_zX : Io := ⟨n_zX,[.sl (.pair (.sl tV) (.sl tV))],[.lf (qm 0)],[],[[.sl (.pair (.sl tV) (.sl tV))]],[.sl tV,.sl tV],.agg [qr 0,qr 1],[],[(true,.arr 122 (qm 0)),(true,.arr 122 (qm 1))],false⟩
def zX_P : List zch := [zX_p58]
def zX_T : zcl := tab [e_zbi,e_zag]
theorem zX_To : zck pg zX_T := zci ⟨e_zbi_ok,zgp,trivial⟩
theorem zX_k58 : (zX_p58).OK pg (zX_T) (zcB 18 (zX_P)) (zcs f_zX) 18 := ⟨by kernel_rfl,fun i x => by kernel_rfl⟩
theorem zX_go : zcy pg (zX_T) io_zX f_zX (zX_P) [.cellRow 32 0 600032 122 tV,.cellRow 32 1 600033 122 tV,.cellRen 32 0 600032,.cellRen 32 1 600033] (zX) := ⟨by kernel_rfl,by kernel_rfl,fun x => by kernel_rfl⟩
theorem ok_zX : io_zX.Okay pg (F_zX) := zcu zcj (zX_To) (zX_go) ⟨zX_k58,trivial⟩
theorem addQ_l (l : List (List Int × List Int)) (hw : ∀ x ∈ l,wfd B32 x.1 = true ∧ wfd B32 x.2 = true) (hl : l.length ≤ 1048576) (hd : ∀ x ∈ l,okr x.1 x.2 = true) : ∀ (r i : Nat) (q : Rat) (k : Nat),i + r = l.length → 0 ≤ q → sm k q → k + szS (l.drop i) ≤ 1073741824 →
  lo zX_b58 (l,(l.length : Int)) ((i : Int),rq q) = some (rq ((l.drop i).foldl (fun q x => q + toQ x.1 x.2) q))
 | 0,i,q,k,h,_,_,_ => by
  show lo zX_b58 (l,(l.length : Int)) ((i : Int),(rq q).1,(rq q).2) = _
  rw [zcr,zX_b58]
  simp only [RT.run]
  rw [if_neg (by simp; omega),List.drop_of_length_le (by omega)]
  rfl
 | r + 1,i,q,k,h,hq,hs,hk => by
  show lo zX_b58 (l,(l.length : Int)) ((i : Int),(rq q).1,(rq q).2) = _
  rw [zcr,zX_b58]
  have hi : i < l.length := by omega
  have w5 : w64 ((i : Int) + 1) = ((i + 1 : Nat) : Int) := by rw [zcm] <;> omega
  have hx := List.getElem_mem hi
  rw [List.drop_eq_getElem_cons hi,szS,List.map_cons,List.sum_cons] at hk
  simp only [RT.run,w5,zcL hi]
  rw [if_pos (by simp; omega),if_pos (by rw [zdi]; simp; omega),if_pos (by rw [okr_rq hs (by omega),hd _ hx]; rfl),zgw hq]
  have hn := toQ_nonneg l[i].1 l[i].2
  have hs' := sm_add hq hn hs (sm_toQ (hw _ hx).1 (hw _ hx).2 (ziq.1 (hd _ hx)).2.2)
  have := addQ_l l hw hl hd r (i + 1) (q + toQ l[i].1 l[i].2) _ (by omega) (Rat.add_nonneg hq hn) hs' (by rw [szS]; omega)
  rw [List.drop_eq_getElem_cons hi,List.foldl_cons,← this]
def okS (l : List (List Int × List Int)) : Bool := okL 20 l && (l.all (fun x => okr x.1 x.2) && decide (szS l ≤ 1073741823))
theorem okS_iff {l : List (List Int × List Int)} : okS l = true ↔ l.length ≤ 1048576 ∧ (∀ x ∈ l,okr x.1 x.2 = true) ∧ szS l ≤ 1073741823 := by simp [okS,okL20]
theorem wfr {l : List (List Int × List Int)} (h : Wf (.sl (.pair (.sl tV) (.sl tV))) l) : ∀ x ∈ l,wfd B32 x.1 = true ∧ wfd B32 x.2 = true := fun x hx => ⟨zdq (h.2 x hx).1,zdq (h.2 x hx).2⟩
def e_zX : zcq := io_zX.sp (fun l => okS l) (fun l => rq (sumQ l))
theorem sp_zX (h : ∀ (l : List ((List Int) × List Int)),WfT [.sl (.pair (.sl tV) (.sl tV))] l → (okS l) = true → (zX l).run (fun _ => none) = some (rq (sumQ l))) : e_zX.ok pg := zcw ok_zX fun l hw hc => h l hw hc
theorem e_zX_ok : e_zX.ok pg := sp_zX fun l hw hc => by
 rw [okS_iff] at hc
 rw [zX]
 have h : lo zX_b58 (l,(l.length : Int)) (0,[],zcg B32 1) = _ := addQ_l l (wfr hw) hc.1 hc.2.1 l.length 0 0 1 (by omega) (by decide) (by unfold sm; decide) (by rw [List.drop_zero]; omega)
 simp only [RT.run]
 rw [h]
 rfl
def zhw : ((List ((List Int) × List Int)) × Int) → (Int × (List Int) × (List Int)) → RT (Int × (List Int) × (List Int)) ((List Int) × (List Int))
| (x7,x8),(x9,r48,r49) =>
 .rq 1 (.ite (decide (x9 < x8))
 (.req (inB x7 x9) (.rq 8 (let t0 := [r48,(gI x7 x9).1];
 .req (okMs t0) (.rq 5 (let t1 := [r49,(gI x7 x9).2];
 .req (okMs t1) (let t2 := zcg B32 (zeB t0);
 let t3 := zcg B32 (zeB t1);
 .req (okL 36 t2 && okL 36 t3) (.rq 6 (let t4 := mkR (val B32 t2) (val B32 t3);
 .again (w64 (x9 + 1),t4.2.1,t4.2.2)))))))))
 (.done (r48,r49)))
def zab_p58 : zch := ⟨58,true,[.sl (.pair (.sl tV) (.sl tV)),tI],[tI,.sl tV,.sl tV],⟨[.keep [2,3,7,8,9],.gc,.cellRow 48 0 600048 122 tV,.cellRow 48 1 600049 122 tV,.cellRen 48 0 600048,.cellRen 48 1 600049,.gc],[2,3,7,8,9],[.lf (qp 32),.lf (qp 48),.lf (qi 0),.lf (qi 1),.lf (qm 0)],[(32,true,.cells [.fix (.nil),.fix (.nil)]),(48,true,.cells [qr 600048,qr 600049]),(600048,true,.arr 122 (qm 1)),(600049,true,.arr 122 (qm 2))]⟩,[⟨2,⟨[.keep [2,3],.gc,.cellRow 48 0 600048 122 tV,.cellRow 48 1 600049 122 tV,.cellRen 48 0 600048,.cellRen 48 1 600049,.gc],[2,3],[.lf (qp 32),.lf (qp 48)],[(32,true,.cells [.fix (.nil),.fix (.nil)]),(48,true,.cells [qr 600048,qr 600049]),(600048,true,.arr 122 (qm 0)),(600049,true,.arr 122 (qm 1))]⟩,[.sl tV,.sl tV]⟩],zhw⟩
def zab : (List ((List Int) × List Int)) → RT Unit ((List Int) × (List Int))
| l =>
 .rq 7 (.call (lo zhw (l,(l.length : Int)) (0,(rq 1).1,(rq 1).2)) default fun v0 =>
 .rq 2 (.done (v0.1,v0.2)))
def F_zab (x : (List ((List Int) × List Int))) : Option ((List Int) × (List Int)) := (zab x).run fun _ => none
def io_zab : Io := ⟨n_zab,[.sl (.pair (.sl tV) (.sl tV))],[.lf (qm 0)],[],[[.sl (.pair (.sl tV) (.sl tV))]],[.sl tV,.sl tV],.agg [qr 0,qr 1],[],[(true,.arr 122 (qm 0)),(true,.arr 122 (qm 1))],false⟩
def zab_P : List zch := [zab_p58]
def zab_T : zcl := tab [e_zbw,e_zaA,e_zaz]
theorem zab_To : zck pg zab_T := zci ⟨e_zbw_ok,e_zaA_ok,zhY,trivial⟩
theorem zab_k58 : (zab_p58).OK pg (zab_T) (zcB 31 (zab_P)) (zcs f_zab) 31 := ⟨by kernel_rfl,fun i x => by kernel_rfl⟩
theorem zab_go : zcy pg (zab_T) io_zab f_zab (zab_P) [.cellRow 32 0 600032 122 tV,.cellRow 32 1 600033 122 tV,.cellRen 32 0 600032,.cellRen 32 1 600033] (zab) := ⟨by kernel_rfl,by kernel_rfl,fun x => by kernel_rfl⟩
theorem ok_zab : io_zab.Okay pg (F_zab) := zcu zcj (zab_To) (zab_go) ⟨zab_k58,trivial⟩
theorem mulQ_l (l : List (List Int × List Int)) (hw : ∀ x ∈ l,wfd B32 x.1 = true ∧ wfd B32 x.2 = true) (hl : l.length ≤ 1048576) (hd : ∀ x ∈ l,okr x.1 x.2 = true) : ∀ (r i : Nat) (q : Rat) (k : Nat),i + r = l.length → 0 ≤ q → sm k q → k + szS (l.drop i) ≤ 1073741824 →
  lo zhw (l,(l.length : Int)) ((i : Int),rq q) = some (rq ((l.drop i).foldl (fun q x => q * toQ x.1 x.2) q))
 | 0,i,q,k,h,_,_,_ => by
  show lo zhw (l,(l.length : Int)) ((i : Int),(rq q).1,(rq q).2) = _
  rw [zcr,zhw]
  simp only [RT.run]
  rw [if_neg (by simp; omega),List.drop_of_length_le (by omega)]
  rfl
 | r + 1,i,q,k,h,hq,hs,hk => by
  show lo zhw (l,(l.length : Int)) ((i : Int),(rq q).1,(rq q).2) = _
  rw [zcr,zhw]
  have hi : i < l.length := by omega
  have w5 : w64 ((i : Int) + 1) = ((i + 1 : Nat) : Int) := by rw [zcm] <;> omega
  have hx := List.getElem_mem hi
  rw [List.drop_eq_getElem_cons hi,szS,List.map_cons,List.sum_cons] at hk
  have ho := ziq.1 (okr_rq hs (by omega))
  have hox := ziq.1 (hd _ hx)
  have l1 := zia (a := (rq q).1) (zcS (by decide) _) (hw _ hx).1
  have l2 := zia (a := (rq q).2) (zcS (by decide) _) (hw _ hx).2
  simp only [RT.run,w5,zcL hi,prod2,zcz (show 2 ≤ B32 by decide)]
  rw [if_pos (by simp; omega),if_pos (by rw [zdi]; simp; omega),if_pos (by rw [zeX]; simp [lenS]; omega),if_pos (by rw [zeX]; simp [lenS]; omega),if_pos (by rw [Bool.and_eq_true,okL36,okL36]; omega)]
  have hn := toQ_nonneg l[i].1 l[i].2
  have hs' := sm_mul hq hn hs (sm_toQ (hw _ hx).1 (hw _ hx).2 hox.2.2)
  have e := toQ_mul (a0 := (rq q).1) (a1 := (rq q).2) (b0 := l[i].1) (b1 := l[i].2)
  rw [zgw hq] at e
  rw [mkR,if_neg (Nat.mul_ne_zero ho.2.2 hox.2.2),e]
  have := mulQ_l l hw hl hd r (i + 1) (q * toQ l[i].1 l[i].2) _ (by omega) (Rat.mul_nonneg hq hn) hs' (by rw [szS]; omega)
  rw [List.drop_eq_getElem_cons hi,List.foldl_cons,← this]
def e_zab : zcq := io_zab.sp (fun l => okS l) (fun l => rq (prodQ l))
theorem sp_zab (h : ∀ (l : List ((List Int) × List Int)),WfT [.sl (.pair (.sl tV) (.sl tV))] l → (okS l) = true → (zab l).run (fun _ => none) = some (rq (prodQ l))) : e_zab.ok pg := zcw ok_zab fun l hw hc => h l hw hc
theorem e_zab_ok : e_zab.ok pg := sp_zab fun l hw hc => by
 rw [okS_iff] at hc
 rw [zab]
 have h : lo zhw (l,(l.length : Int)) (0,(rq 1).1,(rq 1).2) = _ := mulQ_l l (wfr hw) hc.1 hc.2.1 l.length 0 1 1 (by omega) (by decide) (by unfold sm; decide) (by rw [List.drop_zero]; omega)
 simp only [RT.run]
 rw [h]
 rfl
def zbr : ((List Int) × (List Int) × (List Int) × (List Int)) → RT Unit Int
| (a_0,a_1,b_0,b_1) =>
 .rq 8 (.req (okMs [a_0,b_1]) (.rq 5 (.req (okMs [b_0,a_1]) (.rq 2 (.done (zde (val B32 (zcg B32 (zeB [a_0,b_1]))) (val B32 (zcg B32 (zeB [b_0,a_1])))))))))
def F_zbr (x : (List Int) × (List Int) × (List Int) × (List Int)) : Option Int := (zbr x).run fun _ => none
def io_zbr : Io := ⟨n_zbr,[.sl tV,.sl tV,.sl tV,.sl tV],[.agg [qm 0,qm 1],.agg [qm 2,qm 3]],[],[[.sl tV,.sl tV],[.sl tV,.sl tV]],[tI],.lf (qm 0),[],[],false⟩
def zbr_P : List zch := []
def zbr_T : zcl := tab [e_zaz,e_zba]
theorem zbr_To : zck pg zbr_T := zci ⟨zhY,e_zba_ok,trivial⟩
theorem zbr_go : zcy pg (zbr_T) io_zbr f_zbr (zbr_P) [] (zbr) := ⟨by kernel_rfl,by kernel_rfl,fun x => by kernel_rfl⟩
theorem ok_zbr : io_zbr.Okay pg (F_zbr) := zcu zcj (zbr_To) (zbr_go) trivial
def e_zbr : zcq := io_zbr.sp (fun (a0,a1,b0,b1) => okr a0 a1 && okr b0 b1) (fun (a0,a1,b0,b1) => zde ((val B32 a0 * val B32 b1 : Nat) : Int) ((val B32 b0 * val B32 a1 : Nat) : Int))
theorem sp_zbr (h : ∀ (a0 : List Int) (a1 : List Int) (b0 : List Int) (b1 : List Int),WfT [.sl tV,.sl tV,.sl tV,.sl tV] (a0,a1,b0,b1) → (okr a0 a1 && okr b0 b1) = true → (zbr (a0,a1,b0,b1)).run (fun _ => none) = some (zde ((val B32 a0 * val B32 b1 : Nat) : Int) ((val B32 b0 * val B32 a1 : Nat) : Int))) : e_zbr.ok pg := zcw ok_zbr fun (a0,a1,b0,b1) hw hc => h a0 a1 b0 b1 hw hc
theorem e_zbr_ok : e_zbr.ok pg := sp_zbr fun a0 a1 b0 b1 hw h => by
 simp only [Bool.and_eq_true,ziq] at h
 rw [zbr]
 simp only [RT.run,prod2,zcz (show 2 ≤ B32 by decide)]
 rw [if_pos (by rw [zeX]; simp [lenS]; omega),if_pos (by rw [zeX]; simp [lenS]; omega)]
theorem cross {a b c d : Nat} (hb : b ≠ 0) (hd : d ≠ 0) : mkRat (a : Int) b = mkRat (c : Int) d ↔ a * d = c * b := by
 rw [Rat.mkRat_eq_iff hb hd]
 constructor
 ·intro h; exact Int.ofNat_inj.1 (by rw [Int.natCast_mul,Int.natCast_mul]; exact h)
 ·intro h; rw [← Int.natCast_mul,← Int.natCast_mul,h]
def zbg : ((List Int) × (List Int) × (List Int) × (List Int)) → RT Unit Bool
| (a_0,a_1,b_0,b_1) =>
 .rq 5 (.req (okr a_0 a_1 && okr b_0 b_1) (.rq 2 (.done ((zde ((val B32 a_0 * val B32 b_1 : Nat) : Int) ((val B32 b_0 * val B32 a_1 : Nat) : Int)) == 0))))
def F_zbg (x : (List Int) × (List Int) × (List Int) × (List Int)) : Option Bool := (zbg x).run fun _ => none
def io_zbg : Io := ⟨n_zbg,[.sl tV,.sl tV,.sl tV,.sl tV],[.agg [qm 0,qm 1],.agg [qm 2,qm 3]],[],[[.sl tV,.sl tV],[.sl tV,.sl tV]],[tB],.lf (qm 0),[],[],false⟩
def zbg_P : List zch := []
def zbg_T : zcl := tab [e_zbr]
theorem zbg_To : zck pg zbg_T := zci ⟨e_zbr_ok,trivial⟩
theorem zbg_go : zcy pg (zbg_T) io_zbg f_zbg (zbg_P) [] (zbg) := ⟨by kernel_rfl,by kernel_rfl,fun x => by kernel_rfl⟩
theorem ok_zbg : io_zbg.Okay pg (F_zbg) := zcu zcj (zbg_To) (zbg_go) trivial
def e_zbg : zcq := io_zbg.sp (fun (a0,a1,b0,b1) => okr a0 a1 && okr b0 b1) (fun (a0,a1,b0,b1) => decide (toQ a0 a1 = toQ b0 b1))
theorem sp_zbg (h : ∀ (a0 : List Int) (a1 : List Int) (b0 : List Int) (b1 : List Int),WfT [.sl tV,.sl tV,.sl tV,.sl tV] (a0,a1,b0,b1) → (okr a0 a1 && okr b0 b1) = true → (zbg (a0,a1,b0,b1)).run (fun _ => none) = some (decide (toQ a0 a1 = toQ b0 b1))) : e_zbg.ok pg := zcw ok_zbg fun (a0,a1,b0,b1) hw hc => h a0 a1 b0 b1 hw hc
theorem e_zbg_ok : e_zbg.ok pg := sp_zbg fun a0 a1 b0 b1 hw h => by
 rw [zbg]
 simp only [RT.run]
 rw [if_pos h]
 simp only [Bool.and_eq_true,ziq] at h
 have hc : toQ a0 a1 = toQ b0 b1 ↔ val B32 a0 * val B32 b1 = val B32 b0 * val B32 a1 := cross h.1.2.2 h.2.2.2
 congr 1
 rw [Bool.eq_iff_iff,beq_iff_eq,cmpI_eq,decide_eq_true_eq,hc,Int.ofNat_inj]
end
end Go.Proofs.YtlfdidaeachpoaaGreat
namespace Go.Proofs.YtlfdidaeachpoaaGreat
open Go Go.RowKit
set_option maxRecDepth 100000
noncomputable section
def clrI {α : Type} (xs : List α) (l : Int) (z : α) : List α := xs.take l.toNat ++ List.replicate (xs.length - l.toNat) z
abbrev tI64 : Ty := .int .i64
abbrev tA : Ty := .pair tI64 tI64
abbrev nilv : Value := .slice none 0 0
abbrev hsVs (l : List (Int × Int)) (k : Int) : List TV := [.lf (.ref 176),.lf (.dat tA l),.lf (.int .i64 (l.length : Int)),.lf (.int .i64 k)]
def hsSt (us : List Value) (o : Option (Nat × zcp)) (hp : List (Nat × Ent)) (l : List (Int × Int)) (k : Int) : St :=
 spSt 55 [5,12,13,14] (hsVs l k) ((176,⟨true,.raw 26 us o⟩) :: hp)
def hsBody : Code := match zdk 80 (zcs f_zaD) 58 with
 | some (.loop b) => b
 | _ => .skip
def hsT : zcl := tab []
theorem hsTo : zck pg hsT := zci trivial
def hsSee : Ev → Option PE
 | .norm σ => (zgd [.keep [5,12,13,14],.gc] [5,12,13,14] 55 σ).map fun x => .norm x.1 x.2
 | .exit i σ => (zgd [.keep [5,12,13,14],.gc] [5,12,13,14] 55 σ).map fun x => .exit i x.1 x.2
 | .ret _ => none
def hsPT (us : List Value) (o : Option (Nat × zcp)) (hp : List (Nat × Ent)) (l : List (Int × Int)) (k : Int) : PT := (evI pg hsT (fun _ _ => none) 116 hsBody (hsSt us o hp l k)).pt hsSee
abbrev hsB (us : List Value) (l : List (Int × Int)) (k : Int) : Bool :=
 ((decide (0 ≤ (l.getD k.toNat (0,0)).1) && decide ((l.getD k.toNat (0,0)).1 < (us.length : Int))) && decide (0 ≤ (l.getD k.toNat (0,0)).2)) && decide ((l.getD k.toNat (0,0)).2 < (us.length : Int))
abbrev hsI (us : List Value) (l : List (Int × Int)) (k : Int) : Bool := decide (0 ≤ (l.getD k.toNat (0,0)).1) && decide ((l.getD k.toNat (0,0)).1 < (us.length : Int))
theorem hs_1 (us : List Value) (l : List (Int × Int)) (k : Int) : hsPT us none [] l k =
  .rq 1 (.ite (decide (k < (l.length : Int))) (.req (decide (0 ≤ k) && decide (k < (l.length : Int))) (.rq 25 (.ite (hsB us l k) (.rq 6 (.req (hsI us l k) .fail)) (.rq 2 (.leaf (.norm (hsVs l (IntKind.i64.wrap (k + 1))) [(176,⟨true,.raw 26 us none⟩)]))))))
   (.leaf (.exit 0 (hsVs l k) [(176,⟨true,.raw 26 us none⟩)]))) := by kernel_rfl
theorem hs_2 (us : List Value) (j : Nat) (x : List Int) (l : List (Int × Int)) (k : Int) : hsPT us (some (j,.ref 1000)) [(1000,⟨true,.arr 3 tI64 x⟩)] l k =
  .rq 1 (.ite (decide (k < (l.length : Int))) (.req (decide (0 ≤ k) && decide (k < (l.length : Int))) (.rq 25 (.ite (hsB us l k)
    (.rq 6 (.req (hsI us l k) (.req (decide ((l.getD k.toNat (0,0)).1.toNat = j)) (.rq 3 (.req (decide ((x.length + 1) * 8 ≤ 140737488355328) && decide (x.length + 1 ≤ maxLen)) (.req (hsI us l k) (.req (decide ((l.getD k.toNat (0,0)).1.toNat = j))
     (.rq 2 (.leaf (.norm (hsVs l (IntKind.i64.wrap (k + 1))) [(176,⟨true,.raw 26 us (some (j,.ref 816))⟩),(816,⟨true,.arr 3 tI64 (x ++ [(l.getD k.toNat (0,0)).2])⟩)]))))))))))
    (.rq 2 (.leaf (.norm (hsVs l (IntKind.i64.wrap (k + 1))) [(176,⟨true,.raw 26 us (some (j,.ref 1000))⟩),(1000,⟨true,.arr 3 tI64 x⟩)]))))))
   (.leaf (.exit 0 (hsVs l k) [(176,⟨true,.raw 26 us (some (j,.ref 1000))⟩),(1000,⟨true,.arr 3 tI64 x⟩)]))) := by kernel_rfl
theorem hs_tv {us : List Value} {o : Option (Nat × zcp)} {hp : List (Nat × Ent)} {l : List (Int × Int)} {k : Int} (t : Nat) :
  (hsSt us o hp l k).tv t = if t = 5 then .lf (.ref 176) else if t = 12 then .lf (.dat tA l) else if t = 13 then .lf (.int .i64 (l.length : Int)) else if t = 14 then .lf (.int .i64 k) else .lf .undef := by
 have h := zer [5,12,13,14] (hsVs l k) 55 0 t
 show (zgD [5,12,13,14] (hsVs l k) 55 0).getD t (.lf .undef) = _
 rw [h,Nat.zero_add]
 simp only [zdY,hsVs]
 by_cases h5 : t = 5
 ·subst h5; rfl
 by_cases h12 : t = 12
 ·subst h12; rfl
 by_cases h13 : t = 13
 ·subst h13; rfl
 by_cases h14 : t = 14
 ·subst h14; rfl
 rw [if_neg h5,if_neg h12,if_neg h13,if_neg h14]
 split
 ·rw [if_neg (fun e => h5 e.symm),if_neg (fun e => h12 e.symm),if_neg (fun e => h13 e.symm),if_neg (fun e => h14 e.symm)]
 ·rfl
theorem row_slice {w : World} {e : TypeId} {v : Value} {n : Nat} {us : List Value} (h : w.ownsRow 0 e 1 v n us) : ∃ A c,v = .slice A n c := by
 rcases h.2 with ⟨rfl,rfl⟩ | ⟨g,cap,cur,rfl,_⟩
 ·exact ⟨_,_,rfl⟩
 ·exact ⟨_,_,rfl⟩
theorem row_lt {w : World} {e : TypeId} {v : Value} {n : Nat} {us : List Value} (h : w.ownsRow 0 e 1 v n us) {g : Nat} (hg : blk v = some g) : g < w.heap.size := by
 rw [zgX h] at hg
 exact (h.lt g hg).2
theorem reps_int {w w' : World} {ok ok' : Nat → Prop} {vs : List Value} {x : List Int} (h : zcX w ok tI64 vs x) : zcX w' ok' tI64 vs x := fun i hi => h i hi
structure Gh (w0 : World) (own : Nat → Prop) (π : Pin) (l : List (Int × Int)) (us : List Value) (LL : List (List Int)) (k : Int) (a : Act) (w : World) (v : Value) (ok : Nat → Prop) : Prop where
 fr : Fr w0 own w
 okLt : ∀ b,ok b → b < w.heap.size
 okB : ∀ b,ok b → π.ok b ∨ own b ∨ w0.heap.size ≤ b
 size : a.tmps.size = 55
 def0 : a.defers = π.df
 t5 : a.tmps.getD 5 undef = v
 t12 : zcM w ok (.sl tA) [a.tmps.getD 12 undef] l
 t13 : zdh w ok (fun _ => none) (a.tmps.getD 13 undef) (.int .i64 (l.length : Int))
 t14 : zdh w ok (fun _ => none) (a.tmps.getD 14 undef) (.int .i64 k)
 row : w.ownsRow 0 26 1 v us.length us
 vok : ∀ g,blk v = some g → ¬ ok g ∧ (own g ∨ w0.heap.size ≤ g)
 len : LL.length = us.length
 inn : ∀ (j : Nat) (u : Value) (x : List Int),us[j]? = some u → LL[j]? = some x → ∃ vs,w.ownsRow 0 3 1 u x.length vs ∧ zcX w ok tI64 vs x
 iok : ∀ (j : Nat) (u : Value) (g : Nat),us[j]? = some u → blk u = some g → ¬ ok g ∧ (own g ∨ w0.heap.size ≤ g) ∧ blk v ≠ some g
 sep : ∀ (i j : Nat) (u u' : Value) (g : Nat),i ≠ j → us[i]? = some u → us[j]? = some u' → blk u = some g → blk u' ≠ some g
section
variable {w0 : World} {own : Nat → Prop} {π : Pin} {l : List (Int × Int)} {us : List Value} {LL : List (List Int)} {k : Int} {a : Act} {w : World} {v : Value} {ok : Nat → Prop}
def hsβ (v : Value) (u : Option Value) : Nat → Option Value := fun j => if j = 176 then some v else if j = 1000 then u else none
theorem Gh.tmps (G : Gh w0 own π l us LL k a w v ok) {β : Nat → Option Value} (hβ : β 176 = some v) {o : Option (Nat × zcp)} {hp : List (Nat × Ent)} (t : Nat) :
  zcE w ok β (a.tmps.getD t undef) ((hsSt us o hp l k).tv t) := by
 rw [hs_tv]
 split
 ·rename_i h; subst h; rw [G.t5]; obtain ⟨A,c,h⟩ := row_slice G.row; exact ⟨hβ,A,_,c,h⟩
 split
 ·rename_i h; subst h; exact G.t12
 split
 ·rename_i h; subst h; exact G.t13
 split
 ·rename_i h; subst h; exact G.t14
 ·trivial
theorem Gh.sim1 (G : Gh w0 own π l us LL k a w v ok) : Sim ⟨hsβ v none,ok,π.rd,π.df⟩ w (fun b => blk v = some b) w a (hsSt us none [] l k) (hsβ v none) ok := by
 have hone : ∀ id e,zct (hsSt us none [] l k).heap id = some e → id = 176 ∧ e = ⟨true,.raw 26 us none⟩ := fun id e h => by
  show _ = _ ∧ _
  change zct [(176,(⟨true,.raw 26 us none⟩ : Ent))] id = some e at h
  unfold zct at h
  split at h
  ·rename_i h1; cases h; exact ⟨h1.symm,rfl⟩
  ·cases h
 have hv : ∀ id u,hsβ v none id = some u → id = 176 ∧ u = v := fun id u h => by
  unfold hsβ at h
  split at h
  ·rename_i h1; cases h; exact ⟨h1,rfl⟩
  ·split at h <;> cases h
 refine ⟨⟨Fr.refl _ _,G.okLt,fun id u h => ?_,fun id e h => ?_,fun id e h _ => ?_,fun id e u g h _ hu hg => ?_,fun id e u g h hw => ?_,fun i e u j e' u' g hij h h' => ?_⟩,G.tmps rfl,by rw [G.size]; exact (zcY ..).symm,G.def0,fun _ _ _ h => h,fun _ h => .inl h⟩
 ·obtain ⟨rfl,_⟩ := hv id u h; exact ⟨_,rfl⟩
 ·obtain ⟨rfl,rfl⟩ := hone id e h; exact ⟨v,us,rfl,G.row,rfl⟩
 ·obtain ⟨rfl,rfl⟩ := hone id e h; rfl
 ·obtain ⟨rfl,rfl⟩ := hv id u hu; exact ⟨(G.vok g hg).1,.inl hg⟩
 ·obtain ⟨rfl,rfl⟩ := hone id e h; cases hw
 ·obtain ⟨rfl,_⟩ := hone _ _ h; obtain ⟨rfl,_⟩ := hone _ _ h'; exact absurd rfl hij
theorem Gh.sim2 (G : Gh w0 own π l us LL k a w v ok) {j : Nat} {u : Value} {x : List Int} (hu : us[j]? = some u) (hx : LL[j]? = some x) :
  Sim ⟨hsβ v (some u),ok,π.rd,π.df⟩ w (fun b => blk v = some b ∨ blk u = some b) w a (hsSt us (some (j,.ref 1000)) [(1000,⟨true,.arr 3 tI64 x⟩)] l k) (hsβ v (some u)) ok := by
 have hone : ∀ id e,zct (hsSt us (some (j,.ref 1000)) [(1000,⟨true,.arr 3 tI64 x⟩)] l k).heap id = some e →
   (id = 176 ∧ e = ⟨true,.raw 26 us (some (j,.ref 1000))⟩) ∨ (id = 1000 ∧ e = ⟨true,.arr 3 tI64 x⟩) := fun id e h => by
  change zct [(176,(⟨true,.raw 26 us (some (j,.ref 1000))⟩ : Ent)),(1000,⟨true,.arr 3 tI64 x⟩)] id = some e at h
  unfold zct at h
  split at h
  ·rename_i h1; cases h; exact .inl ⟨h1.symm,rfl⟩
  ·unfold zct at h
   split at h
   ·rename_i h1; cases h; exact .inr ⟨h1.symm,rfl⟩
   ·cases h
 have hv : ∀ id y,hsβ v (some u) id = some y → (id = 176 ∧ y = v) ∨ (id = 1000 ∧ y = u) := fun id y h => by
  unfold hsβ at h
  split at h
  ·rename_i h1; cases h; exact .inl ⟨h1,rfl⟩
  ·split at h
   ·rename_i h1; cases h; exact .inr ⟨h1,rfl⟩
   ·cases h
 obtain ⟨vs,hr,he⟩ := G.inn j u x hu hx
 have hj : j < us.length := (List.getElem?_eq_some_iff.1 hu).1
 refine ⟨⟨Fr.refl _ _,G.okLt,fun id y h => ?_,fun id e h => ?_,fun id e h _ => ?_,fun id e y g h _ hy hg => ?_,fun id e y g h hw => ?_,fun i e y j' e' y' g hij h h' _ _ hy hy' hg hg' => ?_⟩,G.tmps rfl,by rw [G.size]; exact (zcY ..).symm,G.def0,fun _ _ _ h => h,fun _ h => .inl h⟩
 ·rcases hv id y h with ⟨rfl,_⟩ | ⟨rfl,_⟩
  ·exact ⟨_,rfl⟩
  ·exact ⟨_,rfl⟩
 ·rcases hone id e h with ⟨rfl,rfl⟩ | ⟨rfl,rfl⟩
  ·refine ⟨v,us,rfl,G.row,u,hj,?_,rfl,?_⟩
   ·apply List.ext_getElem?
    intro i
    by_cases hi : i = j
    ·subst hi; rw [List.getElem?_set_self hj,hu]
    ·rw [List.getElem?_set_ne (fun e => hi e.symm)]
   ·obtain ⟨A,c,h⟩ := row_slice hr
    exact ⟨A,_,c,h⟩
  ·exact ⟨u,vs,rfl,hr,he⟩
 ·rcases hone id e h with ⟨rfl,rfl⟩ | ⟨rfl,rfl⟩ <;> rfl
 ·rcases hv id y hy with ⟨_,rfl⟩ | ⟨_,rfl⟩
  ·exact ⟨(G.vok g hg).1,.inl (.inl hg)⟩
  ·exact ⟨(G.iok j _ g hu hg).1,.inl (.inr hg)⟩
 ·rcases hone id e h with ⟨rfl,rfl⟩ | ⟨rfl,rfl⟩ <;> cases hw
 ·rcases hv i y hy with ⟨h1,rfl⟩ | ⟨h1,rfl⟩ <;> rcases hv j' y' hy' with ⟨h2,rfl⟩ | ⟨h2,rfl⟩
  ·exact hij (h1.trans h2.symm)
  ·exact (G.iok j _ g hu hg').2.2 hg
  ·exact (G.iok j _ g hu hg).2.2 hg'
  ·exact hij (h1.trans h2.symm)
theorem Gh.next (G : Gh w0 own π l us LL k a w v ok) {own1 : Nat → Prop} {j : Nat} {us' : List Value} {LL' : List (List Int)} {k' : Int} {a' : Act} {w' : World} {v' : Value} {ok' : Nat → Prop}
  (hown : ∀ b,own1 b → blk v = some b ∨ ∃ u,us[j]? = some u ∧ blk u = some b)
  (F : Fr w own1 w') (hlt : ∀ b,ok' b → b < w'.heap.size) (hB : ∀ b,ok' b → ok b ∨ own1 b ∨ w.heap.size ≤ b)
  (hsz : a'.tmps.size = 55) (hd : a'.defers = π.df) (h5 : a'.tmps.getD 5 undef = v') (h12 : zcM w' ok' (.sl tA) [a'.tmps.getD 12 undef] l)
  (h13 : zdh w' ok' (fun _ => none) (a'.tmps.getD 13 undef) (.int .i64 (l.length : Int))) (h14 : zdh w' ok' (fun _ => none) (a'.tmps.getD 14 undef) (.int .i64 k'))
  (hrow : w'.ownsRow 0 26 1 v' us'.length us') (hvw : ∀ g,blk v' = some g → ¬ ok' g ∧ (own1 g ∨ w.heap.size ≤ g))
  (hl1 : us'.length = us.length) (hl2 : LL'.length = LL.length) (hus : ∀ i,i ≠ j → us'[i]? = us[i]?) (hLL : ∀ i,i ≠ j → LL'[i]? = LL[i]?)
  (hj : ∀ u x,us'[j]? = some u → LL'[j]? = some x → (∃ vs,w'.ownsRow 0 3 1 u x.length vs ∧ zcX w' ok' tI64 vs x))
  (hjw : ∀ u g,us'[j]? = some u → blk u = some g → ¬ ok' g ∧ ((∃ u0,us[j]? = some u0 ∧ blk u0 = some g) ∨ blk v = some g ∨ w.heap.size ≤ g) ∧ blk v' ≠ some g)
  (hother : ∀ i u g,i ≠ j → us[i]? = some u → blk u = some g → ¬ own1 g) :
  Gh w0 own π l us' LL' k' a' w' v' ok' := by
 have hown0 : ∀ b,own1 b → own b ∨ w0.heap.size ≤ b := fun b hb => by
  rcases hown b hb with h | ⟨u,h1,h2⟩
  ·exact (G.vok b h).2
  ·exact (G.iok j u b h1 h2).2.1
 have hrowlt : ∀ i u g,us[i]? = some u → blk u = some g → g < w.heap.size := fun i u g hu hg => by
  have hi : i < LL.length := by rw [G.len]; exact (List.getElem?_eq_some_iff.1 hu).1
  obtain ⟨vs,hr,_⟩ := G.inn i u LL[i] hu (by simp [hi])
  exact row_lt hr hg
 have hvlt : ∀ g,blk v = some g → g < w.heap.size := fun g hg => row_lt G.row hg
 have hothok : ∀ i u g,i ≠ j → us[i]? = some u → blk u = some g → ¬ ok' g := fun i u g hi hu hg h => by
  rcases hB g h with h1 | h1 | h1
  ·exact (G.iok i u g hu hg).1 h1
  ·exact hother i u g hi hu hg h1
  ·have := hrowlt i u g hu hg; omega
 refine ⟨⟨F.os.trans G.fr.os,F.tape.trans G.fr.tape,F.output.trans G.fr.output,Nat.le_trans G.fr.size F.size,fun b hb hn => ?_⟩,hlt,fun b hb => ?_,hsz,hd,h5,h12,h13,h14,hrow,fun g hg => ?_,by rw [hl2,hl1,G.len],fun i u x hu hx => ?_,fun i u g hu hg => ?_,fun i i' u u' g hii hu hu' hg hg' => ?_⟩
 ·rw [F.block b (Nat.lt_of_lt_of_le hb G.fr.size) fun h => ?_]
  ·exact G.fr.block b hb hn
  ·rcases hown0 b h with h1 | h1
   ·exact hn h1
   ·omega
 ·rcases hB b hb with h1 | h1 | h1
  ·exact G.okB b h1
  ·exact .inr (hown0 b h1)
  ·exact .inr (.inr (Nat.le_trans G.fr.size h1))
 ·refine ⟨(hvw g hg).1,?_⟩
  rcases (hvw g hg).2 with h1 | h1
  ·exact hown0 g h1
  ·exact .inr (Nat.le_trans G.fr.size h1)
 ·by_cases hi : i = j
  ·subst hi; exact hj u x hu hx
  ·rw [hus i hi] at hu
   rw [hLL i hi] at hx
   obtain ⟨vs,hr,he⟩ := G.inn i u x hu hx
   exact ⟨vs,zjf hr fun g hg => F.block g (row_lt hr hg) (hother i u g hi hu hg),reps_int he⟩
 ·by_cases hi : i = j
  ·subst hi
   obtain ⟨h1,h2,h3⟩ := hjw u g hu hg
   refine ⟨h1,?_,h3⟩
   rcases h2 with ⟨u0,h4,h5⟩ | h2 | h2
   ·exact (G.iok i u0 g h4 h5).2.1
   ·exact (G.vok g h2).2
   ·exact .inr (Nat.le_trans G.fr.size h2)
  ·rw [hus i hi] at hu
   have h0 := G.iok i u g hu hg
   refine ⟨hothok i u g hi hu hg,h0.2.1,fun h => ?_⟩
   rcases (hvw g h).2 with h1 | h1
   ·exact hother i u g hi hu hg h1
   ·have := hrowlt i u g hu hg; omega
 ·by_cases hi : i = j
  ·subst hi
   rw [hus i' (fun e => hii e.symm)] at hu'
   rcases (hjw u g hu hg).2.1 with ⟨u0,h4,h5⟩ | h2 | h2
   ·exact G.sep i i' u0 u' g hii h4 hu' h5 hg'
   ·exact (G.iok i' u' g hu' hg').2.2 h2
   ·have := hrowlt i' u' g hu' hg'; omega
  ·rw [hus i hi] at hu
   by_cases hi' : i' = j
   ·subst hi'
    rcases (hjw u' g hu' hg').2.1 with ⟨u0,h4,h5⟩ | h2 | h2
    ·exact G.sep i i' u u0 g hii hu h4 hg h5
    ·exact (G.iok i u g hu hg).2.2 h2
    ·have := hrowlt i u g hu hg; omega
   ·rw [hus i' hi'] at hu'
    exact G.sep i i' u u' g hii hu hu' hg hg'
theorem Gh.of1 (G : Gh w0 own π l us LL k a w v ok) {ρ : Pin} (hπ : ρ.ok = ok) (hρ : ρ.df = π.df) {k' : Int} {a' : Act} {w' : World} {β' : Nat → Option Value} {ok' : Nat → Prop} (hlen : us.length ≤ 4096)
  (S : Sim ρ w (fun b => blk v = some b) w' a' (hsSt us none [] l k') β' ok') : ∃ v',Gh w0 own π l us LL k' a' w' v' ok' := by
 obtain ⟨v',vs,h1,h2,h3⟩ := S.inv.ent 176 ⟨true,.raw 26 us none⟩ rfl
 cases (show vs = us from h3)
 have t := S.tmps
 have t5 := t 5
 have t12 := t 12
 have t13 := t 13
 have t14 := t 14
 rw [hs_tv] at t5 t12 t13 t14
 have e5 : a'.tmps.getD 5 undef = v' := by
  have := (show β' 176 = some (a'.tmps.getD 5 undef) ∧ _ from t5).1
  rw [h1] at this
  exact (Option.some.inj this).symm
 refine ⟨v',G.next (j := us.length) (fun b hb => .inl hb) S.inv.fr S.inv.okLt (fun b hb => by have := S.okB b hb; rw [hπ] at this; exact this) (by rw [S.size]; exact zcY ..) (S.def0.trans hρ) e5 t12 t13 t14 h2
  (fun g hg => S.inv.wr 176 ⟨true,.raw 26 us none⟩ v' g rfl rfl h1 hg) rfl rfl (fun _ _ => rfl) (fun _ _ => rfl) (fun u x hu => ?_) (fun u g hu => ?_) (fun i u g _ hu hg h => (G.iok i u g hu hg).2.2 h)⟩
 ·rw [List.getElem?_eq_none (Nat.le_refl _)] at hu; cases hu
 ·rw [List.getElem?_eq_none (Nat.le_refl _)] at hu; cases hu
theorem Gh.of2 (G : Gh w0 own π l us LL k a w v ok) {ρ : Pin} (hπ : ρ.ok = ok) (hρ : ρ.df = π.df) {j : Nat} {u : Value} {x x' : List Int} (hu : us[j]? = some u) (hx : LL[j]? = some x) {k' : Int} {a' : Act} {w' : World} {β' : Nat → Option Value}
  {ok' : Nat → Prop} (S : Sim ρ w (fun b => blk v = some b ∨ blk u = some b) w' a' (hsSt us (some (j,.ref 816)) [(816,⟨true,.arr 3 tI64 x'⟩)] l k') β' ok') :
  ∃ v' u',Gh w0 own π l (us.set j u') (LL.set j x') k' a' w' v' ok' := by
 obtain ⟨v',vs,h1,h2,u',hj,h3,h4,_⟩ := S.inv.ent 176 ⟨true,.raw 26 us (some (j,.ref 816))⟩ rfl
 subst h3
 obtain ⟨u2,vs2,h5,h6,h7⟩ := S.inv.ent 816 ⟨true,.arr 3 tI64 x'⟩ rfl
 rw [h4] at h5
 cases h5
 have t := S.tmps
 have t5 := t 5
 have t12 := t 12
 have t13 := t 13
 have t14 := t 14
 rw [hs_tv] at t5 t12 t13 t14
 have e5 : a'.tmps.getD 5 undef = v' := by
  have := (show β' 176 = some (a'.tmps.getD 5 undef) ∧ _ from t5).1
  rw [h1] at this
  exact (Option.some.inj this).symm
 have hjl : j < LL.length := by rw [G.len]; exact hj
 have hsep := fun g hg hg' => S.inv.sep 176 ⟨true,.raw 26 us (some (j,.ref 816))⟩ v' 816 ⟨true,.arr 3 tI64 x'⟩ u' g (by decide) rfl rfl rfl rfl h1 h4 hg hg'
 have hwr := fun g hg => S.inv.wr 816 ⟨true,.arr 3 tI64 x'⟩ u' g rfl rfl h4 hg
 have hwv := fun g hg => S.inv.wr 176 ⟨true,.raw 26 us (some (j,.ref 816))⟩ v' g rfl rfl h1 hg
 refine ⟨v',u',G.next (j := j) (own1 := fun b => blk v = some b ∨ blk u = some b) (fun b hb => hb.elim .inl fun h => .inr ⟨u,hu,h⟩) S.inv.fr S.inv.okLt (fun b hb => by have := S.okB b hb; rw [hπ] at this; exact this)
  (by rw [S.size]; exact zcY ..) (S.def0.trans hρ) e5 t12 t13 t14 (by rw [List.length_set]; exact h2) hwv (List.length_set ..) (List.length_set ..) (fun i hi => List.getElem?_set_ne (fun e => hi e.symm))
  (fun i hi => List.getElem?_set_ne (fun e => hi e.symm)) (fun y z hy hz => ?_) (fun y g hy hg => ?_) (fun i y g hi hy hg h => ?_)⟩
 ·rw [List.getElem?_set_self hj] at hy
  rw [List.getElem?_set_self hjl] at hz
  cases hy
  cases hz
  exact ⟨vs2,h6,h7⟩
 ·rw [List.getElem?_set_self hj] at hy
  cases hy
  refine ⟨(hwr g hg).1,?_,fun h => hsep g h hg⟩
  rcases (hwr g hg).2 with (h | h) | h
  ·exact .inr (.inl h)
  ·exact .inl ⟨u,hu,h⟩
  ·exact .inr (.inr h)
 ·rcases h with h | h
  ·exact (G.iok i y g hy hg).2.2 h
  ·exact G.sep i j y u g hi hy hu hg h
end
def zda (m : Nat) (a : Int × Int) : Bool := decide (0 ≤ a.1) && decide (a.1 < (m : Int)) && decide (0 ≤ a.2) && decide (a.2 < (m : Int))
def zfS (m : Nat) (LL : List (List Int)) (a : Int × Int) : List (List Int) := if zda m a then LL.set a.1.toNat (LL.getD a.1.toNat [] ++ [a.2]) else LL
def zev (m : Nat) (l : List (Int × Int)) (k : Nat) : List (List Int) := (l.take k).foldl (zfS m) (List.replicate m [])
theorem zjv {m : Nat} {l : List (Int × Int)} {k : Nat} (h : k < l.length) : zev m l (k + 1) = zfS m (zev m l k) (l.getD k (0,0)) := by
 unfold zev
 rw [List.take_add_one,List.foldl_append]
 simp [List.getElem?_eq_getElem h]
theorem ziO {m : Nat} {LL : List (List Int)} {a : Int × Int} : (zfS m LL a).length = LL.length := by
 unfold zfS; split <;> simp
theorem hsUpto_len {m : Nat} {l : List (Int × Int)} : ∀ {k : Nat},k ≤ l.length → ∀ x ∈ zev m l k,x.length ≤ k
 | 0,_,x,hx => by
  have : x ∈ List.replicate m ([] : List Int) := hx
  rw [(List.mem_replicate.1 this).2]; exact Nat.le_refl 0
 | k + 1,hk,x,hx => by
  have ih := hsUpto_len (m := m) (l := l) (k := k) (by omega)
  rw [zjv hk] at hx
  unfold zfS at hx
  split at hx
  ·rcases List.mem_or_eq_of_mem_set hx with h | rfl
   ·exact Nat.le_succ_of_le (ih x h)
   ·simp only [List.length_append,List.length_singleton]
    have : ((zev m l k).getD (l.getD k (0,0)).1.toNat []).length ≤ k := by
     rw [List.getD_eq_getElem?_getD]
     cases h : (zev m l k)[(l.getD k (0,0)).1.toNat]? with
     | none => simp
     | some y => exact ih y (List.mem_of_getElem? h)
    omega
  ·exact Nat.le_succ_of_le (ih x hx)
theorem noCuts (root : Code) (m : Nat) : CutsOK pg (fun _ _ => none) root m := fun _ _ _ _ _ _ _ _ _ _ _ _ _ _ _ h => by cases h
theorem hs_at : zdk 80 (zcs f_zaD) 116 = some hsBody := by kernel_rfl
theorem hs_end {e : Ev} {vs : List TV} {hp : List (Nat × Ent)} (h : hsSee e = some (.norm vs hp)) : ∃ σ,e = .norm σ ∧ Weak σ (spSt 55 [5,12,13,14] vs hp) := by
 cases e with
 | norm σ =>
  obtain ⟨x,h1,h2⟩ := Option.map_eq_some_iff.1 (show (zgd _ _ _ σ).map _ = _ from h)
  cases h2
  exact ⟨σ,rfl,zfz h1⟩
 | exit i σ => obtain ⟨x,_,h2⟩ := Option.map_eq_some_iff.1 (show (zgd _ _ _ σ).map _ = _ from h); cases h2
 | ret σ => cases h
theorem hs_endx {e : Ev} {i : Nat} {vs : List TV} {hp : List (Nat × Ent)} (h : hsSee e = some (.exit i vs hp)) : ∃ σ,e = .exit i σ ∧ Weak σ (spSt 55 [5,12,13,14] vs hp) := by
 cases e with
 | exit i σ =>
  obtain ⟨x,h1,h2⟩ := Option.map_eq_some_iff.1 (show (zgd _ _ _ σ).map _ = _ from h)
  cases h2
  exact ⟨σ,rfl,zfz h1⟩
 | norm σ => obtain ⟨x,_,h2⟩ := Option.map_eq_some_iff.1 (show (zgd _ _ _ σ).map _ = _ from h); cases h2
 | ret σ => cases h
theorem wrap64 {k : Nat} (h : k < 2 ^ 62) : IntKind.i64.wrap ((k : Int) + 1) = ((k + 1 : Nat) : Int) := by
 rw [wrap_i64]
 omega
def HsI (w0 : World) (own : Nat → Prop) (π : Pin) (l : List (Int × Int)) (m kn : Nat) (a : Act) (w : World) : Prop :=
 kn ≤ l.length ∧ ∃ us v ok,us.length = m ∧ Gh w0 own π l us (zev m l kn) (kn : Int) a w v ok
def HsQ (w0 : World) (own : Nat → Prop) (π : Pin) (l : List (Int × Int)) (m kn : Nat) : Exit → Act → World → Prop
 | .normal,a,w => kn < l.length ∧ HsI w0 own π l m (kn + 1) a w
 | .exit 0,a,w => kn = l.length ∧ HsI w0 own π l m kn a w
 | _,_,_ => False
theorem PT.rq_sat {K : PE → Prop} {t : PT} : ∀ n,t.sat K → (PT.rq n t).sat K
 | 0,h => h
 | n + 1,h => ⟨rfl,PT.rq_sat n h⟩
theorem hs_run1 {w0 : World} {own : Nat → Prop} {π : Pin} {l : List (Int × Int)} {us : List Value} {LL : List (List Int)} {k : Int} {a : Act} {w : World} {v : Value} {ok : Nat → Prop} (G : Gh w0 own π l us LL k a w v ok)
  (hlen : us.length ≤ 4096) (h0 : 0 ≤ k) (hB : k < l.length → hsB us l k = false) : hsBody.wpIn (Fw π.rd) 0 pg (fun e a' w' => match e with
   | .normal => k < l.length ∧ ∃ v' ok',Gh w0 own π l us LL (IntKind.i64.wrap (k + 1)) a' w' v' ok'
   | .exit 0 => ¬ k < l.length ∧ ∃ v' ok',Gh w0 own π l us LL k a' w' v' ok'
   | _ => False) a w := by
 let Kp : PE → Prop := fun p => (k < l.length ∧ p = .norm (hsVs l (IntKind.i64.wrap (k + 1))) [(176,⟨true,.raw 26 us none⟩)]) ∨ (¬ k < l.length ∧ p = .exit 0 (hsVs l k) [(176,⟨true,.raw 26 us none⟩)])
 have hsat : (hsPT us none [] l k).sat Kp := by
  rw [hs_1]
  refine PT.rq_sat 1 ⟨fun h => ?_,fun h => .inr ⟨of_decide_eq_false h,rfl⟩⟩
  have hk := of_decide_eq_true h
  refine ⟨by simp [h0,hk],PT.rq_sat 25 ⟨fun hb => ?_,fun _ => PT.rq_sat 2 (.inl ⟨hk,rfl⟩)⟩⟩
  rw [hB hk] at hb; cases hb
 refine wpIn_mono (zdZ (π := ⟨hsβ v none,ok,π.rd,π.df⟩) (root := zcs f_zaD) (L := fun _ _ => none) zcj hsTo hsBody 116 80 _ (fun e => ∃ p,hsSee e = some p ∧ Kp p) a w _ ok (by decide) hs_at (noCuts _ _) G.sim1
  (zcP.sat_pt (fun e p h1 h2 => ⟨p,h1,h2⟩) hsat)) ?_
 rintro e a' w' ⟨ev,β',ok',⟨p,hp,hK⟩,hev⟩
 rcases hK with ⟨hk,rfl⟩ | ⟨hk,rfl⟩
 ·obtain ⟨σ,rfl,hw⟩ := hs_end hp
  obtain ⟨rfl,S⟩ := hev
  obtain ⟨β2,ok2,S2⟩ := hw _ _ _ _ _ _ _ S
  obtain ⟨v',G'⟩ := G.of1 (ρ := ⟨hsβ v none,ok,π.rd,π.df⟩) rfl rfl hlen S2
  exact ⟨hk,v',ok2,G'⟩
 ·obtain ⟨σ,rfl,hw⟩ := hs_endx hp
  obtain ⟨rfl,S⟩ := hev
  obtain ⟨β2,ok2,S2⟩ := hw _ _ _ _ _ _ _ S
  obtain ⟨v',G'⟩ := G.of1 (ρ := ⟨hsβ v none,ok,π.rd,π.df⟩) rfl rfl hlen S2
  exact ⟨hk,v',ok2,G'⟩
theorem hs_run2 {w0 : World} {own : Nat → Prop} {π : Pin} {l : List (Int × Int)} {us : List Value} {LL : List (List Int)} {k : Int} {a : Act} {w : World} {v : Value} {ok : Nat → Prop} (G : Gh w0 own π l us LL k a w v ok)
  (h0 : 0 ≤ k) (hk : k < l.length) (hB : hsB us l k = true) {x : List Int} (hx : LL[(l.getD k.toNat (0,0)).1.toNat]? = some x) (hxl : x.length ≤ 1000000) : hsBody.wpIn (Fw π.rd) 0 pg (fun e a' w' => match e with
   | .normal => ∃ v' u' ok',Gh w0 own π l (us.set (l.getD k.toNat (0,0)).1.toNat u') (LL.set (l.getD k.toNat (0,0)).1.toNat (x ++ [(l.getD k.toNat (0,0)).2])) (IntKind.i64.wrap (k + 1)) a' w' v' ok'
   | _ => False) a w := by
 obtain ⟨j,hj⟩ : ∃ j,j = (l.getD k.toNat (0,0)).1.toNat := ⟨_,rfl⟩
 rw [← hj] at hx ⊢
 have hjl : j < us.length := by rw [← G.len]; exact (List.getElem?_eq_some_iff.1 hx).1
 have hu : us[j]? = some us[j] := List.getElem?_eq_getElem hjl
 let Kp : PE → Prop := fun p => p = .norm (hsVs l (IntKind.i64.wrap (k + 1))) [(176,⟨true,.raw 26 us (some (j,.ref 816))⟩),(816,⟨true,.arr 3 tI64 (x ++ [(l.getD k.toNat (0,0)).2])⟩)]
 have hI : hsI us l k = true := by
  simp only [hsB,Bool.and_eq_true] at hB
  simp only [hsI,Bool.and_eq_true]
  exact hB.1.1
 have hsat : (hsPT us (some (j,.ref 1000)) [(1000,⟨true,.arr 3 tI64 x⟩)] l k).sat Kp := by
  rw [hs_2]
  refine PT.rq_sat 1 ⟨fun h => ?_,fun h => absurd hk (of_decide_eq_false h)⟩
  refine ⟨by simp [h0,hk],PT.rq_sat 25 ⟨fun hb => ?_,fun hb => by rw [hB] at hb; cases hb⟩⟩
  have hap : (decide ((x.length + 1) * 8 ≤ 140737488355328) && decide (x.length + 1 ≤ maxLen)) = true := by
   have : maxLen = 9223372036854775807 := by decide
   rw [decide_eq_true (by omega : (x.length + 1) * 8 ≤ 140737488355328),decide_eq_true (by omega : x.length + 1 ≤ maxLen)]
   rfl
  exact PT.rq_sat 6 ⟨hI,decide_eq_true hj.symm,PT.rq_sat 3 ⟨hap,hI,decide_eq_true hj.symm,PT.rq_sat 2 rfl⟩⟩
 refine wpIn_mono (zdZ (π := ⟨hsβ v (some us[j]),ok,π.rd,π.df⟩) (root := zcs f_zaD) (L := fun _ _ => none) zcj hsTo hsBody 116 80 _ (fun e => ∃ p,hsSee e = some p ∧ Kp p) a w _ ok (by decide) hs_at (noCuts _ _) (G.sim2 hu hx)
  (zcP.sat_pt (fun e p h1 h2 => ⟨p,h1,h2⟩) hsat)) ?_
 rintro e a' w' ⟨ev,β',ok',⟨p,hp,hK⟩,hev⟩
 cases (show p = _ from hK)
 obtain ⟨σ,rfl,hw⟩ := hs_end hp
 obtain ⟨rfl,S⟩ := hev
 obtain ⟨β2,ok2,S2⟩ := hw _ _ _ _ _ _ _ S
 obtain ⟨v',u',G'⟩ := G.of2 (ρ := ⟨hsβ v (some us[j]),ok,π.rd,π.df⟩) rfl rfl hu hx S2
 exact ⟨v',u',ok2,G'⟩
theorem hs_round {w0 : World} {own : Nat → Prop} {π : Pin} {l : List (Int × Int)} {m kn : Nat} {a : Act} {w : World} (hl : l.length ≤ 1000000) (hm : m ≤ 4096) (H : HsI w0 own π l m kn a w) :
  hsBody.wpIn (Fw π.rd) 0 pg (HsQ w0 own π l m kn) a w := by
 obtain ⟨hkn,us,v,ok,hus,G⟩ := H
 have hB : hsB us l (kn : Int) = zda m (l.getD kn (0,0)) := by
  simp only [hsB,zda,hus,Int.toNat_natCast]
 have hw : kn < l.length → IntKind.i64.wrap ((kn : Int) + 1) = ((kn + 1 : Nat) : Int) := fun h => wrap64 (by omega)
 by_cases hk : kn < l.length
 ·cases hv : zda m (l.getD kn (0,0)) with
  | false =>
   refine wpIn_mono (hs_run1 G (by omega) (by omega) fun _ => hB.trans hv) ?_
   rintro e a' w' h
   cases e with
   | normal =>
    obtain ⟨_,v',ok',G'⟩ := h
    refine ⟨hk,hk,us,v',ok',hus,?_⟩
    rw [zjv hk,zfS,hv,if_neg (by decide),← hw hk]
    exact G'
   | exit i =>
    cases i with
    | zero => exact absurd (by omega : (kn : Int) < l.length) h.1
    | succ i => exact h.elim
   | _ => exact h.elim
  | true =>
   have hv' := hv
   simp only [zda,Bool.and_eq_true,decide_eq_true_eq] at hv'
   have hjl : (l.getD kn (0,0)).1.toNat < (zev m l kn).length := by rw [G.len,hus]; omega
   have hx : (zev m l kn)[(l.getD (kn : Int).toNat (0,0)).1.toNat]? = some ((zev m l kn)[(l.getD kn (0,0)).1.toNat]) := by
    rw [Int.toNat_natCast]; exact List.getElem?_eq_getElem hjl
   have hxl := hsUpto_len (m := m) hkn _ (List.getElem_mem hjl)
   refine wpIn_mono (hs_run2 G (by omega) (by omega) (hB.trans hv) hx (by omega)) ?_
   rintro e a' w' h
   cases e with
   | normal =>
    obtain ⟨v',u',ok',G'⟩ := h
    refine ⟨hk,hk,us.set (l.getD kn (0,0)).1.toNat u',v',ok',by rw [List.length_set]; exact hus,?_⟩
    rw [zjv hk,zfS,hv,if_pos rfl,← hw hk]
    have e1 : (zev m l kn).getD (l.getD kn (0,0)).1.toNat [] = (zev m l kn)[(l.getD kn (0,0)).1.toNat] := by
     rw [List.getD_eq_getElem?_getD,List.getElem?_eq_getElem hjl]; rfl
    rw [e1]
    exact G'
   | _ => exact h.elim
 ·refine wpIn_mono (hs_run1 G (by omega) (by omega) fun h => absurd h (by omega)) ?_
  rintro e a' w' h
  cases e with
  | normal => exact absurd h.1 (by omega)
  | exit i =>
   cases i with
   | zero =>
    obtain ⟨_,v',ok',G'⟩ := h
    exact ⟨by omega,hkn,us,v',ok',hus,G'⟩
   | succ i => exact h.elim
  | _ => exact h.elim
theorem row_dat {w : World} {ok : Nat → Prop} {e : TypeId} {t : Ty} {xs : List t.den} {v : Value} {us : List Value} (h2 : w.ownsRow 0 e t.size v xs.length us) (h3 : zcX w ok t us xs) (hok : ∀ g,blk v = some g → ok g) :
  zcM w ok (.sl t) [v] xs := by
 rcases h2.2 with ⟨rfl,hn⟩ | ⟨g,cap,cur,rfl,_,hg,hnc,hcm,hcs,htake⟩
 ·exact ⟨none,0,by rw [hn],by omega,Nat.zero_le _,fun _ => rfl,fun i hi => by omega⟩
 ·refine ⟨some ⟨g,0,none⟩,cap,rfl,hnc,hcm,(fun e => by cases e),fun i hi => ⟨g,0,(us.drop (i * t.size)).take t.size,rfl,hok g rfl,?_,?_,h3 i hi⟩⟩
  ·have hl := h2.1
   have : (i + 1) * t.size ≤ xs.length * t.size := Nat.mul_le_mul_right _ hi
   rw [Nat.add_mul] at this
   simp only [List.length_take,List.length_drop]
   omega
  ·have hm : Mem w g 0 us := by
    intro j u hu
    rw [cell_of_row w g (0 + j) cur e (0,0) hg,Nat.zero_add]
    rw [← htake,List.getElem?_take] at hu
    split at hu
    ·simpa using hu
    ·cases hu
   exact hm.sub (i * t.size) t.size
def hsOut (LL : List (List Int)) : St := spSt 55 [5] [.lf (.ref 176)] [(176,⟨true,.arr 26 (.sl tI64) LL⟩)]
theorem Gh.out {w0 : World} {own : Nat → Prop} {π : Pin} {l : List (Int × Int)} {us : List Value} {LL : List (List Int)} {k : Int} {a : Act} {w : World} {v : Value} {ok : Nat → Prop} (G : Gh w0 own π l us LL k a w v ok)  :
  ∃ β' ok',Sim π w0 own w a (hsOut LL) β' ok' := by
 let ok2 : Nat → Prop := fun b => ok b ∨ ∃ (j : Nat) (u : Value),us[j]? = some u ∧ blk u = some b
 have hlt : ∀ (j : Nat) (u : Value) (g : Nat),us[j]? = some u → blk u = some g → g < w.heap.size := fun j u g hu hg => by
  have hi : j < LL.length := by rw [G.len]; exact (List.getElem?_eq_some_iff.1 hu).1
  obtain ⟨vs,hr,_⟩ := G.inn j u LL[j] hu (by simp [hi])
  exact row_lt hr hg
 have hone : ∀ id e,zct (hsOut LL).heap id = some e → id = 176 ∧ e = ⟨true,.arr 26 (.sl tI64) LL⟩ := fun id e h => by
  change zct [(176,(⟨true,.arr 26 (.sl tI64) LL⟩ : Ent))] id = some e at h
  unfold zct at h
  split at h
  ·rename_i h1; cases h; exact ⟨h1.symm,rfl⟩
  ·cases h
 have hv : ∀ id u,hsβ v none id = some u → id = 176 ∧ u = v := fun id u h => by
  unfold hsβ at h
  split at h
  ·rename_i h1; cases h; exact ⟨h1,rfl⟩
  ·split at h <;> cases h
 refine ⟨hsβ v none,ok2,⟨⟨G.fr,fun b hb => ?_,fun id u h => ?_,fun id e h => ?_,fun id e h _ => ?_,fun id e u g h _ hu hg => ?_,fun id e u g h hw => ?_,fun i e u j e' u' g hij h h' => ?_⟩,fun t => ?_,by rw [G.size]; exact (zcY ..).symm,G.def0,fun id u hid h => ?_,fun b hb => ?_⟩⟩
 ·rcases hb with h | ⟨j,u,h1,h2⟩
  ·exact G.okLt b h
  ·exact hlt j u b h1 h2
 ·obtain ⟨rfl,_⟩ := hv id u h; exact ⟨_,rfl⟩
 ·obtain ⟨rfl,rfl⟩ := hone id e h
  refine ⟨v,us,rfl,by rw [G.len]; exact G.row,fun i hi => ?_⟩
  have hiu : i < us.length := by rw [← G.len]; exact hi
  obtain ⟨vs,hr,he⟩ := G.inn i us[i] LL[i] (by simp [hiu]) (by simp [hi])
  have e1 : (us.drop (i * (Ty.sl tI64).size)).take (Ty.sl tI64).size = [us[i]] := by
   show (us.drop (i * 1)).take 1 = _
   rw [Nat.mul_one,List.drop_eq_getElem_cons hiu]; rfl
  rw [e1]
  exact row_dat (t := tI64) hr (reps_int he) fun g hg => .inr ⟨i,us[i],by simp [hiu],hg⟩
 ·obtain ⟨rfl,rfl⟩ := hone id e h; rfl
 ·obtain ⟨rfl,rfl⟩ := hv id u hu
  refine ⟨?_,(G.vok g hg).2⟩
  rintro (h1 | ⟨j,y,h1,h2⟩)
  ·exact (G.vok g hg).1 h1
  ·exact (G.iok j y g h1 h2).2.2 hg
 ·obtain ⟨rfl,rfl⟩ := hone id e h; cases hw
 ·obtain ⟨rfl,_⟩ := hone _ _ h; obtain ⟨rfl,_⟩ := hone _ _ h'; exact absurd rfl hij
 ·have h := zer [5] [.lf (.ref 176)] 55 0 t
  show zcE w ok2 _ _ ((zgD [5] [.lf (.ref 176)] 55 0).getD t (.lf .undef))
  rw [h,Nat.zero_add]
  split
  ·simp only [zdY]
   split
   ·rename_i h5; subst h5; rw [G.t5]; obtain ⟨A,c,h⟩ := row_slice G.row; exact ⟨rfl,A,_,c,h⟩
   ·trivial
  ·trivial
 ·obtain ⟨rfl,_⟩ := hv id u h
  exact absurd hid (by decide)
 ·rcases hb with h | ⟨j,u,h1,h2⟩
  ·exact G.okB b h
  ·exact .inr (G.iok j u b h1 h2).2.1
def hsC (us : List Value) (l : List (Int × Int)) (n k : Int) : Bool :=
 open Classical in decide (us = List.replicate us.length nilv) && decide (us.length ≤ 4096) && decide (n = l.length) && decide (k = 0) && decide (l.length ≤ 1000000)
def hsTree (us : List Value) (l : List (Int × Int)) (n k : Int) : zcP := .req (hsC us l n k) (.leaf (.norm (hsOut (zev us.length l l.length))))
def hsTell (σ : St) : Option zcP := match σ.heap,σ.tv 5,σ.tv 12,σ.tv 13,σ.tv 14 with
 | [(id,⟨true,.raw e us none⟩)],.lf (.ref id'),.lf (.dat t l),.lf (.int .i64 n),.lf (.int .i64 k) =>
  if h : t = tA then if id = 176 ∧ id' = 176 ∧ e = 26 ∧ σ.tmps.length = 55 then some (hsTree us (h ▸ l : List tA.den) n k) else none else none
 | _,_,_,_,_ => none
def hsL : Cuts := fun q σ => if q = 29 then hsTell σ else none
theorem hs_29 : zdk 80 (zcs f_zaD) 29 = some (.block 0 (.loop hsBody)) := by kernel_rfl
theorem hs_cuts : CutsOK pg hsL (zcs f_zaD) 2 := by
 intro d q c hq hc π w0 own σ t K a w β ok ht hs S
 unfold hsL at ht
 split at ht
 case isFalse => cases ht
 rename_i hq29
 subst hq29
 cases codeAt_fun hc hs_29
 unfold hsTell at ht
 split at ht
 case h_2 => cases ht
 rename_i id e us id' t' l n k hheap h5 h12 h13 h14
 split at ht
 case isFalse => cases ht
 rename_i hty
 subst hty
 split at ht
 case isFalse => cases ht
 rename_i hids
 obtain ⟨rfl,rfl,rfl,hlen⟩ := hids
 cases ht
 obtain ⟨hC,hK⟩ := hs
 change List (Int × Int) at l
 change hsC us l n k = true at hC
 change K (.norm (hsOut (zev us.length l l.length))) at hK
 simp only [hsC,Bool.and_eq_true,decide_eq_true_eq] at hC
 obtain ⟨⟨⟨⟨hus,hm⟩,rfl⟩,rfl⟩,hl⟩ := hC
 have hget176 : zct σ.heap 176 = some ⟨true,.raw 26 us none⟩ := by rw [hheap]; rfl
 obtain ⟨v,vs,h1,h2,h3⟩ := S.inv.ent 176 _ hget176
 cases (show vs = us from h3)
 have t5 := S.tmps 5
 have t12 := S.tmps 12
 have t13 := S.tmps 13
 have t14 := S.tmps 14
 rw [h5] at t5
 rw [h12] at t12
 rw [h13] at t13
 rw [h14] at t14
 have e5 : a.tmps.getD 5 undef = v := by
  have := (show β 176 = some (a.tmps.getD 5 undef) ∧ _ from t5).1
  rw [h1] at this
  exact (Option.some.inj this).symm
 have hnil : ∀ (j : Nat) (u : Value),us[j]? = some u → u = nilv := fun j u hu => by
  have := List.mem_of_getElem? hu
  rw [hus] at this
  exact (List.mem_replicate.1 this).2
 have G0 : Gh w0 own π l us (zev us.length l 0) ((0 : Nat) : Int) a w v ok := by
  refine ⟨S.inv.fr,S.inv.okLt,S.okB,by rw [S.size]; exact hlen,S.def0,e5,t12,t13,t14,h2,fun g hg => S.inv.wr 176 _ v g hget176 rfl h1 hg,by simp [zev],fun j u x hu hx => ?_,fun j u g hu hg => ?_,fun i j u u' g _ hu _ hg => ?_⟩
  ·have hx0 : x = [] := (List.mem_replicate.1 (show x ∈ List.replicate us.length ([] : List Int) from List.mem_of_getElem? hx)).2
   subst hx0
   rw [hnil j u hu]
   exact ⟨[],⟨rfl,.inl ⟨rfl,rfl⟩⟩,fun i hi => absurd hi (Nat.not_lt_zero i)⟩
  ·rw [hnil j u hu] at hg; cases hg
  ·rw [hnil i u hu] at hg; cases hg
 refine wpIn_block (wpIn_loop_ghost (fun n a w => ∃ kn,n = l.length - kn ∧ HsI w0 own π l us.length kn a w) l.length ⟨0,by omega,by omega,us,v,ok,rfl,G0⟩ ?_)
 rintro n a1 w1 ⟨kn,rfl,HI⟩
 refine wpIn_mono (hs_round hl hm HI) ?_
 rintro e a2 w2 h
 cases e with
 | normal =>
  obtain ⟨hk,HI'⟩ := h
  exact ⟨l.length - (kn + 1),by omega,kn + 1,rfl,HI'⟩
 | exit i =>
  cases i with
  | zero =>
   obtain ⟨rfl,_,us2,v2,ok2,hu2,G2⟩ := h
   obtain ⟨β3,ok3,S3⟩ := G2.out
   exact ⟨.norm _,β3,ok3,hK,rfl,S3⟩
  | succ i => exact h.elim
 | _ => exact h.elim
theorem fn_okL {P : Program} {T : zcl} (hm : P.follows .mixedOrders = true) (hT : zck P T) {o : Io} {fn : Func} {L : Cuts} {plan : List WOp} {t : Tup o.A → RT Unit (Tup o.R)}
  (has : (fn.body.isSome && !(fn.name == "runtime.NumGoroutine")) = true) (hf : P.funcs[o.f]? = some fn) (hcuts : CutsOK P L (zcs fn) 2)
  (go : ∀ x,(evI P T L 1 (zcs fn) (zgY (o.as x) (o.es x) fn.ntmps)).pt (outEv P fn (o.ents.length) plan o.sh) = (t x).pt (fun _ => .norm [] []) (fun y => .out (o.res y))) : o.Okay P fun x => (t x).run fun _ => none := by
 simp only [Bool.and_eq_true,Bool.not_eq_true'] at has
 obtain ⟨hb,hn⟩ := has
 refine ⟨⟨fn,hf,hb,hn⟩,fun x y hy => ?_⟩
 have hbody : fn.body = some (zcs fn) := by
  unfold zcs
  cases h : fn.body with
  | none => rw [h] at hb; cases hb
  | some c => rfl
 have hlen : (o.es x).length = o.ents.length := by simp [Io.es]
 refine fnSoundW hf hbody plan fun π w0 own a w β ok _ S => ?_
 refine zdZ hm hT (zcs fn) 1 0 _ _ a w β ok (by decide) rfl hcuts S (out_sat ?_)
 have hgo := go x
 rw [← hlen] at hgo
 rw [show (o.res y).shares = o.sh from rfl,hgo]
 exact RT.sat (r := y) (again := fun _ => none) (fun _ h => by cases h) ⟨rfl,rfl,rfl⟩ hy
def zha : Io := ⟨n_zaD,[tI,.sl (.pair tI tI)],[.lf (qm 0),.lf (qm 1)],[],[[tI],[.sl (.pair tI tI)]],[.sl (.sl tI)],.lf (qm 0),[],[],true⟩
def zaD : Int × List (Int × Int) → RT Unit (List (List Int))
| (n,l) =>
 .rq 4 (.req (mkOK 24 (minI (zdJ n 0) 4096)) (.rq 4 (.req (hsC (List.replicate (minI (zdJ n 0) 4096).toNat nilv) l l.length 0) (.rq 2 (.done (zev (List.replicate (minI (zdJ n 0) 4096).toNat nilv).length l l.length))))))
def F_zaD (x : Int × List (Int × Int)) : Option (List (List Int)) := (zaD x).run fun _ => none
theorem zaD_go (x : Tup zha.A) : (evI pg hsT hsL 1 (zcs f_zaD) (zgY (zha.as x) (zha.es x) f_zaD.ntmps)).pt (outEv pg f_zaD zha.ents.length [.toDat 4] zha.sh) =
  RT.pt (α := Unit) (R := Tup zha.R) (fun _ => PE.norm [] []) (fun y => .out (zha.res y)) (zaD x) := by kernel_rfl
theorem ok_zaD : zha.Okay pg F_zaD := fn_okL (o := zha) (fn := f_zaD) (plan := [.toDat 4]) (t := zaD) zcj hsTo (by kernel_rfl) (by kernel_rfl) hs_cuts zaD_go
def dm (n : Int) : Nat := (minI (zdJ n 0) 4096).toNat
theorem dm_le (n : Int) : dm n ≤ 4096 := by
 unfold dm minI; split <;> omega
theorem dm_eq {n : Int} (h0 : 0 ≤ n) (h : n ≤ 4096) : dm n = n.toNat := by
 unfold dm minI zdJ
 rw [show (if n < 0 then 0 else n) = n from by split <;> omega] <;> first | (split <;> omega) | skip
def hds (m : Nat) (l : List (Int × Int)) : List (List Int) := l.foldl (zfS m) (List.replicate m [])
theorem hds_upto (m : Nat) (l : List (Int × Int)) : zev m l l.length = hds m l := by
 unfold zev hds; rw [List.take_length]
def e_zaD : zcq := zha.sp (fun (n,l) => (decide (l.length ≤ 1000000))) (fun (n,l) => (hds (dm n) l))
theorem sp_zaD (h : ∀ (n : Int) (l : List (Int × Int)),WfT [tI,.sl (.pair tI tI)] (n,l) → ((decide (l.length ≤ 1000000))) = true → (zaD (n,l)).run (fun _ => none) = some (hds (dm n) l)) : e_zaD.ok pg := zcw ok_zaD fun (n,l) hw hc => h n l hw hc
theorem e_zaD_ok : e_zaD.ok pg := sp_zaD fun n l _ hc => by
 have hm := dm_le n
 have h0 : 0 ≤ minI (zdJ n 0) 4096 := by unfold minI zdJ; split <;> split <;> omega
 have h1 : minI (zdJ n 0) 4096 ≤ 4096 := by unfold minI; split <;> omega
 rw [zaD]
 simp only [RT.run,List.length_replicate]
 rw [if_pos (zdF.2 ⟨h0,by omega,by omega⟩),if_pos,hds_upto]
 ·rfl
 ·simp only [hsC,List.length_replicate,Bool.and_eq_true,decide_eq_true_eq]
  exact ⟨⟨⟨⟨trivial,hm⟩,trivial⟩,trivial⟩,of_decide_eq_true hc⟩
end
end Go.Proofs.YtlfdidaeachpoaaGreat
