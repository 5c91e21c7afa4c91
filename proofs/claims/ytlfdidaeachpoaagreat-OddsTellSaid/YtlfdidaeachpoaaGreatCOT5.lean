/- Part 5 of the walk and of the plain law. -/
import Derived.Test.YtlfdidaeachpoaaGreatCOT4
set_option linter.unusedSimpArgs false
set_option linter.unusedVariables false
namespace Go.Proofs.YtlfdidaeachpoaaGreat
open Go Go.RowKit
set_option maxRecDepth 100000
noncomputable section
def zbU : ((List Bool) × (List Tk) × (List Th) × (List Lk) × (List Int) × Int × Int) → RT Unit Bool
| (s_0,s_1,s_2,s_3,s_4,s_5,i) =>
 .rq 15 (let t0 := (decide (0 ≤ i)) && (decide (i < (s_3.length : Int)));
 .req ((inB s_3 i) || (!t0)) (.rq 4 (.done (t0 && (gI s_3 i).1))))
def F_zbU (x : (List Bool) × (List Tk) × (List Th) × (List Lk) × (List Int) × Int × Int) : Option Bool := (zbU x).run fun _ => none
def io_zbU : Io := ⟨n_zbU,[.sl tB,.sl yK,.sl yH,.sl yL,.sl tI,tI,tI],[.agg [qm 0,qm 1,qm 2,qm 3,qm 4,qm 5],.lf (qm 6)],[],[[.sl tB,.sl yK,.sl yH,.sl yL,.sl tI,tI],[tI]],[tB],.lf (qm 0),[],[],false⟩
def zbU_P : List zch := []
def zbU_T : zcl := tab []
theorem zbU_To : zck pg zbU_T := zci trivial
theorem zbU_go : zcy pg (zbU_T) io_zbU f_zbU (zbU_P) [] (zbU) := ⟨by kernel_rfl,by kernel_rfl,fun x => by kernel_rfl⟩
theorem ok_zbU : io_zbU.Okay pg (F_zbU) := zcu zcj (zbU_To) (zbU_go) trivial
def e_zbU : zcq := io_zbU.sp (fun (a,b,c,d,e,f,i) => true) (fun (a,b,c,d,e,f,i) => (inB d i && (gI d i).1))
theorem sp_zbU (h : ∀ (a : List Bool) (b : List Tk) (c : List Th) (d : List Lk) (e : List Int) (f : Int) (i : Int),WfT [.sl tB,.sl yK,.sl yH,.sl yL,.sl tI,tI,tI] (a,b,c,d,e,f,i) → (zbU (a,b,c,d,e,f,i)).run (fun _ => none) = some (inB d i && (gI d i).1)) : e_zbU.ok pg := zcw ok_zbU fun (a,b,c,d,e,f,i) hw hc => h a b c d e f i hw
theorem e_zbU_ok : e_zbU.ok pg := sp_zbU fun a b c d e f i _ => by
 rw [zbU]
 simp only [RT.run]
 show (if (inB d i || !(inB d i)) = true then some (inB d i && (gI d i).1) else none) = _
 rw [if_pos (by cases inB d i <;> rfl)]
def zcd : ((List Bool) × (List Tk) × (List Th) × (List Lk) × (List Int) × Int × Int × Int × Int) → RT Unit Bool
| (s_0,s_1,s_2,s_3,s_4,s_5,i,state,what) =>
 .rq 9 (let t0 := (inB s_2 i && (gI s_2 i).1 != 0);
 .req ((inB s_2 i) || (!t0)) (.rq 9 (let t1 := t0 && ((gI s_2 i).1 == state);
 .req ((inB s_2 i) || (!t1)) (.rq 6 (.done (t1 && ((gI s_2 i).2.1 == what)))))))
def F_zcd (x : (List Bool) × (List Tk) × (List Th) × (List Lk) × (List Int) × Int × Int × Int × Int) : Option Bool := (zcd x).run fun _ => none
def io_zcd : Io := ⟨n_zcd,[.sl tB,.sl yK,.sl yH,.sl yL,.sl tI,tI,tI,tI,tI],[.agg [qm 0,qm 1,qm 2,qm 3,qm 4,qm 5],.lf (qm 6),.lf (qm 7),.lf (qm 8)],[],[[.sl tB,.sl yK,.sl yH,.sl yL,.sl tI,tI],[tI],[tI],[tI]],[tB],.lf (qm 0),[],[],false⟩
def zcd_P : List zch := []
def zcd_T : zcl := tab [e_zam]
theorem zcd_To : zck pg zcd_T := zci ⟨zho,trivial⟩
theorem zcd_go : zcy pg (zcd_T) io_zcd f_zcd (zcd_P) [] (zcd) := ⟨by kernel_rfl,by kernel_rfl,fun x => by kernel_rfl⟩
theorem ok_zcd : io_zcd.Okay pg (F_zcd) := zcu zcj (zcd_To) (zcd_go) trivial
def isV (c : List Th) (i st what : Int) : Bool := ((inB c i && (gI c i).1 != 0) && ((gI c i).1 == st)) && ((gI c i).2.1 == what)
def e_zcd : zcq := io_zcd.sp (fun (a,b,c,d,e,f,i,state,what) => true) (fun (a,b,c,d,e,f,i,state,what) => (isV c i state what))
theorem sp_zcd (h : ∀ (a : List Bool) (b : List Tk) (c : List Th) (d : List Lk) (e : List Int) (f : Int) (i : Int) (state : Int) (what : Int),WfT [.sl tB,.sl yK,.sl yH,.sl yL,.sl tI,tI,tI,tI,tI] (a,b,c,d,e,f,i,state,what) → (zcd (a,b,c,d,e,f,i,state,what)).run (fun _ => none) = some (isV c i state what)) : e_zcd.ok pg := zcw ok_zcd fun (a,b,c,d,e,f,i,state,what) hw hc => h a b c d e f i state what hw
theorem e_zcd_ok : e_zcd.ok pg := sp_zcd fun a b c d e f i st what _ => by
 rw [zcd]
 simp only [RT.run]
 unfold isV
 cases h : inB c i with
 | false => simp
 | true => simp
def zbm : ((List Bool) × (List Tk) × (List Th) × (List Lk) × (List Int) × Int × Int) → RT Unit Bool
| (s_0,s_1,s_2,s_3,s_4,s_5,i) =>
 .rq 5 (.req (inB s_2 i) (.rq 6 (.ite ((gI s_2 i).1 == 4)
 (.rq 4 (.req (inB s_2 (gI s_2 i).2.1) (.rq 5 (.done ((gI s_2 (gI s_2 i).2.1).2.2.1 != i)))))
 (.rq 4 (.done ((gI s_2 i).1 == 6))))))
def F_zbm (x : (List Bool) × (List Tk) × (List Th) × (List Lk) × (List Int) × Int × Int) : Option Bool := (zbm x).run fun _ => none
def io_zbm : Io := ⟨n_zbm,[.sl tB,.sl yK,.sl yH,.sl yL,.sl tI,tI,tI],[.agg [qm 0,qm 1,qm 2,qm 3,qm 4,qm 5],.lf (qm 6)],[],[[.sl tB,.sl yK,.sl yH,.sl yL,.sl tI,tI],[tI]],[tB],.lf (qm 0),[],[],false⟩
def zbm_P : List zch := []
def zbm_T : zcl := tab []
theorem zbm_To : zck pg zbm_T := zci trivial
theorem zbm_go : zcy pg (zbm_T) io_zbm f_zbm (zbm_P) [] (zbm) := ⟨by kernel_rfl,by kernel_rfl,fun x => by kernel_rfl⟩
theorem ok_zbm : io_zbm.Okay pg (F_zbm) := zcu zcj (zbm_To) (zbm_go) trivial
def e_zbm : zcq := io_zbm.en F_zbm
theorem e_zbm_ok : e_zbm.ok pg := zeS ok_zbm
def zW_b26 : ((List Bool) × (List Tk) × (List Th) × (List Lk) × (List Int) × Int) → Int → RT Int (LR Unit Unit)
| (l_0,l_1,l_2,l_3,l_4,l_5),s =>
 .rq 5 (.ite (decide (s < (l_1.length : Int)))
 (.rq 3 (.req (inB l_1 s) (.rq 6 (let t0 := w64 (s + 1);
 let t1 := (gI l_1 s).2.2.2.1 == 0;
 let t2 := (gI l_1 s).2.2.2.2.1 == 0;
 .ite (!(gI l_1 s).1)
 (.rq 3 (.ite ((((gI l_1 s).1 == false) && (((gI l_1 s).2.1 == 0) && (((gI l_1 s).2.2.1 == 0) && (t1 && (t2 && (((gI l_1 s).2.2.2.2.2 == false) && true)))))) != true)
 (.rq 1 (.done (.ex ())))
 (.rq 3 (.again t0))))
 (.rq 55 (.ite ((((!((inB l_0 (gI l_1 s).2.1 && gI l_0 (gI l_1 s).2.1))) || (decide ((gI l_1 s).2.2.1 < 1))) || (decide (1048576 < (gI l_1 s).2.2.1))) || (!(((t1 && t2) || (((gI l_1 s).2.2.2.1 == 1) && ((inB l_2 (gI l_1 s).2.2.2.2.1 && (gI l_2 (gI l_1 s).2.2.2.2.1).1 != 0)))) || ((((gI l_1 s).2.2.2.1 == 2) && ((gI l_1 s).2.2.2.2.1 != 0)) && ((inB l_0 (gI l_1 s).2.2.2.2.1 && gI l_0 (gI l_1 s).2.2.2.2.1))))))
 (.rq 1 (.done (.ex ())))
 (.rq 3 (.again t0))))))))
 (.done (.rt ())))
def zW_p26 : zch := ⟨26,true,[.sl tB,.sl yK,.sl yH,.sl yL,.sl tI,tI],[tI],⟨[.keep [1,3],.gc],[1,3],[.lf (qp 16),.lf (qm 0)],[(16,true,.cells [qi 0,qi 1,qi 2,qi 3,qi 4,qi 5])]⟩,[⟨1,⟨[.keep [2],.gc],[2],[.lf (.fix (.bool false))],[]⟩,[]⟩,⟨2,⟨[.keep [1],.gc],[1],[.lf (qp 16)],[(16,true,.cells [qi 0,qi 1,qi 2,qi 3,qi 4,qi 5])]⟩,[]⟩],zW_b26⟩
def zW : ((List Bool) × (List Tk) × (List Th) × (List Lk) × (List Int) × Int) → RT Unit Bool
| (a0_0,a0_1,a0_2,a0_3,a0_4,a0_5) =>
 .rq 3 (.call (lo zW_b26 (a0_0,a0_1,a0_2,a0_3,a0_4,a0_5) 0) default fun v0 =>
 .ite v0.isRt
 (.rq 14 (let t0 := (a0_1.length : Int) == 0;
 let t1 := decide ((a0_1.length : Int) ≤ 96);
 let t2 := w64 ((a0_1.length : Int) - 1);
 .req ((inB a0_1 t2) || (!((!t0) && t1))) (.rq 5 (.done (t1 && (t0 || (gI a0_1 t2).1))))))
 (.done false))
def F_zW (x : (List Bool) × (List Tk) × (List Th) × (List Lk) × (List Int) × Int) : Option Bool := (zW x).run fun _ => none
def io_zW : Io := ⟨n_zW,[.sl tB,.sl yK,.sl yH,.sl yL,.sl tI,tI],[.agg [qm 0,qm 1,qm 2,qm 3,qm 4,qm 5]],[],[[.sl tB,.sl yK,.sl yH,.sl yL,.sl tI,tI]],[tB],.lf (qm 0),[],[],false⟩
def zW_P : List zch := [zW_p26]
def zW_T : zcl := tab [e_zam,e_zbR]
theorem zW_To : zck pg zW_T := zci ⟨zho,e_zbR_ok,trivial⟩
theorem zW_k26 : (zW_p26).OK pg (zW_T) (zcB 97 (zW_P)) (zcs f_zW) 97 := ⟨by kernel_rfl,fun i x => by kernel_rfl⟩
theorem zW_go : zcy pg (zW_T) io_zW f_zW (zW_P) [] (zW) := ⟨by kernel_rfl,by kernel_rfl,fun x => by kernel_rfl⟩
theorem ok_zW : io_zW.Okay pg (F_zW) := zcu zcj (zW_To) (zW_go) ⟨zW_k26,trivial⟩
def tkFine (a : List Bool) (c : List Th) (t : Tk) : Bool :=
 if (!t.1) = true then !((((t.1 == false) && ((t.2.1 == 0) && ((t.2.2.1 == 0) && ((t.2.2.2.1 == 0) && ((t.2.2.2.2.1 == 0) && ((t.2.2.2.2.2 == false) && true)))))) != true))
 else !((((!((inB a t.2.1 && gI a t.2.1))) || (decide (t.2.2.1 < 1))) || (decide (1048576 < t.2.2.1))) || (!(((t.2.2.2.1 == 0 && t.2.2.2.2.1 == 0) || ((t.2.2.2.1 == 1) && ((inB c t.2.2.2.2.1 && (gI c t.2.2.2.2.1).1 != 0)))) || (((t.2.2.2.1 == 2) && (t.2.2.2.2.1 != 0)) && ((inB a t.2.2.2.2.1 && gI a t.2.2.2.2.1))))))
theorem tickets_loop (a : List Bool) (b : List Tk) (c : List Th) (d : List Lk) (e : List Int) (f : Int) (hl : b.length ≤ 1000000) : ∀ (n i : Nat),i + n = b.length →
  lo zW_b26 (a,b,c,d,e,f) (i : Int) = some (if (b.drop i).all (tkFine a c) = true then .rt () else .ex ())
 | 0,i,h => by
  rw [zcr,zW_b26]
  simp only [RT.run]
  rw [if_neg (by simp; omega),List.drop_eq_nil_of_le (by omega)]
  rfl
 | n + 1,i,h => by
  have hi : i < b.length := by omega
  have ih := tickets_loop a b c d e f hl n (i + 1) (by omega)
  rw [zcr,zW_b26]
  simp only [RT.run]
  rw [if_pos (by simp; omega),if_pos (zcn.2 ⟨by omega,by omega⟩),zcL hi,List.drop_eq_getElem_cons hi,List.all_cons,zcm (by omega),show (i : Int) + 1 = ((i + 1 : Nat) : Int) by omega,ih]
  generalize (b.drop (i + 1)).all (tkFine a c) = q
  unfold tkFine
  generalize b[i] = t
  by_cases h1 : (!t.1) = true
  ·rw [if_pos h1,if_pos h1]
   split
   ·rename_i h2
    rw [h2]; simp
   ·rename_i h2
    rw [Bool.eq_false_iff.2 h2]; simp
  ·rw [if_neg h1,if_neg h1]
   split
   ·rename_i h2
    rw [h2]; simp
   ·rename_i h2
    rw [Bool.eq_false_iff.2 h2]; simp
def zfK (a : List Bool) (b : List Tk) (c : List Th) : Bool := b.all (tkFine a c) && (decide ((b.length : Int) ≤ 96) && (((b.length : Int) == 0) || (gI b ((b.length : Int) - 1)).1))
def e_zW : zcq := io_zW.sp (fun (a,b,c,d,e,f) => (decide (b.length ≤ 1000000))) (fun (a,b,c,d,e,f) => (zfK a b c))
theorem sp_zW (h : ∀ (a : List Bool) (b : List Tk) (c : List Th) (d : List Lk) (e : List Int) (f : Int),WfT [.sl tB,.sl yK,.sl yH,.sl yL,.sl tI,tI] (a,b,c,d,e,f) → ((decide (b.length ≤ 1000000))) = true → (zW (a,b,c,d,e,f)).run (fun _ => none) = some (zfK a b c)) : e_zW.ok pg := zcw ok_zW fun (a,b,c,d,e,f) hw hc => h a b c d e f hw hc
theorem e_zW_ok : e_zW.ok pg := sp_zW fun a b c d e f _ hc => by
 have hl := of_decide_eq_true hc
 rw [zW]
 simp only [RT.run]
 have := tickets_loop a b c d e f hl b.length 0 (by omega)
 rw [show ((0 : Nat) : Int) = 0 from rfl,List.drop_zero] at this
 rw [this,Option.bind_some,zcm (by omega)]
 unfold zfK
 cases b.all (tkFine a c) with
 | false => rfl
 | true =>
  rw [if_pos (by rfl),if_pos]
  ·rw [Bool.true_and]
  ·by_cases h0 : b.length = 0
   ·simp [h0]
   ·rw [zcn.2 ⟨by omega,by omega⟩]; rfl
def zA_b7462 : (Int × Int) → RT Unit Int
| (s,x5_0) =>
 .rq 3 (.ite (x5_0 == 3)
 (.rq 3 (.done (w64 (s + 1))))
 (.done s))
def zA_p7462 : zch := ⟨7462,false,[tI,tI,.sl tB,.sl yK,.sl yH,.sl yL,.sl tI,tI,tI,tI,tI,tI,tI],[],⟨[.keep [1,3,4,5],.gc],[1,3,4,5],[.lf (qp 16),.lf (qi 0),.lf (qi 1),.lf (qp 80)],[(16,true,.cells [qi 2,qi 3,qi 4,qi 5,qi 6,qi 7]),(80,true,.cells [qi 8,qi 9,qi 10,qi 11,qi 12])]⟩,[⟨0,⟨[.keep [1,3,4,5],.gc],[1,3,4,5],[.lf (qp 16),.lf (qm 0),.lf (qi 1),.lf (qp 80)],[(16,true,.cells [qi 2,qi 3,qi 4,qi 5,qi 6,qi 7]),(80,true,.cells [qi 8,qi 9,qi 10,qi 11,qi 12])]⟩,[tI]⟩],(fun i _ => zA_b7462 (i.1,i.2.2.2.2.2.2.2.2.1))⟩
def zA_b58 : ((List Bool) × (List Tk) × (List Th) × (List Lk) × (List Int) × Int) → (Int × Int) → RT (Int × Int) (LR Unit Int)
| (l_0,l_1,l_2,l_3,l_4,l_5),(s,t) =>
 .rq 5 (.ite (decide (t < (l_2.length : Int)))
 (.rq 3 (.req (inB l_2 t) (.rq 6 (let t0 := w64 (t + 1);
 let t1 := (gI l_2 t).1 == 0;
 .ite t1
 (.rq 3 (.ite ((t1 && (((gI l_2 t).2.1 == 0) && (((gI l_2 t).2.2.1 == 0) && (((gI l_2 t).2.2.2.1 == 0) && (((gI l_2 t).2.2.2.2 == 0) && true))))) != true)
 (.rq 1 (.done (.ex ())))
 (.rq 3 (.again (s,t0)))))
 (.call (on zA_b7462 (s,(gI l_2 t).1)) default fun v0 =>
 .rq 101 (.ite (((!((((((decide (0 < (gI l_2 t).1)) && (decide ((gI l_2 t).1 < 6))) && ((gI l_2 t).1 != 4)) && ((gI l_2 t).2.1 == (-1))) || ((((gI l_2 t).1 == 4) && ((gI l_2 t).2.1 != t)) && ((inB l_2 (gI l_2 t).2.1 && (gI l_2 (gI l_2 t).2.1).1 != 0)))) || (((gI l_2 t).1 == 6) && ((inB l_3 (gI l_2 t).2.1 && (gI l_3 (gI l_2 t).2.1).1))))) || (!(((gI l_2 t).2.2.1 == (-1)) || (((gI l_2 t).1 != 5) && ((isV l_2 (gI l_2 t).2.2.1 (4 : Int) t)))))) || ((!(((gI l_2 t).2.2.2.1 == 1) && ((gI l_2 t).2.2.2.2 == 1))) && (((decide ((gI l_2 t).2.2.2.2 < 1)) || (decide ((gI l_2 t).2.2.2.1 ≤ (gI l_2 t).2.2.2.2))) || (decide (l_5 < (gI l_2 t).2.2.2.1)))))
 (.rq 1 (.done (.ex ())))
 (.rq 3 (.again (v0,t0)))))))))
 (.done (.rt s)))
def zA_p58 : zch := ⟨58,true,[.sl tB,.sl yK,.sl yH,.sl yL,.sl tI,tI],[tI,tI],⟨[.keep [1,3,4],.gc],[1,3,4],[.lf (qp 16),.lf (qm 0),.lf (qm 1)],[(16,true,.cells [qi 0,qi 1,qi 2,qi 3,qi 4,qi 5])]⟩,[⟨1,⟨[.keep [2],.gc],[2],[.lf (.fix (.bool false))],[]⟩,[]⟩,⟨2,⟨[.keep [1,3],.gc],[1,3],[.lf (qp 16),.lf (qm 0)],[(16,true,.cells [qi 0,qi 1,qi 2,qi 3,qi 4,qi 5])]⟩,[tI]⟩],zA_b58⟩
def zA : ((List Bool) × (List Tk) × (List Th) × (List Lk) × (List Int) × Int) → RT Unit Bool
| (a0_0,a0_1,a0_2,a0_3,a0_4,a0_5) =>
 .rq 4 (.call (lo zA_b58 (a0_0,a0_1,a0_2,a0_3,a0_4,a0_5) (0,0)) default fun v1 =>
 .ite v1.isRt
 (.rq 18 (let t0 := (a0_2.length : Int) == 0;
 let t1 := w64 ((a0_2.length : Int) - 1);
 let t2 := (decide (v1.getR < 2)) && (decide ((a0_2.length : Int) ≤ 32));
 .req ((inB a0_2 t1) || (!((!t0) && t2))) (.rq 6 (.done (t2 && (t0 || ((gI a0_2 t1).1 != 0)))))))
 (.done false))
def F_zA (x : (List Bool) × (List Tk) × (List Th) × (List Lk) × (List Int) × Int) : Option Bool := (zA x).run fun _ => none
def io_zA : Io := ⟨n_zA,[.sl tB,.sl yK,.sl yH,.sl yL,.sl tI,tI],[.agg [qm 0,qm 1,qm 2,qm 3,qm 4,qm 5]],[],[[.sl tB,.sl yK,.sl yH,.sl yL,.sl tI,tI]],[tB],.lf (qm 0),[],[],false⟩
def zA_P : List zch := [zA_p7462,zA_p58]
def zA_T : zcl := tab [e_zcd,e_zbU,e_zam]
theorem zA_To : zck pg zA_T := zci ⟨e_zcd_ok,e_zbU_ok,zho,trivial⟩
theorem zA_k7462 : (zA_p7462).OK pg (zA_T) (zcB 154 (zA_P)) (zcs f_zA) 154 := ⟨by kernel_rfl,fun i x => by kernel_rfl⟩
theorem zA_k58 : (zA_p58).OK pg (zA_T) (zcB 154 (zA_P)) (zcs f_zA) 154 := ⟨by kernel_rfl,fun i x => by kernel_rfl⟩
theorem zA_go : zcy pg (zA_T) io_zA f_zA (zA_P) [] (zA) := ⟨by kernel_rfl,by kernel_rfl,fun x => by kernel_rfl⟩
theorem ok_zA : io_zA.Okay pg (F_zA) := zcu zcj (zA_To) (zA_go) ⟨zA_k7462,zA_k58,trivial⟩
def zgk (c : List Th) (d : List Lk) (f : Int) (i : Int) : Bool :=
 if ((gI c i).1 == 0) = true then !(((gI c i).1 == 0 && (((gI c i).2.1 == 0) && (((gI c i).2.2.1 == 0) && (((gI c i).2.2.2.1 == 0) && (((gI c i).2.2.2.2 == 0) && true))))) != true)
 else !(((!((((((decide (0 < (gI c i).1)) && (decide ((gI c i).1 < 6))) && ((gI c i).1 != 4)) && ((gI c i).2.1 == (-1))) || ((((gI c i).1 == 4) && ((gI c i).2.1 != i)) && ((inB c (gI c i).2.1 && (gI c (gI c i).2.1).1 != 0)))) || (((gI c i).1 == 6) && ((inB d (gI c i).2.1 && (gI d (gI c i).2.1).1))))) || (!(((gI c i).2.2.1 == (-1)) || (((gI c i).1 != 5) && ((isV c (gI c i).2.2.1 (4 : Int) i)))))) || ((!(((gI c i).2.2.2.1 == 1) && ((gI c i).2.2.2.2 == 1))) && (((decide ((gI c i).2.2.2.2 < 1)) || (decide ((gI c i).2.2.2.1 ≤ (gI c i).2.2.2.2))) || (decide (f < (gI c i).2.2.2.1)))))
def runs (c : List Th) (i n : Nat) : Nat := ((List.range' i n).filter fun (k : Nat) => (gI c (k : Int)).1 == 3).length
theorem zja (a : List Bool) (b : List Tk) (c : List Th) (d : List Lk) (e : List Int) (f : Int) (hl : c.length ≤ 1000000) : ∀ (n i s : Nat),i + n = c.length → s ≤ i →
  ∃ v : Int,0 ≤ v ∧ v ≤ c.length ∧ v = s + (runs c i n : Int) ∧ lo zA_b58 (a,b,c,d,e,f) ((s : Int),(i : Int)) = some (if (List.range' i n).all (fun (k : Nat) => zgk c d f (k : Int)) = true then .rt v else .ex ())
 | 0,i,s,h,hs => by
  refine ⟨(s : Int),by omega,by omega,by simp [runs],?_⟩
  rw [zcr,zA_b58]
  simp only [RT.run]
  rw [if_neg (by simp; omega)]
  rfl
 | n + 1,i,s,h,hs => by
  have hi : i < c.length := by omega
  have hin : inB c (i : Int) = true := zcn.2 ⟨by omega,by omega⟩
  by_cases h0 : ((gI c (i : Int)).1 == 0) = true
  ·obtain ⟨v,h1,h2,hv,ih⟩ := zja a b c d e f hl n (i + 1) s (by omega) (by omega)
   have hne : ((gI c (i : Int)).1 == 3) = false := by rw [beq_iff_eq] at h0; rw [h0]; rfl
   refine ⟨v,h1,h2,by rw [hv,runs,runs,List.range'_succ,List.filter_cons,hne]; rfl,?_⟩
   rw [zcr,zA_b58]
   simp only [RT.run]
   rw [if_pos (by simp; omega),if_pos hin,if_pos h0,zcm (by omega),show (i : Int) + 1 = ((i + 1 : Nat) : Int) by omega,ih,List.range'_succ,List.all_cons]
   generalize (List.range' (i + 1) n).all (fun (k : Nat) => zgk c d f (k : Int)) = q
   unfold zgk
   rw [if_pos h0]
   split
   ·rename_i h3; rw [h3]; simp
   ·rename_i h3; rw [Bool.eq_false_iff.2 h3]; simp
  ·have hb : ∃ s' : Nat,s' ≤ i + 1 ∧ s' = s + (if ((gI c (i : Int)).1 == 3) = true then 1 else 0) ∧ on zA_b7462 ((s : Int),(gI c (i : Int)).1) = some (s' : Int) := by
    show ∃ s' : Nat,s' ≤ i + 1 ∧ s' = s + (if ((gI c (i : Int)).1 == 3) = true then 1 else 0) ∧ (zA_b7462 _).run _ = _
    rw [zA_b7462]
    simp only [RT.run]
    split
    ·rename_i h3; exact ⟨s + 1,by omega,rfl,by rw [zcm (by omega)]; rfl⟩
    ·rename_i h3; exact ⟨s,by omega,rfl,rfl⟩
   obtain ⟨s',hs',hse,hb⟩ := hb
   obtain ⟨v,h1,h2,hv,ih⟩ := zja a b c d e f hl n (i + 1) s' (by omega) hs'
   refine ⟨v,h1,h2,by rw [hv,hse,runs,runs,List.range'_succ,List.filter_cons]; split <;> simp <;> omega,?_⟩
   rw [zcr,zA_b58]
   simp only [RT.run]
   rw [if_pos (by simp; omega),if_pos hin,if_neg h0,hb,Option.bind_some,zcm (by omega),show (i : Int) + 1 = ((i + 1 : Nat) : Int) by omega,ih,List.range'_succ,List.all_cons]
   generalize (List.range' (i + 1) n).all (fun (k : Nat) => zgk c d f (k : Int)) = q
   unfold zgk
   rw [if_neg h0]
   split
   ·rename_i h3; rw [h3]; simp
   ·rename_i h3; rw [Bool.eq_false_iff.2 h3]; simp
def zew (c : List Th) (d : List Lk) (f : Int) : Bool := (List.range c.length).all (fun (k : Nat) => zgk c d f (k : Int)) &&
 ((decide ((runs c 0 c.length : Int) < 2) && decide ((c.length : Int) ≤ 32)) && (((c.length : Int) == 0) || ((gI c ((c.length : Int) - 1)).1 != 0)))
def e_zA : zcq := io_zA.sp (fun (a,b,c,d,e,f) => (decide (c.length ≤ 1000000))) (fun (a,b,c,d,e,f) => (zew c d f))
theorem sp_zA (h : ∀ (a : List Bool) (b : List Tk) (c : List Th) (d : List Lk) (e : List Int) (f : Int),WfT [.sl tB,.sl yK,.sl yH,.sl yL,.sl tI,tI] (a,b,c,d,e,f) → ((decide (c.length ≤ 1000000))) = true → (zA (a,b,c,d,e,f)).run (fun _ => none) = some (zew c d f)) : e_zA.ok pg := zcw ok_zA fun (a,b,c,d,e,f) hw hc => h a b c d e f hw hc
theorem e_zA_ok : e_zA.ok pg := sp_zA fun a b c d e f _ hc => by
 have hl := of_decide_eq_true hc
 rw [zA]
 simp only [RT.run]
 obtain ⟨v,h1,h2,hv,this⟩ := zja a b c d e f hl c.length 0 0 (by omega) (by omega)
 rw [show ((0 : Nat) : Int) = 0 from rfl,← List.range_eq_range'] at this
 rw [this,Option.bind_some,zcm (by omega)]
 unfold zew
 cases (List.range c.length).all (fun (k : Nat) => zgk c d f (k : Int)) with
 | false => rfl
 | true =>
  have hv' : v = (runs c 0 c.length : Int) := by rw [hv]; simp
  subst hv'
  rw [if_pos (by rfl),if_pos]
  ·rw [Bool.true_and]; rfl
  ·by_cases h0 : c.length = 0
   ·simp [h0]
   ·rw [zcn.2 ⟨by omega,by omega⟩]; rfl
def ziH : (Int × (List Bool) × (List Tk) × (List Th) × (List Lk) × (List Int) × Int × Int) → Int → RT Int (LR Unit Unit)
| (s,l_0,l_1,l_2,l_3,l_4,l_5,t_1),x5 =>
 .rq 5 (.ite (decide (x5 < (l_2.length : Int)))
 (.rq 15 (.ite (((isV l_2 x5 (6 : Int) s)) && ((t_1 == (-1)) || (t_1 == x5)))
 (.rq 1 (.done (.ex ())))
 (.rq 3 (.again (w64 (x5 + 1))))))
 (.done (.rt ())))
def zM_p13470 : zch := ⟨13470,true,[tI,.sl tB,.sl yK,.sl yH,.sl yL,.sl tI,tI,tB,tI],[tI],⟨[.keep [1,3,4,5],.gc],[1,3,4,5],[.lf (qp 16),.lf (qi 0),.lf (qp 64),.lf (qm 0)],[(16,true,.cells [qi 1,qi 2,qi 3,qi 4,qi 5,qi 6]),(64,true,.cells [qi 7,qi 8])]⟩,[⟨1,⟨[.keep [2],.gc],[2],[.lf (.fix (.bool false))],[]⟩,[]⟩,⟨4,⟨[.keep [1,3],.gc],[1,3],[.lf (qp 16),.lf (qi 0)],[(16,true,.cells [qi 1,qi 2,qi 3,qi 4,qi 5,qi 6])]⟩,[]⟩],(fun i => ziH (i.1,i.2.1,i.2.2.1,i.2.2.2.1,i.2.2.2.2.1,i.2.2.2.2.2.1,i.2.2.2.2.2.2.1,i.2.2.2.2.2.2.2.2))⟩
def zM_b26 : ((List Bool) × (List Tk) × (List Th) × (List Lk) × (List Int) × Int) → Int → RT Int (LR Unit Unit)
| (l_0,l_1,l_2,l_3,l_4,l_5),s =>
 .rq 5 (.ite (decide (s < (l_3.length : Int)))
 (.rq 3 (.req (inB l_3 s) (.rq 6 (let t0 := w64 (s + 1);
 .ite (!(gI l_3 s).1)
 (.rq 3 (.ite ((gI l_3 s).2 != 0)
 (.rq 1 (.done (.ex ())))
 (.rq 3 (.again t0))))
 (.rq 10 (.ite (((gI l_3 s).2 != (-1)) && (!((inB l_2 (gI l_3 s).2 && (gI l_2 (gI l_3 s).2).1 != 0))))
 (.rq 1 (.done (.ex ())))
 (.rq 1 (.call (lo ziH (s,l_0,l_1,l_2,l_3,l_4,l_5,(gI l_3 s).2) 0) default fun v0 =>
 .ite v0.isRt
 (.rq 3 (.again t0))
 (.done (.ex ()))))))))))
 (.done (.rt ())))
def zM_p26 : zch := ⟨26,true,[.sl tB,.sl yK,.sl yH,.sl yL,.sl tI,tI],[tI],⟨[.keep [1,3],.gc],[1,3],[.lf (qp 16),.lf (qm 0)],[(16,true,.cells [qi 0,qi 1,qi 2,qi 3,qi 4,qi 5])]⟩,[⟨1,⟨[.keep [2],.gc],[2],[.lf (.fix (.bool false))],[]⟩,[]⟩,⟨2,⟨[.keep [1],.gc],[1],[.lf (qp 16)],[(16,true,.cells [qi 0,qi 1,qi 2,qi 3,qi 4,qi 5])]⟩,[]⟩],zM_b26⟩
def zM : ((List Bool) × (List Tk) × (List Th) × (List Lk) × (List Int) × Int) → RT Unit Bool
| (a0_0,a0_1,a0_2,a0_3,a0_4,a0_5) =>
 .rq 3 (.call (lo zM_b26 (a0_0,a0_1,a0_2,a0_3,a0_4,a0_5) 0) default fun v1 =>
 .ite v1.isRt
 (.rq 14 (let t0 := (a0_3.length : Int) == 0;
 let t1 := decide ((a0_3.length : Int) ≤ 8);
 let t2 := w64 ((a0_3.length : Int) - 1);
 .req ((inB a0_3 t2) || (!((!t0) && t1))) (.rq 5 (.done (t1 && (t0 || (gI a0_3 t2).1))))))
 (.done false))
def F_zM (x : (List Bool) × (List Tk) × (List Th) × (List Lk) × (List Int) × Int) : Option Bool := (zM x).run fun _ => none
def io_zM : Io := ⟨n_zM,[.sl tB,.sl yK,.sl yH,.sl yL,.sl tI,tI],[.agg [qm 0,qm 1,qm 2,qm 3,qm 4,qm 5]],[],[[.sl tB,.sl yK,.sl yH,.sl yL,.sl tI,tI]],[tB],.lf (qm 0),[],[],false⟩
def zM_P : List zch := [zM_p13470,zM_p26]
def zM_T : zcl := tab [e_zcd,e_zam]
theorem zM_To : zck pg zM_T := zci ⟨e_zcd_ok,zho,trivial⟩
theorem zM_k13470 : (zM_p13470).OK pg (zM_T) (zcB 75 (zM_P)) (zcs f_zM) 75 := ⟨by kernel_rfl,fun i x => by kernel_rfl⟩
theorem zM_k26 : (zM_p26).OK pg (zM_T) (zcB 75 (zM_P)) (zcs f_zM) 75 := ⟨by kernel_rfl,fun i x => by kernel_rfl⟩
theorem zM_go : zcy pg (zM_T) io_zM f_zM (zM_P) [] (zM) := ⟨by kernel_rfl,by kernel_rfl,fun x => by kernel_rfl⟩
theorem ok_zM : io_zM.Okay pg (F_zM) := zcu zcj (zM_To) (zM_go) ⟨zM_k13470,zM_k26,trivial⟩
def lkFine (c : List Th) (i : Int) (l : Lk) : Bool :=
 if (!l.1) = true then !(l.2 != 0) else !((l.2 != (-1)) && (!((inB c l.2 && (gI c l.2).1 != 0)))) && (List.range c.length).all fun (k : Nat) => !((isV c (k : Int) 6 i) && ((l.2 == (-1)) || (l.2 == (k : Int))))
theorem locks_inner (a : List Bool) (b : List Tk) (c : List Th) (d : List Lk) (e : List Int) (f : Int) (i h : Int) (hl : c.length ≤ 1000000) : ∀ (n k : Nat),k + n = c.length →
  lo ziH (i,a,b,c,d,e,f,h) (k : Int) = some (if (List.range' k n).all (fun (k : Nat) => !((isV c (k : Int) 6 i) && ((h == (-1)) || (h == (k : Int))))) = true then .rt () else .ex ())
 | 0,k,hk => by
  rw [zcr,ziH]
  simp only [RT.run]
  rw [if_neg (by simp; omega)]
  rfl
 | n + 1,k,hk => by
  rw [zcr,ziH]
  simp only [RT.run]
  rw [if_pos (by simp; omega),zcm (by omega),show (k : Int) + 1 = ((k + 1 : Nat) : Int) by omega,locks_inner a b c d e f i h hl n (k + 1) (by omega),List.range'_succ,List.all_cons]
  generalize (List.range' (k + 1) n).all (fun (k : Nat) => !((isV c (k : Int) 6 i) && ((h == (-1)) || (h == (k : Int))))) = q
  split
  ·rename_i h3; rw [h3]; simp
  ·rename_i h3; rw [Bool.eq_false_iff.2 h3]; simp
theorem locks_loop (a : List Bool) (b : List Tk) (c : List Th) (d : List Lk) (e : List Int) (f : Int) (hl : c.length ≤ 1000000) (hd : d.length ≤ 1000000) : ∀ (n i : Nat),i + n = d.length →
  lo zM_b26 (a,b,c,d,e,f) (i : Int) = some (if (List.range' i n).all (fun (k : Nat) => lkFine c (k : Int) (gI d (k : Int))) = true then .rt () else .ex ())
 | 0,i,h => by
  rw [zcr,zM_b26]
  simp only [RT.run]
  rw [if_neg (by simp; omega)]
  rfl
 | n + 1,i,h => by
  have hi : i < d.length := by omega
  have hin := locks_inner a b c d e f (i : Int) (gI d (i : Int)).2 hl c.length 0 (by omega)
  rw [show ((0 : Nat) : Int) = 0 from rfl,← List.range_eq_range'] at hin
  rw [zcr,zM_b26]
  simp only [RT.run]
  rw [if_pos (by simp; omega),if_pos (zcn.2 ⟨by omega,by omega⟩),zcm (by omega),show (i : Int) + 1 = ((i + 1 : Nat) : Int) by omega,locks_loop a b c d e f hl hd n (i + 1) (by omega),List.range'_succ,List.all_cons,hin,Option.bind_some]
  generalize (List.range' (i + 1) n).all (fun (k : Nat) => lkFine c (k : Int) (gI d (k : Int))) = q
  unfold lkFine
  generalize (List.range c.length).all (fun (k : Nat) => !((isV c (k : Int) 6 (i : Int)) && (((gI d (i : Int)).2 == (-1)) || ((gI d (i : Int)).2 == (k : Int))))) = q2
  by_cases h1 : (!(gI d (i : Int)).1) = true
  ·rw [if_pos h1,if_pos h1]
   cases ((gI d (i : Int)).2 != 0) <;> simp
  ·rw [if_neg h1,if_neg h1]
   split
   ·rename_i h2; rw [h2]; simp
   ·rename_i h2
    rw [Bool.eq_false_iff.2 h2]
    cases q2 <;> simp [LR.isRt]
def locksV (c : List Th) (d : List Lk) : Bool := (List.range d.length).all (fun (k : Nat) => lkFine c (k : Int) (gI d (k : Int))) &&
 (decide ((d.length : Int) ≤ 8) && (((d.length : Int) == 0) || (gI d ((d.length : Int) - 1)).1))
def e_zM : zcq := io_zM.sp (fun (a,b,c,d,e,f) => (decide (c.length ≤ 1000000) && decide (d.length ≤ 1000000))) (fun (a,b,c,d,e,f) => (locksV c d))
theorem sp_zM (h : ∀ (a : List Bool) (b : List Tk) (c : List Th) (d : List Lk) (e : List Int) (f : Int),WfT [.sl tB,.sl yK,.sl yH,.sl yL,.sl tI,tI] (a,b,c,d,e,f) → ((decide (c.length ≤ 1000000) && decide (d.length ≤ 1000000))) = true → (zM (a,b,c,d,e,f)).run (fun _ => none) = some (locksV c d)) : e_zM.ok pg := zcw ok_zM fun (a,b,c,d,e,f) hw hc => h a b c d e f hw hc
theorem e_zM_ok : e_zM.ok pg := sp_zM fun a b c d e f _ hc => by
 rw [Bool.and_eq_true] at hc
 have hl := of_decide_eq_true hc.1
 have hd := of_decide_eq_true hc.2
 rw [zM]
 simp only [RT.run]
 have := locks_loop a b c d e f hl hd d.length 0 (by omega)
 rw [show ((0 : Nat) : Int) = 0 from rfl,← List.range_eq_range'] at this
 rw [this,Option.bind_some,zcm (by omega)]
 unfold locksV
 cases (List.range d.length).all (fun (k : Nat) => lkFine c (k : Int) (gI d (k : Int))) with
 | false => rfl
 | true =>
  rw [if_pos (by rfl),if_pos]
  ·rw [Bool.true_and]
  ·by_cases h0 : d.length = 0
   ·simp [h0]
   ·rw [zcn.2 ⟨by omega,by omega⟩]; rfl
def zk_b6730 : (Int × (List Int)) → (Int × Int) → RT (Int × Int) Int
| (s,l_4),(t,x5) =>
 .rq 5 (.ite (decide (x5 < (l_4.length : Int)))
 (.rq 3 (.req (inB l_4 x5) (.rq 3 (let t0 := w64 (x5 + 1);
 .ite ((gI l_4 x5) == s)
 (.rq 6 (.again (w64 (t + 1),t0)))
 (.rq 3 (.again (t,t0)))))))
 (.done t))
def zk_p6730 : zch := ⟨6730,true,[tI,.sl tB,.sl yK,.sl yH,.sl yL,.sl tI,tI],[tI,tI],⟨[.keep [1,3,4,5],.gc],[1,3,4,5],[.lf (qp 16),.lf (qi 0),.lf (qm 0),.lf (qm 1)],[(16,true,.cells [qi 1,qi 2,qi 3,qi 4,qi 5,qi 6])]⟩,[⟨4,⟨[.keep [1,3,4],.gc],[1,3,4],[.lf (qp 16),.lf (qi 0),.lf (qm 0)],[(16,true,.cells [qi 1,qi 2,qi 3,qi 4,qi 5,qi 6])]⟩,[tI]⟩],(fun i => zk_b6730 (i.1,i.2.2.2.2.2.1))⟩
def zk_b6734 : (Int × Int × (List Th)) → RT Unit Bool
| (s,t,l_2) =>
 .rq 3 (let t0 := inB l_2 (gI l_2 s).2.1;
 let t1 := (gI l_2 (gI l_2 s).2.1).1 == 5;
 .ite (t == 1)
 (.rq 3 (.req (inB l_2 s) (.rq 5 (.ite ((gI l_2 s).1 == 4)
 (.rq 5 (.req (inB l_2 s) (.rq 2 (.req t0 (.rq 4 (.done t1))))))
 (.rq 1 (.done false))))))
 (.rq 2 (.ite false
 (.rq 5 (.req (inB l_2 s) (.rq 2 (.req t0 (.rq 4 (.done t1))))))
 (.rq 1 (.done false)))))
def zk_p6734 : zch := ⟨6734,false,[tI,tI,.sl tB,.sl yK,.sl yH,.sl yL,.sl tI,tI],[],⟨[.keep [1,3,4],.gc],[1,3,4],[.lf (qp 16),.lf (qi 0),.lf (qi 1)],[(16,true,.cells [qi 2,qi 3,qi 4,qi 5,qi 6,qi 7])]⟩,[⟨0,⟨[.keep [1,3,64],.gc],[1,3,64],[.lf (qp 16),.lf (qi 0),.lf (qm 0)],[(16,true,.cells [qi 2,qi 3,qi 4,qi 5,qi 6,qi 7])]⟩,[tB]⟩],(fun i _ => zk_b6734 (i.1,i.2.1,i.2.2.2.2.1))⟩
def zk_b26 : ((List Bool) × (List Tk) × (List Th) × (List Lk) × (List Int) × Int) → Int → RT Int (LR Unit Unit)
| (l_0,l_1,l_2,l_3,l_4,l_5),s =>
 .rq 5 (.ite (decide (s < (l_2.length : Int)))
 (.rq 2 (.call (lo zk_b6730 (s,l_4) (0,0)) default fun v0 =>
 .rq 2 (.call (F_zbm (l_0,l_1,l_2,l_3,l_4,l_5,s)) default fun v1 =>
 .rq 7 (.ite (((v1 == (v0 == 1)) != true) || (decide (1 < v0)))
 (.rq 1 (.done (.ex ())))
 (.call (on zk_b6734 (s,v0,l_2)) default fun v2 =>
 .ite v2
 (.rq 1 (.done (.ex ())))
 (.rq 3 (.again (w64 (s + 1)))))))))
 (.done (.rt ())))
def zk_p26 : zch := ⟨26,true,[.sl tB,.sl yK,.sl yH,.sl yL,.sl tI,tI],[tI],⟨[.keep [1,3],.gc],[1,3],[.lf (qp 16),.lf (qm 0)],[(16,true,.cells [qi 0,qi 1,qi 2,qi 3,qi 4,qi 5])]⟩,[⟨1,⟨[.keep [2],.gc],[2],[.lf (.fix (.bool false))],[]⟩,[]⟩,⟨2,⟨[.keep [1],.gc],[1],[.lf (qp 16)],[(16,true,.cells [qi 0,qi 1,qi 2,qi 3,qi 4,qi 5])]⟩,[]⟩],zk_b26⟩
def zk_b1864 : (Int × (List Th) × (List Int)) → RT Unit Bool
| (x6,l_2,l_4) =>
 .rq 3 (.req (inB l_4 x6) (.rq 3 (.ite (decide ((gI l_4 x6) < 0))
 (.rq 1 (.done true))
 (.rq 3 (.req (inB l_4 x6) (.rq 6 (.done (decide ((l_2.length : Int) ≤ (gI l_4 x6))))))))))
def zk_p1864 : zch := ⟨1864,false,[tI,.sl tB,.sl yK,.sl yH,.sl yL,.sl tI,tI],[],⟨[.keep [1,6],.gc],[1,6],[.lf (qp 16),.lf (qi 0)],[(16,true,.cells [qi 1,qi 2,qi 3,qi 4,qi 5,qi 6])]⟩,[⟨0,⟨[.keep [1,6,88],.gc],[1,6,88],[.lf (qp 16),.lf (qi 0),.lf (qm 0)],[(16,true,.cells [qi 1,qi 2,qi 3,qi 4,qi 5,qi 6])]⟩,[tB]⟩],(fun i _ => zk_b1864 (i.1,i.2.2.2.1,i.2.2.2.2.2.1))⟩
def zk_b58 : ((List Th) × (List Int)) → Int → RT Int (LR Unit Unit)
| (l_2,l_4),x6 =>
 .rq 5 (.ite (decide (x6 < (l_4.length : Int)))
 (.call (on zk_b1864 (x6,l_2,l_4)) default fun v4 =>
 .ite v4
 (.rq 1 (.done (.ex ())))
 (.rq 3 (.again (w64 (x6 + 1)))))
 (.done (.rt ())))
def zk_p58 : zch := ⟨58,true,[.sl tB,.sl yK,.sl yH,.sl yL,.sl tI,tI],[tI],⟨[.keep [1,6],.gc],[1,6],[.lf (qp 16),.lf (qm 0)],[(16,true,.cells [qi 0,qi 1,qi 2,qi 3,qi 4,qi 5])]⟩,[⟨1,⟨[.keep [2],.gc],[2],[.lf (.fix (.bool false))],[]⟩,[]⟩,⟨6,⟨[.keep [],.gc],[],[],[]⟩,[]⟩],(fun i => zk_b58 (i.2.2.1,i.2.2.2.2.1))⟩
def zk : ((List Bool) × (List Tk) × (List Th) × (List Lk) × (List Int) × Int) → RT Unit Bool
| (a0_0,a0_1,a0_2,a0_3,a0_4,a0_5) =>
 .rq 3 (.call (lo zk_b26 (a0_0,a0_1,a0_2,a0_3,a0_4,a0_5) 0) default fun v3 =>
 .ite v3.isRt
 (.rq 1 (.call (lo zk_b58 (a0_2,a0_4) 0) default fun v5 =>
 .ite v5.isRt
 (.rq 1 (.done true))
 (.done false)))
 (.done false))
def F_zk (x : (List Bool) × (List Tk) × (List Th) × (List Lk) × (List Int) × Int) : Option Bool := (zk x).run fun _ => none
def io_zk : Io := ⟨n_zk,[.sl tB,.sl yK,.sl yH,.sl yL,.sl tI,tI],[.agg [qm 0,qm 1,qm 2,qm 3,qm 4,qm 5]],[],[[.sl tB,.sl yK,.sl yH,.sl yL,.sl tI,tI]],[tB],.lf (qm 0),[],[],false⟩
def zk_P : List zch := [zk_p6730,zk_p6734,zk_p26,zk_p1864,zk_p58]
def zk_T : zcl := tab [e_zbm]
theorem zk_To : zck pg zk_T := zci ⟨e_zbm_ok,trivial⟩
theorem zk_k6730 : (zk_p6730).OK pg (zk_T) (zcB 89 (zk_P)) (zcs f_zk) 89 := ⟨by kernel_rfl,fun i x => by kernel_rfl⟩
theorem zk_k6734 : (zk_p6734).OK pg (zk_T) (zcB 89 (zk_P)) (zcs f_zk) 89 := ⟨by kernel_rfl,fun i x => by kernel_rfl⟩
theorem zk_k26 : (zk_p26).OK pg (zk_T) (zcB 89 (zk_P)) (zcs f_zk) 89 := ⟨by kernel_rfl,fun i x => by kernel_rfl⟩
theorem zk_k1864 : (zk_p1864).OK pg (zk_T) (zcB 89 (zk_P)) (zcs f_zk) 89 := ⟨by kernel_rfl,fun i x => by kernel_rfl⟩
theorem zk_k58 : (zk_p58).OK pg (zk_T) (zcB 89 (zk_P)) (zcs f_zk) 89 := ⟨by kernel_rfl,fun i x => by kernel_rfl⟩
theorem zk_go : zcy pg (zk_T) io_zk f_zk (zk_P) [] (zk) := ⟨by kernel_rfl,by kernel_rfl,fun x => by kernel_rfl⟩
theorem ok_zk : io_zk.Okay pg (F_zk) := zcu zcj (zk_To) (zk_go) ⟨zk_k6730,zk_k6734,zk_k26,zk_k1864,zk_k58,trivial⟩
def queuesV (c : List Th) (i : Int) : Bool := if ((gI c i).1 == 4) = true then (gI c (gI c i).2.1).2.2.1 != i else (gI c i).1 == 6
def qOne (c : List Th) (e : List Int) (i : Int) : Bool :=
 !(((queuesV c i == ((e.count i : Int) == 1)) != true) || (decide (1 < (e.count i : Int)))) && !(((e.count i : Int) == 1) && ((gI c i).1 == 4 && (gI c (gI c i).2.1).1 == 5))
def waitOK (c : List Th) : Bool := (List.range c.length).all fun (k : Nat) => !((gI c (k : Int)).1 == 4) || inB c (gI c (k : Int)).2.1
theorem zjq (e : List Int) (s : Int) (he : e.length ≤ 1000000) : ∀ (n k t : Nat),k + n = e.length → t ≤ k → lo zk_b6730 (s,e) ((t : Int),(k : Int)) = some ((t + (e.drop k).count s : Nat) : Int)
 | 0,k,t,h,_ => by
  rw [zcr,zk_b6730]
  simp only [RT.run]
  rw [if_neg (by simp; omega),List.drop_eq_nil_of_le (by omega)]
  simp
 | n + 1,k,t,h,ht => by
  have hk : k < e.length := by omega
  rw [zcr,zk_b6730]
  simp only [RT.run]
  rw [if_pos (by simp; omega),if_pos (zcn.2 ⟨by omega,by omega⟩),zcm (by omega),zcm (by omega),show (k : Int) + 1 = ((k + 1 : Nat) : Int) by omega,show (t : Int) + 1 = ((t + 1 : Nat) : Int) by omega,
   zjq e s he n (k + 1) (t + 1) (by omega) (by omega),zjq e s he n (k + 1) t (by omega) (by omega),zcL hk,List.drop_eq_getElem_cons hk,List.count_cons]
  split <;> congr 2 <;> omega
theorem queue_b58 (c : List Th) (e : List Int) (he : e.length ≤ 1000000) : ∀ (n k : Nat),k + n = e.length → lo zk_b58 (c,e) (k : Int) = some (if (e.drop k).all (inB c) = true then .rt () else .ex ())
 | 0,k,h => by
  rw [zcr,zk_b58]
  simp only [RT.run]
  rw [if_neg (by simp; omega),List.drop_eq_nil_of_le (by omega)]
  rfl
 | n + 1,k,h => by
  have hk : k < e.length := by omega
  have hin : inB e (k : Int) = true := zcn.2 ⟨by omega,by omega⟩
  have hb : on zk_b1864 ((k : Int),c,e) = some (!(inB c e[k])) := by
   show (zk_b1864 _).run _ = _
   rw [zk_b1864]
   simp only [RT.run]
   rw [if_pos hin,if_pos hin,zcL hk]
   unfold inB
   by_cases h0 : e[k] < 0
   ·rw [if_pos (by simpa using h0),decide_eq_false (show ¬ 0 ≤ e[k] by omega)]; rfl
   ·rw [if_neg (by simpa using h0)]
    by_cases h1 : (c.length : Int) ≤ e[k]
    ·rw [decide_eq_true h1,decide_eq_false (show ¬ e[k] < (c.length : Int) by omega),Bool.and_false]; rfl
    ·rw [decide_eq_false h1,decide_eq_true (show 0 ≤ e[k] by omega),decide_eq_true (show e[k] < (c.length : Int) by omega)]; rfl
  rw [zcr,zk_b58]
  simp only [RT.run]
  rw [if_pos (by simp; omega),hb,Option.bind_some,zcm (by omega),show (k : Int) + 1 = ((k + 1 : Nat) : Int) by omega,queue_b58 c e he n (k + 1) (by omega),List.drop_eq_getElem_cons hk,List.all_cons]
  cases inB c e[k] <;> simp
theorem queue_loop (a : List Bool) (b : List Tk) (c : List Th) (d : List Lk) (e : List Int) (f : Int) (hl : c.length ≤ 1000000) (he : e.length ≤ 1000000) (hw : waitOK c = true) : ∀ (n i : Nat),i + n = c.length →
  lo zk_b26 (a,b,c,d,e,f) (i : Int) = some (if (List.range' i n).all (fun (k : Nat) => qOne c e (k : Int)) = true then .rt () else .ex ())
 | 0,i,h => by
  rw [zcr,zk_b26]
  simp only [RT.run]
  rw [if_neg (by simp; omega)]
  rfl
 | n + 1,i,h => by
  have hi : i < c.length := by omega
  have hin : inB c (i : Int) = true := zcn.2 ⟨by omega,by omega⟩
  have hwi := List.all_eq_true.1 hw i (List.mem_range.2 hi)
  have hcnt := zjq e (i : Int) he e.length 0 0 (by omega) (by omega)
  rw [show ((0 : Nat) : Int) = 0 from rfl,List.drop_zero,Nat.zero_add] at hcnt
  have hq : F_zbm (a,b,c,d,e,f,(i : Int)) = some (queuesV c (i : Int)) := by
   show (zbm _).run _ = _
   rw [zbm]
   simp only [RT.run]
   unfold queuesV
   rw [if_pos hin]
   by_cases h4 : ((gI c (i : Int)).1 == 4) = true
   ·rw [h4] at hwi
    rw [if_pos h4,if_pos (by simpa using hwi),if_pos h4]
   ·rw [if_neg h4,if_neg h4]
  have hb : on zk_b6734 ((i : Int),(e.count (i : Int) : Int),c) = some (((e.count (i : Int) : Int) == 1) && ((gI c (i : Int)).1 == 4 && (gI c (gI c (i : Int)).2.1).1 == 5)) := by
   show (zk_b6734 _).run _ = _
   rw [zk_b6734]
   simp only [RT.run]
   rw [if_pos hin]
   by_cases h1 : ((e.count (i : Int) : Int) == 1) = true
   ·rw [if_pos h1,h1]
    by_cases h4 : ((gI c (i : Int)).1 == 4) = true
    ·rw [h4] at hwi
     rw [if_pos h4,if_pos hin,if_pos (by simpa using hwi),h4]; rfl
    ·rw [if_neg h4,Bool.eq_false_iff.2 h4]; rfl
   ·rw [if_neg h1,Bool.eq_false_iff.2 h1]; rfl
  rw [zcr,zk_b26]
  simp only [RT.run]
  rw [if_pos (by simp; omega),hcnt,Option.bind_some,hq,Option.bind_some,hb,Option.bind_some,zcm (by omega),show (i : Int) + 1 = ((i + 1 : Nat) : Int) by omega,queue_loop a b c d e f hl he hw n (i + 1) (by omega),List.range'_succ,List.all_cons]
  generalize (List.range' (i + 1) n).all (fun (k : Nat) => qOne c e (k : Int)) = q
  unfold qOne
  split
  ·rename_i h2; rw [h2]; simp
  ·rename_i h2
   rw [Bool.eq_false_iff.2 h2]
   cases (((e.count (i : Int) : Int) == 1) && ((gI c (i : Int)).1 == 4 && (gI c (gI c (i : Int)).2.1).1 == 5)) <;> simp
def queueV (c : List Th) (e : List Int) : Bool := (List.range c.length).all (fun (k : Nat) => qOne c e (k : Int)) && e.all (inB c)
def e_zk : zcq := io_zk.sp (fun (a,b,c,d,e,f) => ((decide (c.length ≤ 1000000) && decide (e.length ≤ 1000000)) && waitOK c)) (fun (a,b,c,d,e,f) => (queueV c e))
theorem sp_zk (h : ∀ (a : List Bool) (b : List Tk) (c : List Th) (d : List Lk) (e : List Int) (f : Int),WfT [.sl tB,.sl yK,.sl yH,.sl yL,.sl tI,tI] (a,b,c,d,e,f) → (((decide (c.length ≤ 1000000) && decide (e.length ≤ 1000000)) && waitOK c)) = true → (zk (a,b,c,d,e,f)).run (fun _ => none) = some (queueV c e)) : e_zk.ok pg := zcw ok_zk fun (a,b,c,d,e,f) hw hc => h a b c d e f hw hc
theorem e_zk_ok : e_zk.ok pg := sp_zk fun a b c d e f _ hc => by
 simp only [Bool.and_eq_true,decide_eq_true_eq] at hc
 obtain ⟨⟨hl,he⟩,hw⟩ := hc
 rw [zk]
 simp only [RT.run]
 have h1 := queue_loop a b c d e f hl he hw c.length 0 (by omega)
 have h2 := queue_b58 c e he e.length 0 (by omega)
 rw [show ((0 : Nat) : Int) = 0 from rfl,← List.range_eq_range'] at h1
 rw [show ((0 : Nat) : Int) = 0 from rfl,List.drop_zero] at h2
 rw [h1,Option.bind_some,h2,Option.bind_some]
 unfold queueV
 cases (List.range c.length).all (fun (k : Nat) => qOne c e (k : Int)) with
 | false => rfl
 | true => cases e.all (inB c) <;> rfl
theorem wait_of_threads {c : List Th} {d : List Lk} {f : Int} (h : zew c d f = true) : waitOK c = true := by
 refine List.all_eq_true.2 fun k hk => ?_
 unfold zew at h
 simp only [Bool.and_eq_true] at h
 have h1 := List.all_eq_true.1 h.1 k hk
 unfold zgk at h1
 by_cases h4 : (gI c (k : Int)).1 = 4
 ·rw [if_neg (by rw [h4]; decide)] at h1
  rw [h4] at h1
  have : inB c (gI c (k : Int)).2.1 = true := by
   cases hin : inB c (gI c (k : Int)).2.1 with
   | true => rfl
   | false => rw [hin] at h1; simp at h1
  rw [this]; simp
 ·have : ((gI c (k : Int)).1 == 4) = false := by simpa using h4
  rw [this]; rfl
theorem zhZ {c : List Th} {d : List Lk} {f : Int} (h : zew c d f = true) : zfv c d = true := by
 refine List.all_eq_true.2 fun t ht => ?_
 obtain ⟨k,hk,rfl⟩ := List.mem_iff_getElem.1 ht
 unfold zew at h
 simp only [Bool.and_eq_true] at h
 have h1 := List.all_eq_true.1 h.1 k (List.mem_range.2 hk)
 unfold zgk at h1
 rw [zcL hk] at h1
 by_cases h6 : c[k].1 = 6
 ·rw [if_neg (by rw [h6]; decide)] at h1
  rw [h6] at h1
  have : inB d c[k].2.1 = true := by
   cases hin : inB d c[k].2.1 with
   | true => rfl
   | false => rw [hin] at h1; simp at h1
  rw [this]; simp
 ·have : (c[k].1 == 6) = false := by simpa using h6
  rw [this]; rfl
def zbz : ((List Bool) × (List Tk) × (List Th) × (List Lk) × (List Int) × Int) → RT Unit Bool
| (s_0,s_1,s_2,s_3,s_4,s_5) =>
 .rq 31 (.done (((((decide ((s_0.length : Int) ≤ 40)) && (decide ((s_1.length : Int) ≤ 200))) && (decide ((s_2.length : Int) ≤ 80))) && (decide ((s_3.length : Int) ≤ 40))) && (decide ((s_4.length : Int) ≤ 100))))
def F_zbz (x : (List Bool) × (List Tk) × (List Th) × (List Lk) × (List Int) × Int) : Option Bool := (zbz x).run fun _ => none
def io_zbz : Io := ⟨n_zbz,[.sl tB,.sl yK,.sl yH,.sl yL,.sl tI,tI],[.agg [qm 0,qm 1,qm 2,qm 3,qm 4,qm 5]],[],[[.sl tB,.sl yK,.sl yH,.sl yL,.sl tI,tI]],[tB],.lf (qm 0),[],[],false⟩
def zbz_P : List zch := []
def zbz_T : zcl := tab []
theorem zbz_To : zck pg zbz_T := zci trivial
theorem zbz_go : zcy pg (zbz_T) io_zbz f_zbz (zbz_P) [] (zbz) := ⟨by kernel_rfl,by kernel_rfl,fun x => by kernel_rfl⟩
theorem ok_zbz : io_zbz.Okay pg (F_zbz) := zcu zcj (zbz_To) (zbz_go) trivial
def smallV (a : List Bool) (b : List Tk) (c : List Th) (d : List Lk) (e : List Int) : Bool :=
 ((((decide ((a.length : Int) ≤ 40)) && (decide ((b.length : Int) ≤ 200))) && (decide ((c.length : Int) ≤ 80))) && (decide ((d.length : Int) ≤ 40))) && (decide ((e.length : Int) ≤ 100))
def e_zbz : zcq := io_zbz.sp (fun (a,b,c,d,e,f) => true) (fun (a,b,c,d,e,f) => (smallV a b c d e))
theorem sp_zbz (h : ∀ (a : List Bool) (b : List Tk) (c : List Th) (d : List Lk) (e : List Int) (f : Int),WfT [.sl tB,.sl yK,.sl yH,.sl yL,.sl tI,tI] (a,b,c,d,e,f) → (zbz (a,b,c,d,e,f)).run (fun _ => none) = some (smallV a b c d e)) : e_zbz.ok pg := zcw ok_zbz fun (a,b,c,d,e,f) hw hc => h a b c d e f hw
theorem e_zbz_ok : e_zbz.ok pg := sp_zbz fun a b c d e f _ => by
 rw [zbz]; rfl
def zaN_b62 : (Int × (List Bool) × (List Tk) × (List Th) × (List Lk) × (List Int) × Int) → RT Unit Bool
| (s,l_0,l_1,l_2,l_3,l_4,l_5) =>
 .rq 2 (.req ((decide (l_1.length ≤ 1000000))) (let t0 := (zdg l_1);
 .req ((decide (t0.length ≤ 4000000) && (decide (0 ≤ s) && decide (s ≤ 1000000)))) (.rq 2 (.ite (!((zeT s.toNat t0)))
 (.rq 4 (.req ((decide (l_2.length ≤ 1000000) && zfv l_2 l_3)) (let t1 := (zcW l_2 l_3);
 .req ((decide (t1.length ≤ 4000000) && (decide (0 ≤ (l_2.length : Int)) && decide ((l_2.length : Int) ≤ 1000000)))) (.rq 3 (.done (!((zeT (l_2.length : Int).toNat t1))))))))
 (.rq 2 (.done false))))))
def zaN_p62 : zch := ⟨62,false,[tI,.sl tB,.sl yK,.sl yH,.sl yL,.sl tI,tI],[],⟨[.keep [1,3],.gc],[1,3],[.lf (qp 16),.lf (qi 0)],[(16,true,.cells [qi 1,qi 2,qi 3,qi 4,qi 5,qi 6])]⟩,[⟨0,⟨[.keep [2],.gc],[2],[.lf (qm 0)],[]⟩,[tB]⟩],(fun i _ => zaN_b62 i)⟩
def zaN : ((List Bool) × (List Tk) × (List Th) × (List Lk) × (List Int) × Int) → RT Unit Bool
| (a0_0,a0_1,a0_2,a0_3,a0_4,a0_5) =>
 .rq 25 (let t0 := (((decide (a0_5 < 1)) || (decide (1000 < a0_5))) || (decide ((a0_0.length : Int) < 1))) || (decide (16 < (a0_0.length : Int)));
 .req ((inB a0_0 0) || (!(!t0))) (.rq 8 (let t1 := w64 ((a0_0.length : Int) - 1);
 let t2 := t0 || (!(gI a0_0 0));
 .req ((inB a0_0 t1) || (!(!t2))) (.rq 3 (.ite (t2 || (!(gI a0_0 t1)))
 (.rq 1 (.done false))
 (.rq 1 (.req ((decide (a0_1.length ≤ 1000000))) (.rq 3 (let t3 := !((zfK a0_0 a0_1 a0_2));
 .req (((decide (a0_2.length ≤ 1000000))) || (!(!t3))) (.rq 4 (let t4 := t3 || (!((zew a0_2 a0_3 a0_5)));
 .req (((decide (a0_2.length ≤ 1000000) && decide (a0_3.length ≤ 1000000))) || (!(!t4))) (.rq 4 (let t5 := t4 || (!((locksV a0_2 a0_3)));
 .req ((((decide (a0_2.length ≤ 1000000) && decide (a0_4.length ≤ 1000000)) && waitOK a0_2)) || (!(!t5))) (.rq 2 (.ite (t5 || (!((queueV a0_2 a0_4))))
 (.rq 1 (.done false))
 (.call (on zaN_b62 ((a0_0.length : Int),a0_0,a0_1,a0_2,a0_3,a0_4,a0_5)) default fun v0 =>
 .done v0))))))))))))))))
def F_zaN (x : (List Bool) × (List Tk) × (List Th) × (List Lk) × (List Int) × Int) : Option Bool := (zaN x).run fun _ => none
def io_zaN : Io := ⟨n_zaN,[.sl tB,.sl yK,.sl yH,.sl yL,.sl tI,tI],[.agg [qm 0,qm 1,qm 2,qm 3,qm 4,qm 5]],[],[[.sl tB,.sl yK,.sl yH,.sl yL,.sl tI,tI]],[tB],.lf (qm 0),[],[],false⟩
def zaN_P : List zch := [zaN_p62]
def zaN_T : zcl := tab [e_zk,e_zM,e_zA,e_zW,e_zaR,e_zh,e_zD]
theorem zaN_To : zck pg zaN_T := zci ⟨e_zk_ok,e_zM_ok,e_zA_ok,e_zW_ok,e_zaR_ok,e_zh_ok,e_zD_ok,trivial⟩
theorem zaN_k62 : (zaN_p62).OK pg (zaN_T) (zcB 71 (zaN_P)) (zcs f_zaN) 71 := ⟨by kernel_rfl,fun i x => by kernel_rfl⟩
theorem zaN_go : zcy pg (zaN_T) io_zaN f_zaN (zaN_P) [] (zaN) := ⟨by kernel_rfl,by kernel_rfl,fun x => by kernel_rfl⟩
theorem ok_zaN : io_zaN.Okay pg (F_zaN) := zcu zcj (zaN_To) (zaN_go) ⟨zaN_k62,trivial⟩
def zfp (a : List Bool) (b : List Tk) (c : List Th) (d : List Lk) (e : List Int) (f : Int) : Bool :=
 (!(((((((decide (f < 1)) || (decide (1000 < f))) || (decide ((a.length : Int) < 1))) || (decide (16 < (a.length : Int)))) || (!(gI a 0))) || (!(gI a ((a.length : Int) - 1))))) &&
 (zfK a b c && (zew c d f && (locksV c d && queueV c e)))) && (!zeT a.length (zdg b) && !zeT c.length (zcW c d))
def e_zaN : zcq := io_zaN.sp (fun (a,b,c,d,e,f) => (smallV a b c d e)) (fun (a,b,c,d,e,f) => (zfp a b c d e f))
theorem sp_zaN (h : ∀ (a : List Bool) (b : List Tk) (c : List Th) (d : List Lk) (e : List Int) (f : Int),WfT [.sl tB,.sl yK,.sl yH,.sl yL,.sl tI,tI] (a,b,c,d,e,f) → ((smallV a b c d e)) = true → (zaN (a,b,c,d,e,f)).run (fun _ => none) = some (zfp a b c d e f)) : e_zaN.ok pg := zcw ok_zaN fun (a,b,c,d,e,f) hw hc => h a b c d e f hw hc
theorem e_zaN_ok : e_zaN.ok pg := sp_zaN fun a b c d e f _ hc => by
 unfold smallV at hc
 simp only [Bool.and_eq_true,decide_eq_true_eq] at hc
 obtain ⟨⟨⟨⟨ha,hb⟩,hcl⟩,hd⟩,he⟩ := hc
 have la := coinArr_len b
 have lt := thrArr_len c d
 rw [zaN]
 simp only [RT.run]
 rw [zcm (by omega)]
 unfold zfp
 generalize hX : ((((decide (f < 1)) || (decide (1000 < f))) || (decide ((a.length : Int) < 1))) || (decide (16 < (a.length : Int)))) = X
 have hin : X = false → inB a 0 = true ∧ inB a ((a.length : Int) - 1) = true := fun h => by
  subst h
  simp only [Bool.or_eq_false_iff,decide_eq_false_iff_not] at hX
  exact ⟨zcn.2 (by omega),zcn.2 (by omega)⟩
 rw [if_pos (by cases X with | true => simp | false => rw [(hin rfl).1]; rfl),if_pos (by cases X with | true => simp | false => rw [(hin rfl).2]; rfl)]
 cases hY : ((X || !(gI a 0)) || !(gI a ((a.length : Int) - 1))) with
 | true => rw [if_pos rfl]; rfl
 | false =>
  rw [if_neg (by simp),if_pos (by simp; omega),if_pos (by simp; omega),if_pos (by simp; omega)]
  cases hT : zfK a b c with
  | false => simp
  | true =>
   cases hH : zew c d f with
   | false => simp
   | true =>
    cases hL : locksV c d with
    | false => simp
    | true =>
     have hw := wait_of_threads hH
     have ht := zhZ hH
     rw [if_pos (by rw [hw]; simp; omega)]
     cases hQ : queueV c e with
     | false => simp
     | true =>
      have : on zaN_b62 ((a.length : Int),a,b,c,d,e,f) = some (!zeT a.length (zdg b) && !zeT c.length (zcW c d)) := by
       show (zaN_b62 _).run _ = _
       rw [zaN_b62]
       simp only [RT.run,Int.toNat_natCast]
       rw [if_pos (by simp; omega),if_pos (by simp; omega)]
       by_cases hr : zeT a.length (zdg b) = true
       ·rw [if_neg (by rw [hr]; decide),hr]; rfl
       ·have hr' := Bool.eq_false_iff.2 hr
        rw [if_pos (by rw [hr']; decide),if_pos (by rw [ht]; simp; omega),if_pos (by simp; omega),hr']; rfl
      rw [this]
      simp
def zat_b58 : (List Tk) → (Int × Int) → RT (Int × Int) Int
| s_1,(n,k) =>
 .rq 5 (.ite (decide (k < (s_1.length : Int)))
 (.rq 3 (.req (inB s_1 k) (.rq 3 (let t0 := w64 (k + 1);
 .ite ((gI s_1 k).2.2.2.1 == 2)
 (.rq 6 (.again (w64 (n + 1),t0)))
 (.rq 3 (.again (n,t0)))))))
 (.done n))
def zat_p58 : zch := ⟨58,true,[.sl tB,.sl yK,.sl yH,.sl yL,.sl tI,tI],[tI,tI],⟨[.keep [1,3,4],.gc],[1,3,4],[.lf (qp 16),.lf (qm 0),.lf (qm 1)],[(16,true,.cells [qi 0,qi 1,qi 2,qi 3,qi 4,qi 5])]⟩,[⟨2,⟨[.keep [1,3],.gc],[1,3],[.lf (qp 16),.lf (qm 0)],[(16,true,.cells [qi 0,qi 1,qi 2,qi 3,qi 4,qi 5])]⟩,[tI]⟩],(fun i => zat_b58 i.2.1)⟩
def zat : ((List Bool) × (List Tk) × (List Th) × (List Lk) × (List Int) × Int) → RT Unit Bool
| (s_0,s_1,s_2,s_3,s_4,s_5) =>
 .rq 4 (.call (lo zat_b58 s_1 (0,0)) default fun v0 =>
 .rq 9 (.done ((decide ((s_1.length : Int) ≤ 30)) && (decide (v0 ≤ 8)))))
def F_zat (x : (List Bool) × (List Tk) × (List Th) × (List Lk) × (List Int) × Int) : Option Bool := (zat x).run fun _ => none
def io_zat : Io := ⟨n_zat,[.sl tB,.sl yK,.sl yH,.sl yL,.sl tI,tI],[.agg [qm 0,qm 1,qm 2,qm 3,qm 4,qm 5]],[],[[.sl tB,.sl yK,.sl yH,.sl yL,.sl tI,tI]],[tB],.lf (qm 0),[],[],false⟩
def zat_P : List zch := [zat_p58]
def zat_T : zcl := tab []
theorem zat_To : zck pg zat_T := zci trivial
theorem zat_k58 : (zat_p58).OK pg (zat_T) (zcB 29 (zat_P)) (zcs f_zat) 29 := ⟨by kernel_rfl,fun i x => by kernel_rfl⟩
theorem zat_go : zcy pg (zat_T) io_zat f_zat (zat_P) [] (zat) := ⟨by kernel_rfl,by kernel_rfl,fun x => by kernel_rfl⟩
theorem ok_zat : io_zat.Okay pg (F_zat) := zcu zcj (zat_To) (zat_go) ⟨zat_k58,trivial⟩
def cnt2 (b : List Tk) : Nat := (b.filter fun t => t.2.2.2.1 == 2).length
theorem light_loop (b : List Tk) (hl : b.length ≤ 1000000) : ∀ (d i n : Nat),i + d = b.length → n ≤ i → lo zat_b58 b ((n : Int),(i : Int)) = some ((n + cnt2 (b.drop i) : Nat) : Int)
 | 0,i,n,h,_ => by
  rw [zcr,zat_b58]
  simp only [RT.run]
  rw [if_neg (by simp; omega),List.drop_eq_nil_of_le (by omega)]
  simp [cnt2]
 | d + 1,i,n,h,hn => by
  have hi : i < b.length := by omega
  rw [zcr,zat_b58]
  simp only [RT.run]
  rw [if_pos (by simp; omega),if_pos (zcn.2 ⟨by omega,by omega⟩),zcL hi,List.drop_eq_getElem_cons hi,zcm (by omega),show (i : Int) + 1 = ((i + 1 : Nat) : Int) by omega]
  unfold cnt2
  rw [List.filter_cons]
  by_cases hv : (b[i].2.2.2.1 == 2) = true
  ·rw [if_pos hv,zcm (by omega),show (n : Int) + 1 = ((n + 1 : Nat) : Int) by omega,light_loop b hl d (i + 1) (n + 1) (by omega) (by omega),if_pos hv]
   simp only [cnt2,List.length_cons]
   congr 2; omega
  ·rw [if_neg hv,zcm (by omega),light_loop b hl d (i + 1) n (by omega) (by omega),if_neg hv]
   rfl
def e_zat : zcq := io_zat.sp (fun (a,b,c,d,e,f) => (decide (b.length ≤ 1000000))) (fun (a,b,c,d,e,f) => (decide (b.length ≤ 30) && decide (cnt2 b ≤ 8)))
theorem sp_zat (h : ∀ (a : List Bool) (b : List Tk) (c : List Th) (d : List Lk) (e : List Int) (f : Int),WfT [.sl tB,.sl yK,.sl yH,.sl yL,.sl tI,tI] (a,b,c,d,e,f) → ((decide (b.length ≤ 1000000))) = true → (zat (a,b,c,d,e,f)).run (fun _ => none) = some (decide (b.length ≤ 30) && decide (cnt2 b ≤ 8))) : e_zat.ok pg := zcw ok_zat fun (a,b,c,d,e,f) hw hc => h a b c d e f hw hc
theorem e_zat_ok : e_zat.ok pg := sp_zat fun a b c d e f _ hc => by
 have hl := of_decide_eq_true hc
 rw [zat]
 simp only [RT.run]
 have := light_loop b hl b.length 0 0 (by omega) (by omega)
 rw [show ((0 : Nat) : Int) = 0 from rfl,List.drop_zero,Nat.zero_add] at this
 rw [this,Option.bind_some]
 congr 2
 ·by_cases h : b.length ≤ 30
  ·rw [decide_eq_true h,decide_eq_true (by omega)]
  ·rw [decide_eq_false h,decide_eq_false (by omega)]
 ·by_cases h : cnt2 b ≤ 8
  ·rw [decide_eq_true h,decide_eq_true (by omega)]
  ·rw [decide_eq_false h,decide_eq_false (by omega)]
end
end Go.Proofs.YtlfdidaeachpoaaGreat
namespace Go.Proofs.YtlfdidaeachpoaaGreat
open Go Go.RowKit
set_option maxRecDepth 100000
theorem zhb {α : Type} [Inhabited α] {xs : List α} {i j : Int} {y : α} (hi : 0 ≤ i ∧ i < (xs.length : Int)) (hj : 0 ≤ j) : gI (sI xs i y) j = if i = j then y else gI xs j := by
 obtain ⟨i,rfl⟩ := Int.eq_ofNat_of_zero_le hi.1
 obtain ⟨j,rfl⟩ := Int.eq_ofNat_of_zero_le hj
 have hi' : i < xs.length := by omega
 simp only [zfD,sI,Int.toNat_natCast,List.getD_eq_getElem?_getD,List.getElem?_set]
 by_cases h : i = j
 ·subst h; simp [hi']
 ·rw [if_neg h,if_neg (by omega)]
theorem sI_len {α : Type} {xs : List α} {i : Int} {y : α} : (sI xs i y).length = xs.length := by simp [sI]
structure zcv (a : List Bool) (b : List Tk) (c : List Th) (d : List Lk) (e : List Int) (f : Int) : Prop where
 coins : 1 ≤ a.length ∧ a.length ≤ 16 ∧ gI a 0 = true
 tks : zfK a b c = true
 ths : zew c d f = true
 lks : locksV c d = true
 que : queueV c e = true
 noC : zeT a.length (zdg b) = false
 noT : zeT c.length (zcW c d) = false
 qua : 1 ≤ f ∧ f ≤ 1000
theorem fine0 {a : List Bool} {b : List Tk} {c : List Th} {d : List Lk} {e : List Int} {f : Int} (h : zfp a b c d e f = true) : zcv a b c d e f := by
 unfold zfp at h
 simp only [Bool.and_eq_true,Bool.not_eq_true',Bool.or_eq_false_iff,decide_eq_false_iff_not,Bool.not_eq_false'] at h
 obtain ⟨⟨⟨⟨⟨⟨⟨h1,h2⟩,h3⟩,h4⟩,h5⟩,h6⟩,h7,h8,h9,h10⟩,h11,h12⟩ := h
 exact ⟨⟨by omega,by omega,h5⟩,h7,h8,h9,h10,h11,h12,by omega⟩
def usT (c : List Th) (i : Int) : Bool := inB c i && (gI c i).1 != 0
def usC (a : List Bool) (i : Int) : Bool := inB a i && gI a i
section facts
variable {a : List Bool} {b : List Tk} {c : List Th} {d : List Lk} {e : List Int} {f : Int}
theorem zcv.lenB (H : zcv a b c d e f) : b.length ≤ 96 := by
 have h := H.tks
 unfold zfK at h
 simp only [Bool.and_eq_true,decide_eq_true_eq] at h
 omega
theorem zcv.lenC (H : zcv a b c d e f) : c.length ≤ 32 := by
 have h := H.ths
 unfold zew at h
 simp only [Bool.and_eq_true,decide_eq_true_eq] at h
 omega
structure TkF (a : List Bool) (c : List Th) (t : Tk) : Prop where
 coin : usC a t.2.1 = true
 amt : 1 ≤ t.2.2.1 ∧ t.2.2.1 ≤ 1048576
 to : (t.2.2.2.1 = 0 ∧ t.2.2.2.2.1 = 0) ∨ (t.2.2.2.1 = 1 ∧ usT c t.2.2.2.2.1 = true) ∨ (t.2.2.2.1 = 2 ∧ t.2.2.2.2.1 ≠ 0 ∧ usC a t.2.2.2.2.1 = true)
theorem zge {α : Type} [Inhabited α] {xs : List α} {k : Int} (hk : 0 ≤ k ∧ k < (xs.length : Int)) : gI xs k ∈ xs := by
 obtain ⟨k,rfl⟩ := Int.eq_ofNat_of_zero_le hk.1
 rw [zcL (by omega)]
 exact List.getElem_mem _
theorem zcv.tk (H : zcv a b c d e f) {k : Int} (hk : 0 ≤ k ∧ k < (b.length : Int)) (hu : (gI b k).1 = true) : TkF a c (gI b k) := by
 have h := H.tks
 unfold zfK at h
 rw [Bool.and_eq_true] at h
 have h1 := List.all_eq_true.1 h.1 _ (zge hk)
 unfold tkFine at h1
 rw [hu] at h1
 simp only [Bool.not_true,Bool.false_eq_true,if_false,Bool.not_eq_true',Bool.or_eq_false_iff,decide_eq_false_iff_not,Bool.not_eq_false',Bool.or_eq_true,Bool.and_eq_true,beq_iff_eq,bne_iff_ne,ne_eq] at h1
 obtain ⟨⟨⟨h2,h3⟩,h4⟩,h5⟩ := h1
 refine ⟨by unfold usC; simp [h2],by omega,?_⟩
 rcases h5 with (h5 | h5) | h5
 ·exact .inl h5
 ·exact .inr (.inl ⟨h5.1,by unfold usT; simp [h5.2]⟩)
 ·exact .inr (.inr ⟨h5.1.1,h5.1.2,by unfold usC; simp [h5.2]⟩)
theorem zcv.tk0 (H : zcv a b c d e f) {k : Int} (hk : 0 ≤ k ∧ k < (b.length : Int)) (hu : (gI b k).1 = false) : gI b k = (false,0,0,0,0,false) := by
 have h := H.tks
 unfold zfK at h
 rw [Bool.and_eq_true] at h
 have h1 := List.all_eq_true.1 h.1 _ (zge hk)
 unfold tkFine at h1
 rw [if_pos (by rw [hu]; rfl)] at h1
 simp only [Bool.not_eq_true',bne_eq_false_iff_eq,Bool.and_eq_true,beq_iff_eq] at h1
 obtain ⟨h2,h3,h4,h5,h6,h7,_⟩ := h1
 generalize gI b k = t at *
 obtain ⟨t1,t2,t3,t4,t5,t6⟩ := t
 simp only at h2 h3 h4 h5 h6 h7
 subst h2 h3 h4 h5 h6 h7
 rfl
theorem zcv.th (H : zcv a b c d e f) {i : Int} (hu : usT c i = true) : ((gI c i).1 = 4 → (gI c i).2.1 ≠ i ∧ usT c (gI c i).2.1 = true) ∧ ((gI c i).1 = 6 → inB d (gI c i).2.1 = true ∧ (gI d (gI c i).2.1).1 = true) := by
 have h := H.ths
 unfold usT at hu
 rw [Bool.and_eq_true] at hu
 obtain ⟨hin,hne⟩ := hu
 have hin := zcn.1 hin
 unfold zew at h
 rw [Bool.and_eq_true] at h
 obtain ⟨k,rfl⟩ := Int.eq_ofNat_of_zero_le hin.1
 have h1 := List.all_eq_true.1 h.1 k (List.mem_range.2 (by omega))
 simp only [bne_iff_ne,ne_eq] at hne
 unfold zgk at h1
 rw [if_neg (by simpa using hne)] at h1
 simp only [Bool.not_eq_true',Bool.or_eq_false_iff] at h1
 have h2 := h1.1.1
 simp only [Bool.not_eq_false'] at h2
 constructor
 ·intro h4
  rw [h4] at h2
  unfold usT
  simp at h2
  exact ⟨h2.1,by simpa using h2.2⟩
 ·intro h6
  rw [h6] at h2
  simp at h2
  exact h2
theorem zcv.lk (H : zcv a b c d e f) {i : Int} (hu : usT c i = true) (h6 : (gI c i).1 = 6) : usT c (gI d (gI c i).2.1).2 = true := by
 obtain ⟨h1,h2⟩ := (H.th hu).2 h6
 have h := H.lks
 unfold usT at hu
 rw [Bool.and_eq_true] at hu
 have hin := zcn.1 hu.1
 have hj := zcn.1 h1
 unfold locksV at h
 rw [Bool.and_eq_true] at h
 obtain ⟨k,rfl⟩ := Int.eq_ofNat_of_zero_le hin.1
 generalize hj' : (gI c (k : Int)).2.1 = j at *
 obtain ⟨j,rfl⟩ := Int.eq_ofNat_of_zero_le hj.1
 have h3 := List.all_eq_true.1 h.1 j (List.mem_range.2 (by omega))
 unfold lkFine at h3
 rw [h2] at h3
 simp only [Bool.not_true,Bool.false_eq_true,if_false,Bool.and_eq_true,Bool.not_eq_true'] at h3
 have h4 := List.all_eq_true.1 h3.2 k (List.mem_range.2 (by omega))
 have h5 : isV c (k : Int) 6 (j : Int) = true := by
  unfold isV
  rw [hu.1,hu.2,h6,hj']
  simp
 rw [h5] at h4
 simp only [Bool.true_and,Bool.not_eq_true',Bool.or_eq_false_iff,beq_eq_false_iff_ne,ne_eq] at h4
 have h7 := h3.1
 cases hq : usT c (gI d (j : Int)).2 with
 | true => rfl
 | false =>
  unfold usT at hq
  rw [hq] at h7
  simp at h7
  exact absurd h7 h4.1
theorem findSome_one {α : Type} (f : Nat → Option α) (i : Nat) (h : ∀ k,k ≠ i → f k = none) : ∀ n,(List.range n).findSome? f = if i < n then f i else none
 | 0 => by simp
 | n + 1 => by
  rw [List.range_succ,List.findSome?_append,findSome_one f i h n]
  by_cases h1 : i < n
  ·rw [if_pos h1,if_pos (by omega)]
   simp only [List.findSome?_cons,List.findSome?_nil]
   rw [h n (by omega)]
   simp
  ·rw [if_neg h1]
   by_cases h2 : i = n
   ·subst h2
    rw [if_pos (by omega)]
    simp only [List.findSome?_cons,List.findSome?_nil,Option.none_or]
    cases f i <;> rfl
   ·rw [if_neg (by omega)]
    simp only [List.findSome?_cons,List.findSome?_nil,Option.none_or]
    rw [h n (by omega)]
theorem nextR_at {i : Nat} (hi : i < c.length) : nextR (zcW c d) (i : Int) = if (gI c (i : Int)).1 == 4 then (gI c (i : Int)).2.1 else if (gI c (i : Int)).1 == 6 then (gI d (gI c (i : Int)).2.1).2 else -1 := by
 have h : (zcW c d).find? (fun x => x.1 == (i : Int)) = (zfB d (i : Int) (gI c (i : Int))).head? := by
  unfold zcW
  rw [List.find?_flatMap,findSome_one _ i (fun k hk => ?_) c.length,if_pos hi,zfD]
  ·unfold zfB
   cases ((c.getD i default).1 == 4) <;> cases ((c.getD i default).1 == 6) <;> simp
  ·have hne : ((k : Int) == (i : Int)) = false := by simp; omega
   unfold zfB
   cases ((c.getD k default).1 == 4) <;> cases ((c.getD k default).1 == 6) <;> simp [List.find?_cons,hne]
 unfold nextR
 rw [h]
 unfold zfB
 by_cases h4 : ((gI c (i : Int)).1 == 4) = true
 ·simp [h4]
 ·rw [if_neg h4,if_neg h4]
  by_cases h6 : ((gI c (i : Int)).1 == 6) = true
  ·simp [h6]
  ·rw [if_neg h6,if_neg h6]; rfl
theorem zes {i : Int} (h : usT c i = true) : 0 ≤ i ∧ i < (c.length : Int) := by
 unfold usT at h
 rw [Bool.and_eq_true] at h
 exact zcn.1 h.1
theorem zdH {i : Int} (h : usC a i = true) : 0 ≤ i ∧ i < (a.length : Int) := by
 unfold usC at h
 rw [Bool.and_eq_true] at h
 exact zcn.1 h.1
theorem zhU {i : Int} (h : usT c i = true) : zcN c i = ((gI c i).1,(gI c i).2.1,(gI c i).2.2.1,(gI c i).2.2.2.1,(gI c i).2.2.2.2,true) := by
 unfold zcN
 unfold usT at h
 rw [if_pos h]
theorem getThread_no {i : Int} (h : usT c i = false) : zcN c i = (0,0,0,0,0,false) := by
 unfold zcN
 rw [if_neg (by unfold usT at h; rw [h]; decide)]
theorem thrArr_mem {i j : Nat} (hi : i < c.length) (hj : j < c.length) (h : ((i : Int),(j : Int)) ∈ zfB d (i : Int) (gI c (i : Int))) : Arr c.length (zcW c d) i j := by
 refine ⟨((i : Int),(j : Int)),?_,?_,rfl,rfl⟩
 ·unfold zcW
  refine List.mem_flatMap.2 ⟨i,List.mem_range.2 hi,?_⟩
  rwa [zfD] at h
 ·simp only [zda,Bool.and_eq_true,decide_eq_true_eq]
  omega
theorem zcv.next (H : zcv a b c d e f) {i : Int} (hu : usT c i = true) : nextR (zcW c d) i = zfq c d i ∧ (zfq c d i = -1 ∨ (usT c (zfq c d i) = true ∧ Arr c.length (zcW c d) i.toNat (zfq c d i).toNat)) := by
 obtain ⟨h4,h6⟩ := H.th hu
 have hin := zes hu
 have hlk := H.lk hu
 have hg := zhU hu
 obtain ⟨k,rfl⟩ := Int.eq_ofNat_of_zero_le hin.1
 have hk : k < c.length := by omega
 rw [nextR_at hk]
 unfold zfq
 rw [hg]
 simp only
 by_cases q4 : (gI c (k : Int)).1 = 4
 ·obtain ⟨h1,h2⟩ := h4 q4
  have hj := zes h2
  have e4 : ((gI c (k : Int)).1 == 4) = true := by simpa using q4
  rw [if_pos e4,if_pos e4]
  refine ⟨rfl,.inr ⟨h2,thrArr_mem (by simpa using hk) (by omega) ?_⟩⟩
  unfold zfB
  rw [Int.toNat_natCast,if_pos e4,Int.toNat_of_nonneg hj.1]
  simp
 ·have e4 : ¬((gI c (k : Int)).1 == 4) = true := by simpa using q4
  rw [if_neg e4,if_neg e4]
  by_cases q6 : (gI c (k : Int)).1 = 6
  ·obtain ⟨h1,h2⟩ := h6 q6
   have h3 := hlk q6
   have hj := zes h3
   have e6 : ((gI c (k : Int)).1 == 6) = true := by simpa using q6
   have hgl : zfk d (gI c (k : Int)).2.1 = ((gI d (gI c (k : Int)).2.1).1,(gI d (gI c (k : Int)).2.1).2,true) := by
    unfold zfk
    rw [if_pos (by rw [h1,h2]; rfl)]
   rw [if_pos e6,if_pos e6,hgl]
   refine ⟨rfl,.inr ⟨h3,thrArr_mem (by simpa using hk) (by simp only; omega) ?_⟩⟩
   unfold zfB
   rw [Int.toNat_natCast,if_neg e4,if_pos e6]
   simp only
   rw [Int.toNat_of_nonneg hj.1]
   simp
  ·have e6 : ¬((gI c (k : Int)).1 == 6) = true := by simpa using q6
   rw [if_neg e6,if_neg e6]
   exact ⟨rfl,.inl rfl⟩
open Classical in
theorem no_way {m : Nat} {l : List (Int × Int)} (h : zeT m l = false) (i : Nat) : ¬ Way m l i i := fun hw => by
 have hno : ¬ ∃ i : Nat,i < m ∧ Way m l i i := fun hx => by rw [ringV_iff.2 hx] at h; cases h
 have hi : i < m := by
  cases hw with
  | one h =>
   obtain ⟨x,_,hok,e1,_⟩ := h
   simp only [zda,Bool.and_eq_true,decide_eq_true_eq] at hok
   omega
  | more h _ =>
   obtain ⟨x,_,hok,e1,_⟩ := h
   simp only [zda,Bool.and_eq_true,decide_eq_true_eq] at hok
   omega
 exact hno ⟨i,hi,hw⟩
theorem Way.snoc {m : Nat} {l : List (Int × Int)} {i j k : Nat} (h : Way m l i j) (h' : Arr m l j k) : Way m l i k := h.trans (.one h')
theorem zcv.tail (H : zcv a b c d e f) : ∀ (n : Nat) (p : List Nat) (i : Int),usT c i = true → p.Nodup → (∀ x ∈ p,x < c.length) → (∀ x ∈ p,Way c.length (zcW c d) x i.toNat) → c.length ≤ p.length + n →
  ∃ o,zfj c d n i = some o ∧ tailR c d (n + 1) i = some o ∧ o ≠ [] ∧ ∀ x ∈ o,usT c x = true := by
 intro n
 induction n with
 | zero =>
  intro p i hu hn hl hw hlen
  exfalso
  have hin := zes hu
  have hi : i.toNat ∉ p := fun h => no_way H.noT _ (hw _ h)
  have := nodup_lt c.length (i.toNat :: p) (List.nodup_cons.2 ⟨hi,hn⟩) (fun x hx => by
   rcases List.mem_cons.1 hx with rfl | hx
   ·omega
   ·exact hl x hx)
  simp at this
  omega
 | succ n ih =>
  intro p i hu hn hl hw hlen
  have hin := zes hu
  have hi : i.toNat ∉ p := fun h => no_way H.noT _ (hw _ h)
  obtain ⟨hR,hN⟩ := H.next hu
  have hi1 : i ≠ -1 := by omega
  unfold zfj tailR
  rw [if_neg hi1,if_neg (by unfold usT at hu; rw [hu]; decide),hR]
  rcases hN with hN | ⟨hN1,hN2⟩
  ·rw [hN,if_pos (by decide)]
   have : zfj c d n (-1) = some [] := by cases n <;> rfl
   rw [this]
   exact ⟨[i],rfl,rfl,by simp,fun x hx => by rw [List.mem_singleton.1 hx]; exact hu⟩
  ·have hj := zes hN1
   obtain ⟨o,h1,h2,h3,h4⟩ := ih (i.toNat :: p) (zfq c d i) hN1 (List.nodup_cons.2 ⟨hi,hn⟩) (fun x hx => by
     rcases List.mem_cons.1 hx with rfl | hx
     ·omega
     ·exact hl x hx) (fun x hx => by
     rcases List.mem_cons.1 hx with rfl | hx
     ·exact .one hN2
     ·exact (hw x hx).snoc hN2) (by simp; omega)
   rw [if_neg (by omega),h1,h2]
   exact ⟨i :: o,rfl,rfl,by simp,fun x hx => by
    rcases List.mem_cons.1 hx with rfl | hx
    ·exact hu
    ·exact h4 x hx⟩
theorem zcv.tail0 (H : zcv a b c d e f) {i : Int} (hu : usT c i = true) : ∃ o,zfj c d c.length i = some o ∧ tailR c d (c.length + 1) i = some o ∧ o ≠ [] ∧ ∀ x ∈ o,usT c x = true :=
 H.tail c.length [] i hu List.nodup_nil (fun x hx => by cases hx) (fun x hx => by cases hx) (by simp)
theorem zcv.tailOK (H : zcv a b c d e f) (i : Int) : tailOK c d i = true := by
 unfold Go.Proofs.YtlfdidaeachpoaaGreat.tailOK
 cases hu : usT c i with
 | false => rw [getThread_no hu]; rfl
 | true =>
  obtain ⟨o,h1,_⟩ := H.tail0 hu
  rw [h1]; simp
theorem zcv.liveOK (H : zcv a b c d e f) : liveOK c d = true := List.all_eq_true.2 fun i _ => H.tailOK _
theorem zcv.tails (H : zcv a b c d e f) {i : Int} (hu : usT c i = true) : ∃ o,zeh c d i = o ∧ zeO c d i = o ∧ zfN c d i = true ∧ o ≠ [] ∧ ∀ x ∈ o,usT c x = true := by
 obtain ⟨o,h1,h2,h3,h4⟩ := H.tail0 hu
 have hl := H.lenC
 refine ⟨o,?_,?_,?_,h3,h4⟩
 ·unfold zeh
  rw [zhU hu,h1]; rfl
 ·unfold zeO
  rw [h2]; rfl
 ·unfold zfN
  rw [h2,zhZ H.ths,decide_eq_true (by omega)]; rfl
theorem zcv.lives (H : zcv a b c d e f) {i : Int} (hu : usT c i = true) : ziw c d i = true ∧ livesR c d i = livesV c d i := by
 obtain ⟨o,h1,h2,h3,h4,h5⟩ := H.tails hu
 have he : endV c d i = o.getLastD (-1) := by unfold endV; rw [h1]
 have heR : endRV c d i = o.getLastD (-1) := by unfold endRV; rw [h2]
 have hue : usT c (o.getLastD (-1)) = true := by
  apply h5
  rw [List.getLastD_eq_getLast?,List.getLast?_eq_some_getLast h4]
  exact List.getLast_mem h4
 have hin := zes hue
 constructor
 ·unfold ziw
  rw [h3,heR,zcn.2 hin]; rfl
 ·unfold livesR livesV
  rw [he,heR,zhU hue,decide_eq_true hin.1,Bool.true_and]
theorem zdj {c' k : Int} : k ∈ zcI b c' ↔ (0 ≤ k ∧ k < (b.length : Int)) ∧ (gI b k).1 = true ∧ (gI b k).2.1 = c' := by
 constructor
 ·intro h
  obtain ⟨h1,h2,h3⟩ := issued_mem h
  exact ⟨⟨h1,h2⟩,h3⟩
 ·rintro ⟨⟨h1,h2⟩,h3,h4⟩
  obtain ⟨j,rfl⟩ := Int.eq_ofNat_of_zero_le h1
  unfold zcI
  refine List.mem_map.2 ⟨j,List.mem_filter.2 ⟨List.mem_range.2 (by omega),?_⟩,rfl⟩
  unfold isTk
  rw [zfD] at h3 h4
  rw [h3,h4]; simp
theorem zfn {l : List Nat} (h : l.Nodup) : (l.map fun (k : Nat) => (k : Int)).Nodup := by
 rw [List.nodup_iff_pairwise_ne,List.pairwise_map]
 exact List.Pairwise.imp (fun h => by omega) (List.nodup_iff_pairwise_ne.1 h)
theorem issued_nodup {c' : Int} : (zcI b c').Nodup := zfn (List.Nodup.sublist List.filter_sublist List.nodup_range)
theorem zcv.arr (H : zcv a b c d e f) {k : Int} (hk : 0 ≤ k ∧ k < (b.length : Int)) (hu : (gI b k).1 = true) (h2 : (gI b k).2.2.2.1 = 2) : ((gI b k).2.1,(gI b k).2.2.2.2.1) ∈ zdg b ∧ zda a.length ((gI b k).2.1,(gI b k).2.2.2.2.1) = true := by
 have ht := H.tk hk hu
 have h3 := zdH ht.coin
 have h4 : usC a (gI b k).2.2.2.2.1 = true := by
  rcases ht.to with h | h | h
  ·omega
  ·omega
  ·exact h.2.2
 have h5 := zdH h4
 refine ⟨?_,?_⟩
 ·unfold zdg
  exact List.mem_map.2 ⟨gI b k,List.mem_filter.2 ⟨zge hk,by rw [hu,h2]; rfl⟩,rfl⟩
 ·simp only [zda,Bool.and_eq_true,decide_eq_true_eq]
  omega
theorem zcv.ord_nodup (_ : zcv a b c d e f) : (zcG a b).Nodup := (zie a.length (zdg b)).nodup.sublist List.filter_sublist
theorem zcv.ord_mem (H : zcv a b c d e f) {k : Int} : k ∈ zcG a b ↔ usC a k = true := by
 obtain ⟨h1,h2⟩ := ring_order H.noC
 unfold zcG usC
 rw [List.mem_filter,Bool.and_eq_true,zcn]
 constructor
 ·rintro ⟨h3,h4⟩
  exact ⟨(zie _ _).inr _ h3,h4⟩
 ·rintro ⟨h3,h4⟩
  obtain ⟨j,rfl⟩ := Int.eq_ofNat_of_zero_le h3.1
  exact ⟨ordV_all h2 (by omega),h4⟩
theorem zcv.ord_split (H : zcv a b c d e f) {p q : List Int} {x : Int} (ho : zcG a b = p ++ x :: q) {k : Int} (hk : 0 ≤ k ∧ k < (b.length : Int)) (hu : (gI b k).1 = true) (h2 : (gI b k).2.2.2.1 = 2) (hto : (gI b k).2.2.2.2.1 = x) : (gI b k).2.1 ∈ p := by
 obtain ⟨h3,h4⟩ := H.arr hk hu h2
 have hc := (H.tk hk hu).coin
 unfold usC at hc
 rw [Bool.and_eq_true] at hc
 unfold zcG at ho
 obtain ⟨P,R,e1,e2,e3⟩ := List.filter_eq_append_iff.1 ho
 obtain ⟨S,Q,e4,e5,e6,e7⟩ := List.filter_eq_cons_iff.1 e3
 have := ordV_split (p := P ++ S) (q := Q) (k := x) (by rw [e1,e4,List.append_assoc]) h3 h4 hto
 rw [← e2]
 rcases List.mem_append.1 this with h | h
 ·exact List.mem_filter.2 ⟨h,hc.2⟩
 ·exact absurd hc.2 (e5 _ h)
theorem zcv.ord_to (H : zcv a b c d e f) {p q : List Int} {x : Int} (ho : zcG a b = p ++ x :: q) {k : Int} (hk : 0 ≤ k ∧ k < (b.length : Int)) (hu : (gI b k).1 = true) (h2 : (gI b k).2.2.2.1 = 2) (hc : (gI b k).2.1 ∈ x :: q) : (gI b k).2.2.2.2.1 ∈ q ∧ (gI b k).2.2.2.2.1 ≠ x := by
 have hn := H.ord_nodup
 have h4 : usC a (gI b k).2.2.2.2.1 = true := by
  rcases (H.tk hk hu).to with h | h | h
  ·omega
  ·omega
  ·exact h.2.2
 have hm := H.ord_mem.2 h4
 have hnp : ∀ (p' q' : List Int) (y : Int),zcG a b = p' ++ y :: q' → y = (gI b k).2.2.2.2.1 → (gI b k).2.1 ∈ p' := fun p' q' y ho' hy => H.ord_split ho' hk hu h2 hy.symm
 have hno : ∀ y ∈ p,y ∉ x :: q := by
  rw [ho] at hn
  intro y hy hy'
  exact (List.nodup_append.1 hn).2.2 y hy y hy' rfl
 have hne : (gI b k).2.2.2.2.1 ≠ x := fun h => hno _ (hnp p q x ho h.symm) hc
 refine ⟨?_,hne⟩
 rw [ho] at hm
 rcases List.mem_append.1 hm with h | h
 ·exfalso
  obtain ⟨s,t,rfl⟩ := List.append_of_mem h
  have := hnp s (t ++ x :: q) _ (by rw [ho]; simp) rfl
  exact hno _ (List.mem_append_left _ this) hc
 ·rcases List.mem_cons.1 h with h | h
  ·exact absurd h hne
  ·exact h
end facts
def good (b : List Tk) (lives : List Bool) (am : List Int) (k : Int) : Bool :=
 (gI b k).2.2.2.2.2 && (((gI b k).2.2.2.1 == 1 && gI lives (gI b k).2.2.2.2.1) || ((gI b k).2.2.2.1 == 2 && decide (0 < gI am (gI b k).2.2.2.2.1)))
def zeb (b : List Tk) (q : Bool) (k : Int) : Int := if q = true then (gI b k).2.2.1 else 0
theorem rkCnt_get {b : List Tk} {lives cnt : List Bool} {am : List Int} {k j : Int} (hk : 0 ≤ k ∧ k < (cnt.length : Int)) (hj : 0 ≤ j) (h0 : gI cnt k = false) :
  gI (rkCnt b lives cnt am k) j = if k = j then good b lives am k else gI cnt j := by
 unfold rkCnt good
 by_cases h1 : ((gI b k).2.2.2.1 == 1) = true
 ·have h2 : ((gI b k).2.2.2.1 == 2) = false := by
   rw [beq_iff_eq] at h1; rw [h1]; rfl
  rw [if_pos h1,zhb hk hj,h1,h2,Bool.true_and,Bool.false_and,Bool.or_false]
 ·rw [if_neg h1]
  by_cases h2 : ((gI b k).2.2.2.1 == 2) = true
  ·rw [if_pos h2,zhb hk hj,h2,Bool.eq_false_iff.2 h1,Bool.true_and,Bool.false_and,Bool.false_or]
  ·rw [if_neg h2,Bool.eq_false_iff.2 h1,Bool.eq_false_iff.2 h2,Bool.false_and,Bool.false_and,Bool.false_or,Bool.and_false]
   split
   ·rename_i h; rw [← h]; exact h0
   ·rfl
theorem good_same {b : List Tk} {lives : List Bool} {am am' : List Int} {k : Int} (h : (gI b k).2.2.2.1 = 2 → gI am' (gI b k).2.2.2.2.1 = gI am (gI b k).2.2.2.2.1) : good b lives am' k = good b lives am k := by
 unfold good
 by_cases h2 : (gI b k).2.2.2.1 = 2
 ·rw [h h2]
 ·have : ((gI b k).2.2.2.1 == 2) = false := by simpa using h2
  rw [this,Bool.false_and,Bool.false_and]
theorem rk_inner {b : List Tk} {lives : List Bool} {c : Int} : ∀ (l : List Int) (x : List Bool × List Int),l.Nodup → (0 ≤ c ∧ c < (x.2.length : Int)) →
  (∀ k ∈ l,(0 ≤ k ∧ k < (x.1.length : Int)) ∧ gI x.1 k = false ∧ 0 ≤ (gI b k).2.2.1 ∧ (gI b k).2.2.1 ≤ 1048576 ∧ ((gI b k).2.2.2.1 = 2 → 0 ≤ (gI b k).2.2.2.2.1 ∧ (gI b k).2.2.2.2.1 ≠ c)) →
  0 ≤ gI x.2 c → gI x.2 c + 1048576 * (l.length : Int) ≤ 1000000000000 →
  (∀ j : Int,0 ≤ j → gI (l.foldl (zdf b lives c) x).1 j = if j ∈ l then good b lives x.2 j else gI x.1 j) ∧
  (∀ j : Int,0 ≤ j → j ≠ c → gI (l.foldl (zdf b lives c) x).2 j = gI x.2 j) ∧
  gI (l.foldl (zdf b lives c) x).2 c = gI x.2 c + (l.map fun k => zeb b (good b lives x.2 k) k).sum
 | [],x,_,_,_,_,_ => ⟨fun j _ => by simp,fun j _ _ => rfl,by simp⟩
 | k :: l,x,hn,hc,hl,h0,hm => by
  obtain ⟨hk1,hk2,hk3,hk4,hk5⟩ := hl k (List.mem_cons_self ..)
  obtain ⟨hkn,hn'⟩ := List.nodup_cons.1 hn
  simp only [List.length_cons,Int.natCast_add,Int.natCast_one] at hm
  have e1 : ∀ j : Int,0 ≤ j → gI (zdf b lives c x k).1 j = if k = j then good b lives x.2 k else gI x.1 j := fun j hj => rkCnt_get hk1 hj hk2
  have e2 : ∀ j : Int,0 ≤ j → gI (zdf b lives c x k).2 j = if c = j then gI x.2 c + zeb b (good b lives x.2 k) k else gI x.2 j := fun j hj => by
   have e0 := e1 k hk1.1
   rw [if_pos rfl] at e0
   show gI (if gI (zdf b lives c x k).1 k = true then sI x.2 c (w64 (gI x.2 c + (gI b k).2.2.1)) else x.2) j = _
   rw [e0]
   unfold zeb
   by_cases hg : good b lives x.2 k = true
   ·rw [if_pos hg,if_pos hg,zhb hc hj,zcm (by omega)]
   ·rw [if_neg hg,if_neg hg,Int.add_zero]
    split
    ·rename_i h; rw [h]
    ·rfl
  have ha : 0 ≤ zeb b (good b lives x.2 k) k ∧ zeb b (good b lives x.2 k) k ≤ 1048576 := by
   unfold zeb; split <;> omega
  have hlen1 : (zdf b lives c x k).1.length = x.1.length := by rw [zdf,zgx]
  have hlen2 : (zdf b lives c x k).2.length = x.2.length := by simp only [zdf]; split <;> simp [sI]
  have hgood : ∀ j ∈ l,good b lives (zdf b lives c x k).2 j = good b lives x.2 j := fun j hj => good_same fun h2 => by
   obtain ⟨_,_,_,_,h5⟩ := hl j (List.mem_cons_of_mem _ hj)
   rw [e2 _ (h5 h2).1,if_neg (fun h => (h5 h2).2 h.symm)]
  have hself : good b lives (zdf b lives c x k).2 k = good b lives x.2 k := good_same fun h2 => by
   rw [e2 _ (hk5 h2).1,if_neg (fun h => (hk5 h2).2 h.symm)]
  have ec : gI (zdf b lives c x k).2 c = gI x.2 c + zeb b (good b lives x.2 k) k := by rw [e2 c hc.1,if_pos rfl]
  obtain ⟨i1,i2,i3⟩ := rk_inner l (zdf b lives c x k) hn' (by rw [hlen2]; exact hc) (fun j hj => by
   obtain ⟨h1,h2,h3⟩ := hl j (List.mem_cons_of_mem _ hj)
   refine ⟨by rw [hlen1]; exact h1,?_,h3⟩
   rw [e1 j h1.1,if_neg (show ¬ k = j from fun h => hkn (by rw [h]; exact hj))]
   exact h2) (by omega) (by omega)
  rw [List.foldl_cons]
  refine ⟨fun j hj => ?_,fun j hj hjc => ?_,?_⟩
  ·rw [i1 j hj]
   by_cases hjl : j ∈ l
   ·rw [if_pos hjl,if_pos (List.mem_cons_of_mem _ hjl),hgood j hjl]
   ·rw [if_neg hjl,e1 j hj]
    by_cases hjk : k = j
    ·subst hjk
     rw [if_pos rfl,if_pos (List.mem_cons_self ..)]
    ·rw [if_neg hjk,if_neg (fun h => by
      rcases List.mem_cons.1 h with h | h
      ·exact hjk h.symm
      ·exact hjl h)]
  ·rw [i2 j hj hjc,e2 j hj,if_neg (fun h => hjc h.symm)]
  ·rw [i3,ec,List.map_cons,List.sum_cons]
   have : (l.map fun k_1 => zeb b (good b lives (zdf b lives c x k).2 k_1) k_1) = l.map fun k_1 => zeb b (good b lives x.2 k_1) k_1 := List.map_congr_left fun j hj => by rw [hgood j hj]
   rw [this]; omega
structure RkInv (a : List Bool) (b : List Tk) (lives : List Bool) (q : List Int) (x : List Bool × List Int) : Prop where
 len1 : x.1.length = b.length
 len2 : x.2.length = a.length
 cnt : ∀ k : Int,0 ≤ k ∧ k < (b.length : Int) → gI x.1 k = if (gI b k).1 = true ∧ (gI b k).2.1 ∈ q then good b lives x.2 k else false
 amt : ∀ c ∈ q,gI x.2 c = ((zcI b c).map fun k => zeb b (gI x.1 k) k).sum
 non : ∀ c : Int,0 ≤ c ∧ c < (a.length : Int) → c ∉ q → gI x.2 c = 0
theorem gI_rep {α : Type} [Inhabited α] {n : Nat} {z : α} {k : Int} (hk : 0 ≤ k ∧ k < (n : Int)) : gI (zdd (n : Int) z) k = z := by
 obtain ⟨j,rfl⟩ := Int.eq_ofNat_of_zero_le hk.1
 have hj : j < n := by omega
 rw [zfD]
 simp [zdd,List.getD_eq_getElem?_getD,List.getElem?_replicate,hj]
theorem sum_le {l : List Int} {f : Int → Int} {m : Int} (h : ∀ k ∈ l,0 ≤ f k ∧ f k ≤ m) : 0 ≤ (l.map f).sum ∧ (l.map f).sum ≤ m * l.length := by
 induction l with
 | nil => simp
 | cons x l ih =>
  have h1 := h x (List.mem_cons_self ..)
  have h2 := ih fun k hk => h k (List.mem_cons_of_mem _ hk)
  rw [List.map_cons,List.sum_cons,List.length_cons,Int.natCast_add,Int.natCast_one,Int.mul_add,Int.mul_one]
  omega
theorem rk_inv {a : List Bool} {b : List Tk} {c : List Th} {d : List Lk} {e : List Int} {f : Int} (H : zcv a b c d e f) (lives : List Bool) : ∀ (q p : List Int),zcG a b = p ++ q →
  RkInv a b lives q (q.foldr (fun c x => rkRound b lives c x) (zdd (b.length : Int) false,zdd (a.length : Int) 0))
 | [],p,_ => by
  refine ⟨by simp [zdd],by simp [zdd],fun k hk => ?_,fun c hc => (by cases hc),fun c hc _ => gI_rep hc⟩
  rw [if_neg (by simp)]
  exact gI_rep hk
 | x :: q,p,ho => by
  have I := rk_inv H lives q (p ++ [x]) (by rw [ho]; simp)
  have hn := H.ord_nodup
  rw [ho] at hn
  have hxq : x ∉ q := (List.nodup_cons.1 (List.nodup_append.1 hn).2.1).1
  have hx := zdH (H.ord_mem.1 (by rw [ho]; simp : x ∈ zcG a b))
  rw [List.foldr_cons]
  generalize q.foldr (fun c x => rkRound b lives c x) (zdd (b.length : Int) false,zdd (a.length : Int) 0) = y at *
  have hlb := H.lenB
  have hil := ziW b x
  obtain ⟨h1,h2,h3⟩ := rk_inner (b := b) (lives := lives) (c := x) (zcI b x) y issued_nodup (by rw [I.len2]; exact hx) (fun k hk => by
   obtain ⟨k1,k2,k3⟩ := zdj.1 hk
   have ht := H.tk k1 k2
   refine ⟨by rw [I.len1]; exact k1,?_,by have := ht.amt; omega,ht.amt.2,fun hq => ?_⟩
   ·rw [I.cnt k k1,if_neg]
    rintro ⟨_,hm⟩
    rw [k3] at hm
    exact hxq hm
   ·obtain ⟨_,h5⟩ := H.ord_to ho k1 k2 hq (by rw [k3]; exact List.mem_cons_self ..)
    refine ⟨?_,h5⟩
    rcases ht.to with h | h | h
    ·omega
    ·omega
    ·exact (zdH h.2.2).1) (by rw [I.non x hx hxq]; decide) (by rw [I.non x hx hxq]; omega)
  obtain ⟨l1,l2⟩ := rkFold_len (b := b) (lives := lives) (c := x) (zcI b x) y
  have hgood : ∀ k : Int,0 ≤ k ∧ k < (b.length : Int) → (gI b k).1 = true → (gI b k).2.1 ∈ x :: q → good b lives ((zcI b x).foldl (zdf b lives x) y).2 k = good b lives y.2 k := fun k hk hu hc => good_same fun hq => by
   obtain ⟨h4,h5⟩ := H.ord_to ho hk hu hq hc
   have h6 := zdH (H.ord_mem.1 (by rw [ho]; simp [h4] : (gI b k).2.2.2.2.1 ∈ zcG a b))
   exact h2 _ h6.1 h5
  show RkInv a b lives (x :: q) ((zcI b x).foldl (zdf b lives x) y)
  have hcnt : ∀ k : Int,0 ≤ k ∧ k < (b.length : Int) → gI ((zcI b x).foldl (zdf b lives x) y).1 k = if (gI b k).1 = true ∧ (gI b k).2.1 ∈ x :: q then good b lives ((zcI b x).foldl (zdf b lives x) y).2 k else false := fun k hk => by
   rw [h1 k hk.1]
   by_cases hki : k ∈ zcI b x
   ·obtain ⟨_,k2,k3⟩ := zdj.1 hki
    rw [if_pos hki,if_pos ⟨k2,by rw [k3]; exact List.mem_cons_self ..⟩,hgood k hk k2 (by rw [k3]; exact List.mem_cons_self ..)]
   ·rw [if_neg hki,I.cnt k hk]
    by_cases hq : (gI b k).1 = true ∧ (gI b k).2.1 ∈ q
    ·rw [if_pos hq,if_pos ⟨hq.1,List.mem_cons_of_mem _ hq.2⟩,hgood k hk hq.1 (List.mem_cons_of_mem _ hq.2)]
    ·rw [if_neg hq,if_neg]
     rintro ⟨k2,k3⟩
     rcases List.mem_cons.1 k3 with k3 | k3
     ·exact hki (zdj.2 ⟨hk,k2,k3⟩)
     ·exact hq ⟨k2,k3⟩
  refine ⟨l1.trans I.len1,l2.trans I.len2,hcnt,fun c' hc' => ?_,fun c' hc' hno => ?_⟩
  ·rcases List.mem_cons.1 hc' with rfl | hc'
   ·rw [h3,I.non c' hx hxq,Int.zero_add]
    congr 1
    refine List.map_congr_left fun k hk => ?_
    rw [h1 k (zdj.1 hk).1.1,if_pos hk]
   ·have hne : c' ≠ x := fun h => hxq (h ▸ hc')
    have hin := zdH (H.ord_mem.1 (by rw [ho]; simp [hc'] : c' ∈ zcG a b))
    rw [h2 c' hin.1 hne,I.amt c' hc']
    congr 1
    refine List.map_congr_left fun k hk => ?_
    obtain ⟨k1,k2,k3⟩ := zdj.1 hk
    rw [h1 k k1.1,if_neg (fun h => by
     have := (zdj.1 h).2.2
     exact hne (k3.symm.trans this))]
  ·have hno' : c' ≠ x ∧ c' ∉ q := by simpa using hno
   rw [h2 c' hc'.1 hno'.1,I.non c' hc' hno'.2]
section
variable {a : List Bool} {b : List Tk} {c : List Th} {d : List Lk} {e : List Int} {f : Int}
theorem zcv.reck (H : zcv a b c d e f) : RkInv a b (liveV c d) (zcG a b) (zfb (a,b,c,d,e,f)) := by
 have := rk_inv H (liveV c d) (zcG a b) [] rfl
 unfold zfb
 rw [List.foldl_reverse]
 exact this
theorem zcv.tkOK (H : zcv a b c d e f) : b.all (tkOK a.length c.length) = true := List.all_eq_true.2 fun t ht => by
 obtain ⟨k,hk,rfl⟩ := List.mem_iff_getElem.1 ht
 have hg := zcL hk
 unfold Go.Proofs.YtlfdidaeachpoaaGreat.tkOK
 rw [← hg]
 cases hu : (gI b (k : Int)).1 with
 | false => rfl
 | true =>
  have h := H.tk (k := (k : Int)) ⟨by omega,by omega⟩ hu
  rcases h.to with h | h | h
  ·rw [h.1]; rfl
  ·have := zes h.2
   rw [h.1]; simp; omega
  ·have := zdH h.2.2
   rw [h.1]; simp; omega
theorem zcv.reckOK (H : zcv a b c d e f) : reckOK (a,b,c,d,e,f) = true := by
 have h1 := H.lenB
 have h2 := H.lenC
 have h3 := H.coins
 unfold Go.Proofs.YtlfdidaeachpoaaGreat.reckOK sdLiveOK sdOrdOK
 simp only
 rw [H.liveOK,H.tkOK,decide_eq_true (by omega),decide_eq_true (by omega),decide_eq_true (by omega)]
 rfl
end
end Go.Proofs.YtlfdidaeachpoaaGreat
namespace Go.Proofs.YtlfdidaeachpoaaGreat
open Go Go.RowKit
set_option maxRecDepth 100000
noncomputable section
def zcZ (a : List Bool) (b : List Tk) (c : List Th) (d : List Lk) (e : List Int) (f : Int) : List Bool := (zfb (a,b,c,d,e,f)).1
def amV (a : List Bool) (b : List Tk) (c : List Th) (d : List Lk) (e : List Int) (f : Int) : List Int := (zfb (a,b,c,d,e,f)).2
section
variable {a : List Bool} {b : List Tk} {c : List Th} {d : List Lk} {e : List Int} {f : Int}
theorem zcv.cnt (H : zcv a b c d e f) {k : Int} (hk : 0 ≤ k ∧ k < (b.length : Int)) : gI (zcZ a b c d e f) k = if (gI b k).1 = true then good b (liveV c d) (amV a b c d e f) k else false := by
 have := H.reck.cnt k hk
 unfold zcZ amV
 rw [this]
 by_cases hu : (gI b k).1 = true
 ·rw [if_pos hu,if_pos ⟨hu,H.ord_mem.2 (H.tk hk hu).coin⟩]
 ·rw [if_neg hu,if_neg (fun h => hu h.1)]
theorem zcv.amt (H : zcv a b c d e f) {x : Int} (hx : 0 ≤ x ∧ x < (a.length : Int)) : gI (amV a b c d e f) x = ((zcI b x).map fun k => zeb b (gI (zcZ a b c d e f) k) k).sum := by
 by_cases h : x ∈ zcG a b
 ·exact H.reck.amt x h
 ·have h0 : gI (amV a b c d e f) x = 0 := H.reck.non x hx h
  rw [h0]
  have : zcI b x = [] := by
   apply List.eq_nil_iff_forall_not_mem.2
   intro k hk
   obtain ⟨k1,k2,k3⟩ := zdj.1 hk
   exact h (H.ord_mem.2 (k3 ▸ (H.tk k1 k2).coin))
  rw [this]; rfl
theorem zcv.len (H : zcv a b c d e f) : (zcZ a b c d e f).length = b.length ∧ (amV a b c d e f).length = a.length := ⟨H.reck.len1,H.reck.len2⟩
theorem zcv.cnt_used (H : zcv a b c d e f) {k : Int} (hk : 0 ≤ k ∧ k < (b.length : Int)) (h : gI (zcZ a b c d e f) k = true) : (gI b k).1 = true := by
 rw [H.cnt hk] at h
 split at h
 ·assumption
 ·cases h
theorem zcv.am_bound (H : zcv a b c d e f) {x : Int} (hx : 0 ≤ x ∧ x < (a.length : Int)) : 0 ≤ gI (amV a b c d e f) x ∧ gI (amV a b c d e f) x ≤ 1048576 * 96 := by
 have hb := H.lenB
 have hl := ziW b x
 have := sum_le (l := zcI b x) (f := fun k => zeb b (gI (zcZ a b c d e f) k) k) (m := 1048576) fun k hk => by
  obtain ⟨k1,k2,_⟩ := zdj.1 hk
  have := (H.tk k1 k2).amt
  unfold zeb
  split <;> omega
 rw [H.amt hx]
 omega
theorem sum_mem_le {l : List Int} {g : Int → Int} (h : ∀ k ∈ l,0 ≤ g k) {x : Int} (hx : x ∈ l) : g x ≤ (l.map g).sum := by
 induction l with
 | nil => cases hx
 | cons y l ih =>
  rw [List.map_cons,List.sum_cons]
  have hy := h y (List.mem_cons_self ..)
  have hs := (show 0 ≤ (l.map g).sum from by
   clear ih hx
   induction l with
   | nil => simp
   | cons z l ih2 =>
    rw [List.map_cons,List.sum_cons]
    have h1 := h z (by simp)
    have h2 := ih2 fun k hk => h k (by
     rcases List.mem_cons.1 hk with rfl | hk
     ·simp
     ·simp [hk])
    omega)
  rcases List.mem_cons.1 hx with rfl | hx
  ·omega
  ·have := ih (fun k hk => h k (List.mem_cons_of_mem _ hk)) hx
   omega
theorem zcv.awake (H : zcv a b c d e f) {k : Int} (hk : 0 ≤ k ∧ k < (b.length : Int)) (h : gI (zcZ a b c d e f) k = true) : 0 < gI (amV a b c d e f) (gI b k).2.1 := by
 have hu := H.cnt_used hk h
 have ht := H.tk hk hu
 rw [H.amt (zdH ht.coin)]
 have := sum_mem_le (l := zcI b (gI b k).2.1) (g := fun k => zeb b (gI (zcZ a b c d e f) k) k) (fun k hk => by
  obtain ⟨k1,k2,_⟩ := zdj.1 hk
  have := (H.tk k1 k2).amt
  unfold zeb
  split <;> omega) (zdj.2 ⟨hk,hu,rfl⟩)
 have e1 : zeb b (gI (zcZ a b c d e f) k) k = (gI b k).2.2.1 := by unfold zeb; rw [if_pos h]
 have this' : zeb b (gI (zcZ a b c d e f) k) k ≤ ((zcI b (gI b k).2.1).map fun k => zeb b (gI (zcZ a b c d e f) k) k).sum := this
 have := ht.amt
 omega
theorem live_get {i : Int} (hi : 0 ≤ i ∧ i < (c.length : Int)) : gI (liveV c d) i = livesV c d i := by
 obtain ⟨j,rfl⟩ := Int.eq_ofNat_of_zero_le hi.1
 have hj : j < c.length := by omega
 rw [zcL (by simpa [liveV] using hj)]
 simp [liveV]
theorem counts_eq (H : zcv a b c d e f) (self : SD × Int → Option Int) (self' : ((List Bool) × (List Tk) × (List Th) × (List Lk) × (List Int) × Int × Int) → Option Int) {k : Int} (hk : 0 ≤ k ∧ k < (b.length : Int))
  (hs : (gI b k).1 = true → (gI b k).2.2.2.1 = 2 → self' (a,b,c,d,e,f,(gI b k).2.2.2.2.1) = some (gI (amV a b c d e f) (gI b k).2.2.2.2.1)) :
  F_zai self' (a,b,c,d,e,f,k) = some (gI (zcZ a b c d e f) k) := by
 show (zai self' _).run _ = _
 rw [zai]
 simp only [RT.run]
 rw [if_pos (zcn.2 hk),H.cnt hk]
 cases hu : (gI b k).1 with
 | false => rfl
 | true =>
  unfold good
  cases ho : (gI b k).2.2.2.2.2 with
  | false => rfl
  | true =>
   rw [if_neg (by decide),if_pos rfl,Bool.true_and]
   have ht := H.tk hk hu
   by_cases h1 : (gI b k).2.2.2.1 = 1
   ·have hut : usT c (gI b k).2.2.2.2.1 = true := by
     rcases ht.to with h | h | h
     ·omega
     ·exact h.2
     ·omega
    obtain ⟨h3,h4⟩ := H.lives hut
    rw [if_pos (by simpa using h1),if_pos h3,h4,h1,live_get (zes hut)]
    simp
   ·rw [if_neg (by simpa using h1)]
    have e1 : ((gI b k).2.2.2.1 == 1) = false := by simpa using h1
    rw [e1,Bool.false_and,Bool.false_or]
    by_cases h2 : (gI b k).2.2.2.1 = 2
    ·rw [hs hu h2,if_pos (by simp)]
     rfl
    ·have e2 : ((gI b k).2.2.2.1 == 2) = false := by simpa using h2
     rw [e2,if_pos (by simp)]
     rfl
theorem ziy (H : zcv a b c d e f) (self : ((List Bool) × (List Tk) × (List Th) × (List Lk) × (List Int) × Int × Int) → Option Bool) (x : Int)
  (hs : ∀ k : Int,0 ≤ k ∧ k < (b.length : Int) → (gI b k).2.1 = x → self (a,b,c,d,e,f,k) = some (gI (zcZ a b c d e f) k)) : ∀ (n i : Nat) (r : Int),i + n = b.length → 0 ≤ r ∧ r ≤ 1048576 * (i : Int) →
  lo (zz_b58 self) (x,a,b,c,d,e,f) (r,(i : Int)) = some (r + ((((List.range' i n).filter (isTk b x)).map fun (k : Nat) => (k : Int)).map fun k => zeb b (gI (zcZ a b c d e f) k) k).sum)
 | 0,i,r,h,_ => by
  rw [zcr,zz_b58]
  simp only [RT.run]
  rw [if_neg (by simp; omega)]
  simp
 | n + 1,i,r,h,hr => by
  have hlb := H.lenB
  have hi : 0 ≤ (i : Int) ∧ (i : Int) < (b.length : Int) := by omega
  have hin : inB b (i : Int) = true := zcn.2 hi
  have tk : isTk b x i = ((gI b (i : Int)).1 && (gI b (i : Int)).2.1 == x) := by unfold isTk; rw [zfD]
  rw [zcr,zz_b58]
  simp only [RT.run]
  rw [if_pos (by simp; omega),if_pos hin,zcm (show -9223372036854775808 ≤ (i : Int) + 1 ∧ (i : Int) + 1 ≤ 9223372036854775807 by omega),show (i : Int) + 1 = ((i + 1 : Nat) : Int) by omega,List.range'_succ,List.filter_cons,tk]
  by_cases hx : (gI b (i : Int)).2.1 = x
  ·have ex : ((gI b (i : Int)).2.1 == x) = true := by simpa using hx
   rw [hs _ hi hx,if_pos (by simp),ex,Bool.true_and,Bool.and_true]
   simp only [Option.getD_some]
   cases hq : gI (zcZ a b c d e f) (i : Int) with
   | true =>
    have hu := H.cnt_used hi hq
    have ha := (H.tk hi hu).amt
    rw [if_pos rfl,if_pos hin,hu,if_pos rfl,zcm (by omega),ziy H self x hs n (i + 1) _ (by omega) (by omega),List.map_cons,List.map_cons,List.sum_cons]
    simp only [zeb,hq,if_true]
    congr 1; omega
   | false =>
    rw [if_neg (by decide),ziy H self x hs n (i + 1) r (by omega) (by omega)]
    cases hu : (gI b (i : Int)).1 with
    | false => simp
    | true =>
     rw [if_pos rfl,List.map_cons,List.map_cons,List.sum_cons]
     simp only [zeb,hq,Bool.false_eq_true,if_false,Int.zero_add]
  ·have ex : ((gI b (i : Int)).2.1 == x) = false := by simpa using hx
   rw [ex,if_pos (by simp),Bool.false_and,if_neg (by decide),Bool.and_false,if_neg (by decide),ziy H self x hs n (i + 1) r (by omega) (by omega)]
theorem amount_of (H : zcv a b c d e f) (self : ((List Bool) × (List Tk) × (List Th) × (List Lk) × (List Int) × Int × Int) → Option Bool) {x : Int} (hx : 0 ≤ x ∧ x < (a.length : Int))
  (hs : ∀ k : Int,0 ≤ k ∧ k < (b.length : Int) → (gI b k).2.1 = x → self (a,b,c,d,e,f,k) = some (gI (zcZ a b c d e f) k)) : F_zz self (a,b,c,d,e,f,x) = some (gI (amV a b c d e f) x) := by
 show (zz self _).run _ = _
 rw [zz]
 simp only [RT.run]
 have := ziy H self x hs b.length 0 0 (by omega) (by omega)
 rw [show ((0 : Nat) : Int) = 0 from rfl,← List.range_eq_range',Int.zero_add] at this
 rw [this,H.amt hx]
 rfl
theorem amount_rec (H : zcv a b c d e f) : ∀ (q p : List Int),zcG a b = p ++ q → ∀ n,q.length ≤ n → ∀ x ∈ q,R_zz n (a,b,c,d,e,f,x) = some (gI (amV a b c d e f) x)
 | [],_,_,_,_,x,hx => by cases hx
 | y :: q,p,ho,0,hn,x,hx => by simp at hn
 | y :: q,p,ho,n + 1,hn,x,hx => by
  have ih := amount_rec H q (p ++ [y]) (by rw [ho]; simp)
  rcases List.mem_cons.1 hx with rfl | hxq
  ·have hin := zdH (H.ord_mem.1 (by rw [ho]; simp : x ∈ zcG a b))
   refine amount_of H (F_zai (R_zz n)) hin fun k hk hc => counts_eq H (fun _ => none) (R_zz n) hk fun hu h2 => ?_
   obtain ⟨h3,h4⟩ := H.ord_to ho hk hu h2 (by rw [hc]; exact List.mem_cons_self ..)
   exact ih n (by simpa using hn) _ h3
  ·exact ih (n + 1) (by simp at hn; omega) x hxq
theorem amount_all (H : zcv a b c d e f) {x : Int} (hx : 0 ≤ x ∧ x < (a.length : Int)) : R_zz ((zcG a b).length + 1) (a,b,c,d,e,f,x) = some (gI (amV a b c d e f) x) := by
 by_cases h : x ∈ zcG a b
 ·exact amount_rec H (zcG a b) [] rfl _ (by omega) x h
 ·refine amount_of H _ hx fun k hk hc => ?_
  exfalso
  cases hu : (gI b k).1 with
  | true => exact h (H.ord_mem.2 (hc ▸ (H.tk hk hu).coin))
  | false =>
   have h0 := H.tk0 hk hu
   rw [h0] at hc
   refine h (H.ord_mem.2 ?_)
   rw [← hc]
   unfold usC
   rw [H.coins.2.2,zcn.2 (by have := H.coins; simp only; omega)]; rfl
end
def e_zz : zcq := io_zz.sp (fun (a,b,c,d,e,f,x) => (zfp a b c d e f && inB a x)) (fun (a,b,c,d,e,f,x) => (gI (α := Int) (amV a b c d e f) x))
theorem sp_zz (h : ∀ (a : List Bool) (b : List Tk) (c : List Th) (d : List Lk) (e : List Int) (f : Int) (x : Int),WfT [.sl tB,.sl yK,.sl yH,.sl yL,.sl tI,tI,tI] (a,b,c,d,e,f,x) → ((zfp a b c d e f && inB a x)) = true → ∃ n,R_zz n (a,b,c,d,e,f,x) = some (gI (α := Int) (amV a b c d e f) x)) : e_zz.ok pg := sp_rec okR_zz fun (a,b,c,d,e,f,x) hw hc => h a b c d e f x hw hc
theorem e_zz_ok : e_zz.ok pg := sp_zz fun a b c d e f x _ hc => by
 rw [Bool.and_eq_true] at hc
 exact ⟨_,amount_all (fine0 hc.1) (zcn.1 hc.2)⟩
def e_zai : zcq := io_zai.sp (fun (a,b,c,d,e,f,k) => (zfp a b c d e f && inB b k)) (fun (a,b,c,d,e,f,k) => (gI (α := Bool) (zcZ a b c d e f) k))
theorem sp_zai (h : ∀ (a : List Bool) (b : List Tk) (c : List Th) (d : List Lk) (e : List Int) (f : Int) (k : Int),WfT [.sl tB,.sl yK,.sl yH,.sl yL,.sl tI,tI,tI] (a,b,c,d,e,f,k) → ((zfp a b c d e f && inB b k)) = true → ∃ n,R_zai n (a,b,c,d,e,f,k) = some (gI (α := Bool) (zcZ a b c d e f) k)) : e_zai.ok pg := sp_rec okR_zai fun (a,b,c,d,e,f,k) hw hc => h a b c d e f k hw hc
theorem e_zai_ok : e_zai.ok pg := sp_zai fun a b c d e f k _ hc => by
 rw [Bool.and_eq_true] at hc
 have H := fine0 hc.1
 have hk := zcn.1 hc.2
 refine ⟨(zcG a b).length + 1,counts_eq H (fun _ => none) _ hk fun hu h2 => amount_all H ?_⟩
 rcases (H.tk hk hu).to with h | h | h
 ·omega
 ·omega
 ·exact zdH h.2.2
def zP_b58 : (Int × Int × (List Tk)) → (Int × (List Int)) → RT (Int × (List Int)) (List Int)
| (l,i,s_1),(i_2,r7) =>
 .rq 5 (.ite (decide (i_2 < (s_1.length : Int)))
 (.rq 3 (.req (inB s_1 i_2) (.rq 47 (let t0 := w64 (i_2 + 1);
 let t1 := (gI s_1 i_2).2.2.2.2.1 == i;
 .ite ((gI s_1 i_2).1 && ((((l == 0) && ((gI s_1 i_2).2.1 == i)) || (((l == 1) && ((gI s_1 i_2).2.2.2.1 == 2)) && t1)) || (((l == 2) && ((gI s_1 i_2).2.2.2.1 == 1)) && t1)))
 (.rq 3 (.req (zdK 8 r7 [i_2]) (.rq 4 (.again (t0,r7 ++ [i_2])))))
 (.rq 3 (.again (t0,r7)))))))
 (.done r7))
def zP_p58 : zch := ⟨58,true,[tI,tI,.sl tB,.sl yK,.sl yH,.sl yL,.sl tI,tI],[tI,.sl tI],⟨[.keep [1,2,3,7,8],.gc,.nilRow 7 800007 3 tI,.ren 7 700007,.ren 7 900007,.gc],[1,2,3,7,8],[.lf (qi 0),.lf (qi 1),.lf (qp 48),.lf (qr 900007),.lf (qm 0)],[(48,true,.cells [qi 2,qi 3,qi 4,qi 5,qi 6,qi 7]),(900007,true,.arr 3 (qm 1))]⟩,[⟨2,⟨[.keep [7],.gc,.nilRow 7 800007 3 tI,.ren 7 700007,.ren 7 900007,.gc],[7],[.lf (qr 900007)],[(900007,true,.arr 3 (qm 0))]⟩,[.sl tI]⟩],(fun i => zP_b58 (i.1,i.2.1,i.2.2.2.1))⟩
def zP : ((List Bool) × (List Tk) × (List Th) × (List Lk) × (List Int) × Int × Int × Int) → RT Unit (List Int)
| (a0_0,a0_1,a0_2,a0_3,a0_4,a0_5,l,i) =>
 .rq 4 (.call (lo zP_b58 (l,i,a0_1) (0,[])) default fun v0 =>
 .rq 2 (.done v0))
def F_zP (x : (List Bool) × (List Tk) × (List Th) × (List Lk) × (List Int) × Int × Int × Int) : Option (List Int) := (zP x).run fun _ => none
def io_zP : Io := ⟨n_zP,[.sl tB,.sl yK,.sl yH,.sl yL,.sl tI,tI,tI,tI],[.agg [qm 0,qm 1,qm 2,qm 3,qm 4,qm 5],.lf (qm 6),.lf (qm 7)],[],[[.sl tB,.sl yK,.sl yH,.sl yL,.sl tI,tI],[tI],[tI]],[.sl tI],.lf (qr 0),[],[(true,.arr 3 (qm 0))],false⟩
def zP_P : List zch := [zP_p58]
def zP_T : zcl := tab []
theorem zP_To : zck pg zP_T := zci trivial
theorem zP_k58 : (zP_p58).OK pg (zP_T) (zcB 71 (zP_P)) (zcs f_zP) 71 := ⟨by kernel_rfl,fun i x => by kernel_rfl⟩
theorem zP_go : zcy pg (zP_T) io_zP f_zP (zP_P) [.nilRow 6 800006 3 tI,.ren 6 700006,.ren 6 900006] (zP) := ⟨by kernel_rfl,by kernel_rfl,fun x => by kernel_rfl⟩
theorem ok_zP : io_zP.Okay pg (F_zP) := zcu zcj (zP_To) (zP_go) ⟨zP_k58,trivial⟩
def zdL (b : List Tk) (w i k : Int) : Bool := (gI b k).1 && ((((w == 0) && ((gI b k).2.1 == i)) || (((w == 1) && ((gI b k).2.2.2.1 == 2)) && ((gI b k).2.2.2.2.1 == i))) || (((w == 2) && ((gI b k).2.2.2.1 == 1)) && ((gI b k).2.2.2.2.1 == i)))
def tksOf (b : List Tk) (w i : Int) : List Int := ((List.range b.length).map fun (k : Nat) => (k : Int)).filter (zdL b w i)
theorem tksOf_loop (b : List Tk) (w x : Int) (hl : b.length ≤ 1000000) : ∀ (n i : Nat) (r : List Int),i + n = b.length → r.length ≤ i →
  lo zP_b58 (w,x,b) ((i : Int),r) = some (r ++ ((List.range' i n).map fun (k : Nat) => (k : Int)).filter (zdL b w x))
 | 0,i,r,h,_ => by
  rw [zcr,zP_b58]
  simp only [RT.run]
  rw [if_neg (by simp; omega)]
  simp
 | n + 1,i,r,h,hr => by
  have hi : i < b.length := by omega
  have hmax : maxLen = 9223372036854775807 := by decide
  rw [zcr,zP_b58]
  simp only [RT.run]
  rw [if_pos (by simp; omega),if_pos (zcn.2 ⟨by omega,by omega⟩),zcm (by omega),show (i : Int) + 1 = ((i + 1 : Nat) : Int) by omega,List.range'_succ,List.map_cons,List.filter_cons]
  by_cases hv : zdL b w x (i : Int) = true
  ·have hv' := hv
   unfold zdL at hv'
   rw [if_pos hv',if_pos (zeI.2 ⟨by simp; omega,by simp; omega⟩),tksOf_loop b w x hl n (i + 1) _ (by omega) (by simp; omega),if_pos hv]
   simp
  ·have hv' := hv
   unfold zdL at hv'
   rw [if_neg hv',tksOf_loop b w x hl n (i + 1) _ (by omega) (by omega),if_neg hv]
def e_zP : zcq := io_zP.sp (fun (a,b,c,d,e,f,w,i) => (decide (b.length ≤ 1000000))) (fun (a,b,c,d,e,f,w,i) => (tksOf b w i))
theorem sp_zP (h : ∀ (a : List Bool) (b : List Tk) (c : List Th) (d : List Lk) (e : List Int) (f : Int) (w : Int) (i : Int),WfT [.sl tB,.sl yK,.sl yH,.sl yL,.sl tI,tI,tI,tI] (a,b,c,d,e,f,w,i) → ((decide (b.length ≤ 1000000))) = true → (zP (a,b,c,d,e,f,w,i)).run (fun _ => none) = some (tksOf b w i)) : e_zP.ok pg := zcw ok_zP fun (a,b,c,d,e,f,w,i) hw hc => h a b c d e f w i hw hc
theorem e_zP_ok : e_zP.ok pg := sp_zP fun a b c d e f w i _ hc => by
 have hl := of_decide_eq_true hc
 rw [zP]
 simp only [RT.run]
 have := tksOf_loop b w i hl b.length 0 [] (by omega) (by simp)
 rw [show ((0 : Nat) : Int) = 0 from rfl,← List.range_eq_range',List.nil_append] at this
 rw [this]
 rfl
def io_zak : Io := ⟨n_zak,[.sl tB,.sl yK,.sl yH,.sl yL,.sl tI,tI,tI],[.agg [qm 0,qm 1,qm 2,qm 3,qm 4,qm 5],.lf (qm 6)],[],[[.sl tB,.sl yK,.sl yH,.sl yL,.sl tI,tI],[tI]],[.sl tI,.sl tI],.agg [qr 0,qr 1],[],[(true,.arr 3 (qm 0)),(true,.arr 3 (qm 1))],false⟩
def zaf (self : ((List Bool) × (List Tk) × (List Th) × (List Lk) × (List Int) × Int × Int) → Option ((List Int) × (List Int))) : ((List Bool) × (List Tk) × (List Th) × (List Lk) × (List Int) × Int × Int) → RT Unit ((List Int) × (List Int))
| (s_0,s_1,s_2,s_3,s_4,s_5,k) =>
 .rq 5 (.req (inB s_1 k) (.rq 5 (.req ((zfp s_0 s_1 s_2 s_3 s_4 s_5 && inB s_1 k)) (.rq 1 (.ite (!((gI (α := Bool) (zcZ s_0 s_1 s_2 s_3 s_4 s_5) k)))
 (.rq 2 (.done ((rQ (((0 : Int).toNat : Nat) : Rat)).1,(rQ (((0 : Int).toNat : Nat) : Rat)).2)))
 (.rq 3 (let t0 := zcx (gI s_1 k).2.2.1;
 .ite ((gI s_1 k).2.1 == 0)
 (.rq 5 (let t1 := rQ ((t0.toNat : Nat) : Rat);
 .done (t1.1,t1.2)))
 (.rq 6 (.req ((zfp s_0 s_1 s_2 s_3 s_4 s_5 && inB s_0 (gI s_1 k).2.1)) (.rq 1 (let t2 := zcx ((gI (α := Int) (amV s_0 s_1 s_2 s_3 s_4 s_5) (gI s_1 k).2.1));
 .req (decide (t2 ≠ 0)) (.rq 3 (.call (self (s_0,s_1,s_2,s_3,s_4,s_5,(gI s_1 k).2.1)) default fun v0 =>
 let t3 := rQ (mkRat ((t0.toNat : Nat) : Int) t2.toNat);
 .req (okq t3.1 t3.2 && okq v0.1 v0.2) (.rq 1 (let t4 := rQ (zdl t3.1 t3.2 * zdl v0.1 v0.2);
 .done (t4.1,t4.2))))))))))))))))
def F_zaf (self : ((List Bool) × (List Tk) × (List Th) × (List Lk) × (List Int) × Int × Int) → Option ((List Int) × (List Int))) (x : (List Bool) × (List Tk) × (List Th) × (List Lk) × (List Int) × Int × Int) : Option ((List Int) × (List Int)) := (zaf self x).run fun _ => none
def io_zaf : Io := ⟨n_zaf,[.sl tB,.sl yK,.sl yH,.sl yL,.sl tI,tI,tI],[.agg [qm 0,qm 1,qm 2,qm 3,qm 4,qm 5],.lf (qm 6)],[],[[.sl tB,.sl yK,.sl yH,.sl yL,.sl tI,tI],[tI]],[.sl tI,.sl tI],.agg [qr 0,qr 1],[],[(true,.arr 3 (qm 0)),(true,.arr 3 (qm 1))],false⟩
def zaf_P (self : ((List Bool) × (List Tk) × (List Th) × (List Lk) × (List Int) × Int × Int) → Option ((List Int) × (List Int))) : List zch := []
def zaf_T (self : ((List Bool) × (List Tk) × (List Th) × (List Lk) × (List Int) × Int × Int) → Option ((List Int) × (List Int))) : zcl := tab [io_zak.en self,e_zai,e_zz,e_zbV,e_zbs,e_zcc]
theorem zaf_To (self : ((List Bool) × (List Tk) × (List Th) × (List Lk) × (List Int) × Int × Int) → Option ((List Int) × (List Int))) (hs : io_zak.Okay pg self) : zck pg (zaf_T self) := zci ⟨zeS hs,e_zai_ok,e_zz_ok,e_zbV_ok,zhn,e_zcc_ok,trivial⟩
theorem zaf_go (self : ((List Bool) × (List Tk) × (List Th) × (List Lk) × (List Int) × Int × Int) → Option ((List Int) × (List Int))) : zcy pg (zaf_T self) io_zaf f_zaf (zaf_P self) [.cellRow 64 0 600064 3 tI,.cellRow 64 1 600065 3 tI,.cellRen 64 0 600064,.cellRen 64 1 600065] (zaf self) := ⟨by kernel_rfl,by kernel_rfl,fun x => by kernel_rfl⟩
theorem ok_zaf (self : ((List Bool) × (List Tk) × (List Th) × (List Lk) × (List Int) × Int × Int) → Option ((List Int) × (List Int))) (hs : io_zak.Okay pg self) : io_zaf.Okay pg (F_zaf self) := zcu zcj (zaf_To self hs) (zaf_go self) trivial
def zhv (self : ((List Bool) × (List Tk) × (List Th) × (List Lk) × (List Int) × Int × Int) → Option ((List Int) × (List Int))) : ((List Bool) × (List Tk) × (List Th) × (List Lk) × (List Int) × Int × (List Int)) → (Int × (List Int) × (List Int)) → RT (Int × (List Int) × (List Int)) ((List Int) × (List Int))
| (s_0,s_1,s_2,s_3,s_4,s_5,r6),(i,r80,r81) =>
 .rq 4 (.ite (decide (i < (r6.length : Int)))
 (.rq 4 (.req (inB r6 i) (.rq 1 (.call (self (s_0,s_1,s_2,s_3,s_4,s_5,gI r6 i)) default fun v0 =>
 .req (okq r80 r81 && okq v0.1 v0.2) (.rq 4 (let t0 := rQ (zdl r80 r81 + zdl v0.1 v0.2);
 .again (w64 (i + 1),t0.1,t0.2)))))))
 (.done (r80,r81)))
def zak_p250 (self : ((List Bool) × (List Tk) × (List Th) × (List Lk) × (List Int) × Int × Int) → Option ((List Int) × (List Int))) : zch := ⟨250,true,[.sl tB,.sl yK,.sl yH,.sl yL,.sl tI,tI,.sl tI],[tI,.sl tI,.sl tI],⟨[.keep [2,4,5,6,7],.gc,.nilRow 6 800006 3 tI,.ren 6 700006,.ren 6 900006,.cellRow 80 0 600080 3 tI,.cellRow 80 1 600081 3 tI,.cellRen 80 0 600080,.cellRen 80 1 600081,.gc],[2,4,5,6,7],[.lf (qp 32),.lf (qp 64),.lf (qp 80),.lf (qr 900006),.lf (qm 0)],[(32,true,.cells [qi 0,qi 1,qi 2,qi 3,qi 4,qi 5]),(64,true,.cells [.fix (.nil),.fix (.nil)]),(80,true,.cells [qr 600080,qr 600081]),(900006,true,.arr 3 (qi 6)),(600080,true,.arr 3 (qm 1)),(600081,true,.arr 3 (qm 2))]⟩,[⟨2,⟨[.keep [4,5],.gc,.cellRow 80 0 600080 3 tI,.cellRow 80 1 600081 3 tI,.cellRen 80 0 600080,.cellRen 80 1 600081,.gc],[4,5],[.lf (qp 64),.lf (qp 80)],[(64,true,.cells [.fix (.nil),.fix (.nil)]),(80,true,.cells [qr 600080,qr 600081]),(600080,true,.arr 3 (qm 0)),(600081,true,.arr 3 (qm 1))]⟩,[.sl tI,.sl tI]⟩],(zhv self)⟩
def zak (self : ((List Bool) × (List Tk) × (List Th) × (List Lk) × (List Int) × Int × Int) → Option ((List Int) × (List Int))) : ((List Bool) × (List Tk) × (List Th) × (List Lk) × (List Int) × Int × Int) → RT Unit ((List Int) × (List Int))
| (s_0,s_1,s_2,s_3,s_4,s_5,c) =>
 .rq 4 (.ite (c == 0)
 (.rq 1 (.req ((zfp s_0 s_1 s_2 s_3 s_4 s_5 && inB s_0 (0 : Int))) (.rq 3 (let t0 := rQ (((zcx ((gI (α := Int) (amV s_0 s_1 s_2 s_3 s_4 s_5) (0 : Int)))).toNat : Nat) : Rat);
 .done (t0.1,t0.2)))))
 (.rq 5 (.req ((decide (s_1.length ≤ 1000000))) (.rq 2 (.call (lo (zhv self) (s_0,s_1,s_2,s_3,s_4,s_5,(tksOf s_1 (1 : Int) c)) (0,(rQ (((0 : Int).toNat : Nat) : Rat)).1,(rQ (((0 : Int).toNat : Nat) : Rat)).2)) default fun v1 =>
 .rq 2 (.done (v1.1,v1.2)))))))
def F_zak (self : ((List Bool) × (List Tk) × (List Th) × (List Lk) × (List Int) × Int × Int) → Option ((List Int) × (List Int))) (x : (List Bool) × (List Tk) × (List Th) × (List Lk) × (List Int) × Int × Int) : Option ((List Int) × (List Int)) := (zak self x).run fun _ => none
def zak_P (self : ((List Bool) × (List Tk) × (List Th) × (List Lk) × (List Int) × Int × Int) → Option ((List Int) × (List Int))) : List zch := [zak_p250 self]
def zak_T (self : ((List Bool) × (List Tk) × (List Th) × (List Lk) × (List Int) × Int × Int) → Option ((List Int) × (List Int))) : zcl := tab [io_zaf.en self,e_zP,e_zz,e_zbK,e_zbs]
theorem zak_To (self : ((List Bool) × (List Tk) × (List Th) × (List Lk) × (List Int) × Int × Int) → Option ((List Int) × (List Int))) (hs : io_zaf.Okay pg self) : zck pg (zak_T self) := zci ⟨zeS hs,e_zP_ok,e_zz_ok,e_zbK_ok,zhn,trivial⟩
theorem zak_k250 (self : ((List Bool) × (List Tk) × (List Th) × (List Lk) × (List Int) × Int × Int) → Option ((List Int) × (List Int))) : (zak_p250 self).OK pg (zak_T self) (zcB 33 (zak_P self)) (zcs f_zak) 33 := ⟨by kernel_rfl,fun i x => by kernel_rfl⟩
theorem zak_go (self : ((List Bool) × (List Tk) × (List Th) × (List Lk) × (List Int) × Int × Int) → Option ((List Int) × (List Int))) : zcy pg (zak_T self) io_zak f_zak (zak_P self) [.cellRow 64 0 600064 3 tI,.cellRow 64 1 600065 3 tI,.cellRen 64 0 600064,.cellRen 64 1 600065] (zak self) := ⟨by kernel_rfl,by kernel_rfl,fun x => by kernel_rfl⟩
theorem ok_zak (self : ((List Bool) × (List Tk) × (List Th) × (List Lk) × (List Int) × Int × Int) → Option ((List Int) × (List Int))) (hs : io_zaf.Okay pg self) : io_zak.Okay pg (F_zak self) := zcu zcj (zak_To self hs) (zak_go self) ⟨zak_k250 self,trivial⟩
def R_zak : Nat → ((List Bool) × (List Tk) × (List Th) × (List Lk) × (List Int) × Int × Int) → Option ((List Int) × (List Int))
 | 0 => fun _ => none
 | n + 1 => F_zak (F_zaf (R_zak n))
theorem okR_zak : ∀ n,io_zak.Okay pg (R_zak n)
 | 0 => ⟨⟨f_zak,by kernel_rfl,by kernel_rfl,by kernel_rfl⟩,fun _ _ h => by cases h⟩
 | n + 1 => ok_zak _ (ok_zaf _ (okR_zak n))
def R_zaf (n : Nat) : ((List Bool) × (List Tk) × (List Th) × (List Lk) × (List Int) × Int × Int) → Option ((List Int) × (List Int)) := F_zaf (R_zak n)
theorem okR_zaf (n : Nat) : io_zaf.Okay pg (R_zaf n) := ok_zaf _ (okR_zak n)
end
end Go.Proofs.YtlfdidaeachpoaaGreat
namespace Go.Proofs.YtlfdidaeachpoaaGreat
open Go Go.RowKit
set_option maxRecDepth 100000
def zcK (l : List Rat) : Rat := l.foldr (· + ·) 0
theorem zcT (x : Rat) (l : List Rat) : zcK (x :: l) = x + zcK l := rfl
theorem zjl : ∀ (l m : List Rat),zcK (l ++ m) = zcK l + zcK m
 | [],m => (Rat.zero_add _).symm
 | x :: l,m => by rw [List.cons_append,zcT,zjl l m,zcT,Rat.add_assoc]
theorem rsum_perm {l m : List Rat} (h : l.Perm m) : zcK l = zcK m := by
 unfold zcK
 exact h.foldr_eq' (fun x _ y _ z => by grind) 0
theorem rsum_nonneg {l : List Rat} (h : ∀ x ∈ l,0 ≤ x) : 0 ≤ zcK l := by
 induction l with
 | nil => decide
 | cons x l ih => exact Rat.add_nonneg (h x (List.mem_cons_self ..)) (ih fun y hy => h y (List.mem_cons_of_mem _ hy))
theorem rsum_filter {α : Type} {l : List α} {g : α → Rat} {p : α → Bool} (h : ∀ x ∈ l,p x = false → g x = 0) : zcK ((l.filter p).map g) = zcK (l.map g) := by
 induction l with
 | nil => rfl
 | cons x l ih =>
  have ih := ih fun y hy => h y (List.mem_cons_of_mem _ hy)
  rw [List.filter_cons]
  cases hp : p x with
  | true => rw [if_pos rfl,List.map_cons,List.map_cons,zcT,zcT,ih]
  | false => rw [if_neg (by decide),ih,List.map_cons,zcT,h x (List.mem_cons_self ..) hp,Rat.zero_add]
def zdT (b : List Tk) (am : List Int) (k : Int) : Rat := mkRat (gI b k).2.2.1 (gI am (gI b k).2.1).toNat
def zdu (b : List Tk) (cnt : List Bool) (am : List Int) (x : List Rat × List Rat) (k : Int) : List Rat × List Rat :=
 if gI cnt k = true then
  (if (gI b k).2.2.2.1 = 2 then sI x.1 (gI b k).2.2.2.2.1 (gI x.1 (gI b k).2.2.2.2.1 + zdT b am k * gI x.1 (gI b k).2.1) else x.1,sI x.2 k (zdT b am k * gI x.1 (gI b k).2.1))
 else x
def w0 (a : List Bool) (b : List Tk) (am : List Int) : List Rat × List Rat := (sI (zdd (a.length : Int) 0) 0 ((gI am 0 : Int) : Rat),zdd (b.length : Int) 0)
def zdx (a : List Bool) (b : List Tk) : List Int := (zcG a b).flatMap (zcI b)
def zcC (a : List Bool) (b : List Tk) (c : List Th) (d : List Lk) (e : List Int) (f : Int) : List Rat × List Rat := (zdx a b).foldl (zdu b (zcZ a b c d e f) (amV a b c d e f)) (w0 a b (amV a b c d e f))
def zfu (b : List Tk) (cnt : List Bool) (c k : Int) (v : Rat) : Rat := if gI cnt k = true ∧ (gI b k).2.2.2.1 = 2 ∧ (gI b k).2.2.2.2.1 = c then v else 0
theorem wStep_len (b : List Tk) (cnt : List Bool) (am : List Int) (x : List Rat × List Rat) (k : Int) : (zdu b cnt am x k).1.length = x.1.length ∧ (zdu b cnt am x k).2.length = x.2.length := by
 unfold zdu
 split
 ·simp only
  split <;> simp [sI]
 ·exact ⟨rfl,rfl⟩
theorem w_fold {b : List Tk} {cnt : List Bool} {am : List Int} {na nb : Nat} : ∀ (l : List Int) (x : List Rat × List Rat),x.1.length = na → x.2.length = nb → l.Nodup →
  (∀ k ∈ l,(0 ≤ k ∧ k < (nb : Int)) ∧ (0 ≤ (gI b k).2.1 ∧ (gI b k).2.1 < (na : Int)) ∧ ((gI b k).2.2.2.1 = 2 → (0 ≤ (gI b k).2.2.2.2.1 ∧ (gI b k).2.2.2.2.1 < (na : Int)) ∧ (gI b k).2.2.2.2.1 ≠ (gI b k).2.1)) →
  l.Pairwise (fun k j => (gI b j).2.2.2.1 = 2 → (gI b j).2.2.2.2.1 ≠ (gI b k).2.1) →
  (∀ j : Int,0 ≤ j → j ∉ l → gI (l.foldl (zdu b cnt am) x).2 j = gI x.2 j) ∧
  (∀ c : Int,0 ≤ c → (∀ k ∈ l,(gI b k).2.2.2.1 = 2 → (gI b k).2.2.2.2.1 ≠ c) → gI (l.foldl (zdu b cnt am) x).1 c = gI x.1 c) ∧
  (∀ c : Int,0 ≤ c → gI (l.foldl (zdu b cnt am) x).1 c = gI x.1 c + zcK (l.map fun k => zfu b cnt c k (gI (l.foldl (zdu b cnt am) x).2 k))) ∧
  (∀ k ∈ l,gI (l.foldl (zdu b cnt am) x).2 k = if gI cnt k = true then zdT b am k * gI (l.foldl (zdu b cnt am) x).1 (gI b k).2.1 else gI x.2 k)
 | [],x,_,_,_,_,_ => ⟨fun _ _ _ => rfl,fun _ _ _ => rfl,fun _ _ => (Rat.add_zero _).symm,fun k hk => (by cases hk)⟩
 | k :: l,x,hx1,hx2,hn,hl,hp => by
  obtain ⟨k1,k2,k3⟩ := hl k (List.mem_cons_self ..)
  obtain ⟨hkn,hn'⟩ := List.nodup_cons.1 hn
  obtain ⟨hpk,hp'⟩ := List.pairwise_cons.1 hp
  obtain ⟨q1,q2⟩ := wStep_len b cnt am x k
  obtain ⟨ia,ib,ic,id⟩ := w_fold (b := b) (cnt := cnt) (am := am) l (zdu b cnt am x k) (q1.trans hx1) (q2.trans hx2) hn' (fun j hj => hl j (List.mem_cons_of_mem _ hj)) hp'
  have eK : ∀ j : Int,0 ≤ j → gI (zdu b cnt am x k).2 j = if k = j ∧ gI cnt k = true then zdT b am k * gI x.1 (gI b k).2.1 else gI x.2 j := fun j hj => by
   unfold zdu
   by_cases hc : gI cnt k = true
   ·rw [if_pos hc]
    simp only
    rw [zhb (by rw [hx2]; exact k1) hj]
    by_cases h : k = j
    ·rw [if_pos h,if_pos ⟨h,hc⟩]
    ·rw [if_neg h,if_neg (fun h' => h h'.1)]
   ·rw [if_neg hc,if_neg (fun h' => hc h'.2)]
  have eC : ∀ c : Int,0 ≤ c → gI (zdu b cnt am x k).1 c = gI x.1 c + zfu b cnt c k (zdT b am k * gI x.1 (gI b k).2.1) := fun c hc0 => by
   unfold zdu zfu
   by_cases hc : gI cnt k = true
   ·rw [if_pos hc]
    simp only
    by_cases h2 : (gI b k).2.2.2.1 = 2
    ·rw [if_pos h2,zhb (by rw [hx1]; exact (k3 h2).1) hc0]
     by_cases h : (gI b k).2.2.2.2.1 = c
     ·rw [if_pos h,if_pos ⟨hc,h2,h⟩,h]
     ·rw [if_neg h,if_neg (fun h' => h h'.2.2),Rat.add_zero]
    ·rw [if_neg h2,if_neg (fun h' => h2 h'.2.1),Rat.add_zero]
   ·rw [if_neg hc,if_neg (fun h' => hc h'.1),Rat.add_zero]
  have brings_no : ∀ c v,((gI b k).2.2.2.1 = 2 → (gI b k).2.2.2.2.1 ≠ c) → zfu b cnt c k v = 0 := fun c v h => by
   unfold zfu
   rw [if_neg (fun h' => h h'.2.1 h'.2.2)]
  rw [List.foldl_cons]
  have hself : gI (l.foldl (zdu b cnt am) (zdu b cnt am x k)).2 k = if gI cnt k = true then zdT b am k * gI x.1 (gI b k).2.1 else gI x.2 k := by
   rw [ia k k1.1 hkn,eK k k1.1]
   by_cases hc : gI cnt k = true
   ·rw [if_pos ⟨rfl,hc⟩,if_pos hc]
   ·rw [if_neg (fun h => hc h.2),if_neg hc]
  refine ⟨fun j hj hjl => ?_,fun c hc hno => ?_,fun c hc => ?_,fun j hj => ?_⟩
  ·have hj' : j ≠ k ∧ j ∉ l := by simpa using hjl
   rw [ia j hj hj'.2,eK j hj,if_neg (fun h => hj'.1 h.1.symm)]
  ·rw [ib c hc fun j hj => hno j (List.mem_cons_of_mem _ hj),eC c hc,brings_no c _ (hno k (List.mem_cons_self ..)),Rat.add_zero]
  ·rw [ic c hc,eC c hc,List.map_cons,zcT,hself,Rat.add_assoc]
   congr 2
   unfold zfu
   by_cases hc : gI cnt k = true
   ·rw [if_pos hc]
   ·rw [if_neg (fun h => hc h.1),if_neg (fun h => hc h.1)]
  ·rcases List.mem_cons.1 hj with rfl | hj
   ·rw [hself,ib _ k2.1 fun i hi => hpk i hi,eC _ k2.1,brings_no _ _ fun h => (k3 h).2,Rat.add_zero]
   ·rw [id j hj,eK j (hl j (List.mem_cons_of_mem _ hj)).1.1,if_neg (show ¬ (k = j ∧ gI cnt k = true) from fun h => hkn (by rw [h.1]; exact hj))]
section
variable {a : List Bool} {b : List Tk} {c : List Th} {d : List Lk} {e : List Int} {f : Int}
theorem zcv.tkOrd_suf (H : zcv a b c d e f) : ∀ (q p : List Int),zcG a b = p ++ q → (q.flatMap (zcI b)).Nodup ∧ (q.flatMap (zcI b)).Pairwise (fun k j => (gI b j).2.2.2.1 = 2 → (gI b j).2.2.2.2.1 ≠ (gI b k).2.1) ∧
  ∀ k,k ∈ q.flatMap (zcI b) ↔ (0 ≤ k ∧ k < (b.length : Int)) ∧ (gI b k).1 = true ∧ (gI b k).2.1 ∈ q
 | [],_,_ => ⟨List.nodup_nil,List.Pairwise.nil,fun k => by simp⟩
 | x :: q,p,ho => by
  obtain ⟨i1,i2,i3⟩ := H.tkOrd_suf q (p ++ [x]) (by rw [ho]; simp)
  have hn := H.ord_nodup
  rw [ho] at hn
  have hxq : x ∉ q := (List.nodup_cons.1 (List.nodup_append.1 hn).2.1).1
  have hto : ∀ j : Int,(0 ≤ j ∧ j < (b.length : Int)) → (gI b j).1 = true → (gI b j).2.1 ∈ x :: q → (gI b j).2.2.2.1 = 2 → (gI b j).2.2.2.2.1 ≠ x := fun j hj hu hc h2 => (H.ord_to ho hj hu h2 hc).2
  rw [List.flatMap_cons]
  refine ⟨List.nodup_append.2 ⟨issued_nodup,i1,fun k hk j hj h => ?_⟩,List.pairwise_append.2 ⟨?_,i2,fun k hk j hj h2 => ?_⟩,fun k => ?_⟩
  ·subst h
   exact hxq ((zdj.1 hk).2.2 ▸ ((i3 k).1 hj).2.2)
  ·refine List.Pairwise.imp_of_mem (R := fun _ _ => True) (fun {k j} hk hj _ h2 => ?_) (List.pairwise_of_forall fun _ _ => trivial)
   obtain ⟨_,_,k3⟩ := zdj.1 hk
   obtain ⟨j1,j2,j3⟩ := zdj.1 hj
   rw [k3]
   exact hto j j1 j2 (by rw [j3]; exact List.mem_cons_self ..) h2
  ·obtain ⟨_,_,k3⟩ := zdj.1 hk
   obtain ⟨j1,j2,j3⟩ := (i3 j).1 hj
   rw [k3]
   exact hto j j1 j2 (List.mem_cons_of_mem _ j3) h2
  ·rw [List.mem_append,zdj,i3,List.mem_cons]
   constructor
   ·rintro (⟨h1,h2,h3⟩ | ⟨h1,h2,h3⟩)
    ·exact ⟨h1,h2,.inl h3⟩
    ·exact ⟨h1,h2,.inr h3⟩
   ·rintro ⟨h1,h2,h3 | h3⟩
    ·exact .inl ⟨h1,h2,h3⟩
    ·exact .inr ⟨h1,h2,h3⟩
theorem zcv.tkOrd_mem (H : zcv a b c d e f) {k : Int} : k ∈ zdx a b ↔ (0 ≤ k ∧ k < (b.length : Int)) ∧ (gI b k).1 = true := by
 have h := (H.tkOrd_suf (zcG a b) [] rfl).2.2 k
 unfold zdx
 rw [h]
 exact ⟨fun h => ⟨h.1,h.2.1⟩,fun h => ⟨h.1,h.2,H.ord_mem.2 (H.tk h.1 h.2).coin⟩⟩
theorem zcv.tkOrd_nodup (H : zcv a b c d e f) : (zdx a b).Nodup := (H.tkOrd_suf (zcG a b) [] rfl).1
theorem zcv.tkOrd_hyp (H : zcv a b c d e f) : ∀ k ∈ zdx a b,(0 ≤ k ∧ k < (b.length : Int)) ∧ (0 ≤ (gI b k).2.1 ∧ (gI b k).2.1 < (a.length : Int)) ∧ ((gI b k).2.2.2.1 = 2 → (0 ≤ (gI b k).2.2.2.2.1 ∧ (gI b k).2.2.2.2.1 < (a.length : Int)) ∧ (gI b k).2.2.2.2.1 ≠ (gI b k).2.1) := fun k hk => by
 obtain ⟨k1,k2⟩ := H.tkOrd_mem.1 hk
 have ht := H.tk k1 k2
 refine ⟨k1,zdH ht.coin,fun h2 => ?_⟩
 have h4 : usC a (gI b k).2.2.2.2.1 = true := by
  rcases ht.to with h | h | h
  ·omega
  ·omega
  ·exact h.2.2
 refine ⟨zdH h4,?_⟩
 obtain ⟨p,q,ho⟩ := List.append_of_mem (H.ord_mem.2 ht.coin)
 exact (H.ord_to ho k1 k2 h2 (List.mem_cons_self ..)).2
theorem w0_len : (w0 a b (amV a b c d e f)).1.length = a.length ∧ (w0 a b (amV a b c d e f)).2.length = b.length := by simp [w0,sI,zdd]
theorem zcv.worth (H : zcv a b c d e f) :
  (∀ c',0 ≤ c' ∧ c' < (a.length : Int) → gI (zcC a b c d e f).1 c' = (if c' = 0 then ((gI (amV a b c d e f) 0 : Int) : Rat) else 0) + zcK ((zdx a b).map fun k => zfu b (zcZ a b c d e f) c' k (gI (zcC a b c d e f).2 k))) ∧
  (∀ k,0 ≤ k ∧ k < (b.length : Int) → gI (zcC a b c d e f).2 k = if gI (zcZ a b c d e f) k = true then zdT b (amV a b c d e f) k * gI (zcC a b c d e f).1 (gI b k).2.1 else 0) := by
 obtain ⟨q1,q2⟩ := w0_len (a := a) (b := b) (c := c) (d := d) (e := e) (f := f)
 obtain ⟨ia,ib,ic,id⟩ := w_fold (b := b) (cnt := zcZ a b c d e f) (am := amV a b c d e f) (zdx a b) (w0 a b (amV a b c d e f)) q1 q2 H.tkOrd_nodup H.tkOrd_hyp (H.tkOrd_suf (zcG a b) [] rfl).2.1
 have hc := H.coins
 refine ⟨fun c' hc' => ?_,fun k hk => ?_⟩
 ·unfold zcC
  rw [ic c' hc'.1]
  congr 1
  unfold w0
  simp only
  rw [zhb (by simp [zdd]; omega) hc'.1,gI_rep hc']
  by_cases h : c' = 0
  ·rw [if_pos h.symm,if_pos h]
  ·rw [if_neg (fun h' => h h'.symm),if_neg h]
 ·have h0 : gI (w0 a b (amV a b c d e f)).2 k = 0 := by
   unfold w0
   exact gI_rep hk
  unfold zcC
  by_cases hu : (gI b k).1 = true
  ·rw [id k (H.tkOrd_mem.2 ⟨hk,hu⟩),h0]
  ·rw [ia k hk.1 (fun h => hu (H.tkOrd_mem.1 h).2),h0,if_neg (fun h => hu (H.cnt_used hk h))]
theorem wFold_len {cnt : List Bool} {am : List Int} : ∀ (l : List Int) (x : List Rat × List Rat),(l.foldl (zdu b cnt am) x).1.length = x.1.length ∧ (l.foldl (zdu b cnt am) x).2.length = x.2.length
 | [],_ => ⟨rfl,rfl⟩
 | k :: l,x => by
  obtain ⟨h1,h2⟩ := wStep_len b cnt am x k
  obtain ⟨h3,h4⟩ := wFold_len (cnt := cnt) (am := am) l (zdu b cnt am x k)
  exact ⟨h3.trans h1,h4.trans h2⟩
theorem ziT : (zcC a b c d e f).1.length = a.length ∧ (zcC a b c d e f).2.length = b.length := by
 obtain ⟨q1,q2⟩ := w0_len (a := a) (b := b) (c := c) (d := d) (e := e) (f := f)
 obtain ⟨h1,h2⟩ := wFold_len (b := b) (cnt := zcZ a b c d e f) (am := amV a b c d e f) (zdx a b) (w0 a b (amV a b c d e f))
 exact ⟨h1.trans q1,h2.trans q2⟩
theorem zcv.worthC (H : zcv a b c d e f) {c' : Int} (hc' : 0 ≤ c' ∧ c' < (a.length : Int)) (h0 : c' ≠ 0) : gI (zcC a b c d e f).1 c' = zcK ((tksOf b 1 c').map fun k => gI (zcC a b c d e f).2 k) := by
 have hz : ∀ k,0 ≤ k ∧ k < (b.length : Int) → gI (zcZ a b c d e f) k = false → gI (zcC a b c d e f).2 k = 0 := fun k hk h => by rw [H.worth.2 k hk,h]; rfl
 rw [H.worth.1 c' hc',if_neg h0,Rat.zero_add]
 have h1 : (zdx a b).map (fun k => zfu b (zcZ a b c d e f) c' k (gI (zcC a b c d e f).2 k)) = (zdx a b).map fun k => if zdL b 1 c' k = true then gI (zcC a b c d e f).2 k else 0 := by
  refine List.map_congr_left fun k hk => ?_
  obtain ⟨k1,k2⟩ := H.tkOrd_mem.1 hk
  unfold zfu zdL
  rw [k2]
  by_cases hc : gI (zcZ a b c d e f) k = true
  ·by_cases h2 : (gI b k).2.2.2.1 = 2
   ·by_cases h3 : (gI b k).2.2.2.2.1 = c'
    ·rw [if_pos ⟨hc,h2,h3⟩,if_pos (by simp [h2,h3])]
    ·rw [if_neg (fun h => h3 h.2.2),if_neg (by simp [h3])]
   ·rw [if_neg (fun h => h2 h.2.1),if_neg (by simp [h2])]
  ·rw [if_neg (fun h => hc h.1),hz k k1 (Bool.eq_false_iff.2 hc)]
   split <;> rfl
 have h2 : zcK ((zdx a b).map fun k => if zdL b 1 c' k = true then gI (zcC a b c d e f).2 k else 0) = zcK (((zdx a b).filter (zdL b 1 c')).map fun k => gI (zcC a b c d e f).2 k) := by
  rw [← rsum_filter (l := zdx a b) (p := zdL b 1 c') (g := fun k => if zdL b 1 c' k = true then gI (zcC a b c d e f).2 k else 0) (fun k _ h => by rw [if_neg (by rw [h]; decide)])]
  congr 1
  refine List.map_congr_left fun k hk => ?_
  rw [if_pos (List.mem_filter.1 hk).2]
 rw [h1,h2]
 refine rsum_perm (List.Perm.map _ ?_)
 refine (List.perm_ext_iff_of_nodup (H.tkOrd_nodup.sublist List.filter_sublist) ((zfn List.nodup_range).sublist List.filter_sublist)).2 fun k => ?_
 rw [List.mem_filter,List.mem_filter,H.tkOrd_mem,List.mem_map]
 constructor
 ·rintro ⟨⟨h3,h4⟩,h5⟩
  obtain ⟨j,rfl⟩ := Int.eq_ofNat_of_zero_le h3.1
  exact ⟨⟨j,List.mem_range.2 (by omega),rfl⟩,h5⟩
 ·rintro ⟨⟨j,h3,rfl⟩,h5⟩
  refine ⟨⟨by have := List.mem_range.1 h3; omega,?_⟩,h5⟩
  unfold zdL at h5
  rw [Bool.and_eq_true] at h5
  exact h5.1
theorem zcv.worth0 (H : zcv a b c d e f) : gI (zcC a b c d e f).1 0 = ((gI (amV a b c d e f) 0 : Int) : Rat) := by
 have hc := H.coins
 rw [H.worth.1 0 (by omega),if_pos rfl]
 have : (zdx a b).map (fun k => zfu b (zcZ a b c d e f) 0 k (gI (zcC a b c d e f).2 k)) = (zdx a b).map fun _ => (0 : Rat) := by
  refine List.map_congr_left fun k hk => ?_
  obtain ⟨k1,k2⟩ := H.tkOrd_mem.1 hk
  unfold zfu
  rw [if_neg]
  rintro ⟨_,h2,h3⟩
  rcases (H.tk k1 k2).to with h | h | h
  ·omega
  ·omega
  ·exact h.2.1 h3
 rw [this]
 have : ∀ l : List Int,zcK (l.map fun _ => (0 : Rat)) = 0 := fun l => by
  induction l with
  | nil => rfl
  | cons x l ih => rw [List.map_cons,zcT,ih]; exact Rat.add_zero 0
 rw [this,Rat.add_zero]
end
def nb (b : List Tk) : List Int → Nat → Nat
 | [],n => n
 | k :: l,n => nb b l (if (gI b k).2.2.2.1 = 2 then 2 * n + 29 else n)
theorem nb_le (b : List Tk) : ∀ (l : List Int) (n : Nat),n ≤ nb b l n
 | [],_ => Nat.le_refl _
 | k :: l,n => by
  unfold nb
  have := nb_le b l (if (gI b k).2.2.2.1 = 2 then 2 * n + 29 else n)
  split at this <;> split <;> omega
theorem nb_eq (b : List Tk) : ∀ (l : List Int) (n : Nat),nb b l n + 29 = (n + 29) * 2 ^ (l.filter fun k => (gI b k).2.2.2.1 == 2).length
 | [],_ => by simp [nb]
 | k :: l,n => by
  unfold nb
  rw [nb_eq b l,List.filter_cons]
  by_cases h : (gI b k).2.2.2.1 = 2
  ·rw [if_pos h,if_pos (by simpa using h),List.length_cons,Nat.pow_succ]
   have : 2 * n + 29 + 29 = (n + 29) * 2 := by omega
   rw [this,Nat.mul_assoc,Nat.mul_comm 2]
  ·rw [if_neg h,if_neg (by simpa using h)]
theorem nb_append (b : List Tk) : ∀ (l m : List Int) (n : Nat),nb b (l ++ m) n = nb b m (nb b l n)
 | [],_,_ => rfl
 | k :: l,m,n => by
  show nb b (l ++ m) (if (gI b k).2.2.2.1 = 2 then 2 * n + 29 else n) = nb b m (nb b l (if (gI b k).2.2.2.1 = 2 then 2 * n + 29 else n))
  exact nb_append b l m _
theorem cnt2_eq (b : List Tk) : cnt2 b = (((List.range b.length).map fun (k : Nat) => (k : Int)).filter fun k => (gI b k).2.2.2.1 == 2).length := by
 unfold cnt2
 have : b = ((List.range b.length).map fun (k : Nat) => (k : Int)).map (gI b) := by
  apply List.ext_getElem
  ·simp
  ·intro i h1 h2
   simp only [List.getElem_map,List.getElem_range]
   rw [zcL h1]
 conv => lhs; rw [this,List.filter_map]
 rw [List.length_map]
 rfl
theorem zcv.nb_ord {a : List Bool} {b : List Tk} {c : List Th} {d : List Lk} {e : List Int} {f : Int} (H : zcv a b c d e f) (h8 : cnt2 b ≤ 8) {n : Nat} (hn : n ≤ 71) : nb b (zdx a b) n ≤ 25600 := by
 have h1 := nb_eq b (zdx a b) n
 have h2 : ((zdx a b).filter fun k => (gI b k).2.2.2.1 == 2).length ≤ cnt2 b := by
  rw [cnt2_eq]
  refine List.Nodup.length_le_of_subset (H.tkOrd_nodup.sublist List.filter_sublist) fun k hk => ?_
  obtain ⟨h3,h4⟩ := List.mem_filter.1 hk
  obtain ⟨h5,_⟩ := H.tkOrd_mem.1 h3
  obtain ⟨j,rfl⟩ := Int.eq_ofNat_of_zero_le h5.1
  exact List.mem_filter.2 ⟨List.mem_map.2 ⟨j,List.mem_range.2 (by omega),rfl⟩,h4⟩
 have h3 : 2 ^ ((zdx a b).filter fun k => (gI b k).2.2.2.1 == 2).length ≤ 2 ^ 8 := Nat.pow_le_pow_right (by decide) (Nat.le_trans h2 h8)
 have h4 := Nat.mul_le_mul (show n + 29 ≤ 100 by omega) h3
 omega
structure WB (n : Nat) (x : List Rat × List Rat) : Prop where
 c : ∀ q ∈ x.1,0 ≤ q ∧ sm n q
 k : ∀ q ∈ x.2,0 ≤ q ∧ sm (n + 28) q
theorem mem_sI {α : Type} {xs : List α} {i : Int} {y z : α} (h : z ∈ sI xs i y) : z = y ∨ z ∈ xs := by
 unfold sI at h
 exact (List.mem_or_eq_of_mem_set h).symm
theorem share_sm {a : List Bool} {b : List Tk} {c : List Th} {d : List Lk} {e : List Int} {f : Int} (H : zcv a b c d e f) {k : Int} (hk : 0 ≤ k ∧ k < (b.length : Int)) (h : gI (zcZ a b c d e f) k = true) :
  0 ≤ zdT b (amV a b c d e f) k ∧ sm 28 (zdT b (amV a b c d e f) k) ∧ (gI (amV a b c d e f) (gI b k).2.1).toNat ≠ 0 := by
 have hu := H.cnt_used hk h
 have ht := H.tk hk hu
 have hw := H.awake hk h
 have hb := H.am_bound (zdH ht.coin)
 have ha := ht.amt
 have hd : (gI (amV a b c d e f) (gI b k).2.1).toNat ≠ 0 := by omega
 unfold zdT
 obtain ⟨m,hm⟩ := Int.eq_ofNat_of_zero_le (show 0 ≤ (gI b k).2.2.1 by omega)
 rw [hm]
 exact ⟨zfh _ _,zfX hd (by omega) (by omega),hd⟩
theorem wb_step {a : List Bool} {b : List Tk} {c : List Th} {d : List Lk} {e : List Int} {f : Int} (H : zcv a b c d e f) {k : Int} (hk : 0 ≤ k ∧ k < (b.length : Int)) (hu : (gI b k).1 = true) {n : Nat} {x : List Rat × List Rat} (hx : x.1.length = a.length) (W : WB n x) :
  WB (if (gI b k).2.2.2.1 = 2 then 2 * n + 29 else n) (zdu b (zcZ a b c d e f) (amV a b c d e f) x k) := by
 have W' : WB (if (gI b k).2.2.2.1 = 2 then 2 * n + 29 else n) x := by
  split
  ·exact ⟨fun q hq => ⟨(W.c q hq).1,zeR (by omega) (W.c q hq).2⟩,fun q hq => ⟨(W.k q hq).1,zeR (by omega) (W.k q hq).2⟩⟩
  ·exact W
 unfold zdu
 by_cases hc : gI (zcZ a b c d e f) k = true
 ·rw [if_pos hc]
  obtain ⟨s1,s2,_⟩ := share_sm H hk hc
  have ht := H.tk hk hu
  have hcm := W.c _ (zge (xs := x.1) (k := (gI b k).2.1) (by rw [hx]; exact zdH ht.coin))
  have v0 := Rat.mul_nonneg s1 hcm.1
  have v1 := sm_mul s1 hcm.1 s2 hcm.2
  refine ⟨fun q hq => ?_,fun q hq => ?_⟩
  ·simp only at hq
   split at hq
   ·rename_i h2
    rw [if_pos h2]
    have h4 : usC a (gI b k).2.2.2.2.1 = true := by
     rcases ht.to with h | h | h
     ·omega
     ·omega
     ·exact h.2.2
    have hct := W.c _ (zge (xs := x.1) (k := (gI b k).2.2.2.2.1) (by rw [hx]; exact zdH h4))
    rcases mem_sI hq with rfl | hq
    ·exact ⟨Rat.add_nonneg hct.1 v0,zeR (by omega) (sm_add hct.1 v0 hct.2 v1)⟩
    ·exact ⟨(W.c q hq).1,zeR (by omega) (W.c q hq).2⟩
   ·exact W'.c q hq
  ·rcases mem_sI hq with rfl | hq
   ·refine ⟨v0,zeR ?_ v1⟩
    split <;> omega
   ·exact W'.k q hq
 ·rw [if_neg hc]; exact W'
theorem wb_fold {a : List Bool} {b : List Tk} {c : List Th} {d : List Lk} {e : List Int} {f : Int} (H : zcv a b c d e f) : ∀ (l : List Int) (n : Nat) (x : List Rat × List Rat),(∀ k ∈ l,(0 ≤ k ∧ k < (b.length : Int)) ∧ (gI b k).1 = true) → x.1.length = a.length → WB n x →
  WB (nb b l n) (l.foldl (zdu b (zcZ a b c d e f) (amV a b c d e f)) x)
 | [],_,_,_,_,W => W
 | k :: l,n,x,hl,hx,W => by
  obtain ⟨k1,k2⟩ := hl k (List.mem_cons_self ..)
  exact wb_fold H l _ _ (fun j hj => hl j (List.mem_cons_of_mem _ hj)) ((wStep_len ..).1.trans hx) (wb_step H k1 k2 hx W)
theorem zhz (n : Nat) (h : 1 ≤ n) : sm n 0 := by
 have : 2 ^ 1 ≤ 2 ^ n := Nat.pow_le_pow_right (by decide) h
 exact ⟨by simp; omega,by simp; omega⟩
theorem sm_int {m : Int} (h : 0 ≤ m ∧ m < 268435456) : 0 ≤ (m : Rat) ∧ sm 28 (m : Rat) := by
 obtain ⟨j,rfl⟩ := Int.eq_ofNat_of_zero_le h.1
 refine ⟨?_,?_,?_⟩
 ·rw [← Rat.num_nonneg]
  simp
 ·simp; omega
 ·simp
theorem zcv.wb0 {a : List Bool} {b : List Tk} {c : List Th} {d : List Lk} {e : List Int} {f : Int} (H : zcv a b c d e f) : WB 71 (w0 a b (amV a b c d e f)) := by
 have hc := H.coins
 have hb := H.am_bound (x := 0) (by omega)
 obtain ⟨h1,h2⟩ := sm_int (m := gI (amV a b c d e f) 0) (by omega)
 refine ⟨fun q hq => ?_,fun q hq => ?_⟩
 ·rcases mem_sI hq with rfl | hq
  ·exact ⟨h1,zeR (by decide) h2⟩
  ·rw [(List.mem_replicate.1 hq).2]
   exact ⟨by decide,zhz _ (by decide)⟩
 ·rw [(List.mem_replicate.1 hq).2]
  exact ⟨by decide,zhz _ (by decide)⟩
theorem zcv.wb {a : List Bool} {b : List Tk} {c : List Th} {d : List Lk} {e : List Int} {f : Int} (H : zcv a b c d e f) (h8 : cnt2 b ≤ 8) : WB 25600 (zcC a b c d e f) := by
 have h := wb_fold H (zdx a b) 71 (w0 a b (amV a b c d e f)) (fun k hk => H.tkOrd_mem.1 hk) w0_len.1 H.wb0
 have hn := H.nb_ord h8 (n := 71) (by decide)
 exact ⟨fun q hq => ⟨(h.c q hq).1,zeR hn (h.c q hq).2⟩,fun q hq => ⟨(h.k q hq).1,zeR (by omega) (h.k q hq).2⟩⟩
end Go.Proofs.YtlfdidaeachpoaaGreat
namespace Go.Proofs.YtlfdidaeachpoaaGreat
open Go Go.RowKit
set_option maxRecDepth 100000
noncomputable section
theorem pe {α β : Type} (p : α × β) : (p.1,p.2) = p := rfl
theorem zek {α β : Type} [Inhabited α] [Inhabited β] (g : α → β) {xs : List α} {i : Int} (h : 0 ≤ i ∧ i < (xs.length : Int)) : gI (xs.map g) i = g (gI xs i) := by
 obtain ⟨j,rfl⟩ := Int.eq_ofNat_of_zero_le h.1
 have hj : j < xs.length := by omega
 rw [zcL (by simpa using hj),zcL hj,List.getElem_map]
theorem sI_map {α β : Type} (g : α → β) (xs : List α) (i : Int) (y : α) : sI (xs.map g) i (g y) = (sI xs i y).map g := by
 unfold sI; rw [List.map_set]
theorem rep_set {α : Type} (i n : Nat) (z z0 : α) : (List.replicate i z ++ List.replicate (n + 1) z0).set i z = List.replicate (i + 1) z ++ List.replicate n z0 := by
 rw [List.set_append,if_neg (by simp),List.length_replicate,Nat.sub_self,List.replicate_succ,List.set_cons_zero,List.replicate_succ',List.append_assoc]
 rfl
theorem zero_a (m : Nat) (hm : m ≤ 1000000) : ∀ (n i : Nat),i + n = m → lo zg_b122 (m : Int) ((i : Int),List.replicate i (rq 0) ++ List.replicate n ([],[])) = some (List.replicate m (rq 0))
 | 0,i,h => by
  rw [zcr,zg_b122]
  simp only [RT.run]
  rw [if_neg (by simp; omega),show i = m by omega]
  simp
 | n + 1,i,h => by
  rw [zcr,zg_b122]
  simp only [RT.run]
  rw [if_pos (by simp; omega),if_pos (zcn.2 ⟨by omega,by simp; omega⟩),zcm (by omega),show (i : Int) + 1 = ((i + 1 : Nat) : Int) by omega,← rq_zero,sI,Int.toNat_natCast,rep_set,zero_a m hm n (i + 1) (by omega)]
theorem zero_b (m : Nat) (hm : m ≤ 1000000) : ∀ (n i : Nat),i + n = m → lo zg_b250 (m : Int) ((i : Int),List.replicate i (rq 0) ++ List.replicate n ([],[])) = some (List.replicate m (rq 0))
 | 0,i,h => by
  rw [zcr,zg_b250]
  simp only [RT.run]
  rw [if_neg (by simp; omega),show i = m by omega]
  simp
 | n + 1,i,h => by
  rw [zcr,zg_b250]
  simp only [RT.run]
  rw [if_pos (by simp; omega),if_pos (zcn.2 ⟨by omega,by simp; omega⟩),zcm (by omega),show (i : Int) + 1 = ((i + 1 : Nat) : Int) by omega,← rq_zero,sI,Int.toNat_natCast,rep_set,zero_b m hm n (i + 1) (by omega)]
theorem rq_len {q : Rat} {n : Nat} (h : sm n q) : (rq q).1.length ≤ n ∧ (rq q).2.length ≤ n := ⟨zfC (by decide) h.1,zfC (by decide) h.2⟩
theorem okS2 {p q : Rat} {n m : Nat} (hp : sm n p) (hq : sm m q) (hn : n ≤ 4000000) (hm : m ≤ 4000000) : okS [rq p,rq q] = true := by
 obtain ⟨p1,p2⟩ := rq_len hp
 obtain ⟨q1,q2⟩ := rq_len hq
 rw [okS_iff]
 refine ⟨by simp,fun x hx => ?_,by simp [szS]; omega⟩
 simp only [List.mem_cons,List.not_mem_nil,or_false] at hx
 rcases hx with rfl | rfl
 ·exact okr_rq hp (by omega)
 ·exact okr_rq hq (by omega)
theorem prodQ2 {p q : Rat} (hp : 0 ≤ p) (hq : 0 ≤ q) : prodQ [rq p,rq q] = p * q := by
 simp only [prodQ,List.foldl_cons,List.foldl_nil,zgw hp,zgw hq,Rat.one_mul]
theorem sumQ2 {p q : Rat} (hp : 0 ≤ p) (hq : 0 ≤ q) : sumQ [rq p,rq q] = p + q := by
 simp only [sumQ,List.foldl_cons,List.foldl_nil,zgw hp,zgw hq,Rat.zero_add]
theorem mkR_rq {n d : Nat} (hd : d ≠ 0) : mkR n d = (true,rq (mkRat (n : Int) d)) := by unfold mkR; rw [if_neg hd]
section
variable {a : List Bool} {b : List Tk} {c : List Th} {d : List Lk} {e : List Int} {f : Int}
theorem w_inner (H : zcv a b c d e f) {x0 : Int} (hx0 : usC a x0 = true) : ∀ (m i n : Nat) (x : List Rat × List Rat),i + m = (zcI b x0).length → x.1.length = a.length → x.2.length = b.length → WB n x → nb b ((zcI b x0).drop i) n ≤ 25600 →
  lo zhP (x0,((zcI b x0).length : Int),b,zcZ a b c d e f,amV a b c d e f,zcI b x0) ((i : Int),x.1.map rq,x.2.map rq) =
   some ((((zcI b x0).drop i).foldl (zdu b (zcZ a b c d e f) (amV a b c d e f)) x).1.map rq,(((zcI b x0).drop i).foldl (zdu b (zcZ a b c d e f) (amV a b c d e f)) x).2.map rq)
 | 0,i,n,x,h,_,_,_,_ => by
  rw [zcr,zhP]
  simp only [RT.run]
  rw [if_neg (by simp; omega),List.drop_eq_nil_of_le (by omega)]
  rfl
 | m + 1,i,n,x,h,h1,h2,W,hb => by
  have hlb := H.lenB
  have hil := ziW b x0
  have hi : i < (zcI b x0).length := by omega
  obtain ⟨k1,k2,k3⟩ := zdj.1 (List.getElem_mem hi)
  have hgk : gI (zcI b x0) (i : Int) = (zcI b x0)[i] := zcL hi
  rw [List.drop_eq_getElem_cons hi] at hb
  rw [List.drop_eq_getElem_cons hi,List.foldl_cons]
  generalize (zcI b x0)[i] = k at *
  obtain ⟨l1,l2⟩ := H.len
  have ht := H.tk k1 k2
  have hcn : inB (zcZ a b c d e f) k = true := zcn.2 (by rw [l1]; exact k1)
  have hxc := zdH hx0
  have ham : inB (amV a b c d e f) x0 = true := zcn.2 (by rw [l2]; exact hxc)
  have hb' := nb_le b ((zcI b x0).drop (i + 1)) (if (gI b k).2.2.2.1 = 2 then 2 * n + 29 else n)
  have hb2 : nb b ((zcI b x0).drop (i + 1)) (if (gI b k).2.2.2.1 = 2 then 2 * n + 29 else n) ≤ 25600 := hb
  have hn : n ≤ 25600 := by
   split at hb' <;> split at hb2 <;> omega
  obtain ⟨s1,s2⟩ := wStep_len b (zcZ a b c d e f) (amV a b c d e f) x k
  have ih := w_inner H hx0 m (i + 1) _ (zdu b (zcZ a b c d e f) (amV a b c d e f) x k) (by omega) (s1.trans h1) (s2.trans h2) (wb_step H k1 k2 h1 W) hb
  rw [zcr,zhP]
  simp only [RT.run,hgk]
  rw [if_pos (by simp; omega),if_pos (zcn.2 ⟨by omega,by omega⟩),if_pos hcn,zcm (by omega),show (i : Int) + 1 = ((i + 1 : Nat) : Int) by omega]
  cases hc : gI (zcZ a b c d e f) k with
  | false =>
   rw [if_pos (by decide)]
   have hw : zdu b (zcZ a b c d e f) (amV a b c d e f) x k = x := by unfold zdu; rw [if_neg (by rw [hc]; decide)]
   rw [hw] at ih
   rw [hw,ih]
  | true =>
   obtain ⟨v0,v1,v2⟩ := share_sm H k1 hc
   rw [k3] at v2
   have hcx := W.c _ (zge (xs := x.1) (k := x0) (by rw [h1]; exact hxc))
   have hamt := ht.amt
   have hab := H.am_bound hxc
   have e1 : mkR (zcx (gI b k).2.2.1).toNat (zcx (gI (amV a b c d e f) x0)).toNat = (true,rq (zdT b (amV a b c d e f) k)) := by
    rw [zcD (by omega),zcD (by omega),mkR_rq v2]
    unfold zdT
    rw [k3,Int.toNat_of_nonneg (by omega)]
   have e2 : gI (x.1.map rq) x0 = rq (gI x.1 x0) := zek rq (by rw [h1]; exact hxc)
   have in1 : inB (x.1.map rq) x0 = true := zcn.2 (by simp only [List.length_map]; rw [h1]; exact hxc)
   have in2 : inB (x.2.map rq) k = true := zcn.2 (by simp only [List.length_map]; rw [h2]; exact k1)
   have vv0 := Rat.mul_nonneg v0 hcx.1
   have vv1 := sm_mul v0 hcx.1 v1 hcx.2
   rw [if_neg (by decide),if_pos (zcn.2 k1),if_pos ham,if_pos in1]
   simp only [e1,e2,pe]
   rw [okS2 v1 hcx.2 (by omega) (by omega),prodQ2 v0 hcx.1,if_pos rfl,if_pos in2,sI_map]
   have hw : zdu b (zcZ a b c d e f) (amV a b c d e f) x k = (if (gI b k).2.2.2.1 = 2 then sI x.1 (gI b k).2.2.2.2.1 (gI x.1 (gI b k).2.2.2.2.1 + zdT b (amV a b c d e f) k * gI x.1 x0) else x.1,sI x.2 k (zdT b (amV a b c d e f) k * gI x.1 x0)) := by
    unfold zdu
    rw [if_pos hc,k3]
   by_cases h2k : (gI b k).2.2.2.1 = 2
   ·have h4 : usC a (gI b k).2.2.2.2.1 = true := by
     rcases ht.to with h | h | h
     ·omega
     ·omega
     ·exact h.2.2
    have hto := zdH h4
    have in3 : inB (x.1.map rq) (gI b k).2.2.2.2.1 = true := zcn.2 (by simp only [List.length_map]; rw [h1]; exact hto)
    have in4 : inB ((sI x.2 k (zdT b (amV a b c d e f) k * gI x.1 x0)).map rq) k = true := zcn.2 (by simp only [List.length_map,sI_len]; rw [h2]; exact k1)
    have e3 : gI (x.1.map rq) (gI b k).2.2.2.2.1 = rq (gI x.1 (gI b k).2.2.2.2.1) := zek rq (by rw [h1]; exact hto)
    have e4 : gI ((sI x.2 k (zdT b (amV a b c d e f) k * gI x.1 x0)).map rq) k = rq (zdT b (amV a b c d e f) k * gI x.1 x0) := by
     rw [zek rq (by rw [sI_len,h2]; exact k1),zhb (by rw [h2]; exact k1) k1.1,if_pos rfl]
    have hct := W.c _ (zge (xs := x.1) (k := (gI b k).2.2.2.2.1) (by rw [h1]; exact hto))
    rw [if_pos (by simpa using h2k),if_pos in3,if_pos in4]
    simp only [e3,e4,pe]
    rw [okS2 hct.2 vv1 (by omega) (by omega),sumQ2 hct.1 vv0,if_pos rfl,if_pos in3,sI_map]
    rw [hw,if_pos h2k] at ih
    rw [hw,if_pos h2k]
    exact ih
   ·rw [if_neg (by simpa using h2k)]
    rw [hw,if_neg h2k] at ih
    rw [hw,if_neg h2k]
    exact ih
theorem w_outer (H : zcv a b c d e f) : ∀ (m i n : Nat) (x : List Rat × List Rat),i + m = (zcG a b).length → x.1.length = a.length → x.2.length = b.length → WB n x → nb b (((zcG a b).drop i).flatMap (zcI b)) n ≤ 25600 →
  lo zic (zcG a b,((zcG a b).length : Int),a,b,c,d,e,f,zcZ a b c d e f,amV a b c d e f) ((i : Int),x.1.map rq,x.2.map rq) =
   some (((((zcG a b).drop i).flatMap (zcI b)).foldl (zdu b (zcZ a b c d e f) (amV a b c d e f)) x).1.map rq,((((zcG a b).drop i).flatMap (zcI b)).foldl (zdu b (zcZ a b c d e f) (amV a b c d e f)) x).2.map rq)
 | 0,i,n,x,h,_,_,_,_ => by
  rw [zcr,zic]
  simp only [RT.run]
  rw [if_neg (by simp; omega),List.drop_eq_nil_of_le (by omega)]
  rfl
 | m + 1,i,n,x,h,h1,h2,W,hb => by
  have hlb := H.lenB
  have hi : i < (zcG a b).length := by omega
  have hol : (zcG a b).length ≤ 16 := by
   have := kahn_len a.length (zdg b)
   have h3 : (zcG a b).length ≤ (zdD a.length (zdg b)).2.length := List.length_filter_le ..
   have := H.coins
   omega
  have hus := H.ord_mem.1 (List.getElem_mem hi)
  have hgk : gI (zcG a b) (i : Int) = (zcG a b)[i] := zcL hi
  rw [List.drop_eq_getElem_cons hi,List.flatMap_cons,nb_append] at hb
  rw [List.drop_eq_getElem_cons hi,List.flatMap_cons,List.foldl_append]
  generalize (zcG a b)[i] = x0 at *
  obtain ⟨s1,s2⟩ := wFold_len (b := b) (cnt := zcZ a b c d e f) (am := amV a b c d e f) (zcI b x0) x
  have hin := w_inner H hus (zcI b x0).length 0 n x (by omega) h1 h2 W (by rw [List.drop_zero]; exact Nat.le_trans (nb_le b _ _) hb)
  rw [List.drop_zero,show ((0 : Nat) : Int) = 0 from rfl] at hin
  have ih := w_outer H m (i + 1) _ _ (by omega) (s1.trans h1) (s2.trans h2) (wb_fold H (zcI b x0) n x (fun k hk => by
   obtain ⟨k1,k2,_⟩ := zdj.1 hk
   exact ⟨k1,k2⟩) h1 W) hb
  rw [zcr,zic]
  simp only [RT.run,hgk]
  rw [if_pos (by simp; omega),if_pos (zcn.2 ⟨by omega,by omega⟩),if_pos (decide_eq_true (by omega)),hin,Option.bind_some,zcm (by omega),show (i : Int) + 1 = ((i + 1 : Nat) : Int) by omega]
  exact ih
end
def wOK (a : List Bool) (b : List Tk) (c : List Th) (d : List Lk) (e : List Int) (f : Int) : Bool := zfp a b c d e f && decide (cnt2 b ≤ 8)
theorem zdc {a : List Bool} {b : List Tk} {c : List Th} {d : List Lk} {e : List Int} {f : Int} (h : wOK a b c d e f = true) : zcv a b c d e f ∧ cnt2 b ≤ 8 := by
 unfold wOK at h
 rw [Bool.and_eq_true,decide_eq_true_eq] at h
 exact ⟨fine0 h.1,h.2⟩
def e_zg : zcq := io_zg.sp (fun (a,b,c,d,e,f) => (wOK a b c d e f)) (fun (a,b,c,d,e,f) => ((zcC a b c d e f).1.map rq,(zcC a b c d e f).2.map rq))
theorem sp_zg (h : ∀ (a : List Bool) (b : List Tk) (c : List Th) (d : List Lk) (e : List Int) (f : Int),WfT [.sl tB,.sl yK,.sl yH,.sl yL,.sl tI,tI] (a,b,c,d,e,f) → ((wOK a b c d e f)) = true → (zg (a,b,c,d,e,f)).run (fun _ => none) = some ((zcC a b c d e f).1.map rq,(zcC a b c d e f).2.map rq)) : e_zg.ok pg := zcw ok_zg fun (a,b,c,d,e,f) hw hc => h a b c d e f hw hc
theorem e_zg_ok : e_zg.ok pg := sp_zg fun a b c d e f _ hc => by
 obtain ⟨H,h8⟩ := zdc hc
 have hlb := H.lenB
 have hca := H.coins
 obtain ⟨l1,l2⟩ := H.len
 have za := zero_a a.length (by omega) a.length 0 (by omega)
 have zb := zero_b b.length (by omega) b.length 0 (by omega)
 rw [List.replicate_zero,List.nil_append,show ((0 : Nat) : Int) = 0 from rfl] at za zb
 have ab := H.am_bound (x := 0) (by omega)
 rw [zg]
 simp only [RT.run]
 have hra : ∀ n : Nat,(zdd (n : Int) (([] : List Int),([] : List Int))) = List.replicate n ([],[]) := fun n => by unfold zdd; rw [Int.toNat_natCast]
 rw [if_pos H.reckOK,if_pos H.reckOK,if_pos (zdF.2 ⟨by omega,by omega,by omega⟩),if_pos (zdF.2 ⟨by omega,by omega,by omega⟩),hra,hra,List.length_replicate,List.length_replicate,za,Option.bind_some,zb,Option.bind_some]
 show (if inB (amV a b c d e f) 0 = true then _ else none) = _
 have e1 : mkR (zcx (gI (zfb (a,b,c,d,e,f)).2 0)).toNat (1 : Int).toNat = (true,rq ((gI (amV a b c d e f) 0 : Int) : Rat)) := by
  show mkR (zcx (gI (amV a b c d e f) 0)).toNat (1 : Int).toNat = _
  rw [zcD (by omega),mkR_rq (by decide),show (1 : Int).toNat = 1 from rfl,Rat.mkRat_one,Int.toNat_of_nonneg ab.1]
 rw [if_pos (zcn.2 (by rw [l2]; omega)),if_pos (zcn.2 (by simp; omega)),if_pos (by rw [decide_eq_true (show b.length ≤ 1000000 by omega),decide_eq_true (show a.length ≤ 4096 by omega)]; rfl)]
 have hw := w_outer H (zcG a b).length 0 71 (w0 a b (amV a b c d e f)) (by omega) w0_len.1 w0_len.2 H.wb0 (by rw [List.drop_zero]; exact H.nb_ord h8 (by decide))
 rw [List.drop_zero,show ((0 : Nat) : Int) = 0 from rfl] at hw
 have hs : sI (List.replicate a.length (rq 0)) 0 (rq ((gI (amV a b c d e f) 0 : Int) : Rat)) = (w0 a b (amV a b c d e f)).1.map rq := by
  show _ = (sI (List.replicate a.length 0) 0 ((gI (amV a b c d e f) 0 : Int) : Rat)).map rq
  rw [← sI_map,List.map_replicate]
 have hk : List.replicate b.length (rq 0) = (w0 a b (amV a b c d e f)).2.map rq := by
  show _ = (List.replicate b.length 0).map rq
  rw [List.map_replicate]
 rw [e1]
 simp only [pe]
 rw [hs,hk]
 have hw' : lo zic (zcG a b,((zcG a b).length : Int),a,b,c,d,e,f,(zfb (a,b,c,d,e,f)).1,(zfb (a,b,c,d,e,f)).2) (0,(w0 a b (amV a b c d e f)).1.map rq,(w0 a b (amV a b c d e f)).2.map rq) = _ := hw
 rw [hw']
 rfl
def worth_Coins : ((List Bool) × (List Tk) × (List Th) × (List Lk) × (List Int) × Int) → RT Unit (List ((List Int) × List Int))
| (s_0,s_1,s_2,s_3,s_4,s_5) =>
 .rq 3 (.req ((wOK s_0 s_1 s_2 s_3 s_4 s_5)) (.rq 7 (.done ((zcC s_0 s_1 s_2 s_3 s_4 s_5).1.map rq))))
def zao : ((List Bool) × (List Tk) × (List Th) × (List Lk) × (List Int) × Int) → RT Unit (List ((List Int) × List Int))
| (s_0,s_1,s_2,s_3,s_4,s_5) =>
 .rq 3 (.req ((wOK s_0 s_1 s_2 s_3 s_4 s_5)) (.rq 7 (.done ((zcC s_0 s_1 s_2 s_3 s_4 s_5).2.map rq))))
def F_zao (x : (List Bool) × (List Tk) × (List Th) × (List Lk) × (List Int) × Int) : Option (List ((List Int) × List Int)) := (zao x).run fun _ => none
def io_zao : Io := ⟨n_zao,[.sl tB,.sl yK,.sl yH,.sl yL,.sl tI,tI],[.agg [qm 0,qm 1,qm 2,qm 3,qm 4,qm 5]],[],[[.sl tB,.sl yK,.sl yH,.sl yL,.sl tI,tI]],[.sl (.pair (.sl tV) (.sl tV))],.lf (qr 0),[],[(true,.arr 41 (qm 0))],true⟩
def zao_P : List zch := []
def zao_T : zcl := tab [e_zg]
theorem zao_To : zck pg zao_T := zci ⟨e_zg_ok,trivial⟩
theorem zao_go : zcy pg (zao_T) io_zao f_zao (zao_P) [.nilRow 2 800002 41 (.pair (.sl tV) (.sl tV)),.ren 2 700002,.ren 2 900002] (zao) := ⟨by kernel_rfl,by kernel_rfl,fun x => by kernel_rfl⟩
theorem ok_zao : io_zao.Okay pg (F_zao) := zcu zcj (zao_To) (zao_go) trivial
def e_zao : zcq := io_zao.sp (fun (a,b,c,d,e,f) => (wOK a b c d e f)) (fun (a,b,c,d,e,f) => ((zcC a b c d e f).2.map rq))
theorem sp_zao (h : ∀ (a : List Bool) (b : List Tk) (c : List Th) (d : List Lk) (e : List Int) (f : Int),WfT [.sl tB,.sl yK,.sl yH,.sl yL,.sl tI,tI] (a,b,c,d,e,f) → ((wOK a b c d e f)) = true → (zao (a,b,c,d,e,f)).run (fun _ => none) = some ((zcC a b c d e f).2.map rq)) : e_zao.ok pg := zcw ok_zao fun (a,b,c,d,e,f) hw hc => h a b c d e f hw hc
theorem e_zao_ok : e_zao.ok pg := sp_zao fun a b c d e f _ hc => by
 rw [zao]
 simp only [RT.run]
 rw [if_pos hc]
def zq_b122 : Int → (Int × (List ((List Int) × List Int))) → RT (Int × (List ((List Int) × List Int))) (List ((List Int) × List Int))
| x15,(x16,r4) =>
 .rq 1 (.ite (decide (x16 < x15))
 (.rq 5 (.req (inB r4 x16) (.rq 3 (.again (w64 (x16 + 1),sI r4 x16 ([],zcg B32 1))))))
 (.done r4))
def zq_p122 : zch := ⟨122,true,[tI,.sl tB,.sl yK,.sl yH,.sl yL,.sl tI,tI,.sl (.pair (.sl tV) (.sl tV))],[tI,.sl (.pair (.sl tV) (.sl tV))],⟨[.keep [1,3,4,15,16],.gc,.nilRow 3 800003 41 (.pair (.sl tV) (.sl tV)),.nilRow 4 800004 41 (.pair (.sl tV) (.sl tV)),.ren 3 700003,.ren 4 700004,.ren 3 900003,.ren 4 900004,.gc],[1,3,4,15,16],[.lf (qp 16),.lf (qr 900003),.lf (qr 900004),.lf (qi 0),.lf (qm 0)],[(16,true,.cells [qi 1,qi 2,qi 3,qi 4,qi 5,qi 6]),(900003,true,.arr 41 (qi 7)),(900004,true,.arr 41 (qm 1))]⟩,[⟨2,⟨[.keep [1,3,4],.gc,.nilRow 3 800003 41 (.pair (.sl tV) (.sl tV)),.nilRow 4 800004 41 (.pair (.sl tV) (.sl tV)),.ren 3 700003,.ren 4 700004,.ren 3 900003,.ren 4 900004,.gc],[1,3,4],[.lf (qp 16),.lf (qr 900003),.lf (qr 900004)],[(16,true,.cells [qi 1,qi 2,qi 3,qi 4,qi 5,qi 6]),(900003,true,.arr 41 (qi 7)),(900004,true,.arr 41 (qm 0))]⟩,[.sl (.pair (.sl tV) (.sl tV))]⟩],(fun i => zq_b122 i.1)⟩
def zq_b250 : ((List Tk) × Int × (List ((List Int) × List Int))) → (Int × (List ((List Int) × List Int))) → RT (Int × (List ((List Int) × List Int))) (List ((List Int) × List Int))
| (x25,x26,r3),(x27,r4) =>
 .rq 1 (.ite (decide (x27 < x26))
 (.rq 1 (.req (inB x25 x27) (.rq 11 (let t0 := w64 (x27 + 1);
 .ite ((gI x25 x27).1 && ((gI x25 x27).2.2.2.1 == 1))
 (.rq 6 (let t1 := inB r4 (gI x25 x27).2.2.2.2.1;
 .req t1 (.rq 3 (.req (inB r3 x27) (.rq 2 (let t2 := gI r4 (gI x25 x27).2.2.2.2.1;
 let t3 := [(t2.1,t2.2),((gI r3 x27).1,(gI r3 x27).2)];
 .req (okS t3) (.req t1 (.rq 3 (let t4 := rq (sumQ t3);
 .again (t0,sI r4 (gI x25 x27).2.2.2.2.1 (t4.1,t4.2)))))))))))
 (.rq 2 (.again (t0,r4)))))))
 (.done r4))
def zq_p250 : zch := ⟨250,true,[.sl yK,tI,.sl (.pair (.sl tV) (.sl tV))],[tI,.sl (.pair (.sl tV) (.sl tV))],⟨[.keep [3,4,25,26,27],.gc,.nilRow 3 800003 41 (.pair (.sl tV) (.sl tV)),.nilRow 4 800004 41 (.pair (.sl tV) (.sl tV)),.ren 3 700003,.ren 4 700004,.ren 3 900003,.ren 4 900004,.gc],[3,4,25,26,27],[.lf (qr 900003),.lf (qr 900004),.lf (qi 0),.lf (qi 1),.lf (qm 0)],[(900003,true,.arr 41 (qi 2)),(900004,true,.arr 41 (qm 1))]⟩,[⟨4,⟨[.keep [4],.gc,.nilRow 4 800004 41 (.pair (.sl tV) (.sl tV)),.ren 4 700004,.ren 4 900004,.gc],[4],[.lf (qr 900004)],[(900004,true,.arr 41 (qm 0))]⟩,[.sl (.pair (.sl tV) (.sl tV))]⟩],zq_b250⟩
def zq : ((List Bool) × (List Tk) × (List Th) × (List Lk) × (List Int) × Int) → RT Unit (List ((List Int) × List Int))
| (s_0,s_1,s_2,s_3,s_4,s_5) =>
 .rq 3 (.req ((wOK s_0 s_1 s_2 s_3 s_4 s_5)) (.rq 4 (.req (mkOK 48 (s_2.length : Int)) (.rq 4 (let t0 := zdd (s_2.length : Int) ([],[]);
 .call (lo zq_b122 (t0.length : Int) (0,t0)) default fun v0 =>
 .rq 4 (.call (lo zq_b250 (s_1,(s_1.length : Int),((zcC s_0 s_1 s_2 s_3 s_4 s_5).2.map rq)) (0,v0)) default fun v1 =>
 .rq 2 (.done v1)))))))
def F_zq (x : (List Bool) × (List Tk) × (List Th) × (List Lk) × (List Int) × Int) : Option (List ((List Int) × List Int)) := (zq x).run fun _ => none
def io_zq : Io := ⟨n_zq,[.sl tB,.sl yK,.sl yH,.sl yL,.sl tI,tI],[.agg [qm 0,qm 1,qm 2,qm 3,qm 4,qm 5]],[],[[.sl tB,.sl yK,.sl yH,.sl yL,.sl tI,tI]],[.sl (.pair (.sl tV) (.sl tV))],.lf (qr 0),[],[(true,.arr 41 (qm 0))],true⟩
def zq_P : List zch := [zq_p122,zq_p250]
def zq_T : zcl := tab [e_zao,e_zX,e_zag]
theorem zq_To : zck pg zq_T := zci ⟨e_zao_ok,e_zX_ok,zgp,trivial⟩
theorem zq_k122 : (zq_p122).OK pg (zq_T) (zcB 56 (zq_P)) (zcs f_zq) 56 := ⟨by kernel_rfl,fun i x => by kernel_rfl⟩
theorem zq_k250 : (zq_p250).OK pg (zq_T) (zcB 56 (zq_P)) (zcs f_zq) 56 := ⟨by kernel_rfl,fun i x => by kernel_rfl⟩
theorem zq_go : zcy pg (zq_T) io_zq f_zq (zq_P) [.nilRow 2 800002 41 (.pair (.sl tV) (.sl tV)),.ren 2 700002,.ren 2 900002] (zq) := ⟨by kernel_rfl,by kernel_rfl,fun x => by kernel_rfl⟩
theorem ok_zq : io_zq.Okay pg (F_zq) := zcu zcj (zq_To) (zq_go) ⟨zq_k122,zq_k250,trivial⟩
theorem rsum_sm {l : List Rat} {n : Nat} (h : ∀ x ∈ l,0 ≤ x ∧ sm n x) : 0 ≤ zcK l ∧ sm ((n + 1) * l.length + 1) (zcK l) := by
 induction l with
 | nil => exact ⟨by decide,zhz _ (by simp)⟩
 | cons x l ih =>
  obtain ⟨h1,h2⟩ := h x (List.mem_cons_self ..)
  obtain ⟨h3,h4⟩ := ih fun y hy => h y (List.mem_cons_of_mem _ hy)
  refine ⟨Rat.add_nonneg h1 h3,zeR ?_ (sm_add h1 h3 h2 h4)⟩
  rw [List.length_cons,Nat.mul_add,Nat.mul_one]
  omega
def zdG (K : List Rat) (p : Int → Bool) (l : List Int) : Rat := zcK ((l.filter p).map (gI K))
def zcO (n : Nat) : List Int := (List.range n).map fun (k : Nat) => (k : Int)
theorem zeF (n : Nat) : (zcO n).length = n := by simp [zcO]
theorem ints_succ (n : Nat) : zcO (n + 1) = zcO n ++ [(n : Int)] := by unfold zcO; rw [List.range_succ,List.map_append]; rfl
theorem zez {n : Nat} {k : Int} : k ∈ zcO n ↔ 0 ≤ k ∧ k < (n : Int) := by
 unfold zcO
 rw [List.mem_map]
 constructor
 ·rintro ⟨j,h,rfl⟩
  have := List.mem_range.1 h
  omega
 ·rintro ⟨h1,h2⟩
  obtain ⟨j,rfl⟩ := Int.eq_ofNat_of_zero_le h1
  exact ⟨j,List.mem_range.2 (by omega),rfl⟩
theorem sumOf_succ (K : List Rat) (p : Int → Bool) (n : Nat) : zdG K p (zcO (n + 1)) = zdG K p (zcO n) + (if p (n : Int) = true then gI K (n : Int) else 0) := by
 unfold zdG
 rw [ints_succ,List.filter_append,List.map_append,zjl]
 congr 1
 rw [List.filter_cons]
 split
 ·rw [List.filter_nil,List.map_cons,zcT]; exact Rat.add_zero _
 ·rfl
theorem sumOf_sm {K : List Rat} {n : Nat} (h : ∀ x ∈ K,0 ≤ x ∧ sm n x) (p : Int → Bool) {l : List Int} (hl : ∀ k ∈ l,0 ≤ k ∧ k < (K.length : Int)) : 0 ≤ zdG K p l ∧ sm ((n + 1) * l.length + 1) (zdG K p l) := by
 obtain ⟨h1,h2⟩ := rsum_sm (l := (l.filter p).map (gI K)) (n := n) fun x hx => by
  obtain ⟨k,hk,rfl⟩ := List.mem_map.1 hx
  exact h _ (zge (hl k (List.mem_filter.1 hk).1))
 refine ⟨h1,zeR ?_ h2⟩
 rw [List.length_map]
 have := List.length_filter_le p l
 have := Nat.mul_le_mul_left (n + 1) this
 omega
def thW (a : List Bool) (b : List Tk) (c : List Th) (d : List Lk) (e : List Int) (f : Int) : List Rat := (zcO c.length).map fun i => zdG (zcC a b c d e f).2 (zdL b 2 i) (zcO b.length)
section
variable {a : List Bool} {b : List Tk} {c : List Th} {d : List Lk} {e : List Int} {f : Int}
def zfO (b : List Tk) (K : List Rat) (n m : Nat) : List Rat := (zcO n).map fun i => zdG K (zdL b 2 i) (zcO m)
theorem zfZ {b : List Tk} {K : List Rat} {n m : Nat} {i : Int} (h : 0 ≤ i ∧ i < (n : Int)) : gI (zfO b K n m) i = zdG K (zdL b 2 i) (zcO m) := by
 unfold zfO
 rw [zek (α := Int) _ (by rw [zeF]; exact h)]
 congr 1
 obtain ⟨j,rfl⟩ := Int.eq_ofNat_of_zero_le h.1
 have hj : j < n := by omega
 rw [zcL (by rw [zeF]; exact hj)]
 simp [zcO]
theorem zeM {b : List Tk} {K : List Rat} {n m : Nat} : (zfO b K n m).length = n := by simp [zfO,zcO]
theorem zgH {x y : List Rat} (hl : x.length = y.length) (h : ∀ i : Int,0 ≤ i ∧ i < (x.length : Int) → gI x i = gI y i) : x = y := by
 refine List.ext_getElem hl fun i h1 h2 => ?_
 have := h (i : Int) (by omega)
 rwa [zcL h1,zcL h2] at this
theorem zero_t (m : Nat) (hm : m ≤ 1000000) : ∀ (n i : Nat),i + n = m → lo zq_b122 (m : Int) ((i : Int),List.replicate i (rq 0) ++ List.replicate n ([],[])) = some (List.replicate m (rq 0))
 | 0,i,h => by
  rw [zcr,zq_b122]
  simp only [RT.run]
  rw [if_neg (by simp; omega),show i = m by omega]
  simp
 | n + 1,i,h => by
  rw [zcr,zq_b122]
  simp only [RT.run]
  rw [if_pos (by simp; omega),if_pos (zcn.2 ⟨by omega,by simp; omega⟩),zcm (by omega),show (i : Int) + 1 = ((i + 1 : Nat) : Int) by omega,← rq_zero,sI,Int.toNat_natCast,rep_set,zero_t m hm n (i + 1) (by omega)]
theorem th_loop (H : zcv a b c d e f) {K : List Rat} (hK : K.length = b.length) (hs : ∀ x ∈ K,0 ≤ x ∧ sm 25628 x) : ∀ (n i : Nat),i + n = b.length →
  lo zq_b250 (b,(b.length : Int),K.map rq) ((i : Int),(zfO b K c.length i).map rq) = some ((zfO b K c.length b.length).map rq)
 | 0,i,h => by
  rw [zcr,zq_b250]
  simp only [RT.run]
  rw [if_neg (by simp; omega),show i = b.length by omega]
 | n + 1,i,h => by
  have hlb := H.lenB
  have hi : 0 ≤ (i : Int) ∧ (i : Int) < (b.length : Int) := by omega
  have ih := th_loop H hK hs n (i + 1) (by omega)
  have sz : ∀ p,0 ≤ zdG K p (zcO i) ∧ sm 2500000 (zdG K p (zcO i)) := fun p => by
   obtain ⟨h1,h2⟩ := sumOf_sm (n := 25628) hs p (l := zcO i) (fun k hk => by have := zez.1 hk; omega)
   exact ⟨h1,zeR (by rw [zeF]; omega) h2⟩
  rw [zcr,zq_b250]
  simp only [RT.run]
  rw [if_pos (by simp; omega),if_pos (zcn.2 hi),zcm (by omega),show (i : Int) + 1 = ((i + 1 : Nat) : Int) by omega]
  have hnx : ∀ j,zdL b 2 j (i : Int) = ((gI b (i : Int)).1 && (((gI b (i : Int)).2.2.2.1 == 1) && ((gI b (i : Int)).2.2.2.2.1 == j))) := fun j => by unfold zdL; simp
  by_cases hc : ((gI b (i : Int)).1 && ((gI b (i : Int)).2.2.2.1 == 1)) = true
  ·rw [if_pos hc]
   rw [Bool.and_eq_true,beq_iff_eq] at hc
   have ht := H.tk hi hc.1
   have hut : usT c (gI b (i : Int)).2.2.2.2.1 = true := by
    rcases ht.to with h | h | h
    ·omega
    ·exact h.2
    ·omega
   have hto := zes hut
   have in1 : inB ((zfO b K c.length i).map rq) (gI b (i : Int)).2.2.2.2.1 = true := zcn.2 (by rw [List.length_map,zeM]; exact hto)
   have in2 : inB (K.map rq) (i : Int) = true := zcn.2 (by rw [List.length_map,hK]; exact hi)
   have e1 : gI ((zfO b K c.length i).map rq) (gI b (i : Int)).2.2.2.2.1 = rq (zdG K (zdL b 2 (gI b (i : Int)).2.2.2.2.1) (zcO i)) := by rw [zek rq (by rw [zeM]; exact hto),zfZ hto]
   have e2 : gI (K.map rq) (i : Int) = rq (gI K (i : Int)) := zek rq (by rw [hK]; exact hi)
   obtain ⟨s1,s2⟩ := sz (zdL b 2 (gI b (i : Int)).2.2.2.2.1)
   obtain ⟨s3,s4⟩ := hs _ (zge (xs := K) (k := (i : Int)) (by rw [hK]; exact hi))
   simp only [e1,e2,pe]
   rw [if_pos in1,if_pos in2,okS2 s2 s4 (by decide) (by decide),sumQ2 s1 s3,if_pos rfl,if_pos in1,sI_map]
   have : sI (zfO b K c.length i) (gI b (i : Int)).2.2.2.2.1 (zdG K (zdL b 2 (gI b (i : Int)).2.2.2.2.1) (zcO i) + gI K (i : Int)) = zfO b K c.length (i + 1) := by
    refine zgH (by rw [sI_len,zeM,zeM]) fun j hj => ?_
    rw [sI_len,zeM] at hj
    rw [zhb (by rw [zeM]; exact hto) hj.1,zfZ hj,zfZ hj,sumOf_succ,hnx j,hc.1,hc.2]
    by_cases hjt : (gI b (i : Int)).2.2.2.2.1 = j
    ·rw [if_pos hjt,hjt]; simp
    ·rw [if_neg hjt,if_neg (by simp [hjt]),Rat.add_zero]
   rw [this]
   exact ih
  ·rw [if_neg hc]
   have : zfO b K c.length i = zfO b K c.length (i + 1) := by
    refine zgH (by rw [zeM,zeM]) fun j hj => ?_
    rw [zeM] at hj
    rw [zfZ hj,zfZ hj,sumOf_succ,hnx j,← Bool.and_assoc,Bool.eq_false_iff.2 hc,Bool.false_and,if_neg (by decide),Rat.add_zero]
   rw [this]
   exact ih
end
def e_zq : zcq := io_zq.sp (fun (a,b,c,d,e,f) => (wOK a b c d e f)) (fun (a,b,c,d,e,f) => ((thW a b c d e f).map rq))
theorem sp_zq (h : ∀ (a : List Bool) (b : List Tk) (c : List Th) (d : List Lk) (e : List Int) (f : Int),WfT [.sl tB,.sl yK,.sl yH,.sl yL,.sl tI,tI] (a,b,c,d,e,f) → ((wOK a b c d e f)) = true → (zq (a,b,c,d,e,f)).run (fun _ => none) = some ((thW a b c d e f).map rq)) : e_zq.ok pg := zcw ok_zq fun (a,b,c,d,e,f) hw hc => h a b c d e f hw hc
theorem e_zq_ok : e_zq.ok pg := sp_zq fun a b c d e f _ hc => by
 obtain ⟨H,h8⟩ := zdc hc
 have hlc := H.lenC
 have W := H.wb h8
 have za := zero_t c.length (by omega) c.length 0 (by omega)
 rw [List.replicate_zero,List.nil_append,show ((0 : Nat) : Int) = 0 from rfl] at za
 have hra : ∀ n : Nat,(zdd (n : Int) (([] : List Int),([] : List Int))) = List.replicate n ([],[]) := fun n => by unfold zdd; rw [Int.toNat_natCast]
 have hl := th_loop H (ziT (a := a) (b := b) (c := c) (d := d) (e := e) (f := f)).2 W.k b.length 0 (by omega)
 rw [zq]
 simp only [RT.run]
 rw [if_pos hc,if_pos (zdF.2 ⟨by omega,by omega,by omega⟩),hra,List.length_replicate,za,Option.bind_some]
 have h0 : List.replicate c.length (rq 0) = (zfO b (zcC a b c d e f).2 c.length 0).map rq := by
  rw [show List.replicate c.length (rq 0) = (List.replicate c.length 0).map rq from by rw [List.map_replicate]]
  congr 1
  refine zgH (by rw [zeM,List.length_replicate]) fun j hj => ?_
  rw [List.length_replicate] at hj
  rw [zfZ hj]
  have := gI_rep (α := Rat) (n := c.length) (z := 0) (k := j) hj
  unfold zdd at this
  rw [Int.toNat_natCast] at this
  rw [this]; rfl
 rw [h0]
 rw [show ((0 : Nat) : Int) = 0 from rfl] at hl
 rw [hl]
 rfl
end
end Go.Proofs.YtlfdidaeachpoaaGreat
namespace Go.Proofs.YtlfdidaeachpoaaGreat
open Go Go.RowKit
set_option maxRecDepth 100000
noncomputable section
theorem zeZ {q : Rat} {n : Nat} (h : sm n q) (hn : n ≤ 1073741824) : okq (rQ q).1 (rQ q).2 = true := by
 rw [okq_iff]
 have a := zfC (b := B16) (by decide) h.1
 have b := zfC (b := B16) (by decide) h.2
 refine ⟨zgl (Nat.le_trans a hn),zgl (Nat.le_trans b hn),?_⟩
 have := rQ_den (q := q)
 rw [show val B16 (rQ q).2 = q.den from this]
 exact q.den_nz
section
variable {a : List Bool} {b : List Tk} {c : List Th} {d : List Lk} {e : List Int} {f : Int}
theorem cast_nat {m : Int} (h : 0 ≤ m) : ((m.toNat : Nat) : Rat) = (m : Rat) := by
 obtain ⟨j,rfl⟩ := Int.eq_ofNat_of_zero_le h
 rw [Int.toNat_natCast,Rat.intCast_natCast]
theorem ref_ticket (hw : wOK a b c d e f = true) (self : ((List Bool) × (List Tk) × (List Th) × (List Lk) × (List Int) × Int × Int) → Option ((List Int) × (List Int))) {k : Int} (hk : 0 ≤ k ∧ k < (b.length : Int))
  (hs : gI (zcZ a b c d e f) k = true → (gI b k).2.1 ≠ 0 → self (a,b,c,d,e,f,(gI b k).2.1) = some (rQ (gI (zcC a b c d e f).1 (gI b k).2.1))) : F_zaf self (a,b,c,d,e,f,k) = some (rQ (gI (zcC a b c d e f).2 k)) := by
 obtain ⟨H,h8⟩ := zdc hw
 have hf : zfp a b c d e f = true := by unfold wOK at hw; rw [Bool.and_eq_true] at hw; exact hw.1
 have hin : inB b k = true := zcn.2 hk
 show (zaf self _).run _ = _
 rw [zaf]
 simp only [RT.run]
 rw [if_pos hin,hf,hin,if_pos (by decide),H.worth.2 k hk]
 cases hc : gI (zcZ a b c d e f) k with
 | false => rfl
 | true =>
  have hu := H.cnt_used hk hc
  have ht := H.tk hk hu
  have hamt := ht.amt
  have hco := zdH ht.coin
  obtain ⟨v0,v1,v2⟩ := share_sm H hk hc
  have hab := H.am_bound hco
  rw [if_neg (by decide),if_pos rfl,zcD (by omega)]
  by_cases h0 : (gI b k).2.1 = 0
  ·rw [if_pos (by simpa using h0),cast_nat (by omega)]
   congr 1
   rw [h0,H.worth0]
   unfold zdT
   rw [h0] at v2 hab ⊢
   rw [Rat.mkRat_eq_div,cast_nat hab.1,Rat.div_mul_cancel]
   intro h
   have : gI (amV a b c d e f) 0 = 0 := by simpa using h
   rw [this] at v2
   exact v2 rfl
  ·have W := H.wb h8
   have hcx := W.c _ (zge (xs := (zcC a b c d e f).1) (k := (gI b k).2.1) (by rw [ziT.1]; exact hco))
   rw [if_neg (by simpa using h0),zcn.2 hco,if_pos (by decide),zcD (by omega),if_pos (decide_eq_true (by omega)),hs hc h0,Option.bind_some]
   have e1 : mkRat (((gI b k).2.2.1.toNat : Nat) : Int) (gI (amV a b c d e f) (gI b k).2.1).toNat = zdT b (amV a b c d e f) k := by
    unfold zdT
    rw [Int.toNat_of_nonneg (by omega)]
   rw [e1,zeZ v1 (by decide),zeZ hcx.2 (by decide),if_pos (by decide),zeq v0,zeq hcx.1]
theorem coin_loop (self : ((List Bool) × (List Tk) × (List Th) × (List Lk) × (List Int) × Int × Int) → Option ((List Int) × (List Int))) (l : List Int) (hl : l.length ≤ 1000) (g : Int → Rat)
  (hs : ∀ k ∈ l,self (a,b,c,d,e,f,k) = some (rQ (g k)) ∧ 0 ≤ g k ∧ sm 25628 (g k)) : ∀ (n i m : Nat) (q : Rat),i + n = l.length → 0 ≤ q → sm m q → m + 25629 * n ≤ 100000000 →
  lo (zhv self) (a,b,c,d,e,f,l) ((i : Int),(rQ q).1,(rQ q).2) = some (rQ (q + zcK ((l.drop i).map g)))
 | 0,i,m,q,h,_,_,_ => by
  rw [zcr,zhv]
  simp only [RT.run]
  rw [if_neg (by simp; omega),List.drop_eq_nil_of_le (by omega)]
  show some (rQ q) = some (rQ (q + 0))
  rw [Rat.add_zero]
 | n + 1,i,m,q,h,h0,hm,hb => by
  have hi : i < l.length := by omega
  obtain ⟨s1,s2,s3⟩ := hs _ (List.getElem_mem hi)
  have ih := coin_loop self l hl g hs n (i + 1) _ (q + g l[i]) (by omega) (Rat.add_nonneg h0 s2) (sm_add h0 s2 hm s3) (by omega)
  rw [zcr,zhv]
  simp only [RT.run]
  rw [if_pos (by simp; omega),if_pos (zcn.2 ⟨by omega,by omega⟩),zcL hi,s1,Option.bind_some,zeZ hm (by omega),zeZ s3 (by decide),if_pos (by decide),zcm (by omega),show (i : Int) + 1 = ((i + 1 : Nat) : Int) by omega,zeq h0,zeq s2]
  show lo (zhv self) _ (_,(rQ (q + g l[i])).1,(rQ (q + g l[i])).2) = _
  rw [ih,List.drop_eq_getElem_cons hi,List.map_cons,zcT,Rat.add_assoc]
theorem zhy {w x k : Int} : k ∈ tksOf b w x ↔ (0 ≤ k ∧ k < (b.length : Int)) ∧ zdL b w x k = true := by
 unfold tksOf
 rw [List.mem_filter]
 exact and_congr (zez (n := b.length)) Iff.rfl
theorem tksOf_len {w x : Int} : (tksOf b w x).length ≤ b.length := by
 unfold tksOf
 have := List.length_filter_le (zdL b w x) ((List.range b.length).map fun (k : Nat) => (k : Int))
 simpa using this
theorem ref_coin (hw : wOK a b c d e f = true) (self : ((List Bool) × (List Tk) × (List Th) × (List Lk) × (List Int) × Int × Int) → Option ((List Int) × (List Int))) {x : Int} (hx : 0 ≤ x ∧ x < (a.length : Int))
  (hs : ∀ k ∈ tksOf b 1 x,self (a,b,c,d,e,f,k) = some (rQ (gI (zcC a b c d e f).2 k))) : F_zak self (a,b,c,d,e,f,x) = some (rQ (gI (zcC a b c d e f).1 x)) := by
 obtain ⟨H,h8⟩ := zdc hw
 have hf : zfp a b c d e f = true := by unfold wOK at hw; rw [Bool.and_eq_true] at hw; exact hw.1
 have hlb := H.lenB
 have hca := H.coins
 have W := H.wb h8
 show (zak self _).run _ = _
 rw [zak]
 simp only [RT.run]
 by_cases h0 : x = 0
 ·have hab := H.am_bound (x := 0) (by omega)
  rw [if_pos (by simpa using h0),hf,zcn.2 (show 0 ≤ (0 : Int) ∧ (0 : Int) < (a.length : Int) by omega),if_pos (by decide),zcD (by omega),cast_nat hab.1,h0,H.worth0]
 ·have htl := tksOf_len (b := b) (w := 1) (x := x)
  rw [if_neg (by simpa using h0),if_pos (decide_eq_true (by omega))]
  have := coin_loop (a := a) (b := b) (c := c) (d := d) (e := e) (f := f) self (tksOf b 1 x) (by omega) (fun k => gI (zcC a b c d e f).2 k) (fun k hk => by
   obtain ⟨k1,_⟩ := zhy.1 hk
   have := W.k _ (zge (xs := (zcC a b c d e f).2) (k := k) (by rw [ziT.2]; exact k1))
   exact ⟨hs k hk,this.1,this.2⟩) (tksOf b 1 x).length 0 1 0 (by omega) (by decide) (zhz _ (by decide)) (by omega)
  rw [show ((0 : Nat) : Int) = 0 from rfl,List.drop_zero,Rat.zero_add,← H.worthC hx h0] at this
  show (lo (zhv self) _ (0,(rQ 0).1,(rQ 0).2)).bind _ = _
  rw [this]
  rfl
theorem coin_rec (hw : wOK a b c d e f = true) : ∀ (n m : Nat),n ≤ m → ∀ x ∈ (zcG a b).take n,R_zak m (a,b,c,d,e,f,x) = some (rQ (gI (zcC a b c d e f).1 x))
 | 0,_,_,x,hx => by simp at hx
 | n + 1,0,h,_,_ => by omega
 | n + 1,m + 1,h,x,hx => by
  obtain ⟨H,h8⟩ := zdc hw
  by_cases hxn : x ∈ (zcG a b).take n
  ·exact coin_rec hw n (m + 1) (by omega) x hxn
  ·by_cases hn : n < (zcG a b).length
   ·rw [List.take_add_one,List.getElem?_eq_getElem hn,List.mem_append] at hx
    have hxe : x = (zcG a b)[n] := by
     rcases hx with hx | hx
     ·exact absurd hx hxn
     ·simpa using hx
    have ho : zcG a b = (zcG a b).take n ++ x :: (zcG a b).drop (n + 1) := by
     conv => lhs; rw [← List.take_append_drop n (zcG a b)]
     rw [List.drop_eq_getElem_cons hn,hxe]
    have hus := H.ord_mem.1 (by rw [hxe]; exact List.getElem_mem hn : x ∈ zcG a b)
    refine ref_coin hw (F_zaf (R_zak m)) (zdH hus) fun k hk => ?_
    obtain ⟨k1,k2⟩ := zhy.1 hk
    unfold zdL at k2
    simp at k2
    refine ref_ticket hw (R_zak m) k1 fun _ _ => coin_rec hw n m (by omega) _ ?_
    exact H.ord_split ho k1 k2.1 k2.2.1 k2.2.2
   ·rw [List.take_of_length_le (by omega)] at hx hxn
    exact absurd hx hxn
theorem coin_all (hw : wOK a b c d e f = true) {x : Int} (hx : 0 ≤ x ∧ x < (a.length : Int)) : R_zak ((zcG a b).length + 1) (a,b,c,d,e,f,x) = some (rQ (gI (zcC a b c d e f).1 x)) := by
 obtain ⟨H,h8⟩ := zdc hw
 by_cases h : x ∈ zcG a b
 ·exact coin_rec hw (zcG a b).length _ (by omega) x (by rw [List.take_length]; exact h)
 ·refine ref_coin hw _ hx fun k hk => ?_
  exfalso
  obtain ⟨k1,k2⟩ := zhy.1 hk
  unfold zdL at k2
  simp at k2
  rcases (H.tk k1 k2.1).to with h' | h' | h'
  ·omega
  ·omega
  ·exact h (H.ord_mem.2 (k2.2.2 ▸ h'.2.2))
end
def e_zaf : zcq := io_zaf.sp (fun (a,b,c,d,e,f,k) => (wOK a b c d e f && inB b k)) (fun (a,b,c,d,e,f,k) => (rQ (gI (zcC a b c d e f).2 k)))
theorem sp_zaf (h : ∀ (a : List Bool) (b : List Tk) (c : List Th) (d : List Lk) (e : List Int) (f : Int) (k : Int),WfT [.sl tB,.sl yK,.sl yH,.sl yL,.sl tI,tI,tI] (a,b,c,d,e,f,k) → ((wOK a b c d e f && inB b k)) = true → ∃ n,R_zaf n (a,b,c,d,e,f,k) = some (rQ (gI (zcC a b c d e f).2 k))) : e_zaf.ok pg := sp_rec okR_zaf fun (a,b,c,d,e,f,k) hw hc => h a b c d e f k hw hc
theorem e_zaf_ok : e_zaf.ok pg := sp_zaf fun a b c d e f k _ hc => by
 rw [Bool.and_eq_true] at hc
 have hk := zcn.1 hc.2
 obtain ⟨H,h8⟩ := zdc hc.1
 exact ⟨(zcG a b).length + 1,ref_ticket hc.1 _ hk fun h _ => coin_all hc.1 (zdH (H.tk hk (H.cnt_used hk h)).coin)⟩
def zin : ((List Bool) × (List Tk) × (List Th) × (List Lk) × (List Int) × Int × (List Int)) → (Int × (List Int) × (List Int)) → RT (Int × (List Int) × (List Int)) ((List Int) × (List Int))
| (s_0,s_1,s_2,s_3,s_4,s_5,r6),(k,r80,r81) =>
 .rq 4 (.ite (decide (k < (r6.length : Int)))
 (.rq 4 (.req (inB r6 k) (.rq 1 (.req ((wOK s_0 s_1 s_2 s_3 s_4 s_5 && inB s_1 (gI r6 k))) (let t0 := (rQ (gI (zcC s_0 s_1 s_2 s_3 s_4 s_5).2 (gI r6 k)));
 .req (okq r80 r81 && okq t0.1 t0.2) (.rq 4 (let t1 := rQ (zdl r80 r81 + zdl t0.1 t0.2);
 .again (w64 (k + 1),t1.1,t1.2))))))))
 (.done (r80,r81)))
def zZ_p122 : zch := ⟨122,true,[.sl tB,.sl yK,.sl yH,.sl yL,.sl tI,tI,.sl tI],[tI,.sl tI,.sl tI],⟨[.keep [2,4,5,6,7],.gc,.nilRow 6 800006 3 tI,.ren 6 700006,.ren 6 900006,.cellRow 80 0 600080 3 tI,.cellRow 80 1 600081 3 tI,.cellRen 80 0 600080,.cellRen 80 1 600081,.gc],[2,4,5,6,7],[.lf (qp 32),.lf (qp 64),.lf (qp 80),.lf (qr 900006),.lf (qm 0)],[(32,true,.cells [qi 0,qi 1,qi 2,qi 3,qi 4,qi 5]),(64,true,.cells [.fix (.nil),.fix (.nil)]),(80,true,.cells [qr 600080,qr 600081]),(900006,true,.arr 3 (qi 6)),(600080,true,.arr 3 (qm 1)),(600081,true,.arr 3 (qm 2))]⟩,[⟨2,⟨[.keep [4,5],.gc,.cellRow 80 0 600080 3 tI,.cellRow 80 1 600081 3 tI,.cellRen 80 0 600080,.cellRen 80 1 600081,.gc],[4,5],[.lf (qp 64),.lf (qp 80)],[(64,true,.cells [.fix (.nil),.fix (.nil)]),(80,true,.cells [qr 600080,qr 600081]),(600080,true,.arr 3 (qm 0)),(600081,true,.arr 3 (qm 1))]⟩,[.sl tI,.sl tI]⟩],zin⟩
def zZ : ((List Bool) × (List Tk) × (List Th) × (List Lk) × (List Int) × Int × Int) → RT Unit ((List Int) × (List Int))
| (s_0,s_1,s_2,s_3,s_4,s_5,i) =>
 .rq 7 (.req ((decide (s_1.length ≤ 1000000))) (.rq 2 (.call (lo zin (s_0,s_1,s_2,s_3,s_4,s_5,(tksOf s_1 (2 : Int) i)) (0,(rQ (((0 : Int).toNat : Nat) : Rat)).1,(rQ (((0 : Int).toNat : Nat) : Rat)).2)) default fun v0 =>
 .rq 2 (.done (v0.1,v0.2)))))
def F_zZ (x : (List Bool) × (List Tk) × (List Th) × (List Lk) × (List Int) × Int × Int) : Option ((List Int) × (List Int)) := (zZ x).run fun _ => none
def io_zZ : Io := ⟨n_zZ,[.sl tB,.sl yK,.sl yH,.sl yL,.sl tI,tI,tI],[.agg [qm 0,qm 1,qm 2,qm 3,qm 4,qm 5],.lf (qm 6)],[],[[.sl tB,.sl yK,.sl yH,.sl yL,.sl tI,tI],[tI]],[.sl tI,.sl tI],.agg [qr 0,qr 1],[],[(true,.arr 3 (qm 0)),(true,.arr 3 (qm 1))],false⟩
def zZ_P : List zch := [zZ_p122]
def zZ_T : zcl := tab [e_zaf,e_zP,e_zbK,e_zbs]
theorem zZ_To : zck pg zZ_T := zci ⟨e_zaf_ok,e_zP_ok,e_zbK_ok,zhn,trivial⟩
theorem zZ_k122 : (zZ_p122).OK pg (zZ_T) (zcB 27 (zZ_P)) (zcs f_zZ) 27 := ⟨by kernel_rfl,fun i x => by kernel_rfl⟩
theorem zZ_go : zcy pg (zZ_T) io_zZ f_zZ (zZ_P) [.cellRow 64 0 600064 3 tI,.cellRow 64 1 600065 3 tI,.cellRen 64 0 600064,.cellRen 64 1 600065] (zZ) := ⟨by kernel_rfl,by kernel_rfl,fun x => by kernel_rfl⟩
theorem ok_zZ : io_zZ.Okay pg (F_zZ) := zcu zcj (zZ_To) (zZ_go) ⟨zZ_k122,trivial⟩
theorem th_loopR {a : List Bool} {b : List Tk} {c : List Th} {d : List Lk} {e : List Int} {f : Int} (hw : wOK a b c d e f = true) (l : List Int) (hl : l.length ≤ 1000) (hs : ∀ k ∈ l,0 ≤ k ∧ k < (b.length : Int)) : ∀ (n i m : Nat) (q : Rat),i + n = l.length → 0 ≤ q → sm m q → m + 25629 * n ≤ 100000000 →
  lo zin (a,b,c,d,e,f,l) ((i : Int),(rQ q).1,(rQ q).2) = some (rQ (q + zcK ((l.drop i).map (gI (zcC a b c d e f).2))))
 | 0,i,m,q,h,_,_,_ => by
  rw [zcr,zin]
  simp only [RT.run]
  rw [if_neg (by simp; omega),List.drop_eq_nil_of_le (by omega)]
  show some (rQ q) = some (rQ (q + 0))
  rw [Rat.add_zero]
 | n + 1,i,m,q,h,h0,hm,hb => by
  obtain ⟨H,h8⟩ := zdc hw
  have W := H.wb h8
  have hi : i < l.length := by omega
  have hk := hs _ (List.getElem_mem hi)
  obtain ⟨s2,s3⟩ := W.k _ (zge (xs := (zcC a b c d e f).2) (k := l[i]) (by rw [ziT.2]; exact hk))
  have ih := th_loopR hw l hl hs n (i + 1) _ (q + gI (zcC a b c d e f).2 l[i]) (by omega) (Rat.add_nonneg h0 s2) (sm_add h0 s2 hm s3) (by omega)
  rw [zcr,zin]
  simp only [RT.run]
  rw [if_pos (by simp; omega),if_pos (zcn.2 ⟨by omega,by omega⟩),zcL hi,hw,zcn.2 hk,if_pos (by decide),zeZ hm (by omega),zeZ s3 (by decide),if_pos (by decide),zcm (by omega),show (i : Int) + 1 = ((i + 1 : Nat) : Int) by omega,zeq h0,zeq s2]
  show lo zin _ (_,(rQ (q + gI (zcC a b c d e f).2 l[i])).1,(rQ (q + gI (zcC a b c d e f).2 l[i])).2) = _
  rw [ih,List.drop_eq_getElem_cons hi,List.map_cons,zcT,Rat.add_assoc]
def e_zZ : zcq := io_zZ.sp (fun (a,b,c,d,e,f,i) => (wOK a b c d e f)) (fun (a,b,c,d,e,f,i) => (rQ (zdG (zcC a b c d e f).2 (zdL b 2 i) (zcO b.length))))
theorem sp_zZ (h : ∀ (a : List Bool) (b : List Tk) (c : List Th) (d : List Lk) (e : List Int) (f : Int) (i : Int),WfT [.sl tB,.sl yK,.sl yH,.sl yL,.sl tI,tI,tI] (a,b,c,d,e,f,i) → ((wOK a b c d e f)) = true → (zZ (a,b,c,d,e,f,i)).run (fun _ => none) = some (rQ (zdG (zcC a b c d e f).2 (zdL b 2 i) (zcO b.length)))) : e_zZ.ok pg := zcw ok_zZ fun (a,b,c,d,e,f,i) hw hc => h a b c d e f i hw hc
theorem e_zZ_ok : e_zZ.ok pg := sp_zZ fun a b c d e f i _ hc => by
 obtain ⟨H,h8⟩ := zdc hc
 have hlb := H.lenB
 have htl := tksOf_len (b := b) (w := 2) (x := i)
 rw [zZ]
 simp only [RT.run]
 rw [if_pos (decide_eq_true (by omega))]
 have := th_loopR hc (tksOf b 2 i) (by omega) (fun k hk => (zhy.1 hk).1) (tksOf b 2 i).length 0 1 0 (by omega) (by decide) (zhz _ (by decide)) (by omega)
 rw [show ((0 : Nat) : Int) = 0 from rfl,List.drop_zero,Rat.zero_add] at this
 show (lo zin _ (0,(rQ 0).1,(rQ 0).2)).bind _ = _
 rw [this]
 rfl
def toB (y : List Int × List Int) : List Int × List Int := (zcg B32 (val B16 y.1),zcg B32 (val B16 y.2))
theorem toB_rQ (q : Rat) : toB (rQ q) = rq q := by
 unfold toB rq
 rw [show val B16 (rQ q).1 = q.num.toNat from rQ_num,show val B16 (rQ q).2 = q.den from rQ_den]
end
end Go.Proofs.YtlfdidaeachpoaaGreat
namespace Go.Proofs.YtlfdidaeachpoaaGreat
open Go Go.RowKit
set_option maxRecDepth 100000
noncomputable section
theorem isM_rQ {q : Rat} {n : Nat} (h : sm n q) (hn : n ≤ 1073741824) : isM 38 (rQ q).1 = true ∧ isM 38 (rQ q).2 = true := by
 have := zeZ h hn
 rw [okq_iff] at this
 exact ⟨zgU (by decide) this.1,zgU (by decide) this.2.1⟩
theorem take_rQ (l : List Rat) {i : Nat} (h : i < l.length) : (l.take i).map rQ ++ [rQ (gI l (i : Int))] = (l.take (i + 1)).map rQ := by
 rw [List.take_add_one,List.getElem?_eq_getElem h,List.map_append,zcL h]
 rfl
theorem zgc {α : Type} {k : Nat} {xs ys : List α} (hk : k ≤ 1000) (h : xs.length + ys.length ≤ 1000000) : zdK k xs ys = true := by
 rw [zeI]
 refine ⟨?_,by rw [maxLen_eq]; omega⟩
 exact Nat.le_trans (Nat.mul_le_mul h hk) (by decide)
theorem thW_len {a : List Bool} {b : List Tk} {c : List Th} {d : List Lk} {e : List Int} {f : Int} : (thW a b c d e f).length = c.length := by simp [thW,zcO]
theorem thW_get {a : List Bool} {b : List Tk} {c : List Th} {d : List Lk} {e : List Int} {f : Int} {i : Int} (h : 0 ≤ i ∧ i < (c.length : Int)) : gI (thW a b c d e f) i = zdG (zcC a b c d e f).2 (zdL b 2 i) (zcO b.length) := zfZ h
section
variable {a : List Bool} {b : List Tk} {c : List Th} {d : List Lk} {e : List Int} {f : Int}
end
end
end Go.Proofs.YtlfdidaeachpoaaGreat
namespace Go.Proofs.YtlfdidaeachpoaaGreat
open Go Go.RowKit
set_option maxRecDepth 100000
theorem zft {α : Type} {l : List α} {g : α → Rat} (h : ∀ x ∈ l,g x = 0) : zcK (l.map g) = 0 := by
 induction l with
 | nil => rfl
 | cons x l ih => rw [List.map_cons,zcT,h x (List.mem_cons_self ..),ih fun y hy => h y (List.mem_cons_of_mem _ hy),Rat.zero_add]
theorem rsum_add {α : Type} (l : List α) (g h : α → Rat) : zcK (l.map fun x => g x + h x) = zcK (l.map g) + zcK (l.map h) := by
 induction l with
 | nil => exact (Rat.zero_add 0).symm
 | cons x l ih => rw [List.map_cons,List.map_cons,List.map_cons,zcT,zcT,zcT,ih]; grind
theorem rsum_mul {α : Type} (l : List α) (g : α → Rat) (q : Rat) : zcK (l.map fun x => g x * q) = zcK (l.map g) * q := by
 induction l with
 | nil => exact (Rat.zero_mul q).symm
 | cons x l ih => rw [List.map_cons,List.map_cons,zcT,zcT,ih,Rat.add_mul]
theorem rsum_comm {α β : Type} (l : List α) (m : List β) (g : α → β → Rat) : zcK (l.map fun x => zcK (m.map (g x))) = zcK (m.map fun y => zcK (l.map fun x => g x y)) := by
 induction l with
 | nil => exact (zft (l := m) (g := fun _ => zcK []) fun _ _ => rfl).symm
 | cons x l ih =>
  rw [List.map_cons,zcT,ih,← rsum_add]
  rfl
theorem rsum_flat {α β : Type} (l : List α) (f : α → List β) (g : β → Rat) : zcK ((l.flatMap f).map g) = zcK (l.map fun x => zcK ((f x).map g)) := by
 induction l with
 | nil => rfl
 | cons x l ih => rw [List.flatMap_cons,List.map_append,zjl,ih,List.map_cons,zcT]
theorem rsum_one {l : List Int} (hn : l.Nodup) {c : Int} (hc : c ∈ l) (v : Rat) : zcK (l.map fun x => if c = x then v else 0) = v := by
 induction l with
 | nil => cases hc
 | cons x l ih =>
  obtain ⟨h1,h2⟩ := List.nodup_cons.1 hn
  rw [List.map_cons,zcT]
  rcases List.mem_cons.1 hc with rfl | hc
  ·rw [if_pos rfl,zft fun y hy => if_neg (fun h => h1 (by rw [h]; exact hy)),Rat.add_zero]
  ·rw [if_neg (fun h => h1 (by rw [← h]; exact hc)),ih h2 hc,Rat.zero_add]
theorem rsum_int (l : List Int) : ((l.sum : Int) : Rat) = zcK (l.map fun (x : Int) => (x : Rat)) := by
 induction l with
 | nil => rfl
 | cons x l ih => rw [List.sum_cons,Rat.intCast_add,ih,List.map_cons,zcT]
theorem zeL {α : Type} {l : List α} {g h : α → Rat} (e : ∀ x ∈ l,g x = h x) : zcK (l.map g) = zcK (l.map h) := by rw [List.map_congr_left e]
section
variable {a : List Bool} {b : List Tk} {c : List Th} {d : List Lk} {e : List Int} {f : Int}
theorem zcv.keep1 (H : zcv a b c d e f) {x : Int} (hx : usC a x = true) : zcK ((zcI b x).map (gI (zcC a b c d e f).2)) = gI (zcC a b c d e f).1 x := by
 have hin := zdH hx
 by_cases hz : gI (amV a b c d e f) x = 0
 ·-- asleep
  have h0 : ∀ k ∈ zcI b x,gI (zcC a b c d e f).2 k = 0 := fun k hk => by
   obtain ⟨k1,k2,k3⟩ := zdj.1 hk
   rw [H.worth.2 k k1,if_neg]
   intro hc
   have := H.awake k1 hc
   rw [k3] at this
   omega
  rw [zft h0]
  by_cases hx0 : x = 0
  ·rw [hx0,H.worth0,← hx0,hz]; rfl
  ·rw [H.worthC hin hx0,zft fun k hk => ?_]
   obtain ⟨k1,k2⟩ := zhy.1 hk
   unfold zdL at k2
   simp at k2
   rw [H.worth.2 k k1,if_neg]
   intro hc
   rw [H.cnt k1,if_pos k2.1] at hc
   unfold good at hc
   rw [k2.2.1,k2.2.2,hz] at hc
   simp at hc
 ·have hb := H.am_bound hin
  have hd : ((gI (amV a b c d e f) x : Int) : Rat) ≠ 0 := fun h => hz (by simpa using h)
  have h1 : ∀ k ∈ zcI b x,gI (zcC a b c d e f).2 k = ((zeb b (gI (zcZ a b c d e f) k) k : Int) : Rat) * (((gI (amV a b c d e f) x : Int) : Rat)⁻¹ * gI (zcC a b c d e f).1 x) := fun k hk => by
   obtain ⟨k1,k2,k3⟩ := zdj.1 hk
   rw [H.worth.2 k k1]
   unfold zeb
   by_cases hc : gI (zcZ a b c d e f) k = true
   ·rw [if_pos hc,if_pos hc]
    unfold zdT
    rw [k3,Rat.mkRat_eq_div,cast_nat hb.1,Rat.div_def,Rat.mul_assoc]
   ·rw [if_neg hc,if_neg hc,show ((0 : Int) : Rat) = 0 from rfl,Rat.zero_mul]
  rw [zeL h1,rsum_mul,show ((zcI b x).map fun k => ((zeb b (gI (zcZ a b c d e f) k) k : Int) : Rat)) = ((zcI b x).map fun k => zeb b (gI (zcZ a b c d e f) k) k).map (fun (z : Int) => (z : Rat)) from by rw [List.map_map]; rfl,
   ← rsum_int,← H.amt hin,← Rat.mul_assoc,Rat.mul_inv_cancel _ hd,Rat.one_mul]
theorem zcv.perm_ord (H : zcv a b c d e f) : (zdx a b).Perm ((zcO b.length).filter fun k => (gI b k).1) := by
 refine (List.perm_ext_iff_of_nodup H.tkOrd_nodup ((zfn List.nodup_range).sublist List.filter_sublist)).2 fun k => ?_
 rw [H.tkOrd_mem,List.mem_filter]
 exact and_congr (zez (n := b.length)).symm Iff.rfl
theorem zcv.keep (H : zcv a b c d e f) : zcK (thW a b c d e f) = ((gI (amV a b c d e f) 0 : Int) : Rat) := by
 have hz : ∀ k,0 ≤ k ∧ k < (b.length : Int) → gI (zcZ a b c d e f) k = false → gI (zcC a b c d e f).2 k = 0 := fun k hk h => by rw [H.worth.2 k hk,h]; exact if_neg (by decide)
 have hA : zcK ((zcG a b).map (gI (zcC a b c d e f).1)) = zcK ((zdx a b).map (gI (zcC a b c d e f).2)) := by
  unfold zdx
  rw [rsum_flat]
  exact zeL fun x hx => (H.keep1 (H.ord_mem.1 hx)).symm
 have hca := H.coins
 have h0 : (0 : Int) ∈ zcG a b := H.ord_mem.2 (by unfold usC; rw [hca.2.2,zcn.2 (by omega)]; rfl)
 have hB : zcK ((zcG a b).map (gI (zcC a b c d e f).1)) = ((gI (amV a b c d e f) 0 : Int) : Rat) + zcK ((zdx a b).map fun k => if (gI b k).2.2.2.1 = 2 then gI (zcC a b c d e f).2 k else 0) := by
  rw [zeL fun x hx => H.worth.1 x (zdH (H.ord_mem.1 hx)),rsum_add,rsum_comm]
  congr 1
  ·rw [zeL (h := fun x => if (0 : Int) = x then ((gI (amV a b c d e f) 0 : Int) : Rat) else 0) fun x _ => by
    by_cases h : x = 0
    ·rw [if_pos h,if_pos h.symm]
    ·rw [if_neg h,if_neg (fun h' => h h'.symm)]]
   exact rsum_one H.ord_nodup h0 _
  ·refine zeL fun k hk => ?_
   obtain ⟨k1,k2⟩ := H.tkOrd_mem.1 hk
   by_cases h2 : (gI b k).2.2.2.1 = 2
   ·rw [if_pos h2]
    by_cases hc : gI (zcZ a b c d e f) k = true
    ·have ht : usC a (gI b k).2.2.2.2.1 = true := by
      rcases (H.tk k1 k2).to with h | h | h
      ·omega
      ·omega
      ·exact h.2.2
     rw [zeL (h := fun x => if (gI b k).2.2.2.2.1 = x then gI (zcC a b c d e f).2 k else 0) fun x _ => by
      unfold zfu
      by_cases h : (gI b k).2.2.2.2.1 = x
      ·rw [if_pos ⟨hc,h2,h⟩,if_pos h]
      ·rw [if_neg (fun h' => h h'.2.2),if_neg h]]
     exact rsum_one H.ord_nodup (H.ord_mem.2 ht) _
    ·rw [hz k k1 (Bool.eq_false_iff.2 hc)]
     refine zft fun x _ => ?_
     unfold zfu
     rw [if_neg (fun h' => hc h'.1)]
   ·rw [if_neg h2]
    refine zft fun x _ => ?_
    unfold zfu
    rw [if_neg (fun h' => h2 h'.2.1)]
 have hC : zcK ((zdx a b).map (gI (zcC a b c d e f).2)) = zcK ((zdx a b).map fun k => if (gI b k).2.2.2.1 = 2 then gI (zcC a b c d e f).2 k else 0) + zcK ((zdx a b).map fun k => if (gI b k).2.2.2.1 = 1 then gI (zcC a b c d e f).2 k else 0) := by
  rw [← rsum_add]
  refine zeL fun k hk => ?_
  obtain ⟨k1,k2⟩ := H.tkOrd_mem.1 hk
  by_cases h2 : (gI b k).2.2.2.1 = 2
  ·rw [if_pos h2,if_neg (by omega),Rat.add_zero]
  ·rw [if_neg h2,Rat.zero_add]
   by_cases h1 : (gI b k).2.2.2.1 = 1
   ·rw [if_pos h1]
   ·rw [if_neg h1]
    refine hz k k1 ?_
    rw [H.cnt k1,if_pos k2]
    unfold good
    have e1 : ((gI b k).2.2.2.1 == 1) = false := by simpa using h1
    have e2 : ((gI b k).2.2.2.1 == 2) = false := by simpa using h2
    rw [e1,e2]; simp
 have hD : zcK ((zdx a b).map fun k => if (gI b k).2.2.2.1 = 1 then gI (zcC a b c d e f).2 k else 0) = ((gI (amV a b c d e f) 0 : Int) : Rat) := by
  have := hA.symm.trans hB
  rw [hC] at this
  generalize zcK ((zdx a b).map fun k => if (gI b k).2.2.2.1 = 2 then gI (zcC a b c d e f).2 k else 0) = u at this
  generalize zcK ((zdx a b).map fun k => if (gI b k).2.2.2.1 = 1 then gI (zcC a b c d e f).2 k else 0) = v at this ⊢
  grind
 rw [← hD]
 unfold thW zdG
 have hE : ∀ i : Int,zcK (((zcO b.length).filter (zdL b 2 i)).map (gI (zcC a b c d e f).2)) = zcK ((zdx a b).map fun k => if (gI b k).2.2.2.1 = 1 ∧ (gI b k).2.2.2.2.1 = i then gI (zcC a b c d e f).2 k else 0) := fun i => by
  rw [rsum_perm (H.perm_ord.map _)]
  have e1 : (zcO b.length).filter (zdL b 2 i) = ((zcO b.length).filter fun k => (gI b k).1).filter (fun k => (gI b k).2.2.2.1 == 1 && (gI b k).2.2.2.2.1 == i) := by
   rw [List.filter_filter]
   refine List.filter_congr fun k _ => ?_
   unfold zdL
   cases (gI b k).1 <;> simp
  rw [e1,← rsum_filter (l := (zcO b.length).filter fun k => (gI b k).1) (p := fun k => (gI b k).2.2.2.1 == 1 && (gI b k).2.2.2.2.1 == i) (g := fun k => if (gI b k).2.2.2.1 = 1 ∧ (gI b k).2.2.2.2.1 = i then gI (zcC a b c d e f).2 k else 0) (fun k _ h => by
   rw [if_neg]
   rintro ⟨h1,h2⟩
   rw [h1,h2] at h
   simp at h)]
  refine zeL fun k hk => ?_
  have := (List.mem_filter.1 hk).2
  simp at this
  rw [if_pos this]
 rw [show ((zcO c.length).map fun i => zcK (((zcO b.length).filter (zdL b 2 i)).map (gI (zcC a b c d e f).2))) = (zcO c.length).map fun i => zcK ((zdx a b).map fun k => if (gI b k).2.2.2.1 = 1 ∧ (gI b k).2.2.2.2.1 = i then gI (zcC a b c d e f).2 k else 0) from List.map_congr_left fun i _ => hE i,rsum_comm]
 refine zeL fun k hk => ?_
 obtain ⟨k1,k2⟩ := H.tkOrd_mem.1 hk
 by_cases h1 : (gI b k).2.2.2.1 = 1
 ·have ht : usT c (gI b k).2.2.2.2.1 = true := by
   rcases (H.tk k1 k2).to with h | h | h
   ·omega
   ·exact h.2
   ·omega
  rw [if_pos h1,zeL (h := fun x => if (gI b k).2.2.2.2.1 = x then gI (zcC a b c d e f).2 k else 0) fun x _ => by
   by_cases h : (gI b k).2.2.2.2.1 = x
   ·rw [if_pos ⟨h1,h⟩,if_pos h]
   ·rw [if_neg (fun h' => h h'.2),if_neg h]]
  exact rsum_one (zfn List.nodup_range) (zez.2 (zes ht)) _
 ·rw [if_neg h1]
  exact zft fun x _ => if_neg (fun h => h1 h.1)
end
theorem rq_len3 {q : Rat} {n : Nat} (h : sm n q) : (rq q).1.length ≤ n / 32 + 1 ∧ (rq q).2.length ≤ n / 32 + 1 := by
 have hp : 2 ^ n ≤ B32 ^ (n / 32 + 1) := by
  rw [pow32]
  exact Nat.pow_le_pow_right (by decide) (by omega)
 exact ⟨zhj (Nat.lt_of_lt_of_le h.1 hp),zhj (Nat.lt_of_lt_of_le h.2 hp)⟩
theorem szS_map {l : List Rat} {n : Nat} (h : ∀ q ∈ l,sm n q) : szS (l.map rq) ≤ l.length * (2 * n + 65) := by
 induction l with
 | nil => exact Nat.zero_le _
 | cons x l ih =>
  have h1 := rq_len3 (h x (List.mem_cons_self ..))
  have h2 := ih fun q hq => h q (List.mem_cons_of_mem _ hq)
  unfold szS at h2 ⊢
  rw [List.map_cons,List.map_cons,List.sum_cons,List.length_cons,Nat.add_mul]
  omega
theorem okS_map {l : List Rat} {n : Nat} (h : ∀ q ∈ l,sm n q) (h1 : l.length ≤ 100) (h2 : n ≤ 5000000) : okS (l.map rq) = true := by
 rw [okS_iff]
 refine ⟨by rw [List.length_map]; omega,fun x hx => ?_,?_⟩
 ·obtain ⟨q,hq,rfl⟩ := List.mem_map.1 hx
  exact okr_rq (h q hq) (by omega)
 ·have := szS_map h
  have h3 := Nat.mul_le_mul h1 (show 2 * n + 65 ≤ 10000065 by omega)
  omega
theorem sumQ_map {l : List Rat} (h : ∀ q ∈ l,0 ≤ q) : sumQ (l.map rq) = zcK l := by
 unfold sumQ
 rw [List.foldl_map]
 have : ∀ (l : List Rat) (q : Rat),(∀ x ∈ l,0 ≤ x) → l.foldl (fun q x => q + toQ (rq x).1 (rq x).2) q = q + zcK l := by
  intro l
  induction l with
  | nil => intro q _; exact (Rat.add_zero q).symm
  | cons x l ih =>
   intro q h
   rw [List.foldl_cons,zgw (h x (List.mem_cons_self ..)),ih _ fun y hy => h y (List.mem_cons_of_mem _ hy),zcT,Rat.add_assoc]
 rw [this l 0 h,Rat.zero_add]
end Go.Proofs.YtlfdidaeachpoaaGreat
namespace Go.Proofs.YtlfdidaeachpoaaGreat
open Go Go.RowKit
set_option maxRecDepth 100000
noncomputable section
end
end Go.Proofs.YtlfdidaeachpoaaGreat
namespace Go.Proofs.YtlfdidaeachpoaaGreat
open Go Go.RowKit
set_option maxRecDepth 100000
def FRz (D : Nat) (q : Rat) : Prop := ∃ z : Nat,q * (D : Rat) = (z : Rat)
theorem frz_zero (D : Nat) : FRz D 0 := ⟨0,by rw [Rat.zero_mul]; rfl⟩
theorem frz_add {D : Nat} {p q : Rat} (hp : FRz D p) (hq : FRz D q) : FRz D (p + q) := by
 obtain ⟨z,hz⟩ := hp
 obtain ⟨w,hw⟩ := hq
 exact ⟨z + w,by rw [Rat.add_mul,hz,hw,Rat.natCast_add]⟩
theorem frz_sum {α : Type} {D : Nat} {l : List α} {g : α → Rat} (h : ∀ x ∈ l,FRz D (g x)) : FRz D (zcK (l.map g)) := by
 induction l with
 | nil => exact frz_zero D
 | cons x l ih =>
  rw [List.map_cons,zcT]
  exact frz_add (h x (List.mem_cons_self ..)) (ih fun y hy => h y (List.mem_cons_of_mem _ hy))
theorem frz_mul {D E : Nat} {q : Rat} (h : FRz D q) : FRz (D * E) q := by
 obtain ⟨z,hz⟩ := h
 exact ⟨z * E,by rw [Rat.natCast_mul,← Rat.mul_assoc,hz,Rat.natCast_mul]⟩
theorem frz_int {D : Nat} {m : Int} (h : 0 ≤ m) : FRz D (m : Rat) := by
 obtain ⟨j,rfl⟩ := Int.eq_ofNat_of_zero_le h
 exact ⟨j * D,by rw [Rat.intCast_natCast,Rat.natCast_mul]⟩
theorem frz_share {D m : Nat} {n : Nat} (hm : m ≠ 0) {q : Rat} (h : FRz D q) : FRz (D * m) (mkRat (n : Int) m * q) := by
 obtain ⟨z,hz⟩ := h
 have hm' : (m : Rat) ≠ 0 := by
  intro h
  exact hm (by exact_mod_cast h)
 refine ⟨n * z,?_⟩
 rw [Rat.mkRat_eq_div,Rat.intCast_natCast,Rat.natCast_mul,Rat.natCast_mul,← hz,Rat.div_def]
 have := Rat.inv_mul_cancel _ hm'
 grind
theorem nat_le_rat {m n : Nat} (h : (m : Rat) ≤ (n : Rat)) : m ≤ n := by exact_mod_cast h
theorem frz_sm {D M k : Nat} (hD : D ≠ 0) {q : Rat} (h : FRz D q) (hq : q ≤ (M : Rat)) (h1 : M * D < 2 ^ k) (h2 : D < 2 ^ k) : sm k q := by
 obtain ⟨z,hz⟩ := h
 have hD' : (D : Rat) ≠ 0 := by
  intro h
  exact hD (by exact_mod_cast h)
 have h0 : (0 : Rat) ≤ (D : Rat) := by exact_mod_cast Nat.zero_le D
 have e : q = mkRat (z : Int) D := by
  rw [Rat.mkRat_eq_div,Rat.intCast_natCast,← hz,Rat.div_def,Rat.mul_assoc,Rat.mul_inv_cancel _ hD',Rat.mul_one]
 have hle : z ≤ M * D := by
  apply nat_le_rat
  rw [← hz,Rat.natCast_mul]
  exact Rat.mul_le_mul_of_nonneg_right hq h0
 rw [e]
 exact zfX hD (by omega) h2
theorem rsum_filter_le {α : Type} {l : List α} {g : α → Rat} (h : ∀ x ∈ l,0 ≤ g x) (p : α → Bool) : zcK ((l.filter p).map g) ≤ zcK (l.map g) := by
 induction l with
 | nil => exact Rat.le_refl
 | cons x l ih =>
  have h1 := h x (List.mem_cons_self ..)
  have h2 := ih fun y hy => h y (List.mem_cons_of_mem _ hy)
  rw [List.filter_cons]
  split
  ·rw [List.map_cons,List.map_cons,zcT,zcT]
   exact Rat.add_le_add_left.2 h2
  ·rw [List.map_cons,zcT]
   grind
theorem rsum_sub_le {l m : List Int} {g : Int → Rat} (h : ∀ x ∈ m,0 ≤ g x) (hl : l.Nodup) (hm : m.Nodup) (hs : ∀ x ∈ l,x ∈ m) : zcK (l.map g) ≤ zcK (m.map g) := by
 have hp : l.Perm (m.filter fun x => l.contains x) := (List.perm_ext_iff_of_nodup hl (hm.sublist List.filter_sublist)).2 fun x => by
  rw [List.mem_filter,List.contains_iff_mem]
  exact ⟨fun hx => ⟨hs x hx,hx⟩,fun hx => hx.2⟩
 rw [rsum_perm (hp.map g)]
 exact rsum_filter_le h _
section
variable {a : List Bool} {b : List Tk} {c : List Th} {d : List Lk} {e : List Int} {f : Int}
def amF (am : List Int) (n : Nat) (c : Int) : Nat := n * max 1 (gI am c).toNat
def dpV (am : List Int) (l : List Int) : Nat := l.foldl (amF am) 1
theorem dpV_le {am : List Int} {k : Nat} : ∀ (l : List Int) (n : Nat),(∀ x ∈ l,(gI am x).toNat ≤ 2 ^ k) → 1 ≤ n → 1 ≤ l.foldl (amF am) n ∧ l.foldl (amF am) n ≤ n * 2 ^ (k * l.length)
 | [],n,_,hn => ⟨hn,by simp⟩
 | x :: l,n,h,hn => by
  have h1 := h x (List.mem_cons_self ..)
  have h2 : 1 ≤ 2 ^ k := Nat.one_le_two_pow
  have h3 : max 1 (gI am x).toNat ≤ 2 ^ k := by omega
  have h4 : 1 ≤ n * max 1 (gI am x).toNat := Nat.mul_pos hn (by omega)
  obtain ⟨i1,i2⟩ := dpV_le (am := am) (k := k) l (amF am n x) (fun y hy => h y (List.mem_cons_of_mem _ hy)) h4
  refine ⟨i1,Nat.le_trans i2 ?_⟩
  have h5 : amF am n x ≤ n * 2 ^ k := Nat.mul_le_mul_left n h3
  have h6 := Nat.mul_le_mul_right (2 ^ (k * l.length)) h5
  refine Nat.le_trans h6 (Nat.le_of_eq ?_)
  rw [List.length_cons,Nat.mul_add,Nat.mul_one,Nat.pow_add,Nat.mul_assoc,Nat.mul_comm (2 ^ k)]
theorem zcv.frz_ord (H : zcv a b c d e f) : ∀ n,(∀ x ∈ (zcG a b).take n,FRz (dpV (amV a b c d e f) ((zcG a b).take n)) (gI (zcC a b c d e f).1 x)) ∧
  (∀ k,0 ≤ k ∧ k < (b.length : Int) → (gI b k).1 = true → (gI b k).2.1 ∈ (zcG a b).take n → FRz (dpV (amV a b c d e f) ((zcG a b).take n)) (gI (zcC a b c d e f).2 k))
 | 0 => ⟨fun x hx => by simp at hx,fun k _ _ hk => by simp at hk⟩
 | n + 1 => by
  obtain ⟨i1,i2⟩ := H.frz_ord n
  by_cases hn : n < (zcG a b).length
  ·have hd : dpV (amV a b c d e f) ((zcG a b).take (n + 1)) = dpV (amV a b c d e f) ((zcG a b).take n) * max 1 (gI (amV a b c d e f) (zcG a b)[n]).toNat := by
    unfold dpV
    rw [List.take_add_one,List.getElem?_eq_getElem hn,List.foldl_append]
    rfl
   have hus := H.ord_mem.1 (List.getElem_mem hn)
   have hin := zdH hus
   have ho : zcG a b = (zcG a b).take n ++ (zcG a b)[n] :: (zcG a b).drop (n + 1) := by
    conv => lhs; rw [← List.take_append_drop n (zcG a b)]
    rw [List.drop_eq_getElem_cons hn]
   have hx : FRz (dpV (amV a b c d e f) ((zcG a b).take n)) (gI (zcC a b c d e f).1 (zcG a b)[n]) := by
    by_cases h0 : (zcG a b)[n] = 0
    ·rw [h0,H.worth0]
     have hca := H.coins
     exact frz_int (H.am_bound (x := 0) (by omega)).1
    ·rw [H.worthC hin h0]
     refine frz_sum fun k hk => ?_
     obtain ⟨k1,k2⟩ := zhy.1 hk
     unfold zdL at k2
     simp at k2
     exact i2 k k1 k2.1 (H.ord_split ho k1 k2.1 k2.2.1 k2.2.2)
   have hsplit : ∀ x,x ∈ (zcG a b).take (n + 1) → x ∈ (zcG a b).take n ∨ x = (zcG a b)[n] := fun x hx => by
    rw [List.take_add_one,List.getElem?_eq_getElem hn,List.mem_append] at hx
    rcases hx with hx | hx
    ·exact .inl hx
    ·exact .inr (by simpa using hx)
   rw [hd]
   refine ⟨fun x hx' => ?_,fun k hk hu hc => ?_⟩
   ·rcases hsplit x hx' with h | rfl
    ·exact frz_mul (i1 x h)
    ·exact frz_mul hx
   ·rcases hsplit _ hc with h | h
    ·exact frz_mul (i2 k hk hu h)
    ·rw [H.worth.2 k hk]
     by_cases hcn : gI (zcZ a b c d e f) k = true
     ·rw [if_pos hcn]
      unfold zdT
      have ha := H.awake hk hcn
      have hamt := (H.tk hk hu).amt
      rw [h] at ha ⊢
      obtain ⟨m,hm⟩ := Int.eq_ofNat_of_zero_le (show 0 ≤ (gI b k).2.2.1 by omega)
      rw [hm,show max 1 (gI (amV a b c d e f) (zcG a b)[n]).toNat = (gI (amV a b c d e f) (zcG a b)[n]).toNat by omega]
      exact frz_share (by omega) hx
     ·rw [if_neg hcn]
      exact frz_zero _
  ·rw [List.take_of_length_le (by omega)] at i1 i2 ⊢
   exact ⟨i1,i2⟩
def xD : Nat := 432
def xE : Nat := 500
def DV (a : List Bool) (b : List Tk) (c : List Th) (d : List Lk) (e : List Int) (f : Int) : Nat := dpV (amV a b c d e f) (zcG a b)
theorem zcv.DV_le (H : zcv a b c d e f) : 1 ≤ DV a b c d e f ∧ DV a b c d e f ≤ 2 ^ xD := by
 have hol : (zcG a b).length ≤ 16 := by
  have := kahn_len a.length (zdg b)
  have h3 : (zcG a b).length ≤ (zdD a.length (zdg b)).2.length := List.length_filter_le ..
  have := H.coins
  omega
 obtain ⟨h1,h2⟩ := dpV_le (am := amV a b c d e f) (k := 27) (zcG a b) 1 (fun x hx => by
  have := H.am_bound (zdH (H.ord_mem.1 hx))
  omega) (Nat.le_refl 1)
 refine ⟨h1,Nat.le_trans h2 ?_⟩
 rw [Nat.one_mul]
 exact Nat.pow_le_pow_right (by decide) (by unfold xD; omega)
theorem zcv.frz_tk (H : zcv a b c d e f) {k : Int} (hk : 0 ≤ k ∧ k < (b.length : Int)) : FRz (DV a b c d e f) (gI (zcC a b c d e f).2 k) := by
 by_cases hu : (gI b k).1 = true
 ·have := (H.frz_ord (zcG a b).length).2 k hk hu (by rw [List.take_length]; exact H.ord_mem.2 (H.tk hk hu).coin)
  rwa [List.take_length] at this
 ·rw [H.worth.2 k hk,if_neg (fun h => hu (H.cnt_used hk h))]
  exact frz_zero _
theorem zcv.frz_th (H : zcv a b c d e f) {i : Int} (hi : 0 ≤ i ∧ i < (c.length : Int)) : FRz (DV a b c d e f) (gI (thW a b c d e f) i) := by
 rw [thW_get hi]
 unfold zdG
 exact frz_sum fun k hk => H.frz_tk (zez.1 (List.mem_filter.1 hk).1)
theorem th_nonneg (H : zcv a b c d e f) {i : Int} (hi : 0 ≤ i ∧ i < (c.length : Int)) : 0 ≤ gI (thW a b c d e f) i := by
 rw [thW_get hi]
 unfold zdG
 refine rsum_nonneg fun x hx => ?_
 obtain ⟨k,hk,rfl⟩ := List.mem_map.1 hx
 have h := H.frz_tk (zez.1 (List.mem_filter.1 hk).1)
 obtain ⟨z,hz⟩ := h
 have hD := H.DV_le.1
 have hD' : (DV a b c d e f : Rat) ≠ 0 := by
  intro h
  have : DV a b c d e f = 0 := by exact_mod_cast h
  omega
 have e : gI (zcC a b c d e f).2 k = mkRat (z : Int) (DV a b c d e f) := by
  rw [Rat.mkRat_eq_div,Rat.intCast_natCast,← hz,Rat.div_def,Rat.mul_assoc,Rat.mul_inv_cancel _ hD',Rat.mul_one]
 rw [e]
 exact zfh _ _
theorem zcv.sub_sm (H : zcv a b c d e f) {l : List Int} (hn : l.Nodup) (hl : ∀ i ∈ l,0 ≤ i ∧ i < (c.length : Int)) : 0 ≤ zcK (l.map (gI (thW a b c d e f))) ∧ sm 500 (zcK (l.map (gI (thW a b c d e f)))) ∧ FRz (DV a b c d e f) (zcK (l.map (gI (thW a b c d e f)))) := by
 have hf : FRz (DV a b c d e f) (zcK (l.map (gI (thW a b c d e f)))) := frz_sum fun i hi => H.frz_th (hl i hi)
 refine ⟨rsum_nonneg fun x hx => ?_,?_,hf⟩
 ·obtain ⟨i,hi,rfl⟩ := List.mem_map.1 hx
  exact th_nonneg H (hl i hi)
 ·have hca := H.coins
  have hab := H.am_bound (x := 0) (by omega)
  have hle : zcK (l.map (gI (thW a b c d e f))) ≤ ((gI (amV a b c d e f) 0).toNat : Rat) := by
   rw [cast_nat hab.1,← H.keep]
   have e1 : thW a b c d e f = (zcO c.length).map (gI (thW a b c d e f)) := by
    refine zgH (by rw [thW_len,List.length_map,zeF]) fun i hi => ?_
    rw [thW_len] at hi
    rw [zek (α := Int) _ (by rw [zeF]; exact hi)]
    congr 1
    obtain ⟨j,rfl⟩ := Int.eq_ofNat_of_zero_le hi.1
    have hj : j < c.length := by omega
    rw [zcL (by rw [zeF]; exact hj)]
    simp [zcO]
   conv => rhs; rw [e1]
   exact rsum_sub_le (fun i hi => th_nonneg H (zez.1 hi)) hn (zfn List.nodup_range) fun i hi => zez.2 (hl i hi)
  obtain ⟨d1,d2⟩ := H.DV_le
  refine frz_sm (k := xE) (by omega) hf hle ?_ (Nat.lt_of_le_of_lt d2 (Nat.pow_lt_pow_right (by decide) (by decide)))
  have h3 : (gI (amV a b c d e f) 0).toNat ≤ 2 ^ 27 := by omega
  have := Nat.mul_le_mul h3 d2
  rw [← Nat.pow_add] at this
  exact Nat.lt_of_le_of_lt this (Nat.pow_lt_pow_right (by decide) (by decide))
theorem arr_next {i y : Nat} (h : Arr c.length (zcW c d) i y) : i < c.length ∧ usT c (i : Int) = true ∧ nextR (zcW c d) (i : Int) = (y : Int) := by
 obtain ⟨x,hx,hok,e1,e2⟩ := h
 have hi : i < c.length := by
  simp only [zda,Bool.and_eq_true,decide_eq_true_eq] at hok
  omega
 unfold zcW at hx
 obtain ⟨k,hk,hx⟩ := List.mem_flatMap.1 hx
 have hki : k = i ∧ (((gI c (i : Int)).1 = 4 ∧ (gI c (i : Int)).2.1 = (y : Int)) ∨ ((gI c (i : Int)).1 = 6 ∧ (gI d (gI c (i : Int)).2.1).2 = (y : Int))) := by
  unfold zfB at hx
  rcases List.mem_append.1 hx with hx | hx
  ·split at hx
   ·rename_i h4
    rw [List.mem_singleton] at hx
    subst hx
    have : k = i := Int.ofNat_inj.1 (by simpa using e1)
    subst this
    rw [zfD]
    exact ⟨rfl,.inl ⟨by simpa using h4,e2⟩⟩
   ·cases hx
  ·split at hx
   ·rename_i h6
    rw [List.mem_singleton] at hx
    subst hx
    have : k = i := Int.ofNat_inj.1 (by simpa using e1)
    subst this
    rw [zfD]
    exact ⟨rfl,.inr ⟨by simpa using h6,e2⟩⟩
   ·cases hx
 refine ⟨hi,?_,?_⟩
 ·unfold usT
  rw [zcn.2 (by omega)]
  rcases hki.2 with h | h <;> rw [h.1] <;> rfl
 ·rw [nextR_at hi]
  rcases hki.2 with h | h
  ·rw [h.1,h.2]; rfl
  ·rw [h.1,h.2]; rfl
theorem zcv.way_next (H : zcv a b c d e f) {i : Int} (hu : usT c i = true) {x : Nat} : Way c.length (zcW c d) i.toNat x ↔ (usT c (zfq c d i) = true ∧ ((x : Int) = zfq c d i ∨ Way c.length (zcW c d) (zfq c d i).toNat x)) := by
 obtain ⟨hR,hN⟩ := H.next hu
 have hin := zes hu
 have key : ∀ y,Arr c.length (zcW c d) i.toNat y → zfq c d i = (y : Int) ∧ usT c (zfq c d i) = true := fun y h => by
  have h1 := (arr_next h).2.2
  rw [Int.toNat_of_nonneg hin.1,hR] at h1
  refine ⟨h1,?_⟩
  rcases hN with h2 | h2
  ·rw [h1] at h2; omega
  ·exact h2.1
 constructor
 ·intro hw
  cases hw with
  | one h =>
   obtain ⟨h1,h2⟩ := key _ h
   exact ⟨h2,.inl h1.symm⟩
  | more h h' =>
   obtain ⟨h1,h2⟩ := key _ h
   refine ⟨h2,.inr ?_⟩
   rw [h1]
   simpa using h'
 ·rintro ⟨h1,h2⟩
  rcases hN with h3 | ⟨_,h4⟩
  ·have := zes h1
   omega
  ·rcases h2 with h2 | h2
   ·have : x = (zfq c d i).toNat := by omega
    rw [this]
    exact .one h4
   ·exact .more h4 h2
theorem zcv.tailF_way (H : zcv a b c d e f) : ∀ (n : Nat) (i : Int) (o : List Int),usT c i = true → zfj c d n i = some o → o.Nodup ∧ (∀ x ∈ o,usT c x = true) ∧ ∀ x : Int,0 ≤ x → (x ∈ o ↔ x = i ∨ Way c.length (zcW c d) i.toNat x.toNat)
 | 0,i,o,hu,h => by
  have := zes hu
  unfold zfj at h
  rw [if_neg (by omega)] at h
  cases h
 | n + 1,i,o,hu,h => by
  have hin := zes hu
  unfold zfj at h
  rw [if_neg (by omega)] at h
  obtain ⟨o',h1,rfl⟩ := Option.map_eq_some_iff.1 h
  obtain ⟨hR,hN⟩ := H.next hu
  rcases hN with hN | ⟨hN,hA⟩
  ·rw [hN] at h1
   have h0 : o' = [] := by
    cases n <;> (unfold zfj at h1; rw [if_pos rfl] at h1; cases h1; rfl)
   subst h0
   refine ⟨by simp,fun x hx => by rw [List.mem_singleton.1 hx]; exact hu,fun x hx => ?_⟩
   rw [List.mem_singleton]
   refine ⟨.inl,fun h => ?_⟩
   rcases h with h | h
   ·exact h
   ·rw [H.way_next hu,hN] at h
    have := zes h.1
    omega
  ·obtain ⟨i1,i2,i3⟩ := H.tailF_way n _ o' hN h1
   refine ⟨List.nodup_cons.2 ⟨fun hm => ?_,i1⟩,fun x hx => ?_,fun x hx => ?_⟩
   ·have := (i3 i hin.1).1 hm
    refine no_way H.noT i.toNat ((H.way_next hu).2 ⟨hN,?_⟩)
    rw [Int.toNat_of_nonneg hin.1]
    exact this
   ·rcases List.mem_cons.1 hx with rfl | hx
    ·exact hu
    ·exact i2 x hx
   ·rw [List.mem_cons,i3 x hx,H.way_next hu]
    rw [Int.toNat_of_nonneg hx]
    constructor
    ·rintro (h | h)
     ·exact .inl h
     ·exact .inr ⟨hN,h⟩
    ·rintro (h | ⟨_,h⟩)
     ·exact .inl h
     ·exact .inr h
def onT (c : List Th) (d : List Lk) (i j : Int) : Bool := (zeh c d j).contains i
theorem zcv.tail_facts (H : zcv a b c d e f) (j : Int) : (zeh c d j).Nodup ∧ (∀ x ∈ zeh c d j,usT c x = true) ∧ (usT c j = true → ∀ x : Int,0 ≤ x → (x ∈ zeh c d j ↔ x = j ∨ Way c.length (zcW c d) j.toNat x.toNat)) ∧ (usT c j = false → zeh c d j = []) := by
 cases hu : usT c j with
 | false =>
  have : zeh c d j = [] := by unfold zeh; rw [getThread_no hu]; rfl
  rw [this]
  exact ⟨List.nodup_nil,fun x hx => (by cases hx),fun h => (by cases h),fun _ => rfl⟩
 | true =>
  obtain ⟨o,h1,_⟩ := H.tail0 hu
  have ht : zeh c d j = o := by unfold zeh; rw [zhU hu,h1]; rfl
  obtain ⟨i1,i2,i3⟩ := H.tailF_way _ j o hu h1
  rw [ht]
  exact ⟨i1,i2,fun _ => i3,fun h => (by cases h)⟩
end
end Go.Proofs.YtlfdidaeachpoaaGreat
namespace Go.Proofs.YtlfdidaeachpoaaGreat
open Go Go.RowKit
set_option maxRecDepth 100000
noncomputable section
def caV (a : List Bool) (b : List Tk) (c : List Th) (d : List Lk) (e : List Int) (f : Int) : List Rat := (zcO c.length).map fun i => zdG (thW a b c d e f) (onT c d i) (zcO c.length)
def gPart (K : List Rat) (p : Int → Int → Bool) (n m : Nat) : List Rat := (zcO n).map fun i => zdG K (p i) (zcO m)
theorem zeJ {g : Int → Rat} {n : Nat} {i : Int} (h : 0 ≤ i ∧ i < (n : Int)) : gI ((zcO n).map g) i = g i := by
 rw [zek (α := Int) _ (by rw [zeF]; exact h)]
 congr 1
 obtain ⟨j,rfl⟩ := Int.eq_ofNat_of_zero_le h.1
 have hj : j < n := by omega
 rw [zcL (by rw [zeF]; exact hj)]
 simp [zcO]
section
variable {a : List Bool} {b : List Tk} {c : List Th} {d : List Lk} {e : List Int} {f : Int}
theorem caV_len : (caV a b c d e f).length = c.length := by simp [caV,zcO]
theorem caV_get {i : Int} (h : 0 ≤ i ∧ i < (c.length : Int)) : gI (caV a b c d e f) i = zdG (thW a b c d e f) (onT c d i) (zcO c.length) := zeJ h
theorem ints_nodup {n : Nat} : (zcO n).Nodup := zfn List.nodup_range
theorem zcv.part_sm (H : zcv a b c d e f) (p : Int → Bool) {m : Nat} (hm : m ≤ c.length) : 0 ≤ zdG (thW a b c d e f) p (zcO m) ∧ sm 500 (zdG (thW a b c d e f) p (zcO m)) ∧ FRz (DV a b c d e f) (zdG (thW a b c d e f) p (zcO m)) :=
 H.sub_sm (l := (zcO m).filter p) (ints_nodup.sublist List.filter_sublist) fun i hi => by
  have := zez.1 (List.mem_filter.1 hi).1
  omega
theorem zcv.th_sm (H : zcv a b c d e f) {i : Int} (h : 0 ≤ i ∧ i < (c.length : Int)) : 0 ≤ gI (thW a b c d e f) i ∧ sm 500 (gI (thW a b c d e f) i) := by
 obtain ⟨h1,h2,_⟩ := H.sub_sm (l := [i]) (by simp) (fun j hj => by rw [List.mem_singleton.1 hj]; exact h)
 have e1 : zcK ([i].map (gI (thW a b c d e f))) = gI (thW a b c d e f) i := Rat.add_zero _
 rw [e1] at h1 h2
 exact ⟨h1,h2⟩
theorem zcv.ca_sm (H : zcv a b c d e f) {i : Int} (h : 0 ≤ i ∧ i < (c.length : Int)) : 0 ≤ gI (caV a b c d e f) i ∧ sm 500 (gI (caV a b c d e f) i) ∧ FRz (DV a b c d e f) (gI (caV a b c d e f) i) := by
 rw [caV_get h]
 exact H.part_sm _ (Nat.le_refl _)
theorem zcv.th_zero (H : zcv a b c d e f) {i : Int} (h : 0 ≤ i ∧ i < (c.length : Int)) (hu : usT c i = false) : gI (thW a b c d e f) i = 0 := by
 rw [thW_get h]
 unfold zdG
 refine zft fun k hk => ?_
 obtain ⟨h1,h2⟩ := List.mem_filter.1 hk
 have h1 := zez.1 h1
 unfold zdL at h2
 simp at h2
 exfalso
 rcases (H.tk h1 h2.1).to with h | h | h
 ·omega
 ·rw [← h2.2.2,h.2] at hu; cases hu
 ·omega
theorem zcv.ca_zero (H : zcv a b c d e f) {i : Int} (h : 0 ≤ i ∧ i < (c.length : Int)) (hu : usT c i = false) : gI (caV a b c d e f) i = 0 := by
 rw [caV_get h]
 unfold zdG
 refine zft fun k hk => ?_
 obtain ⟨_,h2⟩ := List.mem_filter.1 hk
 unfold onT at h2
 rw [List.contains_iff_mem] at h2
 rw [(H.tail_facts k).2.1 i h2] at hu
 cases hu
end
def zB_b122 : Int → (Int × (List ((List Int) × List Int))) → RT (Int × (List ((List Int) × List Int))) (List ((List Int) × List Int))
| x15,(x16,r4) =>
 .rq 1 (.ite (decide (x16 < x15))
 (.rq 5 (.req (inB r4 x16) (.rq 3 (.again (w64 (x16 + 1),sI r4 x16 ([],zcg B32 1))))))
 (.done r4))
def zB_p122 : zch := ⟨122,true,[tI,.sl tB,.sl yK,.sl yH,.sl yL,.sl tI,tI,.sl (.pair (.sl tV) (.sl tV))],[tI,.sl (.pair (.sl tV) (.sl tV))],⟨[.keep [1,3,4,15,16],.gc,.nilRow 3 800003 41 (.pair (.sl tV) (.sl tV)),.nilRow 4 800004 41 (.pair (.sl tV) (.sl tV)),.ren 3 700003,.ren 4 700004,.ren 3 900003,.ren 4 900004,.gc],[1,3,4,15,16],[.lf (qp 16),.lf (qr 900003),.lf (qr 900004),.lf (qi 0),.lf (qm 0)],[(16,true,.cells [qi 1,qi 2,qi 3,qi 4,qi 5,qi 6]),(900003,true,.arr 41 (qi 7)),(900004,true,.arr 41 (qm 1))]⟩,[⟨2,⟨[.keep [1,3,4],.gc,.nilRow 3 800003 41 (.pair (.sl tV) (.sl tV)),.nilRow 4 800004 41 (.pair (.sl tV) (.sl tV)),.ren 3 700003,.ren 4 700004,.ren 3 900003,.ren 4 900004,.gc],[1,3,4],[.lf (qp 16),.lf (qr 900003),.lf (qr 900004)],[(16,true,.cells [qi 1,qi 2,qi 3,qi 4,qi 5,qi 6]),(900003,true,.arr 41 (qi 7)),(900004,true,.arr 41 (qm 0))]⟩,[.sl (.pair (.sl tV) (.sl tV))]⟩],(fun i => zB_b122 i.1)⟩
def ziE : (Int × Int × (List ((List Int) × List Int)) × (List Int)) → (Int × (List ((List Int) × List Int))) → RT (Int × (List ((List Int) × List Int))) (List ((List Int) × List Int))
| (i,x32,r3,r31),(x33,r4) =>
 .rq 1 (.ite (decide (x33 < x32))
 (.req (inB r31 x33) (.rq 6 (let t0 := inB r4 (gI r31 x33);
 .req t0 (.rq 3 (.req (inB r3 i) (.rq 2 (let t1 := gI r4 (gI r31 x33);
 let t2 := [(t1.1,t1.2),((gI r3 i).1,(gI r3 i).2)];
 .req (okS t2) (.req t0 (.rq 3 (let t3 := rq (sumQ t2);
 .again (w64 (x33 + 1),sI r4 (gI r31 x33) (t3.1,t3.2))))))))))))
 (.done r4))
def zB_p64102 : zch := ⟨64102,true,[tI,tI,tI,tI,.sl tB,.sl yK,.sl yH,.sl yL,.sl tI,tI,.sl (.pair (.sl tV) (.sl tV)),.sl tI],[tI,.sl (.pair (.sl tV) (.sl tV))],⟨[.keep [1,3,4,6,25,26,31,32,33],.gc,.nilRow 3 800003 41 (.pair (.sl tV) (.sl tV)),.nilRow 4 800004 41 (.pair (.sl tV) (.sl tV)),.nilRow 31 800031 3 tI,.ren 3 700003,.ren 4 700004,.ren 31 700031,.ren 3 900003,.ren 4 900004,.ren 31 900031,.gc],[1,3,4,6,25,26,31,32,33],[.lf (qp 16),.lf (qr 900003),.lf (qr 900004),.lf (qi 0),.lf (qi 1),.lf (qi 2),.lf (qr 900031),.lf (qi 3),.lf (qm 0)],[(16,true,.cells [qi 4,qi 5,qi 6,qi 7,qi 8,qi 9]),(900003,true,.arr 41 (qi 10)),(900004,true,.arr 41 (qm 1)),(900031,true,.arr 3 (qi 11))]⟩,[⟨6,⟨[.keep [1,3,4,25,26],.gc,.nilRow 3 800003 41 (.pair (.sl tV) (.sl tV)),.nilRow 4 800004 41 (.pair (.sl tV) (.sl tV)),.ren 3 700003,.ren 4 700004,.ren 3 900003,.ren 4 900004,.gc],[1,3,4,25,26],[.lf (qp 16),.lf (qr 900003),.lf (qr 900004),.lf (qi 1),.lf (qi 2)],[(16,true,.cells [qi 4,qi 5,qi 6,qi 7,qi 8,qi 9]),(900003,true,.arr 41 (qi 10)),(900004,true,.arr 41 (qm 0))]⟩,[.sl (.pair (.sl tV) (.sl tV))]⟩],(fun i => ziE (i.1,i.2.2.2.1,i.2.2.2.2.2.2.2.2.2.2.1,i.2.2.2.2.2.2.2.2.2.2.2))⟩
def zB_b250 : (Int × (List Bool) × (List Tk) × (List Th) × (List Lk) × (List Int) × Int × (List ((List Int) × List Int))) → (Int × (List ((List Int) × List Int))) → RT (Int × (List ((List Int) × List Int))) (List ((List Int) × List Int))
| (x25,s_0,s_1,s_2,s_3,s_4,s_5,r3),(x26,r4) =>
 .rq 1 (.ite (decide (x26 < x25))
 (.rq 4 (.req ((decide (s_2.length ≤ 1000000) && tailOK s_2 s_3 x26)) (.rq 2 (let t0 := (zeh s_2 s_3 x26);
 .call (lo ziE (x26,(t0.length : Int),r3,t0) (0,r4)) default fun v1 =>
 .rq 2 (.again (w64 (x26 + 1),v1))))))
 (.done r4))
def zB_p250 : zch := ⟨250,true,[tI,.sl tB,.sl yK,.sl yH,.sl yL,.sl tI,tI,.sl (.pair (.sl tV) (.sl tV))],[tI,.sl (.pair (.sl tV) (.sl tV))],⟨[.keep [1,3,4,25,26],.gc,.nilRow 3 800003 41 (.pair (.sl tV) (.sl tV)),.nilRow 4 800004 41 (.pair (.sl tV) (.sl tV)),.ren 3 700003,.ren 4 700004,.ren 3 900003,.ren 4 900004,.gc],[1,3,4,25,26],[.lf (qp 16),.lf (qr 900003),.lf (qr 900004),.lf (qi 0),.lf (qm 0)],[(16,true,.cells [qi 1,qi 2,qi 3,qi 4,qi 5,qi 6]),(900003,true,.arr 41 (qi 7)),(900004,true,.arr 41 (qm 1))]⟩,[⟨4,⟨[.keep [4],.gc,.nilRow 4 800004 41 (.pair (.sl tV) (.sl tV)),.ren 4 700004,.ren 4 900004,.gc],[4],[.lf (qr 900004)],[(900004,true,.arr 41 (qm 0))]⟩,[.sl (.pair (.sl tV) (.sl tV))]⟩],zB_b250⟩
def zB : ((List Bool) × (List Tk) × (List Th) × (List Lk) × (List Int) × Int) → RT Unit (List ((List Int) × List Int))
| (s_0,s_1,s_2,s_3,s_4,s_5) =>
 .rq 3 (.req ((wOK s_0 s_1 s_2 s_3 s_4 s_5)) (.rq 3 (let t0 := ((thW s_0 s_1 s_2 s_3 s_4 s_5).map rq);
 let t1 := (t0.length : Int);
 .req (mkOK 48 t1) (.rq 4 (let t2 := zdd t1 ([],[]);
 .call (lo zB_b122 (t2.length : Int) (0,t2)) default fun v0 =>
 .rq 3 (.call (lo zB_b250 (t1,s_0,s_1,s_2,s_3,s_4,s_5,t0) (0,v0)) default fun v2 =>
 .rq 2 (.done v2)))))))
def F_zB (x : (List Bool) × (List Tk) × (List Th) × (List Lk) × (List Int) × Int) : Option (List ((List Int) × List Int)) := (zB x).run fun _ => none
def io_zB : Io := ⟨n_zB,[.sl tB,.sl yK,.sl yH,.sl yL,.sl tI,tI],[.agg [qm 0,qm 1,qm 2,qm 3,qm 4,qm 5]],[],[[.sl tB,.sl yK,.sl yH,.sl yL,.sl tI,tI]],[.sl (.pair (.sl tV) (.sl tV))],.lf (qr 0),[],[(true,.arr 41 (qm 0))],true⟩
def zB_P : List zch := [zB_p122,zB_p64102,zB_p250]
def zB_T : zcl := tab [e_zq,e_zaa,e_zX,e_zag]
theorem zB_To : zck pg zB_T := zci ⟨e_zq_ok,e_zaa_ok,e_zX_ok,zgp,trivial⟩
theorem zB_k122 : (zB_p122).OK pg (zB_T) (zcB 53 (zB_P)) (zcs f_zB) 53 := ⟨by kernel_rfl,fun i x => by kernel_rfl⟩
theorem zB_k64102 : (zB_p64102).OK pg (zB_T) (zcB 53 (zB_P)) (zcs f_zB) 53 := ⟨by kernel_rfl,fun i x => by kernel_rfl⟩
theorem zB_k250 : (zB_p250).OK pg (zB_T) (zcB 53 (zB_P)) (zcs f_zB) 53 := ⟨by kernel_rfl,fun i x => by kernel_rfl⟩
theorem zB_go : zcy pg (zB_T) io_zB f_zB (zB_P) [.nilRow 2 800002 41 (.pair (.sl tV) (.sl tV)),.ren 2 700002,.ren 2 900002] (zB) := ⟨by kernel_rfl,by kernel_rfl,fun x => by kernel_rfl⟩
theorem ok_zB : io_zB.Okay pg (F_zB) := zcu zcj (zB_To) (zB_go) ⟨zB_k122,zB_k64102,zB_k250,trivial⟩
theorem zero_c (m : Nat) (hm : m ≤ 1000000) : ∀ (n i : Nat),i + n = m → lo zB_b122 (m : Int) ((i : Int),List.replicate i (rq 0) ++ List.replicate n ([],[])) = some (List.replicate m (rq 0))
 | 0,i,h => by
  rw [zcr,zB_b122]
  simp only [RT.run]
  rw [if_neg (by simp; omega),show i = m by omega]
  simp
 | n + 1,i,h => by
  rw [zcr,zB_b122]
  simp only [RT.run]
  rw [if_pos (by simp; omega),if_pos (zcn.2 ⟨by omega,by simp; omega⟩),zcm (by omega),show (i : Int) + 1 = ((i + 1 : Nat) : Int) by omega,← rq_zero,sI,Int.toNat_natCast,rep_set,zero_c m hm n (i + 1) (by omega)]
theorem ca_inner (K X : List Rat) (j : Int) (l : List Int) (n : Nat) (hX : X.length = n) (hj : 0 ≤ j ∧ j < (K.length : Int)) (hl : l.Nodup) (hr : ∀ x ∈ l,0 ≤ x ∧ x < (n : Int)) (hll : l.length ≤ 1000) (hK : 0 ≤ gI K j ∧ sm 500 (gI K j)) (hs : ∀ x ∈ l,0 ≤ gI X x ∧ sm 500 (gI X x)) : ∀ (m t : Nat),t + m = l.length →
  lo ziE (j,(l.length : Int),K.map rq,l) ((t : Int),((zcO n).map fun i => gI X i + (if (l.take t).contains i = true then gI K j else 0)).map rq) = some (((zcO n).map fun i => gI X i + (if l.contains i = true then gI K j else 0)).map rq)
 | 0,t,h => by
  rw [zcr,ziE]
  simp only [RT.run]
  rw [if_neg (by simp; omega),List.take_of_length_le (by omega)]
 | m + 1,t,h => by
  have ht : t < l.length := by omega
  have hk := hr _ (List.getElem_mem ht)
  obtain ⟨s1,s2⟩ := hs _ (List.getElem_mem ht)
  have hno : (l.take t).contains l[t] = false := by
   rw [← Bool.not_eq_true,List.contains_iff_mem]
   intro hm
   obtain ⟨i,hi,he⟩ := List.mem_iff_getElem.1 hm
   rw [List.getElem_take] at he
   have := (List.nodup_iff_pairwise_ne.1 hl)
   have := (List.pairwise_iff_getElem.1 this) i t (by simp at hi; omega) ht (by simp at hi; omega)
   exact this he
  generalize hY : ((zcO n).map fun i => gI X i + (if (l.take t).contains i = true then gI K j else 0)) = Y
  have hYl : Y.length = n := by rw [← hY,List.length_map,zeF]
  have hYk : gI Y l[t] = gI X l[t] := by rw [← hY,zeJ hk,hno,if_neg (by decide),Rat.add_zero]
  have in1 : inB (Y.map rq) l[t] = true := zcn.2 (by rw [List.length_map,hYl]; exact hk)
  have e1 : gI (Y.map rq) l[t] = rq (gI X l[t]) := by rw [zek rq (by rw [hYl]; exact hk),hYk]
  have e2 : gI (K.map rq) j = rq (gI K j) := zek rq hj
  rw [zcr,ziE]
  simp only [RT.run,zcL ht,e1,e2,pe]
  rw [if_pos (by simp; omega),if_pos (zcn.2 ⟨by omega,by omega⟩),if_pos in1,if_pos (zcn.2 (by rw [List.length_map]; exact hj)),okS2 s2 hK.2 (by decide) (by decide),sumQ2 s1 hK.1,if_pos rfl,if_pos in1,sI_map,zcm (by omega),show (t : Int) + 1 = ((t + 1 : Nat) : Int) by omega]
  have : sI Y l[t] (gI X l[t] + gI K j) = (zcO n).map fun i => gI X i + (if (l.take (t + 1)).contains i = true then gI K j else 0) := by
   refine zgH (by rw [sI_len,hYl,List.length_map,zeF]) fun i hi => ?_
   rw [sI_len,hYl] at hi
   rw [zhb (by rw [hYl]; exact hk) hi.1,zeJ hi]
   by_cases hi' : l[t] = i
   ·rw [if_pos hi',if_pos (show (l.take (t + 1)).contains i = true by rw [List.contains_iff_mem,List.take_add_one,List.getElem?_eq_getElem ht]; simp [hi']),hi']
   ·have e3 : (l.take (t + 1)).contains i = (l.take t).contains i := by
     rw [List.take_add_one,List.getElem?_eq_getElem ht,Bool.eq_iff_iff,List.contains_iff_mem,List.contains_iff_mem,List.mem_append]
     simp [show ¬ i = l[t] from fun h => hi' h.symm]
    rw [if_neg hi',← hY,zeJ hi,e3]
  rw [this]
  exact ca_inner K X j l n hX hj hl hr hll hK hs m (t + 1) (by omega)
theorem ca_outer {a : List Bool} {b : List Tk} {c : List Th} {d : List Lk} {e : List Int} {f : Int} (H : zcv a b c d e f) : ∀ (m j : Nat),j + m = c.length →
  lo zB_b250 ((c.length : Int),a,b,c,d,e,f,(thW a b c d e f).map rq) ((j : Int),(gPart (thW a b c d e f) (onT c d) c.length j).map rq) = some ((caV a b c d e f).map rq)
 | 0,j,h => by
  rw [zcr,zB_b250]
  simp only [RT.run]
  rw [if_neg (by simp; omega),show j = c.length by omega]
  rfl
 | m + 1,j,h => by
  have hlc := H.lenC
  have hj : 0 ≤ (j : Int) ∧ (j : Int) < (c.length : Int) := by omega
  obtain ⟨t1,t2,_,_⟩ := H.tail_facts (j : Int)
  have htl := tailV_len c d (j : Int)
  have hr : ∀ x ∈ zeh c d (j : Int),0 ≤ x ∧ x < (c.length : Int) := fun x hx => zes (t2 x hx)
  have hin := ca_inner (thW a b c d e f) (gPart (thW a b c d e f) (onT c d) c.length j) (j : Int) (zeh c d (j : Int)) c.length (by simp [gPart,zcO]) (by rw [thW_len]; exact hj) t1 hr (by omega) (H.th_sm hj) (fun x hx => by
   unfold gPart
   rw [zeJ (hr x hx)]
   obtain ⟨h1,h2,_⟩ := H.part_sm (onT c d x) (m := j) (by omega)
   exact ⟨h1,h2⟩) (zeh c d (j : Int)).length 0 (by omega)
  have h0 : (zcO c.length).map (fun i => gI (gPart (thW a b c d e f) (onT c d) c.length j) i + (if ((zeh c d (j : Int)).take 0).contains i = true then gI (thW a b c d e f) (j : Int) else 0)) = gPart (thW a b c d e f) (onT c d) c.length j := by
   refine zgH (by simp [gPart]) fun i hi => ?_
   rw [List.length_map,zeF] at hi
   rw [zeJ hi,List.take_zero,if_neg (by simp),Rat.add_zero]
  have h1 : (zcO c.length).map (fun i => gI (gPart (thW a b c d e f) (onT c d) c.length j) i + (if (zeh c d (j : Int)).contains i = true then gI (thW a b c d e f) (j : Int) else 0)) = gPart (thW a b c d e f) (onT c d) c.length (j + 1) := by
   refine zgH (by simp [gPart]) fun i hi => ?_
   rw [List.length_map,zeF] at hi
   rw [zeJ hi]
   unfold gPart
   rw [zeJ hi,zeJ hi,sumOf_succ]
   rfl
  rw [h0,h1,show ((0 : Nat) : Int) = 0 from rfl] at hin
  rw [zcr,zB_b250]
  simp only [RT.run]
  rw [if_pos (by simp; omega),if_pos (by rw [H.tailOK,decide_eq_true (by omega)]; rfl),hin,Option.bind_some,zcm (by omega),show (j : Int) + 1 = ((j + 1 : Nat) : Int) by omega,ca_outer H m (j + 1) (by omega)]
def e_zB : zcq := io_zB.sp (fun (a,b,c,d,e,f) => (wOK a b c d e f)) (fun (a,b,c,d,e,f) => ((caV a b c d e f).map rq))
theorem sp_zB (h : ∀ (a : List Bool) (b : List Tk) (c : List Th) (d : List Lk) (e : List Int) (f : Int),WfT [.sl tB,.sl yK,.sl yH,.sl yL,.sl tI,tI] (a,b,c,d,e,f) → ((wOK a b c d e f)) = true → (zB (a,b,c,d,e,f)).run (fun _ => none) = some ((caV a b c d e f).map rq)) : e_zB.ok pg := zcw ok_zB fun (a,b,c,d,e,f) hw hc => h a b c d e f hw hc
theorem e_zB_ok : e_zB.ok pg := sp_zB fun a b c d e f _ hc => by
 obtain ⟨H,h8⟩ := zdc hc
 have hlc := H.lenC
 have za := zero_c c.length (by omega) c.length 0 (by omega)
 rw [List.replicate_zero,List.nil_append,show ((0 : Nat) : Int) = 0 from rfl] at za
 have hra : ∀ n : Nat,(zdd (n : Int) (([] : List Int),([] : List Int))) = List.replicate n ([],[]) := fun n => by unfold zdd; rw [Int.toNat_natCast]
 have hl := ca_outer H c.length 0 (by omega)
 rw [show ((0 : Nat) : Int) = 0 from rfl] at hl
 rw [zB]
 simp only [RT.run]
 rw [if_pos hc,List.length_map,thW_len,if_pos (zdF.2 ⟨by omega,by omega,by omega⟩),hra,List.length_replicate,za,Option.bind_some]
 have h0 : List.replicate c.length (rq 0) = (gPart (thW a b c d e f) (onT c d) c.length 0).map rq := by
  rw [show List.replicate c.length (rq 0) = (List.replicate c.length 0).map rq from by rw [List.map_replicate]]
  congr 1
  refine zgH (by simp [gPart,zcO]) fun j hj => ?_
  rw [List.length_replicate] at hj
  unfold gPart
  rw [zeJ hj]
  have := gI_rep (α := Rat) (n := c.length) (z := 0) (k := j) hj
  unfold zdd at this
  rw [Int.toNat_natCast] at this
  rw [this]; rfl
 rw [h0,hl]
 rfl
def carry_At : ((List Bool) × (List Tk) × (List Th) × (List Lk) × (List Int) × Int × Int) → RT Unit ((List Int) × (List Int))
| (s_0,s_1,s_2,s_3,s_4,s_5,i) =>
 .rq 13 (.ite (!((zcN s_2 i)).2.2.2.2.2)
 (.rq 2 (.done ([],zcg B32 1)))
 (.rq 1 (.req ((wOK s_0 s_1 s_2 s_3 s_4 s_5)) (.rq 1 (let t0 := ((caV s_0 s_1 s_2 s_3 s_4 s_5).map rq);
 .req (inB t0 i) (.rq 2 (let t1 := gI t0 i;
 .done (t1.1,t1.2))))))))
def zal_b26 : ((List Th) × Int) → (Int × (List Int)) → RT (Int × (List Int)) (List Int)
| (x6,x7),(x8,r2) =>
 .rq 1 (.ite (decide (x8 < x7))
 (.rq 1 (.req (inB x6 x8) (.rq 12 (let t0 := w64 (x8 + 1);
 .ite (((gI x6 x8).1 == 2) || ((gI x6 x8).1 == 3))
 (.rq 3 (.req (zdK 8 r2 [x8]) (.rq 3 (.again (t0,r2 ++ [x8])))))
 (.rq 2 (.again (t0,r2)))))))
 (.done r2))
def zal_p26 : zch := ⟨26,true,[.sl yH,tI],[tI,.sl tI],⟨[.keep [2,6,7,8],.gc,.nilRow 2 800002 3 tI,.ren 2 700002,.ren 2 900002,.gc],[2,6,7,8],[.lf (qr 900002),.lf (qi 0),.lf (qi 1),.lf (qm 0)],[(900002,true,.arr 3 (qm 1))]⟩,[⟨2,⟨[.keep [2],.gc,.nilRow 2 800002 3 tI,.ren 2 700002,.ren 2 900002,.gc],[2],[.lf (qr 900002)],[(900002,true,.arr 3 (qm 0))]⟩,[.sl tI]⟩],zal_b26⟩
def zal : ((List Bool) × (List Tk) × (List Th) × (List Lk) × (List Int) × Int) → RT Unit (List Int)
| (s_0,s_1,s_2,s_3,s_4,s_5) =>
 .rq 6 (.call (lo zal_b26 (s_2,(s_2.length : Int)) (0,[])) default fun v0 =>
 .rq 2 (.done v0))
def F_zal (x : (List Bool) × (List Tk) × (List Th) × (List Lk) × (List Int) × Int) : Option (List Int) := (zal x).run fun _ => none
def io_zal : Io := ⟨n_zal,[.sl tB,.sl yK,.sl yH,.sl yL,.sl tI,tI],[.agg [qm 0,qm 1,qm 2,qm 3,qm 4,qm 5]],[],[[.sl tB,.sl yK,.sl yH,.sl yL,.sl tI,tI]],[.sl tI],.lf (qr 0),[],[(true,.arr 3 (qm 0))],false⟩
def zal_P : List zch := [zal_p26]
def zal_T : zcl := tab []
theorem zal_To : zck pg zal_T := zci trivial
theorem zal_k26 : (zal_p26).OK pg (zal_T) (zcB 27 (zal_P)) (zcs f_zal) 27 := ⟨by kernel_rfl,fun i x => by kernel_rfl⟩
theorem zal_go : zcy pg (zal_T) io_zal f_zal (zal_P) [.nilRow 2 800002 3 tI,.ren 2 700002,.ren 2 900002] (zal) := ⟨by kernel_rfl,by kernel_rfl,fun x => by kernel_rfl⟩
theorem ok_zal : io_zal.Okay pg (F_zal) := zcu zcj (zal_To) (zal_go) ⟨zal_k26,trivial⟩
def stE (c : List Th) (i : Int) : Bool := (gI c i).1 == 2 || (gI c i).1 == 3
def endsV (c : List Th) : List Int := (zcO c.length).filter (stE c)
theorem zhc (i n : Nat) : (List.range' i (n + 1)).map (fun (k : Nat) => (k : Int)) = (i : Int) :: (List.range' (i + 1) n).map (fun (k : Nat) => (k : Int)) := by rw [List.range'_succ,List.map_cons]
theorem ends_loop (c : List Th) (hl : c.length ≤ 1000000) : ∀ (n i : Nat) (r : List Int),i + n = c.length → r.length ≤ i →
  lo zal_b26 (c,(c.length : Int)) ((i : Int),r) = some (r ++ ((List.range' i n).map fun (k : Nat) => (k : Int)).filter (stE c))
 | 0,i,r,h,_ => by
  rw [zcr,zal_b26]
  simp only [RT.run]
  rw [if_neg (by simp; omega)]
  simp
 | n + 1,i,r,h,hr => by
  rw [zcr,zal_b26]
  simp only [RT.run]
  rw [if_pos (by simp; omega),if_pos (zcn.2 ⟨by omega,by omega⟩),zcm (by omega),show (i : Int) + 1 = ((i + 1 : Nat) : Int) by omega,zhc,List.filter_cons]
  by_cases hv : stE c (i : Int) = true
  ·have hv' := hv
   unfold stE at hv'
   rw [if_pos hv',if_pos (zgc (by decide) (by simp; omega)),ends_loop c hl n (i + 1) _ (by omega) (by simp; omega),if_pos hv]
   simp
  ·have hv' := hv
   unfold stE at hv'
   rw [if_neg hv',ends_loop c hl n (i + 1) _ (by omega) (by omega),if_neg hv]
def e_zal : zcq := io_zal.sp (fun (a,b,c,d,e,f) => (decide (c.length ≤ 1000000))) (fun (a,b,c,d,e,f) => (endsV c))
theorem sp_zal (h : ∀ (a : List Bool) (b : List Tk) (c : List Th) (d : List Lk) (e : List Int) (f : Int),WfT [.sl tB,.sl yK,.sl yH,.sl yL,.sl tI,tI] (a,b,c,d,e,f) → ((decide (c.length ≤ 1000000))) = true → (zal (a,b,c,d,e,f)).run (fun _ => none) = some (endsV c)) : e_zal.ok pg := zcw ok_zal fun (a,b,c,d,e,f) hw hc => h a b c d e f hw hc
theorem e_zal_ok : e_zal.ok pg := sp_zal fun a b c d e f _ hc => by
 have hl := of_decide_eq_true hc
 rw [zal]
 simp only [RT.run]
 have := ends_loop c hl c.length 0 [] (by omega) (by simp)
 rw [show ((0 : Nat) : Int) = 0 from rfl,← List.range_eq_range',List.nil_append] at this
 rw [this]
 rfl
def zaP_b58 : ((List Int) × (List Int)) → Int → RT Int (LR Unit Unit)
| (a,b),i =>
 .rq 4 (.ite (decide (i < (a.length : Int)))
 (.rq 2 (.req (inB a i) (.rq 3 (.req (inB b i) (.rq 2 (.ite ((gI a i) != (gI b i))
 (.rq 1 (.done (.ex ())))
 (.rq 3 (.again (w64 (i + 1))))))))))
 (.done (.rt ())))
def zaP_p58 : zch := ⟨58,true,[.sl tI,.sl tI],[tI],⟨[.keep [0,1,5],.gc],[0,1,5],[.lf (qi 0),.lf (qi 1),.lf (qm 0)],[]⟩,[⟨1,⟨[.keep [4],.gc],[4],[.lf (.fix (.bool false))],[]⟩,[]⟩,⟨2,⟨[.keep [],.gc],[],[],[]⟩,[]⟩],zaP_b58⟩
def zaP : ((List Int) × (List Int)) → RT Unit Bool
| (a,b) =>
 .rq 6 (.ite ((a.length : Int) != (b.length : Int))
 (.rq 1 (.done false))
 (.rq 1 (.call (lo zaP_b58 (a,b) 0) default fun v0 =>
 .ite v0.isRt
 (.rq 1 (.done true))
 (.done false))))
def F_zaP (x : (List Int) × (List Int)) : Option Bool := (zaP x).run fun _ => none
def io_zaP : Io := ⟨n_zaP,[.sl tI,.sl tI],[.lf (qm 0),.lf (qm 1)],[],[[.sl tI],[.sl tI]],[tB],.lf (qm 0),[],[],false⟩
def zaP_P : List zch := [zaP_p58]
def zaP_T : zcl := tab []
theorem zaP_To : zck pg zaP_T := zci trivial
theorem zaP_k58 : (zaP_p58).OK pg (zaP_T) (zcB 26 (zaP_P)) (zcs f_zaP) 26 := ⟨by kernel_rfl,fun i x => by kernel_rfl⟩
theorem zaP_go : zcy pg (zaP_T) io_zaP f_zaP (zaP_P) [] (zaP) := ⟨by kernel_rfl,by kernel_rfl,fun x => by kernel_rfl⟩
theorem ok_zaP : io_zaP.Okay pg (F_zaP) := zcu zcj (zaP_To) (zaP_go) ⟨zaP_k58,trivial⟩
theorem ints_loop (a b : List Int) (hl : a.length = b.length) (ha : a.length ≤ 9223372036854775807) : ∀ (n i : Nat),i + n = a.length →
  lo zaP_b58 (a,b) (i : Int) = some (if a.drop i = b.drop i then .rt () else .ex ())
 | 0,i,h => by
  rw [zcr,zaP_b58]
  simp only [RT.run]
  rw [if_neg (by simp; omega),List.drop_eq_nil_of_le (by omega),List.drop_eq_nil_of_le (by omega),if_pos rfl]
 | n + 1,i,h => by
  have hi : i < a.length := by omega
  have hi' : i < b.length := by omega
  have ih := ints_loop a b hl ha n (i + 1) (by omega)
  rw [zcr,zaP_b58]
  simp only [RT.run]
  rw [if_pos (by simp; omega),if_pos (zcn.2 ⟨by omega,by omega⟩),if_pos (zcn.2 ⟨by omega,by omega⟩),zcL hi,zcL hi',zcm (by omega),show (i : Int) + 1 = ((i + 1 : Nat) : Int) by omega,ih,List.drop_eq_getElem_cons hi,List.drop_eq_getElem_cons hi']
  by_cases he : a[i] = b[i]
  ·rw [he,if_neg (by simp)]
   simp only [List.cons.injEq,true_and]
  ·rw [if_pos (by simpa using he),if_neg (fun h => he (List.cons.inj h).1)]
def e_zaP : zcq := io_zaP.sp (fun (a,b) => true) (fun (a,b) => (decide (a = b)))
theorem sp_zaP (h : ∀ (a : List Int) (b : List Int),WfT [.sl tI,.sl tI] (a,b) → (zaP (a,b)).run (fun _ => none) = some (decide (a = b))) : e_zaP.ok pg := zcw ok_zaP fun (a,b) hw hc => h a b hw
theorem e_zaP_ok : e_zaP.ok pg := sp_zaP fun a b hw => by
 rw [zaP]
 simp only [RT.run]
 by_cases hl : a.length = b.length
 ·have hla : a.length ≤ 9223372036854775807 := hw.1.1
  rw [if_neg (by simp; omega)]
  have := ints_loop a b hl hla a.length 0 (by omega)
  rw [show ((0 : Nat) : Int) = 0 from rfl,List.drop_zero,List.drop_zero] at this
  rw [this,Option.bind_some]
  by_cases he : a = b
  ·rw [if_pos he,decide_eq_true he]; rfl
  ·rw [if_neg he,decide_eq_false he]; rfl
 ·rw [if_pos (by simp; omega),decide_eq_false (fun h => hl (by rw [h]))]
def zF_b3730 : (Int × Bool × Int × Bool × (List Bool) × (List Tk) × (List Th) × (List Lk) × (List Int) × Int) → RT Unit Bool
| (i,near,k,is,s_0,s_1,s_2,s_3,s_4,s_5) =>
 .rq 1 (.ite near
 (.rq 2 (.req ((decide (s_2.length ≤ 1000000) && zfv s_2 s_3)) (.rq 3 (.done (((nextR (zcW s_2 s_3) k)) == i)))))
 (.done is))
def zF_p3730 : zch := ⟨3730,false,[tI,tB,tI,tB,.sl tB,.sl yK,.sl yH,.sl yL,.sl tI,tI,.sl tI],[],⟨[.keep [1,2,3,7,8,9],.gc],[1,2,3,7,8,9],[.lf (qi 0),.lf (qi 1),.lf (qp 48),.lf (qr 900007),.lf (qi 2),.lf (qi 3)],[(48,true,.cells [qi 4,qi 5,qi 6,qi 7,qi 8,qi 9]),(900007,true,.arr 3 (qi 10))]⟩,[⟨0,⟨[.keep [1,2,3,7,8,9],.gc,.nilRow 7 800007 3 tI,.ren 7 700007,.ren 7 900007,.gc],[1,2,3,7,8,9],[.lf (qi 0),.lf (qi 1),.lf (qp 48),.lf (qr 900007),.lf (qi 2),.lf (qm 0)],[(48,true,.cells [qi 4,qi 5,qi 6,qi 7,qi 8,qi 9]),(900007,true,.arr 3 (qi 10))]⟩,[tB]⟩],(fun i _ => zF_b3730 (i.1,i.2.1,i.2.2.1,i.2.2.2.1,i.2.2.2.2.1,i.2.2.2.2.2.1,i.2.2.2.2.2.2.1,i.2.2.2.2.2.2.2.1,i.2.2.2.2.2.2.2.2.1,i.2.2.2.2.2.2.2.2.2.1))⟩
def zF_b58 : (Int × Bool × (List Bool) × (List Tk) × (List Th) × (List Lk) × (List Int) × Int) → (Int × (List Int)) → RT (Int × (List Int)) (List Int)
| (i,near,s_0,s_1,s_2,s_3,s_4,s_5),(k,r7) =>
 .rq 10 (.ite ((decide (k < (s_2.length : Int))) && ((inB s_2 i && (gI s_2 i).1 != 0)))
 (.rq 4 (.req ((decide (s_2.length ≤ 1000000) && zfv s_2 s_3)) (.rq 1 (let t0 := (zcW s_2 s_3);
 .req ((decide (t0.length ≤ 4000000) && (decide (0 ≤ (s_2.length : Int)) && decide ((s_2.length : Int) ≤ 1000000)) && (decide (0 ≤ k) && decide (k < (s_2.length : Int))))) (.rq 1 (let t1 := (zfa (s_2.length : Int).toNat t0 k.toNat);
 .req (inB t1 i) (.rq 2 (.call (on zF_b3730 (i,near,k,gI t1 i,s_0,s_1,s_2,s_3,s_4,s_5)) default fun v1 =>
 .rq 1 (let t2 := w64 (k + 1);
 .ite v1
 (.rq 3 (.req (zdK 8 r7 [k]) (.rq 4 (.again (t2,r7 ++ [k])))))
 (.rq 3 (.again (t2,r7))))))))))))
 (.done r7))
def zF_p58 : zch := ⟨58,true,[tI,tB,.sl tB,.sl yK,.sl yH,.sl yL,.sl tI,tI],[tI,.sl tI],⟨[.keep [1,2,3,7,8],.gc,.nilRow 7 800007 3 tI,.ren 7 700007,.ren 7 900007,.gc],[1,2,3,7,8],[.lf (qi 0),.lf (qi 1),.lf (qp 48),.lf (qr 900007),.lf (qm 0)],[(48,true,.cells [qi 2,qi 3,qi 4,qi 5,qi 6,qi 7]),(900007,true,.arr 3 (qm 1))]⟩,[⟨2,⟨[.keep [7],.gc,.nilRow 7 800007 3 tI,.ren 7 700007,.ren 7 900007,.gc],[7],[.lf (qr 900007)],[(900007,true,.arr 3 (qm 0))]⟩,[.sl tI]⟩],zF_b58⟩
def zF : ((List Bool) × (List Tk) × (List Th) × (List Lk) × (List Int) × Int × Int × Bool) → RT Unit (List Int)
| (s_0,s_1,s_2,s_3,s_4,s_5,i,near) =>
 .rq 4 (.call (lo zF_b58 (i,near,s_0,s_1,s_2,s_3,s_4,s_5) (0,[])) default fun v2 =>
 .rq 2 (.done v2))
def F_zF (x : (List Bool) × (List Tk) × (List Th) × (List Lk) × (List Int) × Int × Int × Bool) : Option (List Int) := (zF x).run fun _ => none
def io_zF : Io := ⟨n_zF,[.sl tB,.sl yK,.sl yH,.sl yL,.sl tI,tI,tI,tB],[.agg [qm 0,qm 1,qm 2,qm 3,qm 4,qm 5],.lf (qm 6),.lf (qm 7)],[],[[.sl tB,.sl yK,.sl yH,.sl yL,.sl tI,tI],[tI],[tB]],[.sl tI],.lf (qr 0),[],[(true,.arr 3 (qm 0))],false⟩
def zF_P : List zch := [zF_p3730,zF_p58]
def zF_T : zcl := tab [e_zK,e_zaB,e_zh,e_zam]
theorem zF_To : zck pg zF_T := zci ⟨e_zK_ok,e_zaB_ok,e_zh_ok,zho,trivial⟩
theorem zF_k3730 : (zF_p3730).OK pg (zF_T) (zcB 44 (zF_P)) (zcs f_zF) 44 := ⟨by kernel_rfl,fun i x => by kernel_rfl⟩
theorem zF_k58 : (zF_p58).OK pg (zF_T) (zcB 44 (zF_P)) (zcs f_zF) 44 := ⟨by kernel_rfl,fun i x => by kernel_rfl⟩
theorem zF_go : zcy pg (zF_T) io_zF f_zF (zF_P) [.nilRow 6 800006 3 tI,.ren 6 700006,.ren 6 900006] (zF) := ⟨by kernel_rfl,by kernel_rfl,fun x => by kernel_rfl⟩
theorem ok_zF : io_zF.Okay pg (F_zF) := zcu zcj (zF_To) (zF_go) ⟨zF_k3730,zF_k58,trivial⟩
open Classical in
def wayB (c : List Th) (d : List Lk) (i k : Int) : Bool := decide (Way c.length (zcW c d) k.toNat i.toNat)
def behV (c : List Th) (d : List Lk) (i : Int) : List Int := if usT c i = true then (zcO c.length).filter (wayB c d i) else []
theorem beh_loop (a : List Bool) (b : List Tk) (c : List Th) (d : List Lk) (e : List Int) (f : Int) {i : Int} (hu : usT c i = true) (hl : c.length ≤ 1000000) (hok : zfv c d = true) : ∀ (n k : Nat) (r : List Int),k + n = c.length → r.length ≤ k →
  lo zF_b58 (i,false,a,b,c,d,e,f) ((k : Int),r) = some (r ++ ((List.range' k n).map fun (k : Nat) => (k : Int)).filter (wayB c d i))
 | 0,k,r,h,_ => by
  rw [zcr,zF_b58]
  simp only [RT.run]
  rw [if_neg (by simp; omega)]
  simp
 | n + 1,k,r,h,hr => by
  have hin := zes hu
  have ha := thrArr_len c d
  have hlen : (zfa c.length (zcW c d) k).length = c.length := by simp [zfa]
  have zct : gI (zfa c.length (zcW c d) k) i = wayB c d i (k : Int) := by
   obtain ⟨j,rfl⟩ := Int.eq_ofNat_of_zero_le hin.1
   have hj : j < c.length := by omega
   rw [zcL (by rw [hlen]; exact hj)]
   simp [zfa,wayB]
  have hb : on zF_b3730 (i,false,(k : Int),wayB c d i (k : Int),a,b,c,d,e,f) = some (wayB c d i (k : Int)) := by
   show (zF_b3730 _).run _ = _
   rw [zF_b3730]
   rfl
  rw [zcr,zF_b58]
  simp only [RT.run,Int.toNat_natCast]
  have hu' := hu
  unfold usT at hu'
  rw [if_pos (by rw [hu',decide_eq_true (by omega)]; rfl),if_pos (by rw [hok,decide_eq_true hl]; rfl),if_pos (by simp; omega),if_pos (zcn.2 (by rw [hlen]; exact hin)),zct,hb,Option.bind_some,zcm (by omega),show (k : Int) + 1 = ((k + 1 : Nat) : Int) by omega,zhc,List.filter_cons]
  by_cases hv : wayB c d i (k : Int) = true
  ·rw [if_pos hv,if_pos (zgc (by decide) (by simp; omega)),beh_loop a b c d e f hu hl hok n (k + 1) _ (by omega) (by simp; omega),if_pos hv]
   simp
  ·rw [if_neg hv,beh_loop a b c d e f hu hl hok n (k + 1) _ (by omega) (by omega),if_neg hv]
def e_zF : zcq := io_zF.sp (fun (a,b,c,d,e,f,i,near) => ((decide (c.length ≤ 1000000) && zfv c d) && !near)) (fun (a,b,c,d,e,f,i,near) => (behV c d i))
theorem sp_zF (h : ∀ (a : List Bool) (b : List Tk) (c : List Th) (d : List Lk) (e : List Int) (f : Int) (i : Int) (near : Bool),WfT [.sl tB,.sl yK,.sl yH,.sl yL,.sl tI,tI,tI,tB] (a,b,c,d,e,f,i,near) → (((decide (c.length ≤ 1000000) && zfv c d) && !near)) = true → (zF (a,b,c,d,e,f,i,near)).run (fun _ => none) = some (behV c d i)) : e_zF.ok pg := zcw ok_zF fun (a,b,c,d,e,f,i,near) hw hc => h a b c d e f i near hw hc
theorem e_zF_ok : e_zF.ok pg := sp_zF fun a b c d e f i near _ hc => by
 simp only [Bool.and_eq_true,decide_eq_true_eq,Bool.not_eq_true'] at hc
 obtain ⟨⟨hl,hok⟩,rfl⟩ := hc
 rw [zF]
 simp only [RT.run]
 unfold behV
 cases hu : usT c i with
 | true =>
  have := beh_loop a b c d e f hu hl hok c.length 0 [] (by omega) (by simp)
  rw [show ((0 : Nat) : Int) = 0 from rfl,← List.range_eq_range',List.nil_append] at this
  rw [this]
  rfl
 | false =>
  rw [zcr,zF_b58]
  simp only [RT.run]
  unfold usT at hu
  rw [if_neg (by rw [hu]; simp)]
  rfl
def zhW : ((List Bool) × (List Tk) × (List Th) × (List Lk) × (List Int) × Int × (List Int)) → (Int × (List Int) × (List Int)) → RT (Int × (List Int) × (List Int)) ((List Int) × (List Int))
| (s_0,s_1,s_2,s_3,s_4,s_5,r6),(k,r80,r81) =>
 .rq 4 (.ite (decide (k < (r6.length : Int)))
 (.rq 4 (.req (inB r6 k) (.rq 1 (.req ((wOK s_0 s_1 s_2 s_3 s_4 s_5)) (let t0 := (rQ (zdG (zcC s_0 s_1 s_2 s_3 s_4 s_5).2 (zdL s_1 2 (gI r6 k)) (zcO s_1.length)));
 .req (okq r80 r81 && okq t0.1 t0.2) (.rq 4 (let t1 := rQ (zdl r80 r81 + zdl t0.1 t0.2);
 .again (w64 (k + 1),t1.1,t1.2))))))))
 (.done (r80,r81)))
def zbG_p122 : zch := ⟨122,true,[.sl tB,.sl yK,.sl yH,.sl yL,.sl tI,tI,.sl tI],[tI,.sl tI,.sl tI],⟨[.keep [2,4,5,6,7],.gc,.nilRow 6 800006 3 tI,.ren 6 700006,.ren 6 900006,.cellRow 80 0 600080 3 tI,.cellRow 80 1 600081 3 tI,.cellRen 80 0 600080,.cellRen 80 1 600081,.gc],[2,4,5,6,7],[.lf (qp 32),.lf (qp 64),.lf (qp 80),.lf (qr 900006),.lf (qm 0)],[(32,true,.cells [qi 0,qi 1,qi 2,qi 3,qi 4,qi 5]),(64,true,.cells [.fix (.nil),.fix (.nil)]),(80,true,.cells [qr 600080,qr 600081]),(900006,true,.arr 3 (qi 6)),(600080,true,.arr 3 (qm 1)),(600081,true,.arr 3 (qm 2))]⟩,[⟨2,⟨[.keep [4,5],.gc,.cellRow 80 0 600080 3 tI,.cellRow 80 1 600081 3 tI,.cellRen 80 0 600080,.cellRen 80 1 600081,.gc],[4,5],[.lf (qp 64),.lf (qp 80)],[(64,true,.cells [.fix (.nil),.fix (.nil)]),(80,true,.cells [qr 600080,qr 600081]),(600080,true,.arr 3 (qm 0)),(600081,true,.arr 3 (qm 1))]⟩,[.sl tI,.sl tI]⟩],zhW⟩
def zbG : ((List Bool) × (List Tk) × (List Th) × (List Lk) × (List Int) × Int × Int) → RT Unit ((List Int) × (List Int))
| (s_0,s_1,s_2,s_3,s_4,s_5,i) =>
 .rq 4 (.req ((wOK s_0 s_1 s_2 s_3 s_4 s_5)) (.rq 4 (.req (((decide (s_2.length ≤ 1000000) && zfv s_2 s_3) && !false)) (.rq 2 (let t0 := (rQ (zdG (zcC s_0 s_1 s_2 s_3 s_4 s_5).2 (zdL s_1 2 i) (zcO s_1.length)));
 .call (lo zhW (s_0,s_1,s_2,s_3,s_4,s_5,(behV s_2 s_3 i)) (0,t0.1,t0.2)) default fun v0 =>
 .rq 2 (.done (v0.1,v0.2)))))))
def F_zbG (x : (List Bool) × (List Tk) × (List Th) × (List Lk) × (List Int) × Int × Int) : Option ((List Int) × (List Int)) := (zbG x).run fun _ => none
def io_zbG : Io := ⟨n_zbG,[.sl tB,.sl yK,.sl yH,.sl yL,.sl tI,tI,tI],[.agg [qm 0,qm 1,qm 2,qm 3,qm 4,qm 5],.lf (qm 6)],[],[[.sl tB,.sl yK,.sl yH,.sl yL,.sl tI,tI],[tI]],[.sl tI,.sl tI],.agg [qr 0,qr 1],[],[(true,.arr 3 (qm 0)),(true,.arr 3 (qm 1))],false⟩
def zbG_P : List zch := [zbG_p122]
def zbG_T : zcl := tab [e_zF,e_zZ,e_zbK]
theorem zbG_To : zck pg zbG_T := zci ⟨e_zF_ok,e_zZ_ok,e_zbK_ok,trivial⟩
theorem zbG_k122 : (zbG_p122).OK pg (zbG_T) (zcB 29 (zbG_P)) (zcs f_zbG) 29 := ⟨by kernel_rfl,fun i x => by kernel_rfl⟩
theorem zbG_go : zcy pg (zbG_T) io_zbG f_zbG (zbG_P) [.cellRow 64 0 600064 3 tI,.cellRow 64 1 600065 3 tI,.cellRen 64 0 600064,.cellRen 64 1 600065] (zbG) := ⟨by kernel_rfl,by kernel_rfl,fun x => by kernel_rfl⟩
theorem ok_zbG : io_zbG.Okay pg (F_zbG) := zcu zcj (zbG_To) (zbG_go) ⟨zbG_k122,trivial⟩
theorem atR_loop {a : List Bool} {b : List Tk} {c : List Th} {d : List Lk} {e : List Int} {f : Int} (hw : wOK a b c d e f = true) (l : List Int) (hl : l.length ≤ 1000) (hs : ∀ k ∈ l,0 ≤ k ∧ k < (c.length : Int)) : ∀ (n i m : Nat) (q : Rat),i + n = l.length → 0 ≤ q → sm m q → m + 501 * n ≤ 100000000 →
  lo zhW (a,b,c,d,e,f,l) ((i : Int),(rQ q).1,(rQ q).2) = some (rQ (q + zcK ((l.drop i).map (gI (thW a b c d e f)))))
 | 0,i,m,q,h,_,_,_ => by
  rw [zcr,zhW]
  simp only [RT.run]
  rw [if_neg (by simp; omega),List.drop_eq_nil_of_le (by omega)]
  show some (rQ q) = some (rQ (q + 0))
  rw [Rat.add_zero]
 | n + 1,i,m,q,h,h0,hm,hb => by
  obtain ⟨H,h8⟩ := zdc hw
  have hi : i < l.length := by omega
  have hk := hs _ (List.getElem_mem hi)
  obtain ⟨s2,s3⟩ := H.th_sm hk
  have ih := atR_loop hw l hl hs n (i + 1) _ (q + gI (thW a b c d e f) l[i]) (by omega) (Rat.add_nonneg h0 s2) (sm_add h0 s2 hm s3) (by omega)
  rw [zcr,zhW]
  simp only [RT.run]
  rw [if_pos (by simp; omega),if_pos (zcn.2 ⟨by omega,by omega⟩),zcL hi,hw,if_pos rfl,← thW_get hk,zeZ hm (by omega),zeZ s3 (by decide),if_pos (by decide),zcm (by omega),show (i : Int) + 1 = ((i + 1 : Nat) : Int) by omega,zeq h0,zeq s2]
  show lo zhW _ (_,(rQ (q + gI (thW a b c d e f) l[i])).1,(rQ (q + gI (thW a b c d e f) l[i])).2) = _
  rw [ih,List.drop_eq_getElem_cons hi,List.map_cons,zcT,Rat.add_assoc]
open Classical in
theorem ca_behind {a : List Bool} {b : List Tk} {c : List Th} {d : List Lk} {e : List Int} {f : Int} (H : zcv a b c d e f) {i : Int} (hi : 0 ≤ i ∧ i < (c.length : Int)) : gI (thW a b c d e f) i + zcK ((behV c d i).map (gI (thW a b c d e f))) = gI (caV a b c d e f) i := by
 cases hu : usT c i with
 | false =>
  have : behV c d i = [] := by unfold behV; rw [hu]; rfl
  rw [this,H.th_zero hi hu,H.ca_zero hi hu]
  exact Rat.add_zero 0
 | true =>
  have hb : behV c d i = (zcO c.length).filter (wayB c d i) := by unfold behV; rw [if_pos hu]
  rw [caV_get hi,hb]
  unfold zdG
  have hp : ((zcO c.length).filter (onT c d i)).Perm (i :: (zcO c.length).filter (wayB c d i)) := by
   have hself : wayB c d i i = false := decide_eq_false (no_way H.noT _)
   refine (List.perm_ext_iff_of_nodup (ints_nodup.sublist List.filter_sublist) (List.nodup_cons.2 ⟨fun h => (by
    have := (List.mem_filter.1 h).2
    rw [hself] at this; cases this),ints_nodup.sublist List.filter_sublist⟩)).2 fun k => ?_
   rw [List.mem_filter,List.mem_cons,List.mem_filter,zez]
   have hon : ∀ k : Int,0 ≤ k ∧ k < (c.length : Int) → (onT c d i k = true ↔ (usT c k = true ∧ (i = k ∨ wayB c d i k = true))) := fun k hk => by
    obtain ⟨_,_,f3,f4⟩ := H.tail_facts k
    unfold onT wayB
    rw [List.contains_iff_mem,decide_eq_true_eq]
    cases huk : usT c k with
    | false => rw [f4 huk]; simp
    | true => rw [f3 huk i hi.1]; simp
   constructor
   ·rintro ⟨h1,h2⟩
    rcases ((hon k h1).1 h2).2 with h | h
    ·exact .inl h.symm
    ·exact .inr ⟨h1,h⟩
   ·rintro (h | ⟨h1,h2⟩)
    ·subst h
     exact ⟨hi,(hon _ hi).2 ⟨hu,.inl rfl⟩⟩
    ·refine ⟨h1,(hon k h1).2 ⟨?_,.inr h2⟩⟩
     have hw : Way c.length (zcW c d) k.toNat i.toNat := of_decide_eq_true h2
     have : usT c ((k.toNat : Nat) : Int) = true := by
      cases hw with
      | one h => exact (arr_next h).2.1
      | more h _ => exact (arr_next h).2.1
     rwa [Int.toNat_of_nonneg h1.1] at this
  rw [rsum_perm (hp.map _),List.map_cons,zcT]
def e_zbG : zcq := io_zbG.sp (fun (a,b,c,d,e,f,i) => (wOK a b c d e f && inB c i)) (fun (a,b,c,d,e,f,i) => (rQ (gI (caV a b c d e f) i)))
theorem sp_zbG (h : ∀ (a : List Bool) (b : List Tk) (c : List Th) (d : List Lk) (e : List Int) (f : Int) (i : Int),WfT [.sl tB,.sl yK,.sl yH,.sl yL,.sl tI,tI,tI] (a,b,c,d,e,f,i) → ((wOK a b c d e f && inB c i)) = true → (zbG (a,b,c,d,e,f,i)).run (fun _ => none) = some (rQ (gI (caV a b c d e f) i))) : e_zbG.ok pg := zcw ok_zbG fun (a,b,c,d,e,f,i) hw hc => h a b c d e f i hw hc
theorem e_zbG_ok : e_zbG.ok pg := sp_zbG fun a b c d e f i _ hc => by
 rw [Bool.and_eq_true] at hc
 obtain ⟨H,h8⟩ := zdc hc.1
 have hi := zcn.1 hc.2
 have hlc := H.lenC
 obtain ⟨s1,s2⟩ := H.th_sm hi
 have hbl : (behV c d i).length ≤ c.length := by
  unfold behV
  split
  ·have := List.length_filter_le (wayB c d i) (zcO c.length)
   rwa [zeF] at this
  ·simp
 have hbm : ∀ k ∈ behV c d i,0 ≤ k ∧ k < (c.length : Int) := fun k hk => by
  unfold behV at hk
  split at hk
  ·exact zez.1 (List.mem_filter.1 hk).1
  ·cases hk
 have hl := atR_loop hc.1 (behV c d i) (by omega) hbm (behV c d i).length 0 500 (gI (thW a b c d e f) i) (by omega) s1 s2 (by omega)
 rw [show ((0 : Nat) : Int) = 0 from rfl,List.drop_zero,ca_behind H hi] at hl
 rw [zbG]
 simp only [RT.run]
 rw [if_pos hc.1,if_pos (by rw [zhZ H.ths,decide_eq_true (show c.length ≤ 1000000 by omega)]; rfl),← thW_get hi,hl]
 rfl
end
end Go.Proofs.YtlfdidaeachpoaaGreat
namespace Go.Proofs.YtlfdidaeachpoaaGreat
open Go Go.RowKit
set_option maxRecDepth 100000
noncomputable section
def wgOne (t : Th) (q : Rat) : Rat := if (t.1 == 2) = true then q * mkRat t.2.2.2.1 t.2.2.2.2.toNat else 0
def wgV (a : List Bool) (b : List Tk) (c : List Th) (d : List Lk) (e : List Int) (f : Int) : List Rat := (zcO c.length).map fun i => wgOne (gI c i) (gI (caV a b c d e f) i)
section
variable {a : List Bool} {b : List Tk} {c : List Th} {d : List Lk} {e : List Int} {f : Int}
theorem zfR : (wgV a b c d e f).length = c.length := by simp [wgV,zcO]
theorem wgV_get {i : Int} (h : 0 ≤ i ∧ i < (c.length : Int)) : gI (wgV a b c d e f) i = wgOne (gI c i) (gI (caV a b c d e f) i) := zeJ h
theorem zcv.fact (H : zcv a b c d e f) {i : Int} (hu : usT c i = true) : 1 ≤ (gI c i).2.2.2.1 ∧ (gI c i).2.2.2.1 ≤ 1000 ∧ 1 ≤ (gI c i).2.2.2.2 ∧ (gI c i).2.2.2.2 ≤ 1000 := by
 have h := H.ths
 have hq := H.qua
 unfold usT at hu
 rw [Bool.and_eq_true] at hu
 obtain ⟨hin,hne⟩ := hu
 have hin := zcn.1 hin
 unfold zew at h
 rw [Bool.and_eq_true] at h
 obtain ⟨k,rfl⟩ := Int.eq_ofNat_of_zero_le hin.1
 have h1 := List.all_eq_true.1 h.1 k (List.mem_range.2 (by omega))
 simp only [bne_iff_ne,ne_eq] at hne
 unfold zgk at h1
 rw [if_neg (by simpa using hne)] at h1
 simp only [Bool.not_eq_true',Bool.or_eq_false_iff,Bool.and_eq_false_iff,decide_eq_false_iff_not,Bool.not_eq_false',Bool.and_eq_true,beq_iff_eq] at h1
 omega
theorem zcv.wg_sm (H : zcv a b c d e f) {i : Int} (h : 0 ≤ i ∧ i < (c.length : Int)) : 0 ≤ gI (wgV a b c d e f) i ∧ sm 510 (gI (wgV a b c d e f) i) := by
 rw [wgV_get h]
 unfold wgOne
 split
 ·rename_i h2
  have hu : usT c i = true := by
   unfold usT
   rw [zcn.2 h,beq_iff_eq] at *
   rw [h2]; rfl
  obtain ⟨f1,f2,f3,f4⟩ := H.fact hu
  obtain ⟨s1,s2,_⟩ := H.ca_sm h
  obtain ⟨q,hq⟩ := Int.eq_ofNat_of_zero_le (show 0 ≤ (gI c i).2.2.2.1 by omega)
  rw [hq]
  have m1 := zfh q (gI c i).2.2.2.2.toNat
  have m2 : sm 10 (mkRat (q : Int) (gI c i).2.2.2.2.toNat) := zfX (by omega) (by omega) (by omega)
  exact ⟨Rat.mul_nonneg s1 m1,sm_mul s1 m1 s2 m2⟩
 ·exact ⟨by decide,zhz _ (by decide)⟩
theorem zcv.wg_mem (H : zcv a b c d e f) : ∀ q ∈ wgV a b c d e f,0 ≤ q ∧ sm 510 q := fun q hq => by
 obtain ⟨i,hi,rfl⟩ := List.mem_map.1 hq
 have := H.wg_sm (zez.1 hi)
 rwa [wgV_get (zez.1 hi)] at this
end
def zbt : (Int × Int × Int × Int × Int) → RT Unit ((List Int) × (List Int))
| (t_0,t_1,t_2,t_3,t_4) =>
 .rq 10 (.ite ((decide (t_3 < 1)) || (decide (t_4 < 1)))
 (.rq 2 (.done ([],zcg B32 1)))
 (.rq 15 (let t0 := mkR (zcx t_3).toNat (zcx t_4).toNat;
 .done (t0.2.1,t0.2.2))))
def F_zbt (x : Int × Int × Int × Int × Int) : Option ((List Int) × (List Int)) := (zbt x).run fun _ => none
def io_zbt : Io := ⟨n_zbt,[tI,tI,tI,tI,tI],[.agg [qm 0,qm 1,qm 2,qm 3,qm 4]],[],[[tI,tI,tI,tI,tI]],[.sl tV,.sl tV],.agg [qr 0,qr 1],[],[(true,.arr 122 (qm 0)),(true,.arr 122 (qm 1))],false⟩
def zbt_P : List zch := []
def zbt_T : zcl := tab [e_zbF,e_zag]
theorem zbt_To : zck pg zbt_T := zci ⟨e_zbF_ok,zgp,trivial⟩
theorem zbt_go : zcy pg (zbt_T) io_zbt f_zbt (zbt_P) [.cellRow 32 0 600032 122 tV,.cellRow 32 1 600033 122 tV,.cellRen 32 0 600032,.cellRen 32 1 600033] (zbt) := ⟨by kernel_rfl,by kernel_rfl,fun x => by kernel_rfl⟩
theorem ok_zbt : io_zbt.Okay pg (F_zbt) := zcu zcj (zbt_To) (zbt_go) trivial
def e_zbt : zcq := io_zbt.en F_zbt
theorem e_zbt_ok : e_zbt.ok pg := zeS ok_zbt
def zy_b58 : ((List Th) × Int) → (Int × (List ((List Int) × List Int))) → RT (Int × (List ((List Int) × List Int))) (List ((List Int) × List Int))
| (x9,x10),(x11,r3) =>
 .rq 1 (.ite (decide (x11 < x10))
 (.rq 1 (.req (inB x9 x11) (.rq 7 (let t0 := w64 (x11 + 1);
 .ite ((gI x9 x11).1 == 2)
 (.rq 4 (.req (inB r3 x11) (.rq 2 (.call (F_zbt ((gI x9 x11).1,(gI x9 x11).2.1,(gI x9 x11).2.2.1,(gI x9 x11).2.2.2.1,(gI x9 x11).2.2.2.2)) default fun v0 =>
 .rq 1 (let t1 := [((gI r3 x11).1,(gI r3 x11).2),(v0.1,v0.2)];
 .req (okS t1) (.req (inB r3 x11) (.rq 3 (let t2 := rq (prodQ t1);
 .again (t0,sI r3 x11 (t2.1,t2.2))))))))))
 (.rq 3 (.req (inB r3 x11) (.rq 3 (.again (t0,sI r3 x11 ([],zcg B32 1))))))))))
 (.done r3))
def zy_p58 : zch := ⟨58,true,[.sl yH,tI],[tI,.sl (.pair (.sl tV) (.sl tV))],⟨[.keep [3,9,10,11],.gc,.nilRow 3 800003 41 (.pair (.sl tV) (.sl tV)),.ren 3 700003,.ren 3 900003,.gc],[3,9,10,11],[.lf (qr 900003),.lf (qi 0),.lf (qi 1),.lf (qm 0)],[(900003,true,.arr 41 (qm 1))]⟩,[⟨2,⟨[.keep [3],.gc,.nilRow 3 800003 41 (.pair (.sl tV) (.sl tV)),.ren 3 700003,.ren 3 900003,.gc],[3],[.lf (qr 900003)],[(900003,true,.arr 41 (qm 0))]⟩,[.sl (.pair (.sl tV) (.sl tV))]⟩],zy_b58⟩
def zy : ((List Bool) × (List Tk) × (List Th) × (List Lk) × (List Int) × Int) → RT Unit (List ((List Int) × List Int))
| (s_0,s_1,s_2,s_3,s_4,s_5) =>
 .rq 3 (.req ((wOK s_0 s_1 s_2 s_3 s_4 s_5)) (.rq 5 (.call (lo zy_b58 (s_2,(s_2.length : Int)) (0,((caV s_0 s_1 s_2 s_3 s_4 s_5).map rq))) default fun v1 =>
 .rq 2 (.done v1))))
def F_zy (x : (List Bool) × (List Tk) × (List Th) × (List Lk) × (List Int) × Int) : Option (List ((List Int) × List Int)) := (zy x).run fun _ => none
def io_zy : Io := ⟨n_zy,[.sl tB,.sl yK,.sl yH,.sl yL,.sl tI,tI],[.agg [qm 0,qm 1,qm 2,qm 3,qm 4,qm 5]],[],[[.sl tB,.sl yK,.sl yH,.sl yL,.sl tI,tI]],[.sl (.pair (.sl tV) (.sl tV))],.lf (qr 0),[],[(true,.arr 41 (qm 0))],true⟩
def zy_P : List zch := [zy_p58]
def zy_T : zcl := tab [e_zbt,e_zB,e_zab,e_zag]
theorem zy_To : zck pg zy_T := zci ⟨e_zbt_ok,e_zB_ok,e_zab_ok,zgp,trivial⟩
theorem zy_k58 : (zy_p58).OK pg (zy_T) (zcB 36 (zy_P)) (zcs f_zy) 36 := ⟨by kernel_rfl,fun i x => by kernel_rfl⟩
theorem zy_go : zcy pg (zy_T) io_zy f_zy (zy_P) [.nilRow 2 800002 41 (.pair (.sl tV) (.sl tV)),.ren 2 700002,.ren 2 900002] (zy) := ⟨by kernel_rfl,by kernel_rfl,fun x => by kernel_rfl⟩
theorem ok_zy : io_zy.Okay pg (F_zy) := zcu zcj (zy_To) (zy_go) ⟨zy_k58,trivial⟩
theorem wg_loop {a : List Bool} {b : List Tk} {c : List Th} {d : List Lk} {e : List Int} {f : Int} (H : zcv a b c d e f) : ∀ (n i : Nat) (X : List Rat),i + n = c.length → X.length = c.length → (∀ j : Int,0 ≤ j ∧ j < (c.length : Int) → gI X j = if j < (i : Int) then gI (wgV a b c d e f) j else gI (caV a b c d e f) j) →
  lo zy_b58 (c,(c.length : Int)) ((i : Int),X.map rq) = some ((wgV a b c d e f).map rq)
 | 0,i,X,h,hX,hg => by
  rw [zcr,zy_b58]
  simp only [RT.run]
  rw [if_neg (by simp; omega)]
  congr 2
  refine zgH (by rw [hX,zfR]) fun j hj => ?_
  rw [hX] at hj
  rw [hg j hj,if_pos (by omega)]
 | n + 1,i,X,h,hX,hg => by
  have hlc := H.lenC
  have hi : 0 ≤ (i : Int) ∧ (i : Int) < (c.length : Int) := by omega
  have hin : inB (X.map rq) (i : Int) = true := zcn.2 (by rw [List.length_map,hX]; exact hi)
  have hXi : gI X (i : Int) = gI (caV a b c d e f) (i : Int) := by rw [hg _ hi,if_neg (by omega)]
  have e1 : gI (X.map rq) (i : Int) = rq (gI (caV a b c d e f) (i : Int)) := by rw [zek rq (by rw [hX]; exact hi),hXi]
  have key : ∀ v,v = gI (wgV a b c d e f) (i : Int) → lo zy_b58 (c,(c.length : Int)) (((i + 1 : Nat) : Int),(sI X (i : Int) v).map rq) = some ((wgV a b c d e f).map rq) := fun v hv => by
   refine wg_loop H n (i + 1) _ (by omega) (by rw [sI_len,hX]) fun j hj => ?_
   rw [zhb (by rw [hX]; exact hi) hj.1]
   by_cases hij : (i : Int) = j
   ·rw [if_pos hij,if_pos (by omega),hv,hij]
   ·rw [if_neg hij,hg j hj]
    by_cases hlt : j < (i : Int)
    ·rw [if_pos hlt,if_pos (by omega)]
    ·rw [if_neg hlt,if_neg (by omega)]
  rw [zcr,zy_b58]
  simp only [RT.run,e1,pe]
  rw [if_pos (by simp; omega),if_pos (zcn.2 hi),zcm (by omega),show (i : Int) + 1 = ((i + 1 : Nat) : Int) by omega,if_pos hin]
  by_cases h2 : ((gI c (i : Int)).1 == 2) = true
  ·have hu : usT c (i : Int) = true := by
    unfold usT
    rw [zcn.2 hi,beq_iff_eq.1 h2]; rfl
   obtain ⟨f1,f2,f3,f4⟩ := H.fact hu
   obtain ⟨s1,s2,_⟩ := H.ca_sm hi
   have hf : F_zbt ((gI c (i : Int)).1,(gI c (i : Int)).2.1,(gI c (i : Int)).2.2.1,(gI c (i : Int)).2.2.2.1,(gI c (i : Int)).2.2.2.2) = some (rq (mkRat (gI c (i : Int)).2.2.2.1 (gI c (i : Int)).2.2.2.2.toNat)) := by
    show (zbt _).run _ = _
    rw [zbt]
    simp only [RT.run,pe]
    rw [if_neg (by simp; omega),zcD (by omega),zcD (by omega),mkR_rq (by omega),Int.toNat_of_nonneg (by omega)]
   obtain ⟨q,hq⟩ := Int.eq_ofNat_of_zero_le (show 0 ≤ (gI c (i : Int)).2.2.2.1 by omega)
   have m1 : 0 ≤ mkRat (gI c (i : Int)).2.2.2.1 (gI c (i : Int)).2.2.2.2.toNat := by rw [hq]; exact zfh _ _
   have m2 : sm 10 (mkRat (gI c (i : Int)).2.2.2.1 (gI c (i : Int)).2.2.2.2.toNat) := by rw [hq]; exact zfX (by omega) (by omega) (by omega)
   have hf' : F_zbt (gI c (i : Int)) = some (rq (mkRat (gI c (i : Int)).2.2.2.1 (gI c (i : Int)).2.2.2.2.toNat)) := hf
   rw [if_pos h2,hf',Option.bind_some,okS2 s2 m2 (by decide) (by decide),prodQ2 s1 m1,if_pos rfl,if_pos hin,sI_map]
   refine key _ ?_
   rw [wgV_get hi]
   unfold wgOne
   rw [if_pos h2]
  ·rw [if_neg h2,if_pos hin,← rq_zero,sI_map]
   refine key _ ?_
   rw [wgV_get hi]
   unfold wgOne
   rw [if_neg h2]
def e_zy : zcq := io_zy.sp (fun (a,b,c,d,e,f) => (wOK a b c d e f)) (fun (a,b,c,d,e,f) => ((wgV a b c d e f).map rq))
theorem sp_zy (h : ∀ (a : List Bool) (b : List Tk) (c : List Th) (d : List Lk) (e : List Int) (f : Int),WfT [.sl tB,.sl yK,.sl yH,.sl yL,.sl tI,tI] (a,b,c,d,e,f) → ((wOK a b c d e f)) = true → (zy (a,b,c,d,e,f)).run (fun _ => none) = some ((wgV a b c d e f).map rq)) : e_zy.ok pg := zcw ok_zy fun (a,b,c,d,e,f) hw hc => h a b c d e f hw hc
theorem e_zy_ok : e_zy.ok pg := sp_zy fun a b c d e f _ hc => by
 obtain ⟨H,h8⟩ := zdc hc
 have hl := wg_loop H c.length 0 (caV a b c d e f) (by omega) caV_len fun j hj => by rw [if_neg (by omega)]
 rw [show ((0 : Nat) : Int) = 0 from rfl] at hl
 rw [zy]
 simp only [RT.run]
 rw [if_pos hc,hl]
 rfl
def zaX : ((List Bool) × (List Tk) × (List Th) × (List Lk) × (List Int) × Int × Int) → RT Unit ((List Int) × (List Int))
| (s_0,s_1,s_2,s_3,s_4,s_5,i) =>
 .rq 5 (.req (inB s_2 i) (.rq 6 (.ite ((gI s_2 i).1 != 2)
 (.rq 2 (.done ((rQ (((0 : Int).toNat : Nat) : Rat)).1,(rQ (((0 : Int).toNat : Nat) : Rat)).2)))
 (.rq 2 (.req ((wOK s_0 s_1 s_2 s_3 s_4 s_5 && inB s_2 i)) (.rq 6 (let t0 := zcx (gI s_2 i).2.2.2.1;
 let t1 := zcx (gI s_2 i).2.2.2.2;
 .req (decide (t1 ≠ 0)) (let t2 := (rQ (gI (caV s_0 s_1 s_2 s_3 s_4 s_5) i));
 let t3 := rQ (mkRat ((t0.toNat : Nat) : Int) t1.toNat);
 .req (okq t2.1 t2.2 && okq t3.1 t3.2) (.rq 1 (let t4 := rQ (zdl t2.1 t2.2 * zdl t3.1 t3.2);
 .done (t4.1,t4.2)))))))))))
def F_zaX (x : (List Bool) × (List Tk) × (List Th) × (List Lk) × (List Int) × Int × Int) : Option ((List Int) × (List Int)) := (zaX x).run fun _ => none
def io_zaX : Io := ⟨n_zaX,[.sl tB,.sl yK,.sl yH,.sl yL,.sl tI,tI,tI],[.agg [qm 0,qm 1,qm 2,qm 3,qm 4,qm 5],.lf (qm 6)],[],[[.sl tB,.sl yK,.sl yH,.sl yL,.sl tI,tI],[tI]],[.sl tI,.sl tI],.agg [qr 0,qr 1],[],[(true,.arr 3 (qm 0)),(true,.arr 3 (qm 1))],false⟩
def zaX_P : List zch := []
def zaX_T : zcl := tab [e_zbG,e_zbV,e_zbs,e_zcc]
theorem zaX_To : zck pg zaX_T := zci ⟨e_zbG_ok,e_zbV_ok,zhn,e_zcc_ok,trivial⟩
theorem zaX_go : zcy pg (zaX_T) io_zaX f_zaX (zaX_P) [.cellRow 64 0 600064 3 tI,.cellRow 64 1 600065 3 tI,.cellRen 64 0 600064,.cellRen 64 1 600065] (zaX) := ⟨by kernel_rfl,by kernel_rfl,fun x => by kernel_rfl⟩
theorem ok_zaX : io_zaX.Okay pg (F_zaX) := zcu zcj (zaX_To) (zaX_go) trivial
def e_zaX : zcq := io_zaX.sp (fun (a,b,c,d,e,f,i) => (wOK a b c d e f && inB c i)) (fun (a,b,c,d,e,f,i) => (rQ (gI (wgV a b c d e f) i)))
theorem sp_zaX (h : ∀ (a : List Bool) (b : List Tk) (c : List Th) (d : List Lk) (e : List Int) (f : Int) (i : Int),WfT [.sl tB,.sl yK,.sl yH,.sl yL,.sl tI,tI,tI] (a,b,c,d,e,f,i) → ((wOK a b c d e f && inB c i)) = true → (zaX (a,b,c,d,e,f,i)).run (fun _ => none) = some (rQ (gI (wgV a b c d e f) i))) : e_zaX.ok pg := zcw ok_zaX fun (a,b,c,d,e,f,i) hw hc => h a b c d e f i hw hc
theorem e_zaX_ok : e_zaX.ok pg := sp_zaX fun a b c d e f i _ hc => by
 have hc' := hc
 rw [Bool.and_eq_true] at hc'
 obtain ⟨H,h8⟩ := zdc hc'.1
 have hi := zcn.1 hc'.2
 rw [zaX]
 simp only [RT.run]
 rw [if_pos hc'.2,wgV_get hi]
 unfold wgOne
 by_cases h2 : ((gI c i).1 == 2) = true
 ·have hu : usT c i = true := by
   unfold usT
   rw [hc'.2,beq_iff_eq.1 h2]; rfl
  obtain ⟨f1,f2,f3,f4⟩ := H.fact hu
  obtain ⟨s1,s2,_⟩ := H.ca_sm hi
  obtain ⟨q,hq⟩ := Int.eq_ofNat_of_zero_le (show 0 ≤ (gI c i).2.2.2.1 by omega)
  have m1 : 0 ≤ mkRat (gI c i).2.2.2.1 (gI c i).2.2.2.2.toNat := by rw [hq]; exact zfh _ _
  have m2 : sm 10 (mkRat (gI c i).2.2.2.1 (gI c i).2.2.2.2.toNat) := by rw [hq]; exact zfX (by omega) (by omega) (by omega)
  have e1 : mkRat ((((gI c i).2.2.2.1).toNat : Nat) : Int) (gI c i).2.2.2.2.toNat = mkRat (gI c i).2.2.2.1 (gI c i).2.2.2.2.toNat := by rw [Int.toNat_of_nonneg (by omega)]
  rw [if_neg (by rw [beq_iff_eq] at h2; rw [h2]; decide),if_pos hc,zcD (by omega),zcD (by omega),if_pos (decide_eq_true (by omega)),e1,zeZ s2 (by decide),zeZ m2 (by decide),if_pos (by decide),zeq s1,zeq m1,if_pos h2]
 ·rw [if_pos (by simpa using h2),if_neg h2]
  rfl
def lcmV (L : List Rat) : Nat := L.foldl (fun m q => Nat.lcm m q.den) 1
def upV (m : Nat) (q : Rat) : Nat := m / q.den * q.num.toNat
def upsV (L : List Rat) : List Nat := L.map (upV (lcmV L))
def i64s (l : List Nat) : List Int := l.map fun (n : Nat) => (n : Int)
def brV (L : List Rat) : Int × Int × Int × List Int :=
 if lcmV L < 18446744073709551616 ∧ (upsV L).sum < 18446744073709551616 then ((lcmV L : Int),((upsV L).sum : Int),0,i64s (upsV L)) else (0,0,10,[])
theorem lcm_dvd : ∀ (L : List Rat) (m : Nat),m ∣ L.foldl (fun m q => Nat.lcm m q.den) m ∧ ∀ q ∈ L,q.den ∣ L.foldl (fun m q => Nat.lcm m q.den) m
 | [],m => ⟨Nat.dvd_refl _,fun q h => by cases h⟩
 | q :: L,m => by
  obtain ⟨h1,h2⟩ := lcm_dvd L (Nat.lcm m q.den)
  refine ⟨Nat.dvd_trans (Nat.dvd_lcm_left ..) h1,fun p hp => ?_⟩
  rcases List.mem_cons.1 hp with rfl | hp
  ·exact Nat.dvd_trans (Nat.dvd_lcm_right ..) h1
  ·exact h2 p hp
theorem lcm_bound {n : Nat} : ∀ (L : List Rat) (m k : Nat),(∀ q ∈ L,sm n q) → m < 2 ^ k → L.foldl (fun m q => Nat.lcm m q.den) m < 2 ^ (k + n * L.length)
 | [],m,k,_,h => by simpa using h
 | q :: L,m,k,hL,h => by
  have h1 : Nat.lcm m q.den ≤ m * q.den := Nat.div_le_self _ _
  have h2 := Nat.mul_lt_mul'' h (hL q (List.mem_cons_self ..)).2
  rw [← Nat.pow_add] at h2
  have := lcm_bound L (Nat.lcm m q.den) (k + n) (fun p hp => hL p (List.mem_cons_of_mem _ hp)) (Nat.lt_of_le_of_lt h1 h2)
  rw [List.length_cons,Nat.mul_add,Nat.mul_one,show k + (n * L.length + n) = k + n + n * L.length by omega]
  exact this
end
end Go.Proofs.YtlfdidaeachpoaaGreat
namespace Go.Proofs.YtlfdidaeachpoaaGreat
open Go Go.RowKit
set_option maxRecDepth 100000
noncomputable section
theorem zdA {v n : Nat} (h : v < 2 ^ n) : (zcg B32 v).length ≤ n ∧ (zcg B16 v).length ≤ n := ⟨zfC (by decide) h,zfC (by decide) h⟩
theorem lt_pow {m n : Nat} (h : m ≤ n) {v : Nat} (hv : v < 2 ^ m) : v < 2 ^ n := Nat.lt_of_lt_of_le hv (Nat.pow_le_pow_right (by decide) h)
theorem fits16 (v : Nat) : (zcg B16 v).length ≤ 4 ↔ v < 18446744073709551616 := by
 constructor
 ·intro h
  have h1 := zcQ (b := B16) (by decide) (zcS (by decide) v)
  rw [zcz (by decide)] at h1
  exact Nat.lt_of_lt_of_le h1 (Nat.le_trans (Nat.pow_le_pow_right (by decide) h) (by decide))
 ·intro h
  exact zgu (m := 4) (by rw [show B16 ^ 4 = 18446744073709551616 from rfl]; exact h)
theorem take_next {α β : Type} (g : α → β) (l : List α) {i : Nat} (h : i < l.length) : (l.take i).map g ++ [g l[i]] = (l.take (i + 1)).map g := by
 rw [List.take_add_one,List.getElem?_eq_getElem h,List.map_append]
 rfl
theorem lcm_sm {m k n : Nat} {q : Rat} (hm : m < 2 ^ k) (hq : sm n q) : Nat.lcm m q.den < 2 ^ (k + n) := by
 have h1 : Nat.lcm m q.den ≤ m * q.den := Nat.div_le_self _ _
 have h2 := Nat.mul_lt_mul'' hm hq.2
 rw [← Nat.pow_add] at h2
 exact Nat.lt_of_le_of_lt h1 h2
theorem up_sm {m k n : Nat} {q : Rat} (hm : m < 2 ^ k) (hq : sm n q) : upV m q < 2 ^ (k + n) := by
 unfold upV
 have h1 : m / q.den ≤ m := Nat.div_le_self _ _
 have h2 := Nat.mul_lt_mul'' (Nat.lt_of_le_of_lt h1 hm) hq.1
 rwa [← Nat.pow_add] at h2
theorem sum_ge {l : List Nat} {x : Nat} (h : x ∈ l) : x ≤ l.sum := by
 induction l with
 | nil => cases h
 | cons y l ih =>
  rw [List.sum_cons]
  rcases List.mem_cons.1 h with rfl | h
  ·omega
  ·have := ih h; omega
def toI (n : Nat) : Int := (n : Int)
def upD (m : Nat) (q : Rat) : List Int := zcg B32 (upV m q)
def zu_b58 : ((List ((List Int) × List Int)) × Int) → (Int × (List Int)) → RT (Int × (List Int)) (List Int)
| (x14,x15),(x16,r4) =>
 .rq 1 (.ite (decide (x16 < x15))
 (.req (inB x14 x16) (.rq 6 (.req (okL 36 r4 && okL 36 (gI x14 x16).2) (.rq 3 (.again (w64 (x16 + 1),zcg B32 (Nat.lcm (val B32 r4) (val B32 (gI x14 x16).2))))))))
 (.done r4))
def zu_p58 : zch := ⟨58,true,[.sl (.pair (.sl tV) (.sl tV)),.sl (.pair (.sl tV) (.sl tV)),tI],[tI,.sl tV],⟨[.keep [0,4,14,15,16],.gc,.nilRow 4 800004 122 tV,.ren 4 700004,.ren 4 900004,.gc],[0,4,14,15,16],[.lf (qi 0),.lf (qr 900004),.lf (qi 1),.lf (qi 2),.lf (qm 0)],[(900004,true,.arr 122 (qm 1))]⟩,[⟨2,⟨[.keep [0,4],.gc,.nilRow 4 800004 122 tV,.ren 4 700004,.ren 4 900004,.gc],[0,4],[.lf (qi 0),.lf (qr 900004)],[(900004,true,.arr 122 (qm 0))]⟩,[.sl tV]⟩],(fun i => zu_b58 (i.2.1,i.2.2))⟩
def zu_b250 : ((List ((List Int) × List Int)) × Int × (List Int)) → (Int × (List (List Int))) → RT (Int × (List (List Int))) (List (List Int))
| (x25,x26,r4),(x27,r7) =>
 .rq 1 (.ite (decide (x27 < x26))
 (.req (inB x25 x27) (.rq 6 (.req (okL 38 r4 && okL 38 (gI x25 x27).2) (.rq 12 (let t0 := [(zff (val B32 r4) (val B32 (gI x25 x27).2)).2.1,(gI x25 x27).1];
 .req (okMs t0) (.rq 1 (let t1 := [zcg B32 (zeB t0)];
 .req (zdK 24 r7 t1) (.rq 3 (.again (w64 (x27 + 1),r7 ++ t1))))))))))
 (.done r7))
def zu_p250 : zch := ⟨250,true,[.sl (.pair (.sl tV) (.sl tV)),tI,.sl tV],[tI,.sl (.sl tV)],⟨[.keep [4,7,25,26,27],.gc,.nilRow 4 800004 122 tV,.nilRow 7 800007 39 (.sl tV),.ren 4 700004,.ren 7 700007,.ren 4 900004,.ren 7 900007,.gc],[4,7,25,26,27],[.lf (qr 900004),.lf (qr 900007),.lf (qi 0),.lf (qi 1),.lf (qm 0)],[(900004,true,.arr 122 (qi 2)),(900007,true,.arr 39 (qm 1))]⟩,[⟨4,⟨[.keep [4,7],.gc,.nilRow 4 800004 122 tV,.nilRow 7 800007 39 (.sl tV),.ren 4 700004,.ren 7 700007,.ren 4 900004,.ren 7 900007,.gc],[4,7],[.lf (qr 900004),.lf (qr 900007)],[(900004,true,.arr 122 (qi 2)),(900007,true,.arr 39 (qm 0))]⟩,[.sl (.sl tV)]⟩],zu_b250⟩
def zu : (List ((List Int) × List Int)) → RT Unit ((List Int) × (List (List Int)))
| l =>
 .rq 7 (.call (lo zu_b58 (l,(l.length : Int)) (0,zcg B32 (1 : Int).toNat)) default fun v0 =>
 .rq 4 (.call (lo zu_b250 (l,(l.length : Int),v0) (0,[])) default fun v1 =>
 .rq 4 (.done (v0,v1))))
def F_zu (x : (List ((List Int) × List Int))) : Option ((List Int) × (List (List Int))) := (zu x).run fun _ => none
def io_zu : Io := ⟨n_zu,[.sl (.pair (.sl tV) (.sl tV))],[.lf (qm 0)],[],[[.sl (.pair (.sl tV) (.sl tV))]],[.sl tV,.sl (.sl tV)],.tup [(false,[qr 0]),(false,[qr 1])],[],[(true,.arr 122 (qm 0)),(true,.arr 39 (qm 1))],true⟩
def zu_P : List zch := [zu_p58,zu_p250]
def zu_T : zcl := tab [e_zbY,e_zaH,e_zaz,e_zbW]
theorem zu_To : zck pg zu_T := zci ⟨e_zbY_ok,e_zaH_ok,zhY,zit,trivial⟩
theorem zu_k58 : (zu_p58).OK pg (zu_T) (zcB 50 (zu_P)) (zcs f_zu) 50 := ⟨by kernel_rfl,fun i x => by kernel_rfl⟩
theorem zu_k250 : (zu_p250).OK pg (zu_T) (zcB 50 (zu_P)) (zcs f_zu) 50 := ⟨by kernel_rfl,fun i x => by kernel_rfl⟩
theorem zu_go : zcy pg (zu_T) io_zu f_zu (zu_P) [.nilRow 2 800002 122 tV,.nilRow 3 800003 39 (.sl tV),.ren 2 700002,.ren 3 700003,.ren 2 900002,.ren 3 900003] (zu) := ⟨by kernel_rfl,by kernel_rfl,fun x => by kernel_rfl⟩
theorem ok_zu : io_zu.Okay pg (F_zu) := zcu zcj (zu_To) (zu_go) ⟨zu_k58,zu_k250,trivial⟩
section
variable {L : List Rat} (hL : ∀ q ∈ L,0 ≤ q ∧ sm 5000 q) (hl : L.length ≤ 100)
include hL hl
theorem com_1 : ∀ (n i m k : Nat),i + n = L.length → 0 < m → m < 2 ^ k → k + 5000 * n ≤ 1000000 →
  lo zu_b58 (L.map rq,(L.length : Int)) ((i : Int),zcg B32 m) = some (zcg B32 ((L.drop i).foldl (fun m q => Nat.lcm m q.den) m))
 | 0,i,m,k,h,_,_,_ => by
  rw [zcr,zu_b58]
  simp only [RT.run]
  rw [if_neg (by simp; omega),List.drop_eq_nil_of_le (by omega)]
  rfl
 | n + 1,i,m,k,h,h0,hm,hk => by
  have hi : i < L.length := by omega
  have hg : gI (L.map rq) (i : Int) = rq L[i] := by rw [zek rq (by omega),zcL hi]
  obtain ⟨s1,s2⟩ := hL _ (List.getElem_mem hi)
  have hd := (rq_len s2).2
  have hm2 := (zdA hm).1
  have ih := com_1 n (i + 1) (Nat.lcm m L[i].den) (k + 5000) (by omega) (Nat.lcm_pos h0 L[i].den_pos) (by
   exact lcm_sm hm s2) (by omega)
  rw [zcr,zu_b58]
  simp only [RT.run]
  rw [if_pos (by simp; omega),if_pos (zcn.2 (by rw [List.length_map]; omega)),hg,if_pos (by rw [Bool.and_eq_true,zeG,zeG]; omega),zcz (by decide),rq_den,zcm (by omega),show (i : Int) + 1 = ((i + 1 : Nat) : Int) by omega,ih,List.drop_eq_getElem_cons hi,List.foldl_cons]
omit hl in
theorem up_bound {m k : Nat} (hm : m < 2 ^ k) {q : Rat} (hq : q ∈ L) : upV m q < 2 ^ (k + 5000) := up_sm hm (hL q hq).2
theorem com_2 {m k : Nat} (hm : m < 2 ^ k) (hk : k ≤ 600000) : ∀ (n i : Nat),i + n = L.length →
  lo zu_b250 (L.map rq,(L.length : Int),zcg B32 m) ((i : Int),(L.take i).map (upD m)) = some (L.map (upD m))
 | 0,i,h => by
  rw [zcr,zu_b250]
  simp only [RT.run]
  rw [if_neg (by simp; omega),List.take_of_length_le (by omega)]
 | n + 1,i,h => by
  have hi : i < L.length := by omega
  have hg : gI (L.map rq) (i : Int) = rq L[i] := by rw [zek rq (by omega),zcL hi]
  obtain ⟨s1,s2⟩ := hL _ (List.getElem_mem hi)
  have hd := rq_len s2
  have hm2 := (zdA hm).1
  have hdl := (zdA (Nat.lt_of_le_of_lt (Nat.div_le_self m L[i].den) hm)).1
  have e1 : (zff m L[i].den).2.1 = zcg B32 (m / L[i].den) := by
   unfold zff
   rw [if_neg L[i].den_nz]
  have e2 : zcg B32 (zeB [zcg B32 (m / L[i].den),(rq L[i]).1]) = upD m L[i] := by
   rw [prod2,zcz (by decide),rq_num]
   rfl
  rw [zcr,zu_b250]
  simp only [RT.run]
  rw [if_pos (by simp; omega),if_pos (zcn.2 (by rw [List.length_map]; omega)),hg,if_pos (by rw [Bool.and_eq_true,zeG,zeG]; omega),zcz (by decide),rq_den,e1,if_pos (by rw [zeX]; simp [lenS]; omega),e2,if_pos (zgc (by decide) (by simp; omega)),zcm (by omega),show (i : Int) + 1 = ((i + 1 : Nat) : Int) by omega,take_next _ _ hi,com_2 hm hk n (i + 1) (by omega)]
omit hl in
theorem lcm_lt : lcmV L < 2 ^ (1 + 5000 * L.length) := lcm_bound (n := 5000) L 1 1 (fun q hq => (hL q hq).2) (by decide)
theorem common_F : F_zu (L.map rq) = some (zcg B32 (lcmV L),L.map (upD (lcmV L))) := by
 show (zu _).run _ = _
 rw [zu]
 simp only [RT.run,List.length_map]
 have h1 := com_1 hL hl L.length 0 1 1 (by omega) (by decide) (by decide) (by omega)
 have h2 := com_2 hL hl (lcm_lt hL) (by omega) L.length 0 (by omega)
 rw [List.drop_zero,show ((0 : Nat) : Int) = 0 from rfl] at h1
 rw [List.take_zero,List.map_nil,show ((0 : Nat) : Int) = 0 from rfl] at h2
 show (lo zu_b58 _ (0,zcg B32 1)).bind _ = _
 rw [h1,Option.bind_some]
 show (lo zu_b250 (_,_,zcg B32 (lcmV L)) _).bind _ = _
 rw [h2]
 rfl
end
def e_zu : zcq := io_zu.en F_zu
theorem e_zu_ok : e_zu.ok pg := zeS ok_zu
def zbI : (Int × Int) → RT Unit (Int × Bool)
| (a,b) =>
 .rq 9 (let t0 := zcx (a + b);
 .ite (decide (t0 < a))
 (.rq 2 (.done (0,false)))
 (.rq 3 (.done (t0,true))))
def F_zbI (x : Int × Int) : Option (Int × Bool) := (zbI x).run fun _ => none
def io_zbI : Io := ⟨n_zbI,[tU,tU],[.lf (qm 0),.lf (qm 1)],[],[[tU],[tU]],[tU,tB],.tup [(false,[qm 0]),(false,[qm 1])],[],[],false⟩
def zbI_P : List zch := []
def zbI_T : zcl := tab []
theorem zbI_To : zck pg zbI_T := zci trivial
theorem zbI_go : zcy pg (zbI_T) io_zbI f_zbI (zbI_P) [] (zbI) := ⟨by kernel_rfl,by kernel_rfl,fun x => by kernel_rfl⟩
theorem ok_zbI : io_zbI.Okay pg (F_zbI) := zcu zcj (zbI_To) (zbI_go) trivial
def e_zbI : zcq := io_zbI.sp (fun (a,b) => true) (fun (a,b) => (if decide (zcx (a + b) < a) = true then (0,false) else (zcx (a + b),true)))
theorem sp_zbI (h : ∀ (a : Int) (b : Int),WfT [tU,tU] (a,b) → (zbI (a,b)).run (fun _ => none) = some (if decide (zcx (a + b) < a) = true then (0,false) else (zcx (a + b),true))) : e_zbI.ok pg := zcw ok_zbI fun (a,b) hw hc => h a b hw
theorem e_zbI_ok : e_zbI.ok pg := sp_zbI fun a b _ => by
 rw [zbI]
 simp only [RT.run]
 by_cases h : decide (zcx (a + b) < a) = true
 ·rw [if_pos h,if_pos h]
 ·rw [if_neg h,if_neg h]
def zah_b122 : ((List Int) × Int) → (Int × Int × (List (Int × Int))) → RT (Int × Int × (List (Int × Int))) (LR Unit (List (Int × Int)))
| (x9,x10),(x5,x11,r4) =>
 .rq 1 (.ite (decide (x11 < x10))
 (.req (inB x9 x11) (.rq 7 (let t0 := [(x5,gI x9 x11)];
 .req (zdK 16 r4 t0) (.rq 11 (let t1 := (if decide (zcx (x5 + (gI x9 x11)) < x5) = true then (0,false) else (zcx (x5 + (gI x9 x11)),true));
 .ite (!t1.2)
 (.rq 2 (.done (.ex ())))
 (.rq 2 (.again (t1.1,w64 (x11 + 1),r4 ++ t0))))))))
 (.done (.rt r4)))
def zah_p122 : zch := ⟨122,true,[.sl tU,tI],[tU,tI,.sl (.pair tU tU)],⟨[.keep [4,5,9,10,11],.gc,.nilRow 4 800004 177 (.pair tU tU),.ren 4 700004,.ren 4 900004,.gc],[4,5,9,10,11],[.lf (qr 900004),.lf (qm 0),.lf (qi 0),.lf (qi 1),.lf (qm 1)],[(900004,true,.arr 177 (qm 2))]⟩,[⟨1,⟨[.keep [2,3],.gc],[2,3],[.lf (.fix (.nil)),.lf (.fix (.bool false))],[]⟩,[]⟩,⟨2,⟨[.keep [4],.gc,.nilRow 4 800004 177 (.pair tU tU),.ren 4 700004,.ren 4 900004,.gc],[4],[.lf (qr 900004)],[(900004,true,.arr 177 (qm 0))]⟩,[.sl (.pair tU tU)]⟩],zah_b122⟩
def zah : (List Int) → RT Unit (Bool × (List (Int × Int)))
| l =>
 .rq 8 (.call (lo zah_b122 (l,(l.length : Int)) (0,0,[])) default fun v0 =>
 .ite v0.isRt
 (.rq 3 (.done (true,v0.getR)))
 (.done (false,[])))
def F_zah (x : (List Int)) : Option (Bool × (List (Int × Int))) := (zah x).run fun _ => none
def io_zah : Io := ⟨n_zah,[.sl tU],[.lf (qm 0)],[],[[.sl tU]],[tB,.sl (.pair tU tU)],.tup [(false,[qr 0]),(false,[qm 0])],[],[(true,.arr 177 (qm 1))],false⟩
def zah_P : List zch := [zah_p122]
def zah_T : zcl := tab [e_zbI]
theorem zah_To : zck pg zah_T := zci ⟨e_zbI_ok,trivial⟩
theorem zah_k122 : (zah_p122).OK pg (zah_T) (zcB 31 (zah_P)) (zcs f_zah) 31 := ⟨by kernel_rfl,fun i x => by kernel_rfl⟩
theorem zah_go : zcy pg (zah_T) io_zah f_zah (zah_P) [.nilRow 2 800002 177 (.pair tU tU),.ren 2 700002,.ren 2 900002] (zah) := ⟨by kernel_rfl,by kernel_rfl,fun x => by kernel_rfl⟩
theorem ok_zah : io_zah.Okay pg (F_zah) := zcu zcj (zah_To) (zah_go) ⟨zah_k122,trivial⟩
def zgR : Nat → List Nat → List (Int × Int)
 | _,[] => []
 | at_,w :: l => ((at_ : Int),(w : Int)) :: zgR (at_ + w) l
theorem spans_loop (l : List Nat) (hl : l.length ≤ 100000) (hw : ∀ w ∈ l,w < 18446744073709551616) : ∀ (n i s : Nat) (r : List (Int × Int)),i + n = l.length → r.length ≤ i → s < 18446744073709551616 →
  lo zah_b122 (l.map toI,(l.length : Int)) ((s : Int),(i : Int),r) = some (if s + (l.drop i).sum < 18446744073709551616 then .rt (r ++ zgR s (l.drop i)) else .ex ())
 | 0,i,s,r,h,_,hs => by
  rw [zcr,zah_b122]
  simp only [RT.run]
  rw [if_neg (by simp; omega),List.drop_eq_nil_of_le (by omega),if_pos (by simpa using hs),zgR,List.append_nil]
 | n + 1,i,s,r,h,hr,hs => by
  have hi : i < l.length := by omega
  have hwi := hw _ (List.getElem_mem hi)
  have hg : gI (l.map toI) (i : Int) = (l[i] : Int) := by rw [zek toI (by omega),zcL hi]; rfl
  rw [zcr,zah_b122]
  simp only [RT.run,hg]
  rw [if_pos (by simp; omega),if_pos (zcn.2 (by rw [List.length_map]; omega)),if_pos (zgc (by decide) (by simp; omega)),List.drop_eq_getElem_cons hi,List.sum_cons,zcm (by omega),show (i : Int) + 1 = ((i + 1 : Nat) : Int) by omega]
  by_cases hb : s + l[i] < 18446744073709551616
  ·have e1 : zcx ((s : Int) + (l[i] : Int)) = ((s + l[i] : Nat) : Int) := by rw [zcD (by omega)]; omega
   rw [e1,if_neg (show ¬ decide (((s + l[i] : Nat) : Int) < (s : Int)) = true by simp; omega)]
   simp only [Bool.not_true,Bool.false_eq_true,if_false]
   rw [spans_loop l hl hw n (i + 1) (s + l[i]) (r ++ [((s : Int),(l[i] : Int))]) (by omega) (by simp; omega) hb,zgR,List.append_assoc,Nat.add_assoc]
   rfl
  ·have e1 : zcx ((s : Int) + (l[i] : Int)) < (s : Int) := by rw [zhG]; omega
   rw [decide_eq_true e1,if_pos rfl,if_neg (show ¬ s + (l[i] + (l.drop (i + 1)).sum) < 18446744073709551616 by omega)]
   rfl
theorem spans_F (l : List Nat) (hl : l.length ≤ 100000) (hw : ∀ w ∈ l,w < 18446744073709551616) : F_zah (l.map toI) = some (if l.sum < 18446744073709551616 then (true,zgR 0 l) else (false,[])) := by
 show (zah _).run _ = _
 rw [zah]
 simp only [RT.run,List.length_map]
 have := spans_loop l hl hw l.length 0 0 [] (by omega) (by simp) (by decide)
 rw [List.drop_zero,Nat.zero_add,List.nil_append,show ((0 : Nat) : Int) = 0 from rfl] at this
 rw [this,Option.bind_some]
 by_cases h : l.sum < 18446744073709551616
 ·rw [if_pos h,if_pos h]; rfl
 ·rw [if_neg h,if_neg h]; rfl
def e_zah : zcq := io_zah.en F_zah
theorem e_zah_ok : e_zah.ok pg := zeS ok_zah
theorem spansN_len : ∀ (l : List Nat) (s : Nat),(zgR s l).length = l.length
 | [],_ => rfl
 | w :: l,s => by rw [zgR,List.length_cons,List.length_cons,spansN_len l]
theorem spansN_last : ∀ (l : List Nat) (s : Nat),l ≠ [] → ∃ x y : Nat,(zgR s l)[l.length - 1]? = some ((x : Int),(y : Int)) ∧ x + y = s + l.sum
 | [],_,h => absurd rfl h
 | [w],s,_ => ⟨s,w,rfl,by simp⟩
 | w :: v :: l,s,_ => by
  obtain ⟨x,y,h1,h2⟩ := spansN_last (v :: l) (s + w) (by simp)
  refine ⟨x,y,?_,by rw [h2]; simp [Nat.add_assoc]⟩
  rw [zgR]
  simpa using h1
def zbl : (List Int) → RT Unit (Int × Bool)
| l =>
 .rq 3 (.call (F_zah l) default fun v0 =>
 .rq 12 (let t0 := (v0.2.length : Int);
 .ite ((!v0.1) || (t0 == 0))
 (.rq 3 (.done (0,v0.1)))
 (.rq 4 (let t1 := w64 (t0 - 1);
 .req (inB v0.2 t1) (.rq 10 (let t2 := gI v0.2 t1;
 .done (zcx (t2.1 + t2.2),true)))))))
def F_zbl (x : (List Int)) : Option (Int × Bool) := (zbl x).run fun _ => none
def io_zbl : Io := ⟨n_zbl,[.sl tU],[.lf (qm 0)],[],[[.sl tU]],[tU,tB],.tup [(false,[qm 0]),(false,[qm 1])],[],[],false⟩
def zbl_P : List zch := []
def zbl_T : zcl := tab [e_zah]
theorem zbl_To : zck pg zbl_T := zci ⟨e_zah_ok,trivial⟩
theorem zbl_go : zcy pg (zbl_T) io_zbl f_zbl (zbl_P) [] (zbl) := ⟨by kernel_rfl,by kernel_rfl,fun x => by kernel_rfl⟩
theorem ok_zbl : io_zbl.Okay pg (F_zbl) := zcu zcj (zbl_To) (zbl_go) trivial
theorem total_F (l : List Nat) (hl : l.length ≤ 100000) (hw : ∀ w ∈ l,w < 18446744073709551616) : F_zbl (l.map toI) = some (if l.sum < 18446744073709551616 then ((l.sum : Int),true) else (0,false)) := by
 show (zbl _).run _ = _
 rw [zbl]
 simp only [RT.run]
 rw [spans_F l hl hw,Option.bind_some]
 by_cases h : l.sum < 18446744073709551616
 ·rw [if_pos h,if_pos h]
  simp only [spansN_len]
  by_cases hn : l = []
  ·subst hn; rfl
  ·have hp : 0 < l.length := List.length_pos_iff.2 hn
   obtain ⟨x,y,h1,h2⟩ := spansN_last l 0 hn
   have hg : gI (zgR 0 l) ((l.length : Int) - 1) = ((x : Int),(y : Int)) := by
    rw [show (l.length : Int) - 1 = ((l.length - 1 : Nat) : Int) by omega,zfD,List.getD_eq_getElem?_getD,h1]
    rfl
   rw [if_neg (by simp; omega),zcm (by omega),if_pos (zcn.2 (by rw [spansN_len]; omega)),hg]
   simp only
   rw [zcD (by omega)]
   congr 2
   omega
 ·rw [if_neg h,if_neg h]
  rfl
def e_zbl : zcq := io_zbl.en F_zbl
theorem e_zbl_ok : e_zbl.ok pg := zeS ok_zbl
def zT_b506 : (Int × (List (List Int))) → (Int × (List Int)) → RT (Int × (List Int)) (LR Unit (List Int))
| (x29,r28),(x30,r130) =>
 .rq 1 (.ite (decide (x30 < x29))
 (.req (inB r28 x30) (.rq 3 (.req (okL 40 (gI r28 x30)) (.rq 7 (.ite (!(decide (val B32 (gI r28 x30) < 18446744073709551616)))
 (.rq 3 (.done (.ex ())))
 (.rq 4 (let t0 := [if val B32 (gI r28 x30) < 18446744073709551616 then ((val B32 (gI r28 x30) : Nat) : Int) else 0];
 .req (zdK 8 r130 t0) (.rq 4 (.again (w64 (x30 + 1),r130 ++ t0))))))))))
 (.done (.rt r130)))
def zT_p506 : zch := ⟨506,true,[tI,tU,tU,tU,tU,.sl (.sl tV)],[tI,.sl tU],⟨[.keep [2,8,28,29,30],.gc,.nilRow 28 800028 39 (.sl tV),.ren 28 700028,.ren 28 900028,.cellRow 128 2 600130 48 tU,.cellRen 128 2 600130,.gc],[2,8,28,29,30],[.lf (qp 32),.lf (qp 128),.lf (qr 900028),.lf (qi 0),.lf (qm 0)],[(32,true,.cells [qi 1,qi 2,.fix (.nil)]),(128,true,.cells [qi 3,qi 4,qr 600130]),(900028,true,.arr 39 (qi 5)),(600130,true,.arr 48 (qm 1))]⟩,[⟨1,⟨[.keep [2,3],.gc],[2,3],[.lf (qp 32),.lf (.fix (.int .i64 10))],[(32,true,.cells [.fix (.int .u64 0),.fix (.int .u64 0),.fix (.nil)])]⟩,[]⟩,⟨2,⟨[.keep [2,8],.gc,.cellRow 128 2 600130 48 tU,.cellRen 128 2 600130,.gc],[2,8],[.lf (qp 32),.lf (qp 128)],[(32,true,.cells [qi 1,qi 2,.fix (.nil)]),(128,true,.cells [qi 3,qi 4,qr 600130]),(600130,true,.arr 48 (qm 0))]⟩,[.sl tU]⟩],(fun i => zT_b506 (i.1,i.2.2.2.2.2))⟩
def zT : (List ((List Int) × List Int)) → RT Unit (Int × Int × Int × (List Int))
| l =>
 .rq 3 (.call (F_zu l) default fun v0 =>
 .rq 6 (.req (okL 40 v0.1) (.rq 7 (let t0 := (0,0,10,[]);
 .ite (!(decide (val B32 v0.1 < 18446744073709551616)))
 (.rq 3 (.done t0))
 (.rq 7 (.call (lo zT_b506 ((v0.2.length : Int),v0.2) (0,[])) default fun v1 =>
 .ite v1.isRt
 (.rq 2 (.call (F_zbl v1.getR) default fun v2 =>
 .rq 8 (.ite (!v2.2)
 (.rq 3 (.done t0))
 (.rq 3 (.done (if val B32 v0.1 < 18446744073709551616 then ((val B32 v0.1 : Nat) : Int) else 0,v2.1,0,v1.getR))))))
 (.done t0)))))))
def F_zT (x : (List ((List Int) × List Int))) : Option (Int × Int × Int × (List Int)) := (zT x).run fun _ => none
def io_zT : Io := ⟨n_zT,[.sl (.pair (.sl tV) (.sl tV))],[.lf (qm 0)],[],[[.sl (.pair (.sl tV) (.sl tV))]],[tU,tU,tI,.sl tU],.tup [(true,[qm 0,qm 1,qr 0]),(false,[qm 2])],[],[(true,.arr 48 (qm 3))],false⟩
def zT_P : List zch := [zT_p506]
def zT_T : zcl := tab [e_zbl,e_zu,e_zbN]
theorem zT_To : zck pg zT_T := zci ⟨e_zbl_ok,e_zu_ok,e_zbN_ok,trivial⟩
theorem zT_k506 : (zT_p506).OK pg (zT_T) (zcB 60 (zT_P)) (zcs f_zT) 60 := ⟨by kernel_rfl,fun i x => by kernel_rfl⟩
theorem zT_go : zcy pg (zT_T) io_zT f_zT (zT_P) [.cellRow 32 2 600034 48 tU,.cellRen 32 2 600034] (zT) := ⟨by kernel_rfl,by kernel_rfl,fun x => by kernel_rfl⟩
theorem ok_zT : io_zT.Okay pg (F_zT) := zcu zcj (zT_To) (zT_go) ⟨zT_k506,trivial⟩
section
variable {L : List Rat} (hL : ∀ q ∈ L,0 ≤ q ∧ sm 5000 q) (hl : L.length ≤ 100)
include hL hl
theorem br_loop {m k : Nat} (hm : m < 2 ^ k) (hk : k ≤ 600000) : ∀ (n i : Nat),i + n = L.length →
  lo zT_b506 ((L.length : Int),L.map (upD m)) ((i : Int),(L.take i).map fun q => toI (upV m q)) = some (if (∀ q ∈ L.drop i,upV m q < 18446744073709551616) then .rt (L.map fun q => toI (upV m q)) else .ex ())
 | 0,i,h => by
  rw [zcr,zT_b506]
  simp only [RT.run]
  rw [if_neg (by simp; omega),List.take_of_length_le (by omega),List.drop_eq_nil_of_le (by omega),if_pos (by simp)]
 | n + 1,i,h => by
  have hi : i < L.length := by omega
  have hg : gI (L.map (upD m)) (i : Int) = upD m L[i] := by rw [zek (upD m) (by omega),zcL hi]
  have hub := (zdA (up_bound hL hm (List.getElem_mem hi))).1
  have hv : val B32 (upD m L[i]) = upV m L[i] := zcz (by decide) _
  rw [zcr,zT_b506]
  simp only [RT.run,hg,hv]
  rw [if_pos (by simp; omega),if_pos (zcn.2 (by rw [List.length_map]; omega)),if_pos (by rw [zeG]; exact Nat.le_trans hub (by omega)),List.drop_eq_getElem_cons hi]
  by_cases hb : upV m L[i] < 18446744073709551616
  ·rw [if_neg (by simpa using hb),if_pos hb,if_pos (zgc (by decide) (by simp; omega)),zcm (by omega),show (i : Int) + 1 = ((i + 1 : Nat) : Int) by omega]
   show lo zT_b506 _ (_,(L.take i).map (fun q => toI (upV m q)) ++ [toI (upV m L[i])]) = _
   rw [take_next (fun q => toI (upV m q)) _ hi,br_loop hm hk n (i + 1) (by omega)]
   congr 1
   by_cases ha : ∀ q ∈ L.drop (i + 1),upV m q < 18446744073709551616
   ·rw [if_pos ha,if_pos (by
     intro q hq
     rcases List.mem_cons.1 hq with rfl | hq
     ·exact hb
     ·exact ha q hq)]
   ·rw [if_neg ha,if_neg (fun h' => ha fun q hq => h' q (List.mem_cons_of_mem _ hq))]
  ·rw [if_pos (by simpa using hb),if_neg (fun h' => hb (h' _ (List.mem_cons_self ..)))]
theorem bring_F : F_zT (L.map rq) = some (brV L) := by
 show (zT _).run _ = _
 rw [zT]
 simp only [RT.run]
 rw [common_F hL hl,Option.bind_some]
 have hlt := lcm_lt hL
 have hv : val B32 (zcg B32 (lcmV L)) = lcmV L := zcz (by decide) _
 have hlb := br_loop hL hl hlt (by omega) L.length 0 (by omega)
 rw [List.take_zero,List.map_nil,List.drop_zero,show ((0 : Nat) : Int) = 0 from rfl] at hlb
 simp only [hv,List.length_map]
 rw [if_pos (by rw [zeG]; exact Nat.le_trans (zdA hlt).1 (by omega)),hlb,Option.bind_some]
 unfold brV
 by_cases h1 : lcmV L < 18446744073709551616
 ·rw [if_neg (by simpa using h1)]
  by_cases h2 : ∀ q ∈ L,upV (lcmV L) q < 18446744073709551616
  ·rw [if_pos h2]
   simp only [LR.isRt,LR.getR,if_true]
   have e1 : (L.map fun q => toI (upV (lcmV L) q)) = (upsV L).map toI := by unfold upsV; rw [List.map_map]; rfl
   rw [e1,total_F (upsV L) (by unfold upsV; rw [List.length_map]; omega) (fun w hw => by
    obtain ⟨q,hq,rfl⟩ := List.mem_map.1 hw
    exact h2 q hq),Option.bind_some]
   by_cases h3 : (upsV L).sum < 18446744073709551616
   ·rw [if_pos h3,if_pos h1,if_pos (show lcmV L < 18446744073709551616 ∧ (upsV L).sum < 18446744073709551616 from ⟨h1,h3⟩)]
    rfl
   ·rw [if_neg h3,if_neg (show ¬ (lcmV L < 18446744073709551616 ∧ (upsV L).sum < 18446744073709551616) from fun h => h3 h.2)]
    rfl
  ·rw [if_neg h2,if_neg (show ¬ (lcmV L < 18446744073709551616 ∧ (upsV L).sum < 18446744073709551616) from fun h => h2 fun q hq => Nat.lt_of_le_of_lt (sum_ge (List.mem_map_of_mem hq)) h.2)]
   rfl
 ·rw [if_pos (by simpa using h1),if_neg (fun h => h1 h.1)]
end
def e_zT : zcq := io_zT.en F_zT
theorem e_zT_ok : e_zT.ok pg := zeS ok_zT
end
end Go.Proofs.YtlfdidaeachpoaaGreat
