/- tombolalaw38.OddsTell answers true for every input. No condition. -/
import Derived.Test.YtlfdidaeachpoaaGreatRows
import Derived.Test.YtlfdidaeachpoaaGreatCOT6
import Derived.WalkKit
import Derived.ProofKit
import Derived.OpenShut
import Derived.ChangeOld
import Derived.SizedLaws
import Derived.Carry
import Derived.WideShapes
set_option linter.unusedSimpArgs false
set_option linter.unusedVariables false
namespace Go.Proofs.YtlfdidaeachpoaaGreat.oddsTell
open Go Go.ChangeShapes Go.WideShapes Go.ChangeAt Go.RowKit Go.Proofs.YtlfdidaeachpoaaGreat
set_option linter.unusedVariables false
theorem own : ownKnob Tryz.prog.godebug = none := by kernel_rfl
theorem laidOut : laidOutB Tryz.prog = true := by kernel_rfl
theorem walk {W : World} {cs0 : Array Value} {n1 : Int} {n2 : Int} {n3 : Int} {x0 : Ty.den (.pair (.sl (.bool)) (.pair (.sl (.pair (.bool) (.pair (.int .i64) (.pair (.int .i64) (.pair (.int .i64) (.pair (.int .i64) (.bool))))))) (.pair (.sl (.pair (.int .i64) (.pair (.int .i64) (.pair (.int .i64) (.pair (.int .i64) (.int .i64)))))) (.pair (.sl (.pair (.bool) (.int .i64))) (.pair (.sl (.int .i64)) (.int .i64))))))} {x1 : Ty.den (.int .i64)} {x2 : Ty.den (.int .i64)} {x3 : Ty.den (.int .i64)} (h0 : zcM W (zfE W) (.pair (.sl (.bool)) (.pair (.sl (.pair (.bool) (.pair (.int .i64) (.pair (.int .i64) (.pair (.int .i64) (.pair (.int .i64) (.bool))))))) (.pair (.sl (.pair (.int .i64) (.pair (.int .i64) (.pair (.int .i64) (.pair (.int .i64) (.int .i64)))))) (.pair (.sl (.pair (.bool) (.int .i64))) (.pair (.sl (.int .i64)) (.int .i64)))))) (cs0.toList) x0) (h1 : zcM W (zfE W) (.int .i64) ([.int .i64 n1]) x1) (h2 : zcM W (zfE W) (.int .i64) ([.int .i64 n2]) x2) (h3 : zcM W (zfE W) (.int .i64) ([.int .i64 n3]) x3) : Calls Tryz.prog 10 #[.agg cs0,.int .i64 n1,.int .i64 n2,.int .i64 n3] W fun e W' => e = .returned (.bool true) ∧ Below W.heap.size W W' := by
 have hc := ok_zi.2 (x0.1,x0.2.1,x0.2.2.1,x0.2.2.2.1,x0.2.2.2.2.1,x0.2.2.2.2.2,x1,x2,x3) true (OddsTell_F x0.1 x0.2.1 x0.2.2.1 x0.2.2.2.1 x0.2.2.2.2.1 x0.2.2.2.2.2 x1 x2 x3 (zcM.wfd (.int .i64) h3).2)
 refine (hc W [.agg cs0,.int .i64 n1,.int .i64 n2,.int .i64 n3] (fun _ => none) (zfE W) (fun _ h => h) ⟨⟨cs0.toList,rfl,zcM.flat _ h0⟩,⟨(zcM.flat (β := fun _ => none) _ h1).1,⟨(zcM.flat (β := fun _ => none) _ h2).1,⟨(zcM.flat (β := fun _ => none) _ h3).1,trivial⟩⟩⟩⟩ (fun k u e => by cases e) (fun k e he => by cases he) (fun k u g e => by cases e) (fun i j u u' g _ e => by cases e)).mono ?_
 rintro e W' ⟨u,β',ok',rfl,hp⟩
 have hr := hp.rep
 exact ⟨congrArg Ending.returned (show u = .bool true from hr),callPost_below hp⟩
set_option maxRecDepth 100000 in
theorem lifted (os : Os) (started : os.Started) (H : Type) (enc : TypeId × Value → H) :
  ReturnsInHanded {} Tryz.checked os 10 .any (Rows.oddsTellSpec.pre6 enc Tryz.prog Tryz.f10 Rows.oddsTellRow.domain false) (Rows.oddsTellSpec.post enc Tryz.prog Tryz.f10 false true false false) := by
 refine returnsInHanded_of_change_sized (C := Tryz.checked) own started (by kernel_rfl) Tryz.func10
  (ChangeSpec.witness6 (enc := enc) (C := Tryz.checked) false ⟨#[],#[.agg #[.slice none 0 0,.slice none 0 0,.slice none 0 0,.slice none 0 0,.slice none 0 0,.int .i64 0],.int .i64 0,.int .i64 0,.int .i64 0],[]⟩ 8 (by kernel_rfl) (by kernel_rfl) (by kernel_rfl) (by kernel_rfl)) ?_
 intro W base args ds gs before hval0 hW hcnd hsz0 _
 have hval : ∀ (j : Nat) t v,Tryz.f10.params[j]? = some t → args[j]? = some v → Value.okWide Tryz.prog W .any base t v := hval0
 have hW' := hW
 obtain ⟨p,q,hA0,hV,rfl,hfz,hnd⟩ := hW
 have hA : DataW.TrodAll enc Tryz.prog W 0 (fun _ => true) true Tryz.f10.params.toList args.toList ds p := hA0
 rw [Tryz.params10] at hA hval
 obtain ⟨v0,vs0,d0,ds0,p0,q0,hargs,rfl,rfl,h0,r0⟩ := trodAll_cons hA
 obtain ⟨v1,vs1,d1,ds1,p1,q1,rfl,rfl,rfl,h1,r1⟩ := trodAll_cons r0
 obtain ⟨v2,vs2,d2,ds2,p2,q2,rfl,rfl,rfl,h2,r2⟩ := trodAll_cons r1
 obtain ⟨v3,vs3,d3,ds3,p3,q3,rfl,rfl,rfl,h3,r3⟩ := trodAll_cons r2
 obtain ⟨rfl,rfl,rfl⟩ := trodAll_nil r3
 obtain rfl : args = #[v0,v1,v2,v3] := by cases args; simp_all
 obtain ⟨rfl,rfl⟩ := trodVars_none hV
 obtain ⟨cs0,rfl,hcs0⟩ := okWide_struct (Tryz.underlying28) (hval 0 28 v0 rfl rfl)
 obtain ⟨n1,rfl⟩ := okWide_int (Tryz.underlying3) (hval 1 3 v1 rfl rfl)
 obtain ⟨n2,rfl⟩ := okWide_int (Tryz.underlying3) (hval 2 3 v2 rfl rfl)
 obtain ⟨n3,rfl⟩ := okWide_int (Tryz.underlying3) (hval 3 3 v3 rfl rfl)
 have k0 := h0
 have lt0 : ∀ x ∈ p0,x.block < W.heap.size := by obtain ⟨m,hm⟩ := k0; exact DataW.trod_lt m _ _ _ hm
 obtain ⟨x0,hx0⟩ : ∃ x,zcM W (zfE W) (.pair (.sl (.bool)) (.pair (.sl (.pair (.bool) (.pair (.int .i64) (.pair (.int .i64) (.pair (.int .i64) (.pair (.int .i64) (.bool))))))) (.pair (.sl (.pair (.int .i64) (.pair (.int .i64) (.pair (.int .i64) (.pair (.int .i64) (.int .i64)))))) (.pair (.sl (.pair (.bool) (.int .i64))) (.pair (.sl (.int .i64)) (.int .i64)))))) (cs0.toList) x := by
  obtain ⟨fuel,hf⟩ := h0
  exact trod_rep 20 28 (.pair (.sl (.bool)) (.pair (.sl (.pair (.bool) (.pair (.int .i64) (.pair (.int .i64) (.pair (.int .i64) (.pair (.int .i64) (.bool))))))) (.pair (.sl (.pair (.int .i64) (.pair (.int .i64) (.pair (.int .i64) (.pair (.int .i64) (.int .i64)))))) (.pair (.sl (.pair (.bool) (.int .i64))) (.pair (.sl (.int .i64)) (.int .i64)))))) fuel _ _ (by kernel_rfl) (by kernel_rfl) hf
 have k1 := h1
 have lt1 : ∀ x ∈ p1,x.block < W.heap.size := by obtain ⟨m,hm⟩ := k1; exact DataW.trod_lt m _ _ _ hm
 obtain ⟨x1,hx1⟩ : ∃ x,zcM W (zfE W) (.int .i64) ([.int .i64 n1]) x := by
  obtain ⟨fuel,hf⟩ := h1
  exact trod_rep 20 3 (.int .i64) fuel _ _ (by kernel_rfl) (by kernel_rfl) hf
 have k2 := h2
 have lt2 : ∀ x ∈ p2,x.block < W.heap.size := by obtain ⟨m,hm⟩ := k2; exact DataW.trod_lt m _ _ _ hm
 obtain ⟨x2,hx2⟩ : ∃ x,zcM W (zfE W) (.int .i64) ([.int .i64 n2]) x := by
  obtain ⟨fuel,hf⟩ := h2
  exact trod_rep 20 3 (.int .i64) fuel _ _ (by kernel_rfl) (by kernel_rfl) hf
 have k3 := h3
 have lt3 : ∀ x ∈ p3,x.block < W.heap.size := by obtain ⟨m,hm⟩ := k3; exact DataW.trod_lt m _ _ _ hm
 obtain ⟨x3,hx3⟩ : ∃ x,zcM W (zfE W) (.int .i64) ([.int .i64 n3]) x := by
  obtain ⟨fuel,hf⟩ := h3
  exact trod_rep 20 3 (.int .i64) fuel _ _ (by kernel_rfl) (by kernel_rfl) hf
 clear hA0 hval0 hsz0
 refine (walk hx0 hx1 hx2 hx3).mono fun e W' ⟨he,bel⟩ => ?_
 subst he
 exact ⟨_,rfl,_,_,_,[],_,[],hW',trodAll_mk1 (shut_bool Tryz.underlying4 _),(trodAll_cons_mk (Below.trod laidOut (by kernel_rfl) (of_decide_eq_true (by kernel_rfl)) k0 bel lt0) (trodAll_cons_mk (Below.trod laidOut (by kernel_rfl) (of_decide_eq_true (by kernel_rfl)) k1 bel lt1) (trodAll_cons_mk (Below.trod laidOut (by kernel_rfl) (of_decide_eq_true (by kernel_rfl)) k2 bel lt2) (trodAll_cons_mk (Below.trod laidOut (by kernel_rfl) (of_decide_eq_true (by kernel_rfl)) k3 bel lt3) trodAll_mk0)))),rfl,bel.frame _,fun h => by cases h⟩
theorem over : Rows.oddsTellRow.holds Tryz.pinned (OpenSpec.ofChange Rows.oddsTellSpec) :=
 OpenClaim.holds_of_wide 10 Tryz.f10 rfl rfl rfl rfl rfl rfl rfl ⟨rfl,rfl,rfl,rfl,rfl⟩ rfl rfl rfl rfl rfl (by kernel_rfl) Tryz.func10 (by kernel_rfl)
  (of_decide_eq_true (by kernel_rfl)) (by unfold Func.isWrapper; first | (rw [if_pos (by decide +kernel)]; kernel_rfl) | (rw [if_neg (by decide +kernel)]; exact ⟨rfl,rfl⟩))
  (fun os started H enc _ => lifted os started H enc)
theorem proved : Rows.OddsTellSaid := over
#print axioms proved
end Go.Proofs.YtlfdidaeachpoaaGreat.oddsTell
namespace Go.Proofs.YtlfdidaeachpoaaGreat
/-- The statement,under a short name,for the claim. -/
theorem oddsTell_holds : Rows.OddsTellSaid := oddsTell.proved
end Go.Proofs.YtlfdidaeachpoaaGreat
