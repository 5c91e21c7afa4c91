/- tombolalaw19.CarryKeeps answers true for every input. No condition. -/
import Derived.Test.YtlfdidaeachpoaaRows
import Derived.Test.YtlfdidaeachpoaaCCK5
import Derived.WalkKit
import Derived.ProofKit
import Derived.OpenShut
import Derived.ChangeOld
import Derived.SizedLaws
import Derived.Carry
import Derived.WideShapes
set_option linter.unusedSimpArgs false
set_option linter.unusedVariables false
namespace Go.Proofs.Ytlfdidaeachpoaa.carryKeeps
open Go Go.ChangeShapes Go.WideShapes Go.ChangeAt Go.RowKit Go.Proofs.Ytlfdidaeachpoaa
set_option linter.unusedVariables false
theorem own : ownKnob Try.prog.godebug = none := by kernel_rfl
theorem laidOut : laidOutB Try.prog = true := by kernel_rfl
theorem walk {W : World} {cs0 : Array Value} {x0 : Ty.den (.pair (.sl (.bool)) (.pair (.sl (.pair (.bool) (.pair (.int .i64) (.pair (.int .i64) (.pair (.int .i64) (.pair (.int .i64) (.bool))))))) (.pair (.sl (.pair (.int .i64) (.pair (.int .i64) (.pair (.int .i64) (.pair (.int .i64) (.int .i64)))))) (.pair (.sl (.pair (.bool) (.int .i64))) (.pair (.sl (.int .i64)) (.int .i64))))))} (h0 : zbB W (inHeap W) (.pair (.sl (.bool)) (.pair (.sl (.pair (.bool) (.pair (.int .i64) (.pair (.int .i64) (.pair (.int .i64) (.pair (.int .i64) (.bool))))))) (.pair (.sl (.pair (.int .i64) (.pair (.int .i64) (.pair (.int .i64) (.pair (.int .i64) (.int .i64)))))) (.pair (.sl (.pair (.bool) (.int .i64))) (.pair (.sl (.int .i64)) (.int .i64)))))) (cs0.toList) x0) : Calls Try.prog 6 #[.agg cs0] W fun e W' => e = .returned (.bool true) ∧ Below W.heap.size W W' := by
 have hc := ok_zn.2 (x0.1, x0.2.1, x0.2.2.1, x0.2.2.2.1, x0.2.2.2.2.1, x0.2.2.2.2.2) true (CarryKeeps_F x0.1 x0.2.1 x0.2.2.1 x0.2.2.2.1 x0.2.2.2.2.1 x0.2.2.2.2.2)
 refine (hc W [.agg cs0] (fun _ => none) (inHeap W) (fun _ h => h) ⟨⟨cs0.toList, rfl, zbB.flat _ h0⟩, trivial⟩ (fun k u e => by cases e) (fun k e he => by cases he) (fun k u g e => by cases e) (fun i j u u' g _ e => by cases e)).mono ?_
 rintro e W' ⟨u, β', ok', rfl, hp⟩
 have hr := hp.rep
 exact ⟨congrArg Ending.returned (show u = .bool true from hr), callPost_below hp⟩
set_option maxRecDepth 100000 in
theorem lifted (os : Os) (started : os.Started) (H : Type) (enc : TypeId × Value → H) :
  ReturnsInHanded {} Try.checked os 6 .any (Rows.carryKeepsSpec.pre6 enc Try.prog Try.f6 Rows.carryKeepsRow.domain false) (Rows.carryKeepsSpec.post enc Try.prog Try.f6 false true false false) := by
 refine returnsInHanded_of_change_sized (C := Try.checked) own started (by kernel_rfl) Try.func6
  (ChangeSpec.witness6 (enc := enc) (C := Try.checked) false ⟨#[], #[.agg #[.slice none 0 0, .slice none 0 0, .slice none 0 0, .slice none 0 0, .slice none 0 0, .int .i64 0]], []⟩ 8 (by kernel_rfl) (by kernel_rfl) (by kernel_rfl) (by kernel_rfl)) ?_
 intro W base args ds gs before hval0 hW hcnd hsz0 _
 have hval : ∀ (j : Nat) t v, Try.f6.params[j]? = some t → args[j]? = some v → Value.okWide Try.prog W .any base t v := hval0
 have hW' := hW
 obtain ⟨p, q, hA0, hV, rfl, hfz, hnd⟩ := hW
 have hA : DataW.TrodAll enc Try.prog W 0 (fun _ => true) true Try.f6.params.toList args.toList ds p := hA0
 rw [Try.params6] at hA hval
 obtain ⟨v0, vs0, d0, ds0, p0, q0, hargs, rfl, rfl, h0, r0⟩ := trodAll_cons hA
 obtain ⟨rfl, rfl, rfl⟩ := trodAll_nil r0
 obtain rfl : args = #[v0] := by cases args; simp_all
 obtain ⟨rfl, rfl⟩ := trodVars_none hV
 obtain ⟨cs0, rfl, hcs0⟩ := okWide_struct (Try.underlying65) (hval 0 65 v0 rfl rfl)
 have k0 := h0
 have lt0 : ∀ x ∈ p0, x.block < W.heap.size := by obtain ⟨m, hm⟩ := k0; exact DataW.trod_lt m _ _ _ hm
 obtain ⟨x0, hx0⟩ : ∃ x, zbB W (inHeap W) (.pair (.sl (.bool)) (.pair (.sl (.pair (.bool) (.pair (.int .i64) (.pair (.int .i64) (.pair (.int .i64) (.pair (.int .i64) (.bool))))))) (.pair (.sl (.pair (.int .i64) (.pair (.int .i64) (.pair (.int .i64) (.pair (.int .i64) (.int .i64)))))) (.pair (.sl (.pair (.bool) (.int .i64))) (.pair (.sl (.int .i64)) (.int .i64)))))) (cs0.toList) x := by
  obtain ⟨fuel, hf⟩ := h0
  exact trod_rep 20 65 (.pair (.sl (.bool)) (.pair (.sl (.pair (.bool) (.pair (.int .i64) (.pair (.int .i64) (.pair (.int .i64) (.pair (.int .i64) (.bool))))))) (.pair (.sl (.pair (.int .i64) (.pair (.int .i64) (.pair (.int .i64) (.pair (.int .i64) (.int .i64)))))) (.pair (.sl (.pair (.bool) (.int .i64))) (.pair (.sl (.int .i64)) (.int .i64)))))) fuel _ _ (by kernel_rfl) (by kernel_rfl) hf
 clear hA0 hval0 hsz0
 refine (walk hx0).mono fun e W' ⟨he, bel⟩ => ?_
 subst he
 exact ⟨_, rfl, _, _, _, [], _, [], hW', trodAll_mk1 (shut_bool Try.underlying4 _), (trodAll_cons_mk (Below.trod laidOut (by kernel_rfl) (of_decide_eq_true (by kernel_rfl)) k0 bel lt0) trodAll_mk0), rfl, bel.frame _, fun h => by cases h⟩
theorem over : Rows.carryKeepsRow.holds Try.pinned (OpenSpec.ofChange Rows.carryKeepsSpec) :=
 OpenClaim.holds_of_wide 6 Try.f6 rfl rfl rfl rfl rfl rfl rfl ⟨rfl, rfl, rfl, rfl, rfl⟩ rfl rfl rfl rfl rfl (by kernel_rfl) Try.func6 (by kernel_rfl)
  (of_decide_eq_true (by kernel_rfl)) (by unfold Func.isWrapper; first | (rw [if_pos (by decide +kernel)]; kernel_rfl) | (rw [if_neg (by decide +kernel)]; exact ⟨rfl, rfl⟩))
  (fun os started H enc _ => lifted os started H enc)
theorem proved : Rows.CarryKeepsSaid := over
#print axioms proved
end Go.Proofs.Ytlfdidaeachpoaa.carryKeeps
namespace Go.Proofs.Ytlfdidaeachpoaa
/-- The statement, under a short name, for the claim. -/
theorem carryKeeps_holds : Rows.CarryKeepsSaid := carryKeeps.proved
end Go.Proofs.Ytlfdidaeachpoaa
