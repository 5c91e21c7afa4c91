/- tombolalaw21.ScaleBrings answers true for every input: the scale of any right fractions, or that there is none, is the document's. No condition. -/
import Derived.Test.YtlfdidaeachpoaaRows
import Derived.Test.YtlfdidaeachpoaaCSB5
import Derived.WalkKit
import Derived.ProofKit
import Derived.OpenShut
import Derived.ChangeOld
import Derived.SizedLaws
import Derived.Carry
namespace Go.Proofs.Ytlfdidaeachpoaa.scaleBrings
open Go Go.ChangeShapes Go.WideShapes Go.ChangeAt Go.RowKit Go.Proofs.Ytlfdidaeachpoaa
set_option linter.unusedVariables false

theorem own : ownKnob Try.prog.godebug = none := by kernel_rfl
theorem laidOut : laidOutB Try.prog = true := by kernel_rfl

theorem u32_wf {n : Int} (h : (Lit.int .u32 n).wf = true) : 0 ≤ n ∧ n < 4294967296 := by
  simp [Lit.wf, IntKind.min, IntKind.max, IntKind.signed, IntKind.bits] at h
  omega

theorem wfd_of {xs : List Int} (h : wfT (.sl (.int .u32)) xs) : wfd B32 xs = true := by
  rw [wfd_mem]
  intro d hd
  obtain ⟨i, hi, rfl⟩ := List.mem_iff_getElem.1 hd
  exact u32_wf (h i hi)

theorem wfQ_of {l : List (List Int × List Int)} (h : wfT (.sl (.pair (.sl (.int .u32)) (.sl (.int .u32)))) l) : wfQ l := by
  intro x hx
  obtain ⟨i, hi, rfl⟩ := List.mem_iff_getElem.1 hx
  exact ⟨wfd_of (h i hi).1, wfd_of (h i hi).2⟩

theorem walk {W : World} {v : Value} {l : List (List Int × List Int)} (h : RepD W (inHeap W) (.sl (.pair (.sl (.int .u32)) (.sl (.int .u32)))) [v] l) :
    Calls Try.prog 5 #[v] W fun e W' => e = .returned (.bool true) ∧ Below W.heap.size W W' := by
  have hc := (law21_ScaleBrings_call 13 l true (ScaleBrings_F (wfQ_of h.wf))).2
  refine (hc W [v] (fun _ => none) (inHeap W) (fun _ h => h) ⟨h, trivial⟩ (fun k u e => by cases e) (fun k e he => by cases he) (fun k u g e => by cases e) (fun i j u u' g _ e => by cases e)).mono ?_
  rintro e W' ⟨u, β', ok', rfl, hp⟩
  have hr := hp.rep
  exact ⟨congrArg Ending.returned (show u = .bool true from hr), callPost_below hp⟩

set_option maxRecDepth 100000 in
theorem lifted (os : Os) (started : os.Started) (H : Type) (enc : TypeId × Value → H) :
    ReturnsInHanded {} Try.checked os 5 .any (Rows.scaleBringsSpec.pre6 enc Try.prog Try.f5 Rows.scaleBringsRow.domain false) (Rows.scaleBringsSpec.post enc Try.prog Try.f5 false true false false) := by
  refine returnsInHanded_of_change_sized (C := Try.checked) own started (by kernel_rfl) Try.func5
    (ChangeSpec.witness6 (enc := enc) (C := Try.checked) false ⟨#[], #[.slice none 0 0], []⟩ 8 (by kernel_rfl) (by kernel_rfl) (by kernel_rfl) (by kernel_rfl)) ?_
  intro W base args ds gs before hval0 hW hcnd hsz0 _
  have hval : ∀ (j : Nat) t v, Try.f5.params[j]? = some t → args[j]? = some v → Value.okWide Try.prog W .any base t v := hval0
  have hW' := hW
  obtain ⟨p, q, hA0, hV, rfl, hfz, hnd⟩ := hW
  have hA : DataW.TrodAll enc Try.prog W 0 (fun _ => true) true Try.f5.params.toList args.toList ds p := hA0
  rw [Try.params5] at hA hval
  obtain ⟨v0, vs0, d0, ds0, p0, q0, hargs, rfl, rfl, h0, r0⟩ := trodAll_cons hA
  obtain ⟨rfl, rfl, rfl⟩ := trodAll_nil r0
  obtain rfl : args = #[v0] := by cases args; simp_all
  obtain ⟨rfl, rfl⟩ := trodVars_none hV
  obtain ⟨a0, len0, cap0, rfl⟩ := okWide_slice (Try.underlying38) (hval 0 38 v0 rfl rfl)
  have k0 := h0
  have lt0 : ∀ x ∈ p0, x.block < W.heap.size := by obtain ⟨m, hm⟩ := k0; exact DataW.trod_lt m _ _ _ hm
  obtain ⟨l, hl⟩ : ∃ l, RepD W (inHeap W) (.sl (.pair (.sl (.int .u32)) (.sl (.int .u32)))) [.slice a0 len0 cap0] l := by
    obtain ⟨fuel, hf⟩ := h0
    exact trod_rep 20 38 (.sl (.pair (.sl (.int .u32)) (.sl (.int .u32)))) fuel _ _ (by kernel_rfl) (by kernel_rfl) hf
  clear hA0 hval0 hsz0
  refine (walk hl).mono fun e W' ⟨he, bel⟩ => ?_
  subst he
  exact ⟨_, rfl, _, _, _, [], _, [], hW', trodAll_mk1 (shut_bool Try.underlying4 _), (trodAll_cons_mk (Below.trod laidOut (by kernel_rfl) (of_decide_eq_true (by kernel_rfl)) k0 bel lt0) trodAll_mk0), rfl, bel.frame _, fun h => by cases h⟩

theorem over : Rows.scaleBringsRow.holds Try.pinned (OpenSpec.ofChange Rows.scaleBringsSpec) :=
  OpenClaim.holds_of_wide 5 Try.f5 rfl rfl rfl rfl rfl rfl rfl ⟨rfl, rfl, rfl, rfl, rfl⟩ rfl rfl rfl rfl rfl (by kernel_rfl) Try.func5 (by kernel_rfl)
    (of_decide_eq_true (by kernel_rfl)) (by unfold Func.isWrapper; first | (rw [if_pos (by decide +kernel)]; kernel_rfl) | (rw [if_neg (by decide +kernel)]; exact ⟨rfl, rfl⟩))
    (fun os started H enc _ => lifted os started H enc)

theorem proved : Rows.ScaleBringsSaid := over
#print axioms proved
end Go.Proofs.Ytlfdidaeachpoaa.scaleBrings
namespace Go.Proofs.Ytlfdidaeachpoaa
/-- The statement, under a short name, for the claim. -/
theorem scaleBrings_holds : Rows.ScaleBringsSaid := scaleBrings.proved
end Go.Proofs.Ytlfdidaeachpoaa
