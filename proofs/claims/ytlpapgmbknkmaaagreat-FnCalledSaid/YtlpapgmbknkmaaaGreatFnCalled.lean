/-
  The law FnCalled returns true for every input, and its arguments read behind the call as before; no condition.
-/
import Derived.Test.YtlpapgmbknkmaaaGreatBridge
import Derived.Test.YtlpapgmbknkmaaaGreatFnD
import Derived.Test.YtlpapgmbknkmaaaGreatRows
set_option linter.unusedSimpArgs false
set_option linter.unusedVariables false
set_option maxRecDepth 100000
set_option maxHeartbeats 2000000
namespace Go.Proofs.YtlpapgmbknkmaaaGreat
open Go Go.Proofs Go.Eng Go.RowKit Go.ChangeShapes Go.WideShapes
theorem own3 : ownKnob Tryz.prog.godebug = none := by kernel_rfl
theorem laid3 : laidOutB Tryz.prog = true := by kernel_rfl
theorem flat22 : flatTy Tryz.prog 8 22 = some [.slice 1 [.int .u8]] := by kernel_rfl
theorem rowsB_of : ∀ {rows : List (List D)}, (∀ r ∈ rows, DTL [.int .u8] r) → ∃ e : List Int, rows = rowsB e ∧ isB e
  | [], _ => ⟨[], rfl, isB_nil⟩
  | r :: rs, h => by
    obtain ⟨e, rfl, he⟩ := rowsB_of fun r' hr' => h r' (List.mem_cons_of_mem _ hr')
    obtain ⟨_, _, rfl, ⟨a, rfl, hw⟩, rfl⟩ := h r (List.mem_cons_self ..)
    simp only [Lit.wf, Bool.and_eq_true, decide_eq_true_eq] at hw
    have e1 : IntKind.u8.min = 0 := rfl
    have e2 : IntKind.u8.max = 255 := rfl
    rw [e1, e2] at hw
    exact ⟨a :: e, rfl, isB_cons.2 ⟨hw, he⟩⟩
theorem called_lifted (os : Os) (started : os.Started) (H : Type) (enc : TypeId × Value → H) :
    ReturnsInHanded {} Tryz.checked os 7 .any (Rows.fnCalledSpec.pre6 enc Tryz.prog Tryz.f7 Rows.fnCalledRow.domain false) (Rows.fnCalledSpec.post enc Tryz.prog Tryz.f7 false true false false) := by
  refine returnsInHanded_of_change (C := Tryz.checked) own3 started (by kernel_rfl) Tryz.func7
    (ChangeSpec.witness6 (enc := enc) (C := Tryz.checked) false ⟨#[], #[.slice none 0 0], []⟩ 8 (by kernel_rfl) (by kernel_rfl) (by kernel_rfl) (by kernel_rfl)) ?_
  intro W base args ds gs before hval hW hcnd _
  have hW' := hW
  obtain ⟨p, q, hA0, hV, rfl, hfz, hnd⟩ := hW
  have hA : DataW.TrodAll enc Tryz.prog W 0 (fun _ => true) true Tryz.f7.params.toList args.toList ds p := hA0
  rw [Tryz.params7] at hA
  obtain ⟨v0, d0, rfl, rfl, h0⟩ := trodAll_one hA
  obtain ⟨rfl, rfl⟩ := trodVars_none hV
  obtain ⟨r_a0, l_a0, h_a0, hy0⟩ := given_slice Tryz.underlying22 flat22 (hval 0 22 v0 rfl rfl) h0
  obtain ⟨a0, rfl, f_a0⟩ := rowsB_of h_a0
  rw [rowsB_length] at l_a0
  unfold maxLen at *
  refine (calls_of_good ((g7 a0).ok ⟨l_a0, f_a0⟩).2 rfl rfl (fun i u x hu hx => ?_)).mono fun e W' ⟨he, hb⟩ => ?_
  · match i, hu, hx with
    | 0, hu, hx => simp at hu hx; subst hu; subst hx; exact hy0
    | i + 1, hu, hx => simp at hu
  · exact ⟨_, he, post_law laid3 (by rw [Tryz.params7]; intro t ht; simp at ht; rcases ht with rfl <;> exact ⟨by kernel_rfl, of_decide_eq_true (by kernel_rfl)⟩) rfl (by kernel_rfl) Tryz.underlying4 rfl hW' hb⟩
theorem called_holds : Rows.FnCalledSaid :=
  OpenClaim.holds_of_wide 7 Tryz.f7 rfl rfl rfl rfl rfl (by kernel_rfl) (by kernel_rfl) ⟨rfl, rfl, rfl, rfl, rfl⟩ rfl rfl rfl rfl rfl (by kernel_rfl) Tryz.func7 (by kernel_rfl)
    (of_decide_eq_true (by kernel_rfl)) (by unfold Func.isWrapper; first | (rw [if_pos (by decide +kernel)]; kernel_rfl) | (rw [if_neg (by decide +kernel)]; exact ⟨rfl, rfl⟩))
    (fun os started H enc _ => called_lifted os started H enc)
#print axioms called_holds
end Go.Proofs.YtlpapgmbknkmaaaGreat
