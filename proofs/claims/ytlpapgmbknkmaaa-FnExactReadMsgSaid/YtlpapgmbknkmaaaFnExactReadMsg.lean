/-
  The law FnExactReadMsg returns true for every input, and its arguments read behind the call as before; no condition.
-/
import Derived.Test.YtlpapgmbknkmaaaFnC
import Derived.Test.YtlpapgmbknkmaaaRows
set_option linter.unusedSimpArgs false
set_option linter.unusedVariables false
set_option maxRecDepth 100000
set_option maxHeartbeats 2000000
namespace Go.Proofs.Ytlpapgmbknkmaaa
open Go Go.Proofs Go.Eng Go.RowKit Go.ChangeShapes Go.WideShapes

theorem own3 : ownKnob Try.prog.godebug = none := by kernel_rfl
theorem laid3 : laidOutB Try.prog = true := by kernel_rfl
theorem wf_i64 {n : Int} (h : (Lit.int .i64 n).wf = true) : -9223372036854775808 ≤ n ∧ n ≤ 9223372036854775807 := by
  simp only [Lit.wf, Bool.and_eq_true, decide_eq_true_eq] at h
  have e1 : IntKind.i64.min = -9223372036854775808 := rfl
  have e2 : IntKind.i64.max = 9223372036854775807 := rfl
  rw [e1, e2] at h
  exact h
theorem flat9 : flatTy Try.prog 8 9 = some [.str] := by kernel_rfl
theorem given_str {H : Type} {enc : TypeId × Value → H} {P : Program} {W : World} {held : Bool} {t : TypeId} {n b : Nat} {v : Value} {d : DataW H} {ps : List MemPlace} (ht : P.underlying t = some .string) (hf : flatTy P n t = some [.str])
    (hv : Value.okWide P W .any b t v) (h : DataW.Trod enc P W 0 (fun _ => true) held t v d ps) : ∃ s : ByteArray, s.size ≤ maxLen ∧ Given W v ⟨.one, [.str s]⟩ := by
  obtain ⟨s, rfl⟩ := okWide_string ht hv
  obtain ⟨fuel, hx⟩ := h
  obtain ⟨ds, hd, hc⟩ := cells_given (fit_of_trod n t [.str] hf fuel _ _ hx)
  obtain ⟨_, _, rfl, ⟨s', rfl, hs⟩, rfl⟩ := hd
  refine ⟨s', hs, ?_⟩
  unfold Given
  rw [SVR_iff (by simp)]
  exact ⟨rfl, hc _ _ rfl⟩

set_option maxRecDepth 100000 in
theorem readMsg_lifted (os : Os) (started : os.Started) (H : Type) (enc : TypeId × Value → H) :
    ReturnsInHanded {} Try.checked os 7 .any (Rows.fnExactReadMsgSpec.pre6 enc Try.prog Try.f7 Rows.fnExactReadMsgRow.domain false) (Rows.fnExactReadMsgSpec.post enc Try.prog Try.f7 false true false false) := by
  refine returnsInHanded_of_change (C := Try.checked) own3 started (by kernel_rfl) Try.func7
    (ChangeSpec.witness6 (enc := enc) (C := Try.checked) false ⟨#[], #[.string ⟨#[]⟩], []⟩ 8 (by kernel_rfl) (by kernel_rfl) (by kernel_rfl) (by kernel_rfl)) ?_
  intro W base args ds gs before hval hW hcnd _
  have hW' := hW
  obtain ⟨p, q, hA0, hV, rfl, hfz, hnd⟩ := hW
  have hA : DataW.TrodAll enc Try.prog W 0 (fun _ => true) true Try.f7.params.toList args.toList ds p := hA0
  rw [Try.params7] at hA
  obtain ⟨v, d, rfl, rfl, h0⟩ := trodAll_one hA
  obtain ⟨rfl, rfl⟩ := trodVars_none hV
  obtain ⟨s, hs, hx2⟩ := given_str Try.underlying9 flat9 (hval 0 9 v rfl rfl) h0
  unfold maxLen at hs
  refine (calls_of_good (g7 s hs) rfl rfl (fun i u x hu hx => ?_)).mono fun e W' ⟨he, hb⟩ => ?_
  · rcases i with _ | i <;> simp at hu hx
    subst hu; subst hx; exact hx2
  · exact ⟨_, he, post_law laid3 (by rw [Try.params7]; intro t ht; simp at ht; subst ht; exact ⟨by kernel_rfl, of_decide_eq_true (by kernel_rfl)⟩) rfl (by kernel_rfl) Try.underlying4 rfl hW' hb⟩

theorem readMsg_holds : Rows.FnExactReadMsgSaid :=
  OpenClaim.holds_of_wide 7 Try.f7 rfl rfl rfl rfl rfl rfl rfl ⟨rfl, rfl, rfl, rfl, rfl⟩ rfl rfl rfl rfl rfl (by kernel_rfl) Try.func7 (by kernel_rfl)
    (of_decide_eq_true (by kernel_rfl)) (by unfold Func.isWrapper; first | (rw [if_pos (by decide +kernel)]; kernel_rfl) | (rw [if_neg (by decide +kernel)]; exact ⟨rfl, rfl⟩))
    (fun os started H enc _ => readMsg_lifted os started H enc)
#print axioms readMsg_holds
end Go.Proofs.Ytlpapgmbknkmaaa
