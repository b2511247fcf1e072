/-
  The law FnExactShowMsg returns true for every input, and its arguments read behind the call as before; no condition.
-/
import Derived.Test.YtlpapgmbknkmaaaFnC
import Derived.Test.YtlpapgmbknkmaaaRows
set_option linter.unusedSimpArgs false
set_option linter.unusedVariables false
set_option maxRecDepth 100000
set_option maxHeartbeats 2000000
namespace Go.Proofs.Ytlpapgmbknkmaaa
open Go Go.Proofs Go.Eng Go.RowKit Go.ChangeShapes Go.WideShapes

theorem own3 : ownKnob Try.prog.godebug = none := by kernel_rfl
theorem laid3 : laidOutB Try.prog = true := by kernel_rfl
theorem wf_i64 {n : Int} (h : (Lit.int .i64 n).wf = true) : -9223372036854775808 ≤ n ∧ n ≤ 9223372036854775807 := by
  simp only [Lit.wf, Bool.and_eq_true, decide_eq_true_eq] at h
  have e1 : IntKind.i64.min = -9223372036854775808 := rfl
  have e2 : IntKind.i64.max = 9223372036854775807 := rfl
  rw [e1, e2] at h
  exact h
theorem flat31 : flatTy Try.prog 8 31 = some [.int .i64, .int .i64, .int .i64, .int .i64, .int .i64, .int .i64, .int .i64, .bool, .slice 2 [.int .i64, .str], .str] := by kernel_rfl
theorem rowsE_of : ∀ {rows : List (List D)}, (∀ r ∈ rows, DTL [.int .i64, .str] r) → ∃ e : List EV, rows = rowsE e ∧ ∀ p ∈ e, p.2.size ≤ maxLen
  | [], _ => ⟨[], rfl, by simp⟩
  | r :: rs, h => by
    obtain ⟨e, rfl, he⟩ := rowsE_of fun r' hr' => h r' (List.mem_cons_of_mem _ hr')
    obtain ⟨_, _, rfl, ⟨a, rfl, _⟩, _, _, rfl, ⟨b, rfl, hb⟩, rfl⟩ := h r (List.mem_cons_self ..)
    refine ⟨(a, b) :: e, rfl, fun p hp => ?_⟩
    rcases List.mem_cons.1 hp with rfl | hp
    · exact hb
    · exact he p hp

set_option maxRecDepth 100000 in
theorem showMsg_lifted (os : Os) (started : os.Started) (H : Type) (enc : TypeId × Value → H) :
    ReturnsInHanded {} Try.checked os 5 .any (Rows.fnExactShowMsgSpec.pre6 enc Try.prog Try.f5 Rows.fnExactShowMsgRow.domain false) (Rows.fnExactShowMsgSpec.post enc Try.prog Try.f5 false true false false) := by
  refine returnsInHanded_of_change (C := Try.checked) own3 started (by kernel_rfl) Try.func5
    (ChangeSpec.witness6 (enc := enc) (C := Try.checked) false ⟨#[], #[.agg #[.int .i64 0, .int .i64 0, .int .i64 0, .int .i64 0, .int .i64 0, .int .i64 0, .int .i64 0, .bool false, .slice none 0 0, .string ⟨#[]⟩]], []⟩ 8 (by kernel_rfl) (by kernel_rfl) (by kernel_rfl) (by kernel_rfl)) ?_
  intro W base args ds gs before hval hW hcnd _
  have hW' := hW
  obtain ⟨p, q, hA0, hV, rfl, hfz, hnd⟩ := hW
  have hA : DataW.TrodAll enc Try.prog W 0 (fun _ => true) true Try.f5.params.toList args.toList ds p := hA0
  rw [Try.params5] at hA
  obtain ⟨v, d, rfl, rfl, h0⟩ := trodAll_one hA
  obtain ⟨rfl, rfl⟩ := trodVars_none hV
  obtain ⟨xs, hx1, hx2, hx3⟩ := given_struct Try.underlying31 flat31 (hval 0 31 v rfl rfl) h0
  obtain ⟨_, _, rfl, ⟨k, rfl, _⟩, _, _, rfl, ⟨fr, rfl, hfr⟩, _, _, rfl, ⟨to, rfl, hto⟩, _, _, rfl, ⟨tm, rfl, _⟩, _, _, rfl, ⟨ix, rfl, _⟩, _, _, rfl, ⟨it, rfl, _⟩, _, _, rfl, ⟨cm, rfl, _⟩,
    _, _, rfl, ⟨y, rfl⟩, _, _, rfl, ⟨rows, rfl, hl, hr⟩, _, _, rfl, ⟨dd, rfl, hd⟩, rfl⟩ := hx1
  obtain ⟨e, rfl, he⟩ := rowsE_of hr
  rw [rowsE_length] at hl
  unfold maxLen at hl hd he
  refine (calls_of_good (g5 k fr to tm ix it cm y e dd ⟨⟨wf_i64 hfr, wf_i64 hto⟩, ⟨hl, hd⟩, he⟩) rfl rfl (fun i u x hu hx => ?_)).mono fun e W' ⟨he, hb⟩ => ?_
  · rcases i with _ | i <;> simp at hu hx
    subst hu; subst hx; exact hx2
  · exact ⟨_, he, post_law laid3 (by rw [Try.params5]; intro t ht; simp at ht; subst ht; exact ⟨by kernel_rfl, of_decide_eq_true (by kernel_rfl)⟩) rfl (by kernel_rfl) Try.underlying4 rfl hW' hb⟩

theorem showMsg_holds : Rows.FnExactShowMsgSaid :=
  OpenClaim.holds_of_wide 5 Try.f5 rfl rfl rfl rfl rfl rfl rfl ⟨rfl, rfl, rfl, rfl, rfl⟩ rfl rfl rfl rfl rfl (by kernel_rfl) Try.func5 (by kernel_rfl)
    (of_decide_eq_true (by kernel_rfl)) (by unfold Func.isWrapper; first | (rw [if_pos (by decide +kernel)]; kernel_rfl) | (rw [if_neg (by decide +kernel)]; exact ⟨rfl, rfl⟩))
    (fun os started H enc _ => showMsg_lifted os started H enc)
#print axioms showMsg_holds
end Go.Proofs.Ytlpapgmbknkmaaa
