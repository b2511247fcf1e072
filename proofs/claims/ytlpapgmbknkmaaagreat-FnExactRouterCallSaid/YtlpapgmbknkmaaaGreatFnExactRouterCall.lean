/-
  The law FnExactRouterCall returns true for every input, and its arguments read behind the call as before; no condition.
-/
import Derived.Test.YtlpapgmbknkmaaaGreatBridge
import Derived.Test.YtlpapgmbknkmaaaGreatFacts
import Derived.Test.YtlpapgmbknkmaaaGreatFnC
import Derived.Test.YtlpapgmbknkmaaaGreatRows
set_option linter.unusedSimpArgs false
set_option linter.unusedVariables false
set_option maxRecDepth 100000
set_option maxHeartbeats 2000000
namespace Go.Proofs.YtlpapgmbknkmaaaGreat
open Go Go.Proofs Go.Eng Go.RowKit Go.ChangeShapes Go.WideShapes
theorem own3 : ownKnob Tryz.prog.godebug = none := by kernel_rfl
theorem laid3 : laidOutB Tryz.prog = true := by kernel_rfl
theorem flat43 : flatTy Tryz.prog 8 43 = some [.int .i64, .slice 1 [.int .i64], .bool, .int .i64, .str, .int .i64, .int .i64, .str, .int .i64, .slice 11 [.int .i64, .int .i64, .int .i64, .str, .int .i64, .int .i64, .str, .int .i64, .int .i64, .int .i64, .str], .slice 6 [.int .i64, .int .i64, .str, .int .i64, .int .i64, .str]] := by kernel_rfl
theorem rowsI_of : ∀ {rows : List (List D)}, (∀ r ∈ rows, DTL [.int .i64] r) → ∃ e : List Int, rows = rowsI e
  | [], _ => ⟨[], rfl⟩
  | r :: rs, h => by
    obtain ⟨e, rfl⟩ := rowsI_of fun r' hr' => h r' (List.mem_cons_of_mem _ hr')
    obtain ⟨_, _, rfl, ⟨a, rfl, _⟩, rfl⟩ := h r (List.mem_cons_self ..)
    exact ⟨a :: e, rfl⟩
theorem rowsLegV_of : ∀ {rs : List (List D)}, (∀ r ∈ rs, DTL [.int .i64, .int .i64, .int .i64, .str, .int .i64, .int .i64, .str, .int .i64, .int .i64, .int .i64, .str] r) → ∃ e : List LegV, rs = Eng.rows e ∧ ∀ p ∈ e, p.fit
  | [], _ => ⟨[], rfl, by simp⟩
  | r :: rs, h => by
    obtain ⟨e, rfl, he⟩ := rowsLegV_of fun r' hr' => h r' (List.mem_cons_of_mem _ hr')
    obtain ⟨_, _, rfl, ⟨a0, rfl, h_a0⟩, ⟨_, _, rfl, ⟨a1, rfl, h_a1⟩, ⟨_, _, rfl, ⟨a2, rfl, h_a2⟩, ⟨_, _, rfl, ⟨a3, rfl, h_a3⟩, ⟨_, _, rfl, ⟨a4, rfl, h_a4⟩, ⟨_, _, rfl, ⟨a5, rfl, h_a5⟩, ⟨_, _, rfl, ⟨a6, rfl, h_a6⟩, ⟨_, _, rfl, ⟨a7, rfl, h_a7⟩, ⟨_, _, rfl, ⟨a8, rfl, h_a8⟩, ⟨_, _, rfl, ⟨a9, rfl, h_a9⟩, ⟨_, _, rfl, ⟨a10, rfl, h_a10⟩, rfl⟩⟩⟩⟩⟩⟩⟩⟩⟩⟩⟩ := h r (List.mem_cons_self ..)
    refine ⟨(⟨a0, a1, ⟨a2, a3, a4, a5, a6⟩, ⟨a7, a8, a9, a10⟩⟩ : LegV) :: e, rfl, fun p hp => ?_⟩
    rcases List.mem_cons.1 hp with rfl | hp
    · exact ⟨h_a3, h_a6, h_a10⟩
    · exact he p hp
theorem rowsTodoV_of : ∀ {rs : List (List D)}, (∀ r ∈ rs, DTL [.int .i64, .int .i64, .str, .int .i64, .int .i64, .str] r) → ∃ e : List TodoV, rs = Eng.rows e ∧ ∀ p ∈ e, p.fit
  | [], _ => ⟨[], rfl, by simp⟩
  | r :: rs, h => by
    obtain ⟨e, rfl, he⟩ := rowsTodoV_of fun r' hr' => h r' (List.mem_cons_of_mem _ hr')
    obtain ⟨_, _, rfl, ⟨a0, rfl, h_a0⟩, ⟨_, _, rfl, ⟨a1, rfl, h_a1⟩, ⟨_, _, rfl, ⟨a2, rfl, h_a2⟩, ⟨_, _, rfl, ⟨a3, rfl, h_a3⟩, ⟨_, _, rfl, ⟨a4, rfl, h_a4⟩, ⟨_, _, rfl, ⟨a5, rfl, h_a5⟩, rfl⟩⟩⟩⟩⟩⟩ := h r (List.mem_cons_self ..)
    refine ⟨(⟨a0, ⟨a1, a2, a3, a4, a5⟩⟩ : TodoV) :: e, rfl, fun p hp => ?_⟩
    rcases List.mem_cons.1 hp with rfl | hp
    · exact ⟨h_a2, h_a5⟩
    · exact he p hp
theorem flat39 : flatTy Tryz.prog 8 39 = some [.int .i64, .str, .int .i64, .int .i64, .str] := by kernel_rfl
theorem flat3 : flatTy Tryz.prog 8 3 = some [.int .i64] := by kernel_rfl
theorem routerCall_lifted (os : Os) (started : os.Started) (H : Type) (enc : TypeId × Value → H) :
    ReturnsInHanded {} Tryz.checked os 6 .any (Rows.fnExactRouterCallSpec.pre6 enc Tryz.prog Tryz.f6 Rows.fnExactRouterCallRow.domain false) (Rows.fnExactRouterCallSpec.post enc Tryz.prog Tryz.f6 false true false false) := by
  refine returnsInHanded_of_change (C := Tryz.checked) own3 started (by kernel_rfl) Tryz.func6
    (ChangeSpec.witness6 (enc := enc) (C := Tryz.checked) false ⟨#[], #[.agg #[.int .i64 0, .slice none 0 0, .bool false, .int .i64 0, .string ⟨#[]⟩, .int .i64 0, .int .i64 0, .string ⟨#[]⟩, .int .i64 0, .slice none 0 0, .slice none 0 0], .agg #[.int .i64 0, .string ⟨#[]⟩, .int .i64 0, .int .i64 0, .string ⟨#[]⟩], .int .i64 0], []⟩ 8 (by kernel_rfl) (by kernel_rfl) (by kernel_rfl) (by kernel_rfl)) ?_
  intro W base args ds gs before hval hW hcnd _
  have hW' := hW
  obtain ⟨p, q, hA0, hV, rfl, hfz, hnd⟩ := hW
  have hA : DataW.TrodAll enc Tryz.prog W 0 (fun _ => true) true Tryz.f6.params.toList args.toList ds p := hA0
  rw [Tryz.params6] at hA
  obtain ⟨v0, v1, v2, d0, d1, d2, p0, p1, p2, rfl, rfl, rfl, h0, h1, h2⟩ := trodAll_three hA
  obtain ⟨rfl, rfl⟩ := trodVars_none hV
  obtain ⟨xs0, hx0, hy0, hz0⟩ := given_struct Tryz.underlying43 flat43 (hval 0 43 v0 rfl rfl) h0
  obtain ⟨_, _, rfl, ⟨a0, rfl, h_a0⟩, ⟨_, _, rfl, ⟨r_a1, rfl, l_a1, h_a1⟩, ⟨_, _, rfl, ⟨a2, rfl⟩, ⟨_, _, rfl, ⟨a3, rfl, h_a3⟩, ⟨_, _, rfl, ⟨a4, rfl, h_a4⟩, ⟨_, _, rfl, ⟨a5, rfl, h_a5⟩, ⟨_, _, rfl, ⟨a6, rfl, h_a6⟩, ⟨_, _, rfl, ⟨a7, rfl, h_a7⟩, ⟨_, _, rfl, ⟨a8, rfl, h_a8⟩, ⟨_, _, rfl, ⟨r_a9, rfl, l_a9, h_a9⟩, ⟨_, _, rfl, ⟨r_a10, rfl, l_a10, h_a10⟩, rfl⟩⟩⟩⟩⟩⟩⟩⟩⟩⟩⟩ := hx0
  obtain ⟨xs1, hx1, hy1, hz1⟩ := given_struct Tryz.underlying39 flat39 (hval 1 39 v1 rfl rfl) h1
  obtain ⟨_, _, rfl, ⟨b0, rfl, h_b0⟩, ⟨_, _, rfl, ⟨b1, rfl, h_b1⟩, ⟨_, _, rfl, ⟨b2, rfl, h_b2⟩, ⟨_, _, rfl, ⟨b3, rfl, h_b3⟩, ⟨_, _, rfl, ⟨b4, rfl, h_b4⟩, rfl⟩⟩⟩⟩⟩ := hx1
  obtain ⟨c0, h_c0, hy2⟩ := given_int Tryz.underlying3 flat3 (hval 2 3 v2 rfl rfl) h2
  obtain ⟨a1, rfl⟩ := rowsI_of h_a1
  rw [rowsI_length] at l_a1
  obtain ⟨a9, rfl, f_a9⟩ := rowsLegV_of h_a9
  rw [rows_length] at l_a9
  obtain ⟨a10, rfl, f_a10⟩ := rowsTodoV_of h_a10
  rw [rows_length] at l_a10
  unfold maxLen at *
  refine (calls_of_good ((g6 a0 a1 a2 a3 a4 a5 a6 a7 a8 a9 a10 b0 b1 b2 b3 b4 c0).ok ⟨l_a1, h_a4, h_a7, l_a9, f_a9, l_a10, f_a10, h_b1, h_b4⟩).2 rfl rfl (fun i u x hu hx => ?_)).mono fun e W' ⟨he, hb⟩ => ?_
  · match i, hu, hx with
    | 0, hu, hx => simp at hu hx; subst hu; subst hx; exact hy0
    | 1, hu, hx => simp at hu hx; subst hu; subst hx; exact hy1
    | 2, hu, hx => simp at hu hx; subst hu; subst hx; exact hy2
    | i + 3, hu, hx => simp at hu
  · exact ⟨_, he, post_law laid3 (by rw [Tryz.params6]; intro t ht; simp at ht; rcases ht with rfl | rfl | rfl <;> exact ⟨by kernel_rfl, of_decide_eq_true (by kernel_rfl)⟩) rfl (by kernel_rfl) Tryz.underlying4 rfl hW' hb⟩
theorem routerCall_holds : Rows.FnExactRouterCallSaid :=
  OpenClaim.holds_of_wide 6 Tryz.f6 rfl rfl rfl rfl rfl (by kernel_rfl) (by kernel_rfl) ⟨rfl, rfl, rfl, rfl, rfl⟩ rfl rfl rfl rfl rfl (by kernel_rfl) Tryz.func6 t_closed
    (of_decide_eq_true (by kernel_rfl)) (by unfold Func.isWrapper; first | (rw [if_pos (by decide +kernel)]; kernel_rfl) | (rw [if_neg (by decide +kernel)]; exact ⟨rfl, rfl⟩))
    (fun os started H enc _ => routerCall_lifted os started H enc)
#print axioms routerCall_holds
end Go.Proofs.YtlpapgmbknkmaaaGreat
