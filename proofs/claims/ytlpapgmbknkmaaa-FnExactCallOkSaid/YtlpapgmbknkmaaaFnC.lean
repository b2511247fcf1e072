/-
  Contracts of functions of the program, its reference and the laws: what each returns; the conditions stand in each theorem.
-/
import Derived.Test.YtlpapgmbknkmaaaFnB
set_option linter.unusedSimpArgs false
set_option linter.unusedVariables false
set_option maxRecDepth 100000
set_option maxHeartbeats 2000000
namespace Go.Eng
open Go Go.Proofs

def spanP (f t : Int) : Prop := 0 ≤ f ∧ f < t ∧ t ≤ 1099511627776
instance (f t : Int) : Decidable (spanP f t) := inferInstanceAs (Decidable (_ ∧ _))
def E0 : ByteArray := ⟨#[]⟩
open Classical in
noncomputable def opB (k : Int) (key : ByteArray) (f t : Int) (d : ByteArray) : Bool := decide (
  (k = 1 ∧ spanP f t ∧ key = ⟨#[]⟩ ∧ d = ⟨#[]⟩) ∨ ((k = 2 ∨ k = 6) ∧ (0 ≤ f ∧ f ≤ 1099511627776) ∧ key = ⟨#[]⟩ ∧ t = 0 ∧ d = ⟨#[]⟩) ∨ (k = 3 ∧ (0 ≤ f ∧ f ≤ 100000) ∧ key = ⟨#[]⟩ ∧ t = 0 ∧ d = ⟨#[]⟩) ∨
  (k = 4 ∧ (rblock d).2 = true ∧ keyB key = true ∧ f = 0 ∧ t = 0) ∨ (k = 5 ∧ keyB key = true ∧ spanP f t ∧ d = ⟨#[]⟩) ∨ (k = 7 ∧ key = ⟨#[]⟩ ∧ f = 0 ∧ t = 0 ∧ d = ⟨#[]⟩))
def ansB (c i m : Int) (d : ByteArray) : Bool := (decide (0 ≤ c) && decide (c ≤ 4)) && ((decide (0 ≤ i) && decide (i ≤ 100000)) && ((decide (0 ≤ m) && decide (m ≤ 1099511627776)) && decide ((d.size : Int) ≤ 900)))

theorem g135 (k : Int) (key : ByteArray) (f t : Int) (d : ByteArray) : Good Try.prog 135 [⟨.agg, [.int .i64 k, .str key, .int .i64 f, .int .i64 t, .str d]⟩] [] (⟨.one, [.bool (decide (0 ≤ f) && decide (f < t) && decide (t ≤ 1099511627776))]⟩) [⟨.agg, [.int .i64 k, .str key, .int .i64 f, .int .i64 t, .str d]⟩] [] := by
  refine Good_of (E := envOf []) (envOk_of trivial) Try.func135 m135 rfl ?_
  simp (maxSteps := 1000000) (disch := omega) only [go_sem, wI, wB, x135, r135_0, r135_1, Int.toNat_natCast, ↓reduceIte, ↓List.map_cons, ↓List.map_nil, ↓List.all_cons, ↓List.all_nil, ↓List.any_cons, ↓List.any_nil, Nat.reduceEqDiff, Nat.reduceLT, Nat.reduceLeDiff, Nat.reduceAdd, Nat.reduceSub, Nat.reduceMul, Nat.reduceDiv, Nat.reduceMod, Nat.reduceBEq, Int.reduceEq, Int.reduceLT, Int.reduceLE, Int.reduceToNat, Int.reducePow, Root.slot.injEq, Root.ref.injEq]
  repeat' (first | ((with_reducible apply scEnd_of); exact rfl; exact rfl) | ((with_reducible apply ScW_of); rfl; rfl; trivial; (intro h; try simp only [Bool.not_eq_true', Bool.not_eq_false', Bool.and_eq_true, Bool.and_eq_false_iff, Bool.or_eq_true, Bool.or_eq_false_iff, decide_eq_true_eq, decide_eq_false_iff_not, not_and, Int.not_lt, Int.not_le, not_or, Decidable.not_not, Bool.not_eq_true, Bool.not_eq_false] at h)) | ((with_reducible apply Br_of) <;> (intro h; (try simp only [h]); (try simp only [Bool.not_eq_true', Bool.not_eq_false', Bool.and_eq_true, Bool.and_eq_false_iff, Bool.or_eq_true, Bool.or_eq_false_iff, decide_eq_true_eq, decide_eq_false_iff_not, not_and, Int.not_lt, Int.not_le, not_or, Decidable.not_not, Bool.not_eq_true, Bool.not_eq_false] at h))) | ((with_reducible refine Opt_put_if ?_ ?_); (· (first | omega | (refine ⟨?_, ?_⟩ <;> omega) | (refine ⟨?_, ?_, ?_⟩ <;> omega) | (refine ⟨rfl, ?_⟩; simp only [okBig, Bool.and_eq_true, decide_eq_true_eq]; omega)))) | ((with_reducible refine Opt_if ?_ ?_); (· (first | omega | (refine ⟨?_, ?_⟩ <;> omega) | (refine ⟨?_, ?_, ?_⟩ <;> omega) | (refine ⟨rfl, ?_⟩; simp only [okBig, Bool.and_eq_true, decide_eq_true_eq]; omega)))) | ((with_reducible refine Opt_bind_ifn ?_ ?_); (· omega)) | ((with_reducible refine Opt_bind_if ?_ ?_); (· (first | omega | (refine ⟨?_, ?_⟩ <;> omega) | (refine ⟨?_, ?_, ?_⟩ <;> omega) | (refine ⟨rfl, ?_⟩; simp only [okBig, Bool.and_eq_true, decide_eq_true_eq]; omega)))) | simp (maxSteps := 1000000) (disch := omega) only [go_sem, wI, wB, Int.toNat_natCast, ↓reduceIte, ↓List.map_cons, ↓List.map_nil, ↓List.all_cons, ↓List.all_nil, ↓List.any_cons, ↓List.any_nil, Nat.reduceEqDiff, Nat.reduceLT, Nat.reduceLeDiff, Nat.reduceAdd, Nat.reduceSub, Nat.reduceMul, Nat.reduceDiv, Nat.reduceMod, Nat.reduceBEq, Int.reduceEq, Int.reduceLT, Int.reduceLE, Int.reduceToNat, Int.reducePow, Root.slot.injEq, Root.ref.injEq])
  all_goals rfl
noncomputable def c135 : List SV → Refs → Option (SV × List SV × Refs)
  | [⟨.agg, [.int .i64 k, .str key, .int .i64 f, .int .i64 t, .str d]⟩], [] => some (⟨.one, [.bool (decide (0 ≤ f) && decide (f < t) && decide (t ≤ 1099511627776))]⟩, [⟨.agg, [.int .i64 k, .str key, .int .i64 f, .int .i64 t, .str d]⟩], [])
  | _, _ => none
theorem ctr135 : Ctr Try.prog 135 c135 := by
  refine ⟨k135, fun args rf res args' rf' h => ?_⟩
  unfold c135 at h
  split at h
  · simp only [Option.some.injEq, Prod.mk.injEq] at h
    obtain ⟨rfl, rfl, rfl⟩ := h
    exact g135 _ _ _ _ _
  · simp at h
@[go_sem] theorem c135_eq {k : Int} {key : ByteArray} {f t : Int} {d : ByteArray} : c135 [⟨.agg, [.int .i64 k, .str key, .int .i64 f, .int .i64 t, .str d]⟩] [] = some (⟨.one, [.bool (decide (0 ≤ f) && decide (f < t) && decide (t ≤ 1099511627776))]⟩, [⟨.agg, [.int .i64 k, .str key, .int .i64 f, .int .i64 t, .str d]⟩], []) := rfl

theorem g112 (k : Int) (key : ByteArray) (f t : Int) (d : ByteArray) (hyp : key.size ≤ 9223372036854775807) : Good Try.prog 112 [⟨.agg, [.int .i64 k, .str key, .int .i64 f, .int .i64 t, .str d]⟩] [] (⟨.one, [.bool (opB k key f t d)]⟩) [⟨.agg, [.int .i64 k, .str key, .int .i64 f, .int .i64 t, .str d]⟩] [] := by
  refine Good_of (E := envOf [(135, c135), (31, c31), (32, c32), (29, c29), (30, c30)]) (envOk_of ⟨ctr135, ⟨ctr31, ⟨ctr32, ⟨ctr29, ⟨ctr30, trivial⟩⟩⟩⟩⟩) Try.func112 m112 rfl ?_
  simp (maxSteps := 1000000) (disch := omega) only [go_sem, wI, wB, x112, r112_0, r112_1, r112_2, r112_3, r112_4, r112_5, r112_6, r112_7, r112_8, r112_9, r112_10, r112_11, r112_12, r112_13, r112_14, r112_15, r112_16, r112_17, r112_18, r112_19, r112_20, r112_21, r112_22, r112_23, r112_24, Int.toNat_natCast, c30_eq, ↓reduceIte, ↓List.map_cons, ↓List.map_nil, ↓List.all_cons, ↓List.all_nil, ↓List.any_cons, ↓List.any_nil, Nat.reduceEqDiff, Nat.reduceLT, Nat.reduceLeDiff, Nat.reduceAdd, Nat.reduceSub, Nat.reduceMul, Nat.reduceDiv, Nat.reduceMod, Nat.reduceBEq, Int.reduceEq, Int.reduceLT, Int.reduceLE, Int.reduceToNat, Int.reducePow, Root.slot.injEq, Root.ref.injEq]
  repeat' (first | ((with_reducible apply scEnd_of); exact rfl; exact rfl) | ((with_reducible apply ScW_of); rfl; rfl; trivial; (intro h; try simp only [Bool.not_eq_true', Bool.not_eq_false', Bool.and_eq_true, Bool.and_eq_false_iff, Bool.or_eq_true, Bool.or_eq_false_iff, decide_eq_true_eq, decide_eq_false_iff_not, not_and, Int.not_lt, Int.not_le, not_or, Decidable.not_not, Bool.not_eq_true, Bool.not_eq_false] at h)) | ((with_reducible apply Br_of) <;> (intro h; (try simp only [h]); (try simp only [Bool.not_eq_true', Bool.not_eq_false', Bool.and_eq_true, Bool.and_eq_false_iff, Bool.or_eq_true, Bool.or_eq_false_iff, decide_eq_true_eq, decide_eq_false_iff_not, not_and, Int.not_lt, Int.not_le, not_or, Decidable.not_not, Bool.not_eq_true, Bool.not_eq_false] at h))) | ((with_reducible refine Opt_put_if ?_ ?_); (· (first | omega | (refine ⟨?_, ?_⟩ <;> omega) | (refine ⟨?_, ?_, ?_⟩ <;> omega) | (refine ⟨rfl, ?_⟩; simp only [okBig, Bool.and_eq_true, decide_eq_true_eq]; omega)))) | ((with_reducible refine Opt_if ?_ ?_); (· (first | omega | (refine ⟨?_, ?_⟩ <;> omega) | (refine ⟨?_, ?_, ?_⟩ <;> omega) | (refine ⟨rfl, ?_⟩; simp only [okBig, Bool.and_eq_true, decide_eq_true_eq]; omega)))) | ((with_reducible refine Opt_bind_ifn ?_ ?_); (· omega)) | ((with_reducible refine Opt_bind_if ?_ ?_); (· (first | omega | (refine ⟨?_, ?_⟩ <;> omega) | (refine ⟨?_, ?_, ?_⟩ <;> omega) | (refine ⟨rfl, ?_⟩; simp only [okBig, Bool.and_eq_true, decide_eq_true_eq]; omega)))) | simp (maxSteps := 1000000) (disch := omega) only [go_sem, wI, wB, Int.toNat_natCast, c30_eq, ↓reduceIte, ↓List.map_cons, ↓List.map_nil, ↓List.all_cons, ↓List.all_nil, ↓List.any_cons, ↓List.any_nil, Nat.reduceEqDiff, Nat.reduceLT, Nat.reduceLeDiff, Nat.reduceAdd, Nat.reduceSub, Nat.reduceMul, Nat.reduceDiv, Nat.reduceMod, Nat.reduceBEq, Int.reduceEq, Int.reduceLT, Int.reduceLE, Int.reduceToNat, Int.reducePow, Root.slot.injEq, Root.ref.injEq])
  all_goals (simp only [Prod.mk.injEq, SV.mk.injEq, List.cons.injEq, Cell.bool.injEq, and_true, true_and, opB, eq_comm (a := (⟨#[]⟩ : ByteArray)), eq_comm (a := (0 : Int))]; rw [Bool.eq_iff_iff]; simp only [Bool.and_eq_true, decide_eq_true_eq, spanP]; grind)
noncomputable def c112 : List SV → Refs → Option (SV × List SV × Refs)
  | [⟨.agg, [.int .i64 k, .str key, .int .i64 f, .int .i64 t, .str d]⟩], [] => (open Classical in if key.size ≤ 9223372036854775807 then some (⟨.one, [.bool (opB k key f t d)]⟩, [⟨.agg, [.int .i64 k, .str key, .int .i64 f, .int .i64 t, .str d]⟩], []) else none)
  | _, _ => none
theorem ctr112 : Ctr Try.prog 112 c112 := by
  refine ⟨k112, fun args rf res args' rf' h => ?_⟩
  unfold c112 at h
  split at h
  · split at h
    · rename_i hyp
      simp only [Option.some.injEq, Prod.mk.injEq] at h
      obtain ⟨rfl, rfl, rfl⟩ := h
      exact g112 _ _ _ _ _ hyp
    · simp at h
  · simp at h
theorem c112_eq {k : Int} {key : ByteArray} {f t : Int} {d : ByteArray} (hyp : key.size ≤ 9223372036854775807) : c112 [⟨.agg, [.int .i64 k, .str key, .int .i64 f, .int .i64 t, .str d]⟩] [] = some (⟨.one, [.bool (opB k key f t d)]⟩, [⟨.agg, [.int .i64 k, .str key, .int .i64 f, .int .i64 t, .str d]⟩], []) := if_pos hyp

theorem g28 (k : Int) (key : ByteArray) (f t : Int) (d : ByteArray) : Good Try.prog 28 [⟨.agg, [.int .i64 k, .str key, .int .i64 f, .int .i64 t, .str d]⟩] [] (⟨.one, [.bool (opB k key f t d)]⟩) [⟨.agg, [.int .i64 k, .str key, .int .i64 f, .int .i64 t, .str d]⟩] [] := by
  refine Good_of (E := envOf [(36, c36), (86, c86), (87, c87)]) (envOk_of ⟨ctr36, ⟨ctr86, ⟨ctr87, trivial⟩⟩⟩) Try.func28 m28 rfl ?_
  simp (maxSteps := 1000000) (disch := omega) only [go_sem, wI, wB, x28, r28_0, r28_1, r28_2, r28_3, r28_4, r28_5, r28_6, r28_7, r28_8, r28_9, r28_10, r28_11, r28_12, r28_13, r28_14, r28_15, r28_16, r28_17, r28_18, r28_19, r28_20, r28_21, r28_22, r28_23, r28_24, r28_25, r28_26, r28_27, r28_28, Int.toNat_natCast, ↓reduceIte, ↓List.map_cons, ↓List.map_nil, ↓List.all_cons, ↓List.all_nil, ↓List.any_cons, ↓List.any_nil, Nat.reduceEqDiff, Nat.reduceLT, Nat.reduceLeDiff, Nat.reduceAdd, Nat.reduceSub, Nat.reduceMul, Nat.reduceDiv, Nat.reduceMod, Nat.reduceBEq, Int.reduceEq, Int.reduceLT, Int.reduceLE, Int.reduceToNat, Int.reducePow, Root.slot.injEq, Root.ref.injEq]
  repeat' (first | ((with_reducible apply scEnd_of); exact rfl; exact rfl) | ((with_reducible apply ScW_of); rfl; rfl; trivial; (intro h; try simp only [Bool.not_eq_true', Bool.not_eq_false', Bool.and_eq_true, Bool.and_eq_false_iff, Bool.or_eq_true, Bool.or_eq_false_iff, decide_eq_true_eq, decide_eq_false_iff_not, not_and, Int.not_lt, Int.not_le, not_or, Decidable.not_not, Bool.not_eq_true, Bool.not_eq_false] at h)) | ((with_reducible apply Br_of) <;> (intro h; (try simp only [h]); (try simp only [Bool.not_eq_true', Bool.not_eq_false', Bool.and_eq_true, Bool.and_eq_false_iff, Bool.or_eq_true, Bool.or_eq_false_iff, decide_eq_true_eq, decide_eq_false_iff_not, not_and, Int.not_lt, Int.not_le, not_or, Decidable.not_not, Bool.not_eq_true, Bool.not_eq_false] at h))) | ((with_reducible refine Opt_put_if ?_ ?_); (· (first | omega | (refine ⟨?_, ?_⟩ <;> omega) | (refine ⟨?_, ?_, ?_⟩ <;> omega) | (refine ⟨rfl, ?_⟩; simp only [okBig, Bool.and_eq_true, decide_eq_true_eq]; omega)))) | ((with_reducible refine Opt_if ?_ ?_); (· (first | omega | (refine ⟨?_, ?_⟩ <;> omega) | (refine ⟨?_, ?_, ?_⟩ <;> omega) | (refine ⟨rfl, ?_⟩; simp only [okBig, Bool.and_eq_true, decide_eq_true_eq]; omega)))) | ((with_reducible refine Opt_bind_ifn ?_ ?_); (· omega)) | ((with_reducible refine Opt_bind_if ?_ ?_); (· (first | omega | (refine ⟨?_, ?_⟩ <;> omega) | (refine ⟨?_, ?_, ?_⟩ <;> omega) | (refine ⟨rfl, ?_⟩; simp only [okBig, Bool.and_eq_true, decide_eq_true_eq]; omega)))) | simp (maxSteps := 1000000) (disch := omega) only [go_sem, wI, wB, Int.toNat_natCast, ↓reduceIte, ↓List.map_cons, ↓List.map_nil, ↓List.all_cons, ↓List.all_nil, ↓List.any_cons, ↓List.any_nil, Nat.reduceEqDiff, Nat.reduceLT, Nat.reduceLeDiff, Nat.reduceAdd, Nat.reduceSub, Nat.reduceMul, Nat.reduceDiv, Nat.reduceMod, Nat.reduceBEq, Int.reduceEq, Int.reduceLT, Int.reduceLE, Int.reduceToNat, Int.reducePow, Root.slot.injEq, Root.ref.injEq])
  all_goals (simp only [Prod.mk.injEq, SV.mk.injEq, List.cons.injEq, Cell.bool.injEq, and_true, true_and, opB, eq_comm (a := (⟨#[]⟩ : ByteArray)), eq_comm (a := (0 : Int))]; rw [Bool.eq_iff_iff]; simp only [Bool.and_eq_true, decide_eq_true_eq, spanP]; grind)
noncomputable def c28 : List SV → Refs → Option (SV × List SV × Refs)
  | [⟨.agg, [.int .i64 k, .str key, .int .i64 f, .int .i64 t, .str d]⟩], [] => some (⟨.one, [.bool (opB k key f t d)]⟩, [⟨.agg, [.int .i64 k, .str key, .int .i64 f, .int .i64 t, .str d]⟩], [])
  | _, _ => none
theorem ctr28 : Ctr Try.prog 28 c28 := by
  refine ⟨k28, fun args rf res args' rf' h => ?_⟩
  unfold c28 at h
  split at h
  · simp only [Option.some.injEq, Prod.mk.injEq] at h
    obtain ⟨rfl, rfl, rfl⟩ := h
    exact g28 _ _ _ _ _
  · simp at h
@[go_sem] theorem c28_eq {k : Int} {key : ByteArray} {f t : Int} {d : ByteArray} : c28 [⟨.agg, [.int .i64 k, .str key, .int .i64 f, .int .i64 t, .str d]⟩] [] = some (⟨.one, [.bool (opB k key f t d)]⟩, [⟨.agg, [.int .i64 k, .str key, .int .i64 f, .int .i64 t, .str d]⟩], []) := rfl

end Go.Eng

namespace Go.Eng
open Go Go.Proofs

noncomputable def callB (k : Int) (key : ByteArray) (f t : Int) (d : ByteArray) : Bool := opB (if k = 1 then 4 else if k = 2 then 5 else if k = 3 then 2 else if k = 4 then 3 else 0) key f t d
def szCallF (key d : ByteArray) (n : Int) : Int := if n - key.size < 0 then -1 else if n - key.size - d.size < 0 then -1 else n - key.size - d.size

theorem g11 (k : Int) (key : ByteArray) (f t : Int) (d : ByteArray) (hyp : key.size ≤ 9223372036854775807) : Good Try.prog 11 [⟨.agg, [.int .i64 k, .str key, .int .i64 f, .int .i64 t, .str d]⟩] [] (⟨.one, [.bool (callB k key f t d)]⟩) [⟨.agg, [.int .i64 k, .str key, .int .i64 f, .int .i64 t, .str d]⟩] [] := by
  refine Good_of (E := envOf [(31, c31), (32, c32), (29, c29), (30, c30)]) (envOk_of ⟨ctr31, ⟨ctr32, ⟨ctr29, ⟨ctr30, trivial⟩⟩⟩⟩) Try.func11 m11 rfl ?_
  simp (maxSteps := 1000000) (disch := omega) only [go_sem, wI, wB, x11, r11_0, r11_1, r11_2, r11_3, r11_4, r11_5, r11_6, r11_7, r11_8, r11_9, r11_10, r11_11, r11_12, r11_13, r11_14, r11_15, r11_16, r11_17, r11_18, Int.toNat_natCast, c30_eq, ↓reduceIte, ↓List.map_cons, ↓List.map_nil, ↓List.all_cons, ↓List.all_nil, ↓List.any_cons, ↓List.any_nil, Nat.reduceEqDiff, Nat.reduceLT, Nat.reduceLeDiff, Nat.reduceAdd, Nat.reduceSub, Nat.reduceMul, Nat.reduceDiv, Nat.reduceMod, Nat.reduceBEq, Int.reduceEq, Int.reduceLT, Int.reduceLE, Int.reduceToNat, Int.reducePow, Root.slot.injEq, Root.ref.injEq]
  repeat' (first | ((with_reducible apply scEnd_of); exact rfl; exact rfl) | ((with_reducible apply ScW_of); rfl; rfl; trivial; (intro h; try simp only [Bool.not_eq_true', Bool.not_eq_false', Bool.and_eq_true, Bool.and_eq_false_iff, Bool.or_eq_true, Bool.or_eq_false_iff, decide_eq_true_eq, decide_eq_false_iff_not, not_and, Int.not_lt, Int.not_le, not_or, Decidable.not_not, Bool.not_eq_true, Bool.not_eq_false] at h)) | ((with_reducible apply Br_of) <;> (intro h; (try simp only [h]); (try simp only [Bool.not_eq_true', Bool.not_eq_false', Bool.and_eq_true, Bool.and_eq_false_iff, Bool.or_eq_true, Bool.or_eq_false_iff, decide_eq_true_eq, decide_eq_false_iff_not, not_and, Int.not_lt, Int.not_le, not_or, Decidable.not_not, Bool.not_eq_true, Bool.not_eq_false] at h))) | ((with_reducible refine Opt_put_if ?_ ?_); (· (first | omega | (refine ⟨?_, ?_⟩ <;> omega) | (refine ⟨?_, ?_, ?_⟩ <;> omega) | (refine ⟨rfl, ?_⟩; simp only [okBig, Bool.and_eq_true, decide_eq_true_eq]; omega)))) | ((with_reducible refine Opt_if ?_ ?_); (· (first | omega | (refine ⟨?_, ?_⟩ <;> omega) | (refine ⟨?_, ?_, ?_⟩ <;> omega) | (refine ⟨rfl, ?_⟩; simp only [okBig, Bool.and_eq_true, decide_eq_true_eq]; omega)))) | ((with_reducible refine Opt_bind_ifn ?_ ?_); (· omega)) | ((with_reducible refine Opt_bind_if ?_ ?_); (· (first | omega | (refine ⟨?_, ?_⟩ <;> omega) | (refine ⟨?_, ?_, ?_⟩ <;> omega) | (refine ⟨rfl, ?_⟩; simp only [okBig, Bool.and_eq_true, decide_eq_true_eq]; omega)))) | simp (maxSteps := 1000000) (disch := omega) only [go_sem, wI, wB, Int.toNat_natCast, c30_eq, ↓reduceIte, ↓List.map_cons, ↓List.map_nil, ↓List.all_cons, ↓List.all_nil, ↓List.any_cons, ↓List.any_nil, Nat.reduceEqDiff, Nat.reduceLT, Nat.reduceLeDiff, Nat.reduceAdd, Nat.reduceSub, Nat.reduceMul, Nat.reduceDiv, Nat.reduceMod, Nat.reduceBEq, Int.reduceEq, Int.reduceLT, Int.reduceLE, Int.reduceToNat, Int.reducePow, Root.slot.injEq, Root.ref.injEq])
  all_goals (simp only [Prod.mk.injEq, SV.mk.injEq, List.cons.injEq, Cell.bool.injEq, and_true, true_and, callB, opB, eq_comm (a := (⟨#[]⟩ : ByteArray)), eq_comm (a := (0 : Int))]; rw [Bool.eq_iff_iff]; simp only [Bool.and_eq_true, decide_eq_true_eq, spanP]; grind)
noncomputable def c11 : List SV → Refs → Option (SV × List SV × Refs)
  | [⟨.agg, [.int .i64 k, .str key, .int .i64 f, .int .i64 t, .str d]⟩], [] => (open Classical in if key.size ≤ 9223372036854775807 then some (⟨.one, [.bool (callB k key f t d)]⟩, [⟨.agg, [.int .i64 k, .str key, .int .i64 f, .int .i64 t, .str d]⟩], []) else none)
  | _, _ => none
theorem ctr11 : Ctr Try.prog 11 c11 := by
  refine ⟨k11, fun args rf res args' rf' h => ?_⟩
  unfold c11 at h
  split at h
  · split at h
    · rename_i hyp
      simp only [Option.some.injEq, Prod.mk.injEq] at h
      obtain ⟨rfl, rfl, rfl⟩ := h
      exact g11 _ _ _ _ _ hyp
    · simp at h
  · simp at h
theorem c11_eq {k : Int} {key : ByteArray} {f t : Int} {d : ByteArray} (hyp : key.size ≤ 9223372036854775807) : c11 [⟨.agg, [.int .i64 k, .str key, .int .i64 f, .int .i64 t, .str d]⟩] [] = some (⟨.one, [.bool (callB k key f t d)]⟩, [⟨.agg, [.int .i64 k, .str key, .int .i64 f, .int .i64 t, .str d]⟩], []) := if_pos hyp

theorem g9 (k : Int) (key : ByteArray) (f t : Int) (d : ByteArray) : Good Try.prog 9 [⟨.agg, [.int .i64 k, .str key, .int .i64 f, .int .i64 t, .str d]⟩] [] (⟨.one, [.bool (callB k key f t d)]⟩) [⟨.agg, [.int .i64 k, .str key, .int .i64 f, .int .i64 t, .str d]⟩] [] := by
  refine Good_of (E := envOf [(28, c28)]) (envOk_of ⟨ctr28, trivial⟩) Try.func9 m9 rfl ?_
  simp (maxSteps := 1000000) (disch := omega) only [go_sem, wI, wB, x9, r9_0, r9_1, r9_2, r9_3, r9_4, r9_5, r9_6, r9_7, r9_8, r9_9, r9_10, r9_11, Int.toNat_natCast, ↓reduceIte, ↓List.map_cons, ↓List.map_nil, ↓List.all_cons, ↓List.all_nil, ↓List.any_cons, ↓List.any_nil, Nat.reduceEqDiff, Nat.reduceLT, Nat.reduceLeDiff, Nat.reduceAdd, Nat.reduceSub, Nat.reduceMul, Nat.reduceDiv, Nat.reduceMod, Nat.reduceBEq, Int.reduceEq, Int.reduceLT, Int.reduceLE, Int.reduceToNat, Int.reducePow, Root.slot.injEq, Root.ref.injEq]
  repeat' (first | ((with_reducible apply scEnd_of); exact rfl; exact rfl) | ((with_reducible apply ScW_of); rfl; rfl; trivial; (intro h; try simp only [Bool.not_eq_true', Bool.not_eq_false', Bool.and_eq_true, Bool.and_eq_false_iff, Bool.or_eq_true, Bool.or_eq_false_iff, decide_eq_true_eq, decide_eq_false_iff_not, not_and, Int.not_lt, Int.not_le, not_or, Decidable.not_not, Bool.not_eq_true, Bool.not_eq_false] at h)) | ((with_reducible apply Br_of) <;> (intro h; (try simp only [h]); (try simp only [Bool.not_eq_true', Bool.not_eq_false', Bool.and_eq_true, Bool.and_eq_false_iff, Bool.or_eq_true, Bool.or_eq_false_iff, decide_eq_true_eq, decide_eq_false_iff_not, not_and, Int.not_lt, Int.not_le, not_or, Decidable.not_not, Bool.not_eq_true, Bool.not_eq_false] at h))) | ((with_reducible refine Opt_put_if ?_ ?_); (· (first | omega | (refine ⟨?_, ?_⟩ <;> omega) | (refine ⟨?_, ?_, ?_⟩ <;> omega) | (refine ⟨rfl, ?_⟩; simp only [okBig, Bool.and_eq_true, decide_eq_true_eq]; omega)))) | ((with_reducible refine Opt_if ?_ ?_); (· (first | omega | (refine ⟨?_, ?_⟩ <;> omega) | (refine ⟨?_, ?_, ?_⟩ <;> omega) | (refine ⟨rfl, ?_⟩; simp only [okBig, Bool.and_eq_true, decide_eq_true_eq]; omega)))) | ((with_reducible refine Opt_bind_ifn ?_ ?_); (· omega)) | ((with_reducible refine Opt_bind_if ?_ ?_); (· (first | omega | (refine ⟨?_, ?_⟩ <;> omega) | (refine ⟨?_, ?_, ?_⟩ <;> omega) | (refine ⟨rfl, ?_⟩; simp only [okBig, Bool.and_eq_true, decide_eq_true_eq]; omega)))) | simp (maxSteps := 1000000) (disch := omega) only [go_sem, wI, wB, Int.toNat_natCast, ↓reduceIte, ↓List.map_cons, ↓List.map_nil, ↓List.all_cons, ↓List.all_nil, ↓List.any_cons, ↓List.any_nil, Nat.reduceEqDiff, Nat.reduceLT, Nat.reduceLeDiff, Nat.reduceAdd, Nat.reduceSub, Nat.reduceMul, Nat.reduceDiv, Nat.reduceMod, Nat.reduceBEq, Int.reduceEq, Int.reduceLT, Int.reduceLE, Int.reduceToNat, Int.reducePow, Root.slot.injEq, Root.ref.injEq])
  all_goals (simp only [callB]; grind)
noncomputable def c9 : List SV → Refs → Option (SV × List SV × Refs)
  | [⟨.agg, [.int .i64 k, .str key, .int .i64 f, .int .i64 t, .str d]⟩], [] => some (⟨.one, [.bool (callB k key f t d)]⟩, [⟨.agg, [.int .i64 k, .str key, .int .i64 f, .int .i64 t, .str d]⟩], [])
  | _, _ => none
theorem ctr9 : Ctr Try.prog 9 c9 := by
  refine ⟨k9, fun args rf res args' rf' h => ?_⟩
  unfold c9 at h
  split at h
  · simp only [Option.some.injEq, Prod.mk.injEq] at h
    obtain ⟨rfl, rfl, rfl⟩ := h
    exact g9 _ _ _ _ _
  · simp at h
@[go_sem] theorem c9_eq {k : Int} {key : ByteArray} {f t : Int} {d : ByteArray} : c9 [⟨.agg, [.int .i64 k, .str key, .int .i64 f, .int .i64 t, .str d]⟩] [] = some (⟨.one, [.bool (callB k key f t d)]⟩, [⟨.agg, [.int .i64 k, .str key, .int .i64 f, .int .i64 t, .str d]⟩], []) := rfl

theorem g10 (k : Int) (key : ByteArray) (f t : Int) (d : ByteArray) : Good Try.prog 10 [⟨.agg, [.int .i64 k, .str key, .int .i64 f, .int .i64 t, .str d]⟩] [] (⟨.agg, [.int .i64 k, .str key, .int .i64 f, .int .i64 t, .str d]⟩) [⟨.agg, [.int .i64 k, .str key, .int .i64 f, .int .i64 t, .str d]⟩] [] := by
  refine Good_of (E := envOf []) (envOk_of trivial) Try.func10 m10 rfl ?_
  simp (maxSteps := 1000000) (disch := omega) only [go_sem, wI, wB, x10, r10_0, r10_1, r10_2, r10_3, r10_4, r10_5, r10_6, r10_7, Int.toNat_natCast, ↓reduceIte, ↓List.map_cons, ↓List.map_nil, ↓List.all_cons, ↓List.all_nil, ↓List.any_cons, ↓List.any_nil, Nat.reduceEqDiff, Nat.reduceLT, Nat.reduceLeDiff, Nat.reduceAdd, Nat.reduceSub, Nat.reduceMul, Nat.reduceDiv, Nat.reduceMod, Nat.reduceBEq, Int.reduceEq, Int.reduceLT, Int.reduceLE, Int.reduceToNat, Int.reducePow, Root.slot.injEq, Root.ref.injEq]
  repeat' (first | ((with_reducible apply scEnd_of); exact rfl; exact rfl) | ((with_reducible apply ScW_of); rfl; rfl; trivial; (intro h; try simp only [Bool.not_eq_true', Bool.not_eq_false', Bool.and_eq_true, Bool.and_eq_false_iff, Bool.or_eq_true, Bool.or_eq_false_iff, decide_eq_true_eq, decide_eq_false_iff_not, not_and, Int.not_lt, Int.not_le, not_or, Decidable.not_not, Bool.not_eq_true, Bool.not_eq_false] at h)) | ((with_reducible apply Br_of) <;> (intro h; (try simp only [h]); (try simp only [Bool.not_eq_true', Bool.not_eq_false', Bool.and_eq_true, Bool.and_eq_false_iff, Bool.or_eq_true, Bool.or_eq_false_iff, decide_eq_true_eq, decide_eq_false_iff_not, not_and, Int.not_lt, Int.not_le, not_or, Decidable.not_not, Bool.not_eq_true, Bool.not_eq_false] at h))) | ((with_reducible refine Opt_put_if ?_ ?_); (· (first | omega | (refine ⟨?_, ?_⟩ <;> omega) | (refine ⟨?_, ?_, ?_⟩ <;> omega) | (refine ⟨rfl, ?_⟩; simp only [okBig, Bool.and_eq_true, decide_eq_true_eq]; omega)))) | ((with_reducible refine Opt_if ?_ ?_); (· (first | omega | (refine ⟨?_, ?_⟩ <;> omega) | (refine ⟨?_, ?_, ?_⟩ <;> omega) | (refine ⟨rfl, ?_⟩; simp only [okBig, Bool.and_eq_true, decide_eq_true_eq]; omega)))) | ((with_reducible refine Opt_bind_ifn ?_ ?_); (· omega)) | ((with_reducible refine Opt_bind_if ?_ ?_); (· (first | omega | (refine ⟨?_, ?_⟩ <;> omega) | (refine ⟨?_, ?_, ?_⟩ <;> omega) | (refine ⟨rfl, ?_⟩; simp only [okBig, Bool.and_eq_true, decide_eq_true_eq]; omega)))) | simp (maxSteps := 1000000) (disch := omega) only [go_sem, wI, wB, Int.toNat_natCast, ↓reduceIte, ↓List.map_cons, ↓List.map_nil, ↓List.all_cons, ↓List.all_nil, ↓List.any_cons, ↓List.any_nil, Nat.reduceEqDiff, Nat.reduceLT, Nat.reduceLeDiff, Nat.reduceAdd, Nat.reduceSub, Nat.reduceMul, Nat.reduceDiv, Nat.reduceMod, Nat.reduceBEq, Int.reduceEq, Int.reduceLT, Int.reduceLE, Int.reduceToNat, Int.reducePow, Root.slot.injEq, Root.ref.injEq])
noncomputable def c10 : List SV → Refs → Option (SV × List SV × Refs)
  | [⟨.agg, [.int .i64 k, .str key, .int .i64 f, .int .i64 t, .str d]⟩], [] => some (⟨.agg, [.int .i64 k, .str key, .int .i64 f, .int .i64 t, .str d]⟩, [⟨.agg, [.int .i64 k, .str key, .int .i64 f, .int .i64 t, .str d]⟩], [])
  | _, _ => none
theorem ctr10 : Ctr Try.prog 10 c10 := by
  refine ⟨k10, fun args rf res args' rf' h => ?_⟩
  unfold c10 at h
  split at h
  · simp only [Option.some.injEq, Prod.mk.injEq] at h
    obtain ⟨rfl, rfl, rfl⟩ := h
    exact g10 _ _ _ _ _
  · simp at h
@[go_sem] theorem c10_eq {k : Int} {key : ByteArray} {f t : Int} {d : ByteArray} : c10 [⟨.agg, [.int .i64 k, .str key, .int .i64 f, .int .i64 t, .str d]⟩] [] = some (⟨.agg, [.int .i64 k, .str key, .int .i64 f, .int .i64 t, .str d]⟩, [⟨.agg, [.int .i64 k, .str key, .int .i64 f, .int .i64 t, .str d]⟩], []) := rfl

theorem g8 (k : Int) (key : ByteArray) (f t : Int) (d : ByteArray) (n : Int) (hyp : (0 ≤ n ∧ n ≤ 1048576) ∧ key.size ≤ 9223372036854775807 ∧ d.size ≤ 9223372036854775807) : Good Try.prog 8 [⟨.agg, [.int .i64 k, .str key, .int .i64 f, .int .i64 t, .str d]⟩, ⟨.one, [.int .i64 n]⟩] [] (⟨.one, [.int .i64 (szCallF key d n)]⟩) [⟨.agg, [.int .i64 k, .str key, .int .i64 f, .int .i64 t, .str d]⟩, ⟨.one, [.int .i64 n]⟩] [] := by
  refine Good_of (E := envOf []) (envOk_of trivial) Try.func8 m8 rfl ?_
  simp (maxSteps := 1000000) (disch := omega) only [go_sem, wI, wB, x8, r8_0, r8_1, r8_2, r8_3, r8_4, r8_5, r8_6, r8_7, Int.toNat_natCast, ↓reduceIte, ↓List.map_cons, ↓List.map_nil, ↓List.all_cons, ↓List.all_nil, ↓List.any_cons, ↓List.any_nil, Nat.reduceEqDiff, Nat.reduceLT, Nat.reduceLeDiff, Nat.reduceAdd, Nat.reduceSub, Nat.reduceMul, Nat.reduceDiv, Nat.reduceMod, Nat.reduceBEq, Int.reduceEq, Int.reduceLT, Int.reduceLE, Int.reduceToNat, Int.reducePow, Root.slot.injEq, Root.ref.injEq]
  repeat' (first | ((with_reducible apply scEnd_of); exact rfl; exact rfl) | ((with_reducible apply ScW_of); rfl; rfl; trivial; (intro h; try simp only [Bool.not_eq_true', Bool.not_eq_false', Bool.and_eq_true, Bool.and_eq_false_iff, Bool.or_eq_true, Bool.or_eq_false_iff, decide_eq_true_eq, decide_eq_false_iff_not, not_and, Int.not_lt, Int.not_le, not_or, Decidable.not_not, Bool.not_eq_true, Bool.not_eq_false] at h)) | ((with_reducible apply Br_of) <;> (intro h; (try simp only [h]); (try simp only [Bool.not_eq_true', Bool.not_eq_false', Bool.and_eq_true, Bool.and_eq_false_iff, Bool.or_eq_true, Bool.or_eq_false_iff, decide_eq_true_eq, decide_eq_false_iff_not, not_and, Int.not_lt, Int.not_le, not_or, Decidable.not_not, Bool.not_eq_true, Bool.not_eq_false] at h))) | ((with_reducible refine Opt_put_if ?_ ?_); (· (first | omega | (refine ⟨?_, ?_⟩ <;> omega) | (refine ⟨?_, ?_, ?_⟩ <;> omega) | (refine ⟨rfl, ?_⟩; simp only [okBig, Bool.and_eq_true, decide_eq_true_eq]; omega)))) | ((with_reducible refine Opt_if ?_ ?_); (· (first | omega | (refine ⟨?_, ?_⟩ <;> omega) | (refine ⟨?_, ?_, ?_⟩ <;> omega) | (refine ⟨rfl, ?_⟩; simp only [okBig, Bool.and_eq_true, decide_eq_true_eq]; omega)))) | ((with_reducible refine Opt_bind_ifn ?_ ?_); (· omega)) | ((with_reducible refine Opt_bind_if ?_ ?_); (· (first | omega | (refine ⟨?_, ?_⟩ <;> omega) | (refine ⟨?_, ?_, ?_⟩ <;> omega) | (refine ⟨rfl, ?_⟩; simp only [okBig, Bool.and_eq_true, decide_eq_true_eq]; omega)))) | simp (maxSteps := 1000000) (disch := omega) only [go_sem, wI, wB, Int.toNat_natCast, ↓reduceIte, ↓List.map_cons, ↓List.map_nil, ↓List.all_cons, ↓List.all_nil, ↓List.any_cons, ↓List.any_nil, Nat.reduceEqDiff, Nat.reduceLT, Nat.reduceLeDiff, Nat.reduceAdd, Nat.reduceSub, Nat.reduceMul, Nat.reduceDiv, Nat.reduceMod, Nat.reduceBEq, Int.reduceEq, Int.reduceLT, Int.reduceLE, Int.reduceToNat, Int.reducePow, Root.slot.injEq, Root.ref.injEq])
  · rw [szCallF, if_pos h]
  · rw [szCallF, if_neg (by omega), if_pos h]
  · rw [szCallF, if_neg (by omega), if_neg (by omega)]
noncomputable def c8 : List SV → Refs → Option (SV × List SV × Refs)
  | [⟨.agg, [.int .i64 k, .str key, .int .i64 f, .int .i64 t, .str d]⟩, ⟨.one, [.int .i64 n]⟩], [] => (open Classical in if (0 ≤ n ∧ n ≤ 1048576) ∧ key.size ≤ 9223372036854775807 ∧ d.size ≤ 9223372036854775807 then some (⟨.one, [.int .i64 (szCallF key d n)]⟩, [⟨.agg, [.int .i64 k, .str key, .int .i64 f, .int .i64 t, .str d]⟩, ⟨.one, [.int .i64 n]⟩], []) else none)
  | _, _ => none
theorem ctr8 : Ctr Try.prog 8 c8 := by
  refine ⟨k8, fun args rf res args' rf' h => ?_⟩
  unfold c8 at h
  split at h
  · split at h
    · rename_i hyp
      simp only [Option.some.injEq, Prod.mk.injEq] at h
      obtain ⟨rfl, rfl, rfl⟩ := h
      exact g8 _ _ _ _ _ _ hyp
    · simp at h
  · simp at h
theorem c8_eq {k : Int} {key : ByteArray} {f t : Int} {d : ByteArray} {n : Int} (hyp : (0 ≤ n ∧ n ≤ 1048576) ∧ key.size ≤ 9223372036854775807 ∧ d.size ≤ 9223372036854775807) : c8 [⟨.agg, [.int .i64 k, .str key, .int .i64 f, .int .i64 t, .str d]⟩, ⟨.one, [.int .i64 n]⟩] [] = some (⟨.one, [.int .i64 (szCallF key d n)]⟩, [⟨.agg, [.int .i64 k, .str key, .int .i64 f, .int .i64 t, .str d]⟩, ⟨.one, [.int .i64 n]⟩], []) := if_pos hyp

theorem g3 (k : Int) (key : ByteArray) (f t : Int) (d : ByteArray) (hyp : key.size ≤ 9223372036854775807 ∧ d.size ≤ 9223372036854775807) : Good Try.prog 3 [⟨.agg, [.int .i64 k, .str key, .int .i64 f, .int .i64 t, .str d]⟩] [] (⟨.one, [.bool true]⟩) [⟨.agg, [.int .i64 k, .str key, .int .i64 f, .int .i64 t, .str d]⟩] [] := by
  refine Good_of (E := envOf [(8, c8), (10, c10), (9, c9), (11, c11)]) (envOk_of ⟨ctr8, ⟨ctr10, ⟨ctr9, ⟨ctr11, trivial⟩⟩⟩⟩) Try.func3 m3 rfl ?_
  simp (maxSteps := 1000000) (disch := omega) only [go_sem, wI, wB, x3, r3_0, r3_1, r3_2, r3_3, r3_4, r3_5, r3_6, r3_7, r3_8, r3_9, Int.toNat_natCast, c8_eq, c11_eq, ↓reduceIte, ↓List.map_cons, ↓List.map_nil, ↓List.all_cons, ↓List.all_nil, ↓List.any_cons, ↓List.any_nil, Nat.reduceEqDiff, Nat.reduceLT, Nat.reduceLeDiff, Nat.reduceAdd, Nat.reduceSub, Nat.reduceMul, Nat.reduceDiv, Nat.reduceMod, Nat.reduceBEq, Int.reduceEq, Int.reduceLT, Int.reduceLE, Int.reduceToNat, Int.reducePow, Root.slot.injEq, Root.ref.injEq]
  repeat' (first | ((with_reducible apply scEnd_of); exact rfl; exact rfl) | ((with_reducible apply ScW_of); rfl; rfl; trivial; (intro h; try simp only [Bool.not_eq_true', Bool.not_eq_false', Bool.and_eq_true, Bool.and_eq_false_iff, Bool.or_eq_true, Bool.or_eq_false_iff, decide_eq_true_eq, decide_eq_false_iff_not, not_and, Int.not_lt, Int.not_le, not_or, Decidable.not_not, Bool.not_eq_true, Bool.not_eq_false] at h)) | ((with_reducible apply Br_of) <;> (intro h; (try simp only [h]); (try simp only [Bool.not_eq_true', Bool.not_eq_false', Bool.and_eq_true, Bool.and_eq_false_iff, Bool.or_eq_true, Bool.or_eq_false_iff, decide_eq_true_eq, decide_eq_false_iff_not, not_and, Int.not_lt, Int.not_le, not_or, Decidable.not_not, Bool.not_eq_true, Bool.not_eq_false] at h))) | ((with_reducible refine Opt_put_if ?_ ?_); (· (first | omega | (refine ⟨?_, ?_⟩ <;> omega) | (refine ⟨?_, ?_, ?_⟩ <;> omega) | (refine ⟨rfl, ?_⟩; simp only [okBig, Bool.and_eq_true, decide_eq_true_eq]; omega)))) | ((with_reducible refine Opt_if ?_ ?_); (· (first | omega | (refine ⟨?_, ?_⟩ <;> omega) | (refine ⟨?_, ?_, ?_⟩ <;> omega) | (refine ⟨rfl, ?_⟩; simp only [okBig, Bool.and_eq_true, decide_eq_true_eq]; omega)))) | ((with_reducible refine Opt_bind_ifn ?_ ?_); (· omega)) | ((with_reducible refine Opt_bind_if ?_ ?_); (· (first | omega | (refine ⟨?_, ?_⟩ <;> omega) | (refine ⟨?_, ?_, ?_⟩ <;> omega) | (refine ⟨rfl, ?_⟩; simp only [okBig, Bool.and_eq_true, decide_eq_true_eq]; omega)))) | simp (maxSteps := 1000000) (disch := omega) only [go_sem, wI, wB, Int.toNat_natCast, c8_eq, c11_eq, ↓reduceIte, ↓List.map_cons, ↓List.map_nil, ↓List.all_cons, ↓List.all_nil, ↓List.any_cons, ↓List.any_nil, Nat.reduceEqDiff, Nat.reduceLT, Nat.reduceLeDiff, Nat.reduceAdd, Nat.reduceSub, Nat.reduceMul, Nat.reduceDiv, Nat.reduceMod, Nat.reduceBEq, Int.reduceEq, Int.reduceLT, Int.reduceLE, Int.reduceToNat, Int.reducePow, Root.slot.injEq, Root.ref.injEq])
  · simp at h
noncomputable def c3 : List SV → Refs → Option (SV × List SV × Refs)
  | [⟨.agg, [.int .i64 k, .str key, .int .i64 f, .int .i64 t, .str d]⟩], [] => (open Classical in if key.size ≤ 9223372036854775807 ∧ d.size ≤ 9223372036854775807 then some (⟨.one, [.bool true]⟩, [⟨.agg, [.int .i64 k, .str key, .int .i64 f, .int .i64 t, .str d]⟩], []) else none)
  | _, _ => none
theorem ctr3 : Ctr Try.prog 3 c3 := by
  refine ⟨k3, fun args rf res args' rf' h => ?_⟩
  unfold c3 at h
  split at h
  · split at h
    · rename_i hyp
      simp only [Option.some.injEq, Prod.mk.injEq] at h
      obtain ⟨rfl, rfl, rfl⟩ := h
      exact g3 _ _ _ _ _ hyp
    · simp at h
  · simp at h
theorem c3_eq {k : Int} {key : ByteArray} {f t : Int} {d : ByteArray} (hyp : key.size ≤ 9223372036854775807 ∧ d.size ≤ 9223372036854775807) : c3 [⟨.agg, [.int .i64 k, .str key, .int .i64 f, .int .i64 t, .str d]⟩] [] = some (⟨.one, [.bool true]⟩, [⟨.agg, [.int .i64 k, .str key, .int .i64 f, .int .i64 t, .str d]⟩], []) := if_pos hyp

end Go.Eng
