/-
  Contracts of functions of the program, its reference and the laws: what each returns; the conditions stand in each contract.
-/
import Derived.Test.YtlpapgmbknkmaaaGreatFnB
set_option linter.unusedSimpArgs false
set_option linter.unusedVariables false
set_option maxRecDepth 100000
set_option maxHeartbeats 2000000
namespace Go.Eng
open Go Go.Proofs
attribute [push_cast] List.length_set
instance g91 (l : List Int) (k : Int) : Fc Tryz.prog 91 [⟨.one, [.own 1 (rowsI l)]⟩, i64 k] [] (l.length ≤ 2000000 ∧ 0 ≤ k ∧ k ≤ 50000000) (i64 (k + 1 * l.length)) [⟨.one, [.own 1 (rowsI (markG id 1 k l.length))]⟩, i64 k] [] := by
  refine F_of m91 rfl fun hyp => ?_
  repeat' (first | (with_reducible intro h; (try simp only [h]); (try simp only [HS] at h)) | ((with_reducible apply scEnd_of); exact rfl; exact rfl) | ((with_reducible apply ScW_of); rfl; rfl; trivial) | with_reducible first | apply Br_of | refine O1 ?_ | refine O2 ?_ | refine O3 ?_ | refine O4 ?_ | refine O5 ?_ | refine CI ?_ | refine CJ ?_ | refine CQ ?_ | simp (maxSteps := 1000000) (disch := omega) only [go_sem])
  refine LoopK_of (α := Nat) (fun p => ⟨[(5, i64 p), (1, i64 (k + 1 * (p : Int))), (0, ⟨.one, [.al ⟨.gho 0 0, []⟩]⟩)], [], [(0, ⟨.one, [.own 1 (rowsI (markG id 1 k p ++ l.drop p))]⟩), (1, i64 k)]⟩) (fun p => p ≤ l.length) (fun p => l.length - p) 0 ?h0 (Nat.zero_le _) ?_
  case h0 => simp only [markG, List.nil_append, List.drop_zero, Int.natCast_zero, Int.mul_zero, Int.add_zero]; rfl
  intro i hi
  have hlen : (markG id 1 k i ++ l.drop i).length = l.length := by rw [List.length_append, markG_len, List.length_drop]; omega
  repeat' (first | (with_reducible intro h; (try simp only [h]); (try simp only [HS] at h)) | ((with_reducible apply scEnd_of); exact rfl; exact rfl) | ((with_reducible apply ScW_of); rfl; rfl; trivial) | with_reducible first | apply Br_of | refine O1 ?_ | refine O2 ?_ | refine O3 ?_ | refine O4 ?_ | refine O5 ?_ | refine CI ?_ | refine CJ ?_ | refine CQ ?_ | simp (maxSteps := 1000000) (disch := omega) only [go_sem, hlen, List.length_set])
  all_goals (try (exfalso; omega))
  · have e := markG_step (f := id) (w := 1) (k := k) (l := l) 0 (show i < l.length by omega)
    simp only [id] at e
    rw [e]
    rw [show k + 1 * (i : Int) + 1 = k + 1 * ((i + 1 : Nat) : Int) by omega]
    exact LoopQ_of (i + 1) rfl (by omega) (by omega)
  · have e : i = l.length := by omega
    subst e
    rw [List.drop_length, List.append_nil]
instance g116 (l : List Int) (k : Int) : Fs 116 [⟨.one, [.ro 1 (rowsI l)]⟩, i64 k] (l.length ≤ 2000000 ∧ 0 ≤ k ∧ k ≤ 50000000) (i64 (heldG id 1 k l)) := by
  refine F_of m116 rfl fun hyp => ?_
  repeat' (first | (with_reducible intro h; (try simp only [h]); (try simp only [HS] at h)) | ((with_reducible apply scEnd_of); exact rfl; exact rfl) | ((with_reducible apply ScW_of); rfl; rfl; trivial) | with_reducible first | apply Br_of | refine O1 ?_ | refine O2 ?_ | refine O3 ?_ | refine O4 ?_ | refine O5 ?_ | refine CI ?_ | refine CJ ?_ | refine CQ ?_ | simp (maxSteps := 1000000) (disch := omega) only [go_sem])
  refine LoopK_of (α := Nat) (fun p => ⟨[(5, i64 p), (1, i64 (k + 1 * (p : Int))), (0, ⟨.one, [.ro 1 (rowsI l)]⟩)], [], [(0, ⟨.one, [.ro 1 (rowsI l)]⟩), (1, i64 k)]⟩) (fun p => p ≤ l.length ∧ l.take p = markG id 1 k p) (fun p => l.length - p) 0 ?h0 ⟨Nat.zero_le _, rfl⟩ ?_
  case h0 => simp only [Int.natCast_zero, Int.mul_zero, Int.add_zero]; rfl
  rintro i ⟨h1, h2⟩
  repeat' (first | (with_reducible intro h; (try simp only [h]); (try simp only [HS] at h)) | ((with_reducible apply scEnd_of); exact rfl; exact rfl) | ((with_reducible apply ScW_of); rfl; rfl; trivial) | with_reducible first | apply Br_of | refine O1 ?_ | refine O2 ?_ | refine O3 ?_ | refine O4 ?_ | refine O5 ?_ | refine CI ?_ | refine CJ ?_ | refine CQ ?_ | simp (maxSteps := 1000000) (disch := omega) only [go_sem])
  all_goals (try (exfalso; omega))
  · rw [heldG_no (i := i) 0 (by omega) (fun e => h (by rw [e]; rfl))]
  · rw [show k + 1 * (i : Int) + 1 = k + 1 * ((i + 1 : Nat) : Int) by omega]
    exact LoopQ_of (i + 1) rfl ⟨by omega, held_step 0 (by omega) h2 (by assumption)⟩ (by omega)
  · rw [held_end (by omega) h1 h2]; have e : i = l.length := by omega
    subst e; rfl
def LegV.mk1 (k : Int) : LegV := ⟨k, k + 1, ⟨k + 1 + 1, markT (k + 1 + 1 + 1), k + 1 + 1 + 1 + 1, k + 1 + 1 + 1 + 1 + 1, markT (k + 1 + 1 + 1 + 1 + 1 + 1)⟩, ⟨k + 1 + 1 + 1 + 1 + 1 + 1 + 1, k + 1 + 1 + 1 + 1 + 1 + 1 + 1 + 1, k + 1 + 1 + 1 + 1 + 1 + 1 + 1 + 1 + 1, markT (k + 1 + 1 + 1 + 1 + 1 + 1 + 1 + 1 + 1 + 1)⟩⟩
@[go_sem] theorem LegV.set0 {l : List LegV} {i : Nat} {v : Int} (h : i < l.length) : setCells 11 (rows l) (i * 11) [.int .i64 v] = rows (l.set i (⟨v, (l.getD i default).Serial, (l.getD i default).Op, (l.getD i default).Answer⟩ : LegV)) := rows_part0 (x := ⟨v, (l.getD i default).Serial, (l.getD i default).Op, (l.getD i default).Answer⟩) rfl rfl (Nat.le_of_ble_eq_true rfl) h
@[go_sem] theorem LegV.set1 {l : List LegV} {i : Nat} {v : Int} (h : i < l.length) : setCells 11 (rows l) (i * 11 + 1) [.int .i64 v] = rows (l.set i (⟨(l.getD i default).Group, v, (l.getD i default).Op, (l.getD i default).Answer⟩ : LegV)) := rows_part (x := ⟨(l.getD i default).Group, v, (l.getD i default).Op, (l.getD i default).Answer⟩) rfl rfl (Nat.le_of_ble_eq_true rfl) h
@[go_sem] theorem LegV.set2 {l : List LegV} {i : Nat} {v : Int} (h : i < l.length) : setCells 11 (rows l) (i * 11 + 2) [.int .i64 v] = rows (l.set i (⟨(l.getD i default).Group, (l.getD i default).Serial, ⟨v, (l.getD i default).Op.key, (l.getD i default).Op.f, (l.getD i default).Op.t, (l.getD i default).Op.d⟩, (l.getD i default).Answer⟩ : LegV)) := rows_part (x := ⟨(l.getD i default).Group, (l.getD i default).Serial, ⟨v, (l.getD i default).Op.key, (l.getD i default).Op.f, (l.getD i default).Op.t, (l.getD i default).Op.d⟩, (l.getD i default).Answer⟩) rfl rfl (Nat.le_of_ble_eq_true rfl) h
@[go_sem] theorem LegV.set3 {l : List LegV} {i : Nat} {v : ByteArray} (h : i < l.length) : setCells 11 (rows l) (i * 11 + 3) [.str v] = rows (l.set i (⟨(l.getD i default).Group, (l.getD i default).Serial, ⟨(l.getD i default).Op.k, v, (l.getD i default).Op.f, (l.getD i default).Op.t, (l.getD i default).Op.d⟩, (l.getD i default).Answer⟩ : LegV)) := rows_part (x := ⟨(l.getD i default).Group, (l.getD i default).Serial, ⟨(l.getD i default).Op.k, v, (l.getD i default).Op.f, (l.getD i default).Op.t, (l.getD i default).Op.d⟩, (l.getD i default).Answer⟩) rfl rfl (Nat.le_of_ble_eq_true rfl) h
@[go_sem] theorem LegV.set4 {l : List LegV} {i : Nat} {v : Int} (h : i < l.length) : setCells 11 (rows l) (i * 11 + 4) [.int .i64 v] = rows (l.set i (⟨(l.getD i default).Group, (l.getD i default).Serial, ⟨(l.getD i default).Op.k, (l.getD i default).Op.key, v, (l.getD i default).Op.t, (l.getD i default).Op.d⟩, (l.getD i default).Answer⟩ : LegV)) := rows_part (x := ⟨(l.getD i default).Group, (l.getD i default).Serial, ⟨(l.getD i default).Op.k, (l.getD i default).Op.key, v, (l.getD i default).Op.t, (l.getD i default).Op.d⟩, (l.getD i default).Answer⟩) rfl rfl (Nat.le_of_ble_eq_true rfl) h
@[go_sem] theorem LegV.set5 {l : List LegV} {i : Nat} {v : Int} (h : i < l.length) : setCells 11 (rows l) (i * 11 + 5) [.int .i64 v] = rows (l.set i (⟨(l.getD i default).Group, (l.getD i default).Serial, ⟨(l.getD i default).Op.k, (l.getD i default).Op.key, (l.getD i default).Op.f, v, (l.getD i default).Op.d⟩, (l.getD i default).Answer⟩ : LegV)) := rows_part (x := ⟨(l.getD i default).Group, (l.getD i default).Serial, ⟨(l.getD i default).Op.k, (l.getD i default).Op.key, (l.getD i default).Op.f, v, (l.getD i default).Op.d⟩, (l.getD i default).Answer⟩) rfl rfl (Nat.le_of_ble_eq_true rfl) h
@[go_sem] theorem LegV.set6 {l : List LegV} {i : Nat} {v : ByteArray} (h : i < l.length) : setCells 11 (rows l) (i * 11 + 6) [.str v] = rows (l.set i (⟨(l.getD i default).Group, (l.getD i default).Serial, ⟨(l.getD i default).Op.k, (l.getD i default).Op.key, (l.getD i default).Op.f, (l.getD i default).Op.t, v⟩, (l.getD i default).Answer⟩ : LegV)) := rows_part (x := ⟨(l.getD i default).Group, (l.getD i default).Serial, ⟨(l.getD i default).Op.k, (l.getD i default).Op.key, (l.getD i default).Op.f, (l.getD i default).Op.t, v⟩, (l.getD i default).Answer⟩) rfl rfl (Nat.le_of_ble_eq_true rfl) h
@[go_sem] theorem LegV.set7 {l : List LegV} {i : Nat} {v : Int} (h : i < l.length) : setCells 11 (rows l) (i * 11 + 7) [.int .i64 v] = rows (l.set i (⟨(l.getD i default).Group, (l.getD i default).Serial, (l.getD i default).Op, ⟨v, (l.getD i default).Answer.i, (l.getD i default).Answer.m, (l.getD i default).Answer.d⟩⟩ : LegV)) := rows_part (x := ⟨(l.getD i default).Group, (l.getD i default).Serial, (l.getD i default).Op, ⟨v, (l.getD i default).Answer.i, (l.getD i default).Answer.m, (l.getD i default).Answer.d⟩⟩) rfl rfl (Nat.le_of_ble_eq_true rfl) h
@[go_sem] theorem LegV.set8 {l : List LegV} {i : Nat} {v : Int} (h : i < l.length) : setCells 11 (rows l) (i * 11 + 8) [.int .i64 v] = rows (l.set i (⟨(l.getD i default).Group, (l.getD i default).Serial, (l.getD i default).Op, ⟨(l.getD i default).Answer.c, v, (l.getD i default).Answer.m, (l.getD i default).Answer.d⟩⟩ : LegV)) := rows_part (x := ⟨(l.getD i default).Group, (l.getD i default).Serial, (l.getD i default).Op, ⟨(l.getD i default).Answer.c, v, (l.getD i default).Answer.m, (l.getD i default).Answer.d⟩⟩) rfl rfl (Nat.le_of_ble_eq_true rfl) h
@[go_sem] theorem LegV.set9 {l : List LegV} {i : Nat} {v : Int} (h : i < l.length) : setCells 11 (rows l) (i * 11 + 9) [.int .i64 v] = rows (l.set i (⟨(l.getD i default).Group, (l.getD i default).Serial, (l.getD i default).Op, ⟨(l.getD i default).Answer.c, (l.getD i default).Answer.i, v, (l.getD i default).Answer.d⟩⟩ : LegV)) := rows_part (x := ⟨(l.getD i default).Group, (l.getD i default).Serial, (l.getD i default).Op, ⟨(l.getD i default).Answer.c, (l.getD i default).Answer.i, v, (l.getD i default).Answer.d⟩⟩) rfl rfl (Nat.le_of_ble_eq_true rfl) h
@[go_sem] theorem LegV.set10 {l : List LegV} {i : Nat} {v : ByteArray} (h : i < l.length) : setCells 11 (rows l) (i * 11 + 10) [.str v] = rows (l.set i (⟨(l.getD i default).Group, (l.getD i default).Serial, (l.getD i default).Op, ⟨(l.getD i default).Answer.c, (l.getD i default).Answer.i, (l.getD i default).Answer.m, v⟩⟩ : LegV)) := rows_part (x := ⟨(l.getD i default).Group, (l.getD i default).Serial, (l.getD i default).Op, ⟨(l.getD i default).Answer.c, (l.getD i default).Answer.i, (l.getD i default).Answer.m, v⟩⟩) rfl rfl (Nat.le_of_ble_eq_true rfl) h
@[go_sem] theorem LegV.sst0 {l : List LegV} {i : Nat} {x : LegV} {v : Int} (h : i < l.length) : setCells 11 (rows (l.set i x)) (i * 11) [.int .i64 v] = rows (l.set i (⟨v, x.Serial, x.Op, x.Answer⟩ : LegV)) := by rw [LegV.set0 (by rw [List.length_set]; exact h), set_getDz default h, List.set_set]
@[go_sem] theorem LegV.sst1 {l : List LegV} {i : Nat} {x : LegV} {v : Int} (h : i < l.length) : setCells 11 (rows (l.set i x)) (i * 11 + 1) [.int .i64 v] = rows (l.set i (⟨x.Group, v, x.Op, x.Answer⟩ : LegV)) := by rw [LegV.set1 (by rw [List.length_set]; exact h), set_getDz default h, List.set_set]
@[go_sem] theorem LegV.sst2 {l : List LegV} {i : Nat} {x : LegV} {v : Int} (h : i < l.length) : setCells 11 (rows (l.set i x)) (i * 11 + 2) [.int .i64 v] = rows (l.set i (⟨x.Group, x.Serial, ⟨v, x.Op.key, x.Op.f, x.Op.t, x.Op.d⟩, x.Answer⟩ : LegV)) := by rw [LegV.set2 (by rw [List.length_set]; exact h), set_getDz default h, List.set_set]
@[go_sem] theorem LegV.sst3 {l : List LegV} {i : Nat} {x : LegV} {v : ByteArray} (h : i < l.length) : setCells 11 (rows (l.set i x)) (i * 11 + 3) [.str v] = rows (l.set i (⟨x.Group, x.Serial, ⟨x.Op.k, v, x.Op.f, x.Op.t, x.Op.d⟩, x.Answer⟩ : LegV)) := by rw [LegV.set3 (by rw [List.length_set]; exact h), set_getDz default h, List.set_set]
@[go_sem] theorem LegV.sst4 {l : List LegV} {i : Nat} {x : LegV} {v : Int} (h : i < l.length) : setCells 11 (rows (l.set i x)) (i * 11 + 4) [.int .i64 v] = rows (l.set i (⟨x.Group, x.Serial, ⟨x.Op.k, x.Op.key, v, x.Op.t, x.Op.d⟩, x.Answer⟩ : LegV)) := by rw [LegV.set4 (by rw [List.length_set]; exact h), set_getDz default h, List.set_set]
@[go_sem] theorem LegV.sst5 {l : List LegV} {i : Nat} {x : LegV} {v : Int} (h : i < l.length) : setCells 11 (rows (l.set i x)) (i * 11 + 5) [.int .i64 v] = rows (l.set i (⟨x.Group, x.Serial, ⟨x.Op.k, x.Op.key, x.Op.f, v, x.Op.d⟩, x.Answer⟩ : LegV)) := by rw [LegV.set5 (by rw [List.length_set]; exact h), set_getDz default h, List.set_set]
@[go_sem] theorem LegV.sst6 {l : List LegV} {i : Nat} {x : LegV} {v : ByteArray} (h : i < l.length) : setCells 11 (rows (l.set i x)) (i * 11 + 6) [.str v] = rows (l.set i (⟨x.Group, x.Serial, ⟨x.Op.k, x.Op.key, x.Op.f, x.Op.t, v⟩, x.Answer⟩ : LegV)) := by rw [LegV.set6 (by rw [List.length_set]; exact h), set_getDz default h, List.set_set]
@[go_sem] theorem LegV.sst7 {l : List LegV} {i : Nat} {x : LegV} {v : Int} (h : i < l.length) : setCells 11 (rows (l.set i x)) (i * 11 + 7) [.int .i64 v] = rows (l.set i (⟨x.Group, x.Serial, x.Op, ⟨v, x.Answer.i, x.Answer.m, x.Answer.d⟩⟩ : LegV)) := by rw [LegV.set7 (by rw [List.length_set]; exact h), set_getDz default h, List.set_set]
@[go_sem] theorem LegV.sst8 {l : List LegV} {i : Nat} {x : LegV} {v : Int} (h : i < l.length) : setCells 11 (rows (l.set i x)) (i * 11 + 8) [.int .i64 v] = rows (l.set i (⟨x.Group, x.Serial, x.Op, ⟨x.Answer.c, v, x.Answer.m, x.Answer.d⟩⟩ : LegV)) := by rw [LegV.set8 (by rw [List.length_set]; exact h), set_getDz default h, List.set_set]
@[go_sem] theorem LegV.sst9 {l : List LegV} {i : Nat} {x : LegV} {v : Int} (h : i < l.length) : setCells 11 (rows (l.set i x)) (i * 11 + 9) [.int .i64 v] = rows (l.set i (⟨x.Group, x.Serial, x.Op, ⟨x.Answer.c, x.Answer.i, v, x.Answer.d⟩⟩ : LegV)) := by rw [LegV.set9 (by rw [List.length_set]; exact h), set_getDz default h, List.set_set]
@[go_sem] theorem LegV.sst10 {l : List LegV} {i : Nat} {x : LegV} {v : ByteArray} (h : i < l.length) : setCells 11 (rows (l.set i x)) (i * 11 + 10) [.str v] = rows (l.set i (⟨x.Group, x.Serial, x.Op, ⟨x.Answer.c, x.Answer.i, x.Answer.m, v⟩⟩ : LegV)) := by rw [LegV.set10 (by rw [List.length_set]; exact h), set_getDz default h, List.set_set]
instance g92 (l : List LegV) (k : Int) : Fc Tryz.prog 92 [⟨.one, [.own 11 (rows l)]⟩, i64 k] [] (l.length ≤ 2000000 ∧ 0 ≤ k ∧ k ≤ 50000000) (i64 (k + 11 * l.length)) [⟨.one, [.own 11 (rows (markG LegV.mk1 11 k l.length))]⟩, i64 k] [] := by
  refine F_of m92 rfl fun hyp => ?_
  repeat' (first | (with_reducible intro h; (try simp only [h]); (try simp only [HS] at h)) | ((with_reducible apply scEnd_of); exact rfl; exact rfl) | ((with_reducible apply ScW_of); rfl; rfl; trivial) | with_reducible first | apply Br_of | refine O1 ?_ | refine O2 ?_ | refine O3 ?_ | refine O4 ?_ | refine O5 ?_ | refine CI ?_ | refine CJ ?_ | refine CQ ?_ | simp (maxSteps := 1000000) (disch := omega) only [go_sem])
  refine LoopK_of (α := Nat) (fun p => ⟨[(5, i64 p), (1, i64 (k + 11 * (p : Int))), (0, ⟨.one, [.al ⟨.gho 0 0, []⟩]⟩)], [], [(0, ⟨.one, [.own 11 (rows (markG LegV.mk1 11 k p ++ l.drop p))]⟩), (1, i64 k)]⟩) (fun p => p ≤ l.length) (fun p => l.length - p) 0 ?h0 (Nat.zero_le _) ?_
  case h0 => simp only [markG, List.nil_append, List.drop_zero, Int.natCast_zero, Int.mul_zero, Int.add_zero]; rfl
  intro i hi
  have hlen : (markG LegV.mk1 11 k i ++ l.drop i).length = l.length := by rw [List.length_append, markG_len, List.length_drop]; omega
  repeat' (first | (with_reducible intro h; (try simp only [h]); (try simp only [HS] at h)) | ((with_reducible apply scEnd_of); exact rfl; exact rfl) | ((with_reducible apply ScW_of); rfl; rfl; trivial) | with_reducible first | apply Br_of | refine O1 ?_ | refine O2 ?_ | refine O3 ?_ | refine O4 ?_ | refine O5 ?_ | refine CI ?_ | refine CJ ?_ | refine CQ ?_ | simp (maxSteps := 1000000) (disch := omega) only [go_sem, hlen, List.length_set, set_getDz, List.set_set])
  all_goals (try (exfalso; omega))
  · have e := markG_step (f := LegV.mk1) (w := 11) (k := k) (l := l) default (show i < l.length by omega)
    simp only [LegV.mk1] at e
    rw [e]
    rw [show k + 11 * (i : Int) + 1 + 1 + 1 + 1 + 1 + 1 + 1 + 1 + 1 + 1 + 1 = k + 11 * ((i + 1 : Nat) : Int) by omega]
    exact LoopQ_of (i + 1) rfl (by omega) (by omega)
  · have e : i = l.length := by omega
    subst e
    rw [List.drop_length, List.append_nil]
instance g117 (l : List LegV) (k : Int) : Fs 117 [⟨.one, [.ro 11 (rows l)]⟩, i64 k] (l.length ≤ 2000000 ∧ 0 ≤ k ∧ k ≤ 50000000) (i64 (heldG LegV.mk1 11 k l)) := by
  refine F_of m117 rfl fun hyp => ?_
  repeat' (first | (with_reducible intro h; (try simp only [h]); (try simp only [HS] at h)) | ((with_reducible apply scEnd_of); exact rfl; exact rfl) | ((with_reducible apply ScW_of); rfl; rfl; trivial) | with_reducible first | apply Br_of | refine O1 ?_ | refine O2 ?_ | refine O3 ?_ | refine O4 ?_ | refine O5 ?_ | refine CI ?_ | refine CJ ?_ | refine CQ ?_ | simp (maxSteps := 1000000) (disch := omega) only [go_sem])
  refine LoopK_of (α := Nat) (fun p => ⟨[(5, i64 p), (1, i64 (k + 11 * (p : Int))), (0, ⟨.one, [.ro 11 (rows l)]⟩)], [], [(0, ⟨.one, [.ro 11 (rows l)]⟩), (1, i64 k)]⟩) (fun p => p ≤ l.length ∧ l.take p = markG LegV.mk1 11 k p) (fun p => l.length - p) 0 ?h0 ⟨Nat.zero_le _, rfl⟩ ?_
  case h0 => simp only [Int.natCast_zero, Int.mul_zero, Int.add_zero]; rfl
  rintro i ⟨h1, h2⟩
  repeat' (first | (with_reducible intro h; (try simp only [h]); (try simp only [HS] at h)) | ((with_reducible apply scEnd_of); exact rfl; exact rfl) | ((with_reducible apply ScW_of); rfl; rfl; trivial) | with_reducible first | apply Br_of | refine O1 ?_ | refine O2 ?_ | refine O3 ?_ | refine O4 ?_ | refine O5 ?_ | refine CI ?_ | refine CJ ?_ | refine CQ ?_ | simp (maxSteps := 1000000) (disch := omega) only [go_sem])
  all_goals (try (exfalso; omega))
  · rw [heldG_no (i := i) default (by omega) (fun e => h (by rw [e]; rfl))]
  · rw [heldG_no (i := i) default (by omega) (fun e => h (by rw [e]; rfl))]
  · rw [heldG_no (i := i) default (by omega) (fun e => h (by rw [e]; rfl))]
  · rw [heldG_no (i := i) default (by omega) (fun e => h (by rw [e]; rfl))]
  · rw [heldG_no (i := i) default (by omega) (fun e => h (by rw [e]; rfl))]
  · rw [heldG_no (i := i) default (by omega) (fun e => h (by rw [e]; rfl))]
  · rw [heldG_no (i := i) default (by omega) (fun e => h (by rw [e]; rfl))]
  · rw [heldG_no (i := i) default (by omega) (fun e => h (by rw [e]; rfl))]
  · rw [heldG_no (i := i) default (by omega) (fun e => h (by rw [e]; rfl))]
  · rw [heldG_no (i := i) default (by omega) (fun e => h (by rw [e]; rfl))]
  · rw [heldG_no (i := i) default (by omega) (fun e => h (by rw [e]; rfl))]
  · have e : l.getD i default = LegV.mk1 (k + 11 * (i : Int)) := by
      generalize l.getD i default = x at *
      obtain ⟨_, _, ⟨_, _, _, _, _⟩, ⟨_, _, _, _⟩⟩ := x
      simp only at *
      subst_vars
      rfl
    rw [show k + 11 * (i : Int) + 1 + 1 + 1 + 1 + 1 + 1 + 1 + 1 + 1 + 1 + 1 = k + 11 * ((i + 1 : Nat) : Int) by omega]
    exact LoopQ_of (i + 1) rfl ⟨by omega, held_step default (by omega) h2 e⟩ (by omega)
  · rw [held_end (by omega) h1 h2]; have e : i = l.length := by omega
    subst e; rfl
def TodoV.mk1 (k : Int) : TodoV := ⟨k, ⟨k + 1, markT (k + 1 + 1), k + 1 + 1 + 1, k + 1 + 1 + 1 + 1, markT (k + 1 + 1 + 1 + 1 + 1)⟩⟩
@[go_sem] theorem TodoV.set0 {l : List TodoV} {i : Nat} {v : Int} (h : i < l.length) : setCells 6 (rows l) (i * 6) [.int .i64 v] = rows (l.set i (⟨v, (l.getD i default).Op⟩ : TodoV)) := rows_part0 (x := ⟨v, (l.getD i default).Op⟩) rfl rfl (Nat.le_of_ble_eq_true rfl) h
@[go_sem] theorem TodoV.set1 {l : List TodoV} {i : Nat} {v : Int} (h : i < l.length) : setCells 6 (rows l) (i * 6 + 1) [.int .i64 v] = rows (l.set i (⟨(l.getD i default).Group, ⟨v, (l.getD i default).Op.key, (l.getD i default).Op.f, (l.getD i default).Op.t, (l.getD i default).Op.d⟩⟩ : TodoV)) := rows_part (x := ⟨(l.getD i default).Group, ⟨v, (l.getD i default).Op.key, (l.getD i default).Op.f, (l.getD i default).Op.t, (l.getD i default).Op.d⟩⟩) rfl rfl (Nat.le_of_ble_eq_true rfl) h
@[go_sem] theorem TodoV.set2 {l : List TodoV} {i : Nat} {v : ByteArray} (h : i < l.length) : setCells 6 (rows l) (i * 6 + 2) [.str v] = rows (l.set i (⟨(l.getD i default).Group, ⟨(l.getD i default).Op.k, v, (l.getD i default).Op.f, (l.getD i default).Op.t, (l.getD i default).Op.d⟩⟩ : TodoV)) := rows_part (x := ⟨(l.getD i default).Group, ⟨(l.getD i default).Op.k, v, (l.getD i default).Op.f, (l.getD i default).Op.t, (l.getD i default).Op.d⟩⟩) rfl rfl (Nat.le_of_ble_eq_true rfl) h
@[go_sem] theorem TodoV.set3 {l : List TodoV} {i : Nat} {v : Int} (h : i < l.length) : setCells 6 (rows l) (i * 6 + 3) [.int .i64 v] = rows (l.set i (⟨(l.getD i default).Group, ⟨(l.getD i default).Op.k, (l.getD i default).Op.key, v, (l.getD i default).Op.t, (l.getD i default).Op.d⟩⟩ : TodoV)) := rows_part (x := ⟨(l.getD i default).Group, ⟨(l.getD i default).Op.k, (l.getD i default).Op.key, v, (l.getD i default).Op.t, (l.getD i default).Op.d⟩⟩) rfl rfl (Nat.le_of_ble_eq_true rfl) h
@[go_sem] theorem TodoV.set4 {l : List TodoV} {i : Nat} {v : Int} (h : i < l.length) : setCells 6 (rows l) (i * 6 + 4) [.int .i64 v] = rows (l.set i (⟨(l.getD i default).Group, ⟨(l.getD i default).Op.k, (l.getD i default).Op.key, (l.getD i default).Op.f, v, (l.getD i default).Op.d⟩⟩ : TodoV)) := rows_part (x := ⟨(l.getD i default).Group, ⟨(l.getD i default).Op.k, (l.getD i default).Op.key, (l.getD i default).Op.f, v, (l.getD i default).Op.d⟩⟩) rfl rfl (Nat.le_of_ble_eq_true rfl) h
@[go_sem] theorem TodoV.set5 {l : List TodoV} {i : Nat} {v : ByteArray} (h : i < l.length) : setCells 6 (rows l) (i * 6 + 5) [.str v] = rows (l.set i (⟨(l.getD i default).Group, ⟨(l.getD i default).Op.k, (l.getD i default).Op.key, (l.getD i default).Op.f, (l.getD i default).Op.t, v⟩⟩ : TodoV)) := rows_part (x := ⟨(l.getD i default).Group, ⟨(l.getD i default).Op.k, (l.getD i default).Op.key, (l.getD i default).Op.f, (l.getD i default).Op.t, v⟩⟩) rfl rfl (Nat.le_of_ble_eq_true rfl) h
@[go_sem] theorem TodoV.sst0 {l : List TodoV} {i : Nat} {x : TodoV} {v : Int} (h : i < l.length) : setCells 6 (rows (l.set i x)) (i * 6) [.int .i64 v] = rows (l.set i (⟨v, x.Op⟩ : TodoV)) := by rw [TodoV.set0 (by rw [List.length_set]; exact h), set_getDz default h, List.set_set]
@[go_sem] theorem TodoV.sst1 {l : List TodoV} {i : Nat} {x : TodoV} {v : Int} (h : i < l.length) : setCells 6 (rows (l.set i x)) (i * 6 + 1) [.int .i64 v] = rows (l.set i (⟨x.Group, ⟨v, x.Op.key, x.Op.f, x.Op.t, x.Op.d⟩⟩ : TodoV)) := by rw [TodoV.set1 (by rw [List.length_set]; exact h), set_getDz default h, List.set_set]
@[go_sem] theorem TodoV.sst2 {l : List TodoV} {i : Nat} {x : TodoV} {v : ByteArray} (h : i < l.length) : setCells 6 (rows (l.set i x)) (i * 6 + 2) [.str v] = rows (l.set i (⟨x.Group, ⟨x.Op.k, v, x.Op.f, x.Op.t, x.Op.d⟩⟩ : TodoV)) := by rw [TodoV.set2 (by rw [List.length_set]; exact h), set_getDz default h, List.set_set]
@[go_sem] theorem TodoV.sst3 {l : List TodoV} {i : Nat} {x : TodoV} {v : Int} (h : i < l.length) : setCells 6 (rows (l.set i x)) (i * 6 + 3) [.int .i64 v] = rows (l.set i (⟨x.Group, ⟨x.Op.k, x.Op.key, v, x.Op.t, x.Op.d⟩⟩ : TodoV)) := by rw [TodoV.set3 (by rw [List.length_set]; exact h), set_getDz default h, List.set_set]
@[go_sem] theorem TodoV.sst4 {l : List TodoV} {i : Nat} {x : TodoV} {v : Int} (h : i < l.length) : setCells 6 (rows (l.set i x)) (i * 6 + 4) [.int .i64 v] = rows (l.set i (⟨x.Group, ⟨x.Op.k, x.Op.key, x.Op.f, v, x.Op.d⟩⟩ : TodoV)) := by rw [TodoV.set4 (by rw [List.length_set]; exact h), set_getDz default h, List.set_set]
@[go_sem] theorem TodoV.sst5 {l : List TodoV} {i : Nat} {x : TodoV} {v : ByteArray} (h : i < l.length) : setCells 6 (rows (l.set i x)) (i * 6 + 5) [.str v] = rows (l.set i (⟨x.Group, ⟨x.Op.k, x.Op.key, x.Op.f, x.Op.t, v⟩⟩ : TodoV)) := by rw [TodoV.set5 (by rw [List.length_set]; exact h), set_getDz default h, List.set_set]
instance g93 (l : List TodoV) (k : Int) : Fc Tryz.prog 93 [⟨.one, [.own 6 (rows l)]⟩, i64 k] [] (l.length ≤ 2000000 ∧ 0 ≤ k ∧ k ≤ 50000000) (i64 (k + 6 * l.length)) [⟨.one, [.own 6 (rows (markG TodoV.mk1 6 k l.length))]⟩, i64 k] [] := by
  refine F_of m93 rfl fun hyp => ?_
  repeat' (first | (with_reducible intro h; (try simp only [h]); (try simp only [HS] at h)) | ((with_reducible apply scEnd_of); exact rfl; exact rfl) | ((with_reducible apply ScW_of); rfl; rfl; trivial) | with_reducible first | apply Br_of | refine O1 ?_ | refine O2 ?_ | refine O3 ?_ | refine O4 ?_ | refine O5 ?_ | refine CI ?_ | refine CJ ?_ | refine CQ ?_ | simp (maxSteps := 1000000) (disch := omega) only [go_sem])
  refine LoopK_of (α := Nat) (fun p => ⟨[(5, i64 p), (1, i64 (k + 6 * (p : Int))), (0, ⟨.one, [.al ⟨.gho 0 0, []⟩]⟩)], [], [(0, ⟨.one, [.own 6 (rows (markG TodoV.mk1 6 k p ++ l.drop p))]⟩), (1, i64 k)]⟩) (fun p => p ≤ l.length) (fun p => l.length - p) 0 ?h0 (Nat.zero_le _) ?_
  case h0 => simp only [markG, List.nil_append, List.drop_zero, Int.natCast_zero, Int.mul_zero, Int.add_zero]; rfl
  intro i hi
  have hlen : (markG TodoV.mk1 6 k i ++ l.drop i).length = l.length := by rw [List.length_append, markG_len, List.length_drop]; omega
  repeat' (first | (with_reducible intro h; (try simp only [h]); (try simp only [HS] at h)) | ((with_reducible apply scEnd_of); exact rfl; exact rfl) | ((with_reducible apply ScW_of); rfl; rfl; trivial) | with_reducible first | apply Br_of | refine O1 ?_ | refine O2 ?_ | refine O3 ?_ | refine O4 ?_ | refine O5 ?_ | refine CI ?_ | refine CJ ?_ | refine CQ ?_ | simp (maxSteps := 1000000) (disch := omega) only [go_sem, hlen, List.length_set, set_getDz, List.set_set])
  all_goals (try (exfalso; omega))
  · have e := markG_step (f := TodoV.mk1) (w := 6) (k := k) (l := l) default (show i < l.length by omega)
    simp only [TodoV.mk1] at e
    rw [e]
    rw [show k + 6 * (i : Int) + 1 + 1 + 1 + 1 + 1 + 1 = k + 6 * ((i + 1 : Nat) : Int) by omega]
    exact LoopQ_of (i + 1) rfl (by omega) (by omega)
  · have e : i = l.length := by omega
    subst e
    rw [List.drop_length, List.append_nil]
instance g118 (l : List TodoV) (k : Int) : Fs 118 [⟨.one, [.ro 6 (rows l)]⟩, i64 k] (l.length ≤ 2000000 ∧ 0 ≤ k ∧ k ≤ 50000000) (i64 (heldG TodoV.mk1 6 k l)) := by
  refine F_of m118 rfl fun hyp => ?_
  repeat' (first | (with_reducible intro h; (try simp only [h]); (try simp only [HS] at h)) | ((with_reducible apply scEnd_of); exact rfl; exact rfl) | ((with_reducible apply ScW_of); rfl; rfl; trivial) | with_reducible first | apply Br_of | refine O1 ?_ | refine O2 ?_ | refine O3 ?_ | refine O4 ?_ | refine O5 ?_ | refine CI ?_ | refine CJ ?_ | refine CQ ?_ | simp (maxSteps := 1000000) (disch := omega) only [go_sem])
  refine LoopK_of (α := Nat) (fun p => ⟨[(5, i64 p), (1, i64 (k + 6 * (p : Int))), (0, ⟨.one, [.ro 6 (rows l)]⟩)], [], [(0, ⟨.one, [.ro 6 (rows l)]⟩), (1, i64 k)]⟩) (fun p => p ≤ l.length ∧ l.take p = markG TodoV.mk1 6 k p) (fun p => l.length - p) 0 ?h0 ⟨Nat.zero_le _, rfl⟩ ?_
  case h0 => simp only [Int.natCast_zero, Int.mul_zero, Int.add_zero]; rfl
  rintro i ⟨h1, h2⟩
  repeat' (first | (with_reducible intro h; (try simp only [h]); (try simp only [HS] at h)) | ((with_reducible apply scEnd_of); exact rfl; exact rfl) | ((with_reducible apply ScW_of); rfl; rfl; trivial) | with_reducible first | apply Br_of | refine O1 ?_ | refine O2 ?_ | refine O3 ?_ | refine O4 ?_ | refine O5 ?_ | refine CI ?_ | refine CJ ?_ | refine CQ ?_ | simp (maxSteps := 1000000) (disch := omega) only [go_sem])
  all_goals (try (exfalso; omega))
  · rw [heldG_no (i := i) default (by omega) (fun e => h (by rw [e]; rfl))]
  · rw [heldG_no (i := i) default (by omega) (fun e => h (by rw [e]; rfl))]
  · rw [heldG_no (i := i) default (by omega) (fun e => h (by rw [e]; rfl))]
  · rw [heldG_no (i := i) default (by omega) (fun e => h (by rw [e]; rfl))]
  · rw [heldG_no (i := i) default (by omega) (fun e => h (by rw [e]; rfl))]
  · rw [heldG_no (i := i) default (by omega) (fun e => h (by rw [e]; rfl))]
  · have e : l.getD i default = TodoV.mk1 (k + 6 * (i : Int)) := by
      generalize l.getD i default = x at *
      obtain ⟨_, ⟨_, _, _, _, _⟩⟩ := x
      simp only at *
      subst_vars
      rfl
    rw [show k + 6 * (i : Int) + 1 + 1 + 1 + 1 + 1 + 1 = k + 6 * ((i + 1 : Nat) : Int) by omega]
    exact LoopQ_of (i + 1) rfl ⟨by omega, held_step default (by omega) h2 e⟩ (by omega)
  · rw [held_end (by omega) h1 h2]; have e : i = l.length := by omega
    subst e; rfl
open Classical in
noncomputable def sayM (id : Int) (ser : List Int) (busy : Bool) (c : CallV) (b : Int) (legs : List LegV) (todo : List TodoV) (t : Int) : Int × MsgV × Bool :=
  if rtP id ser busy c b legs todo ∧ busy = true ∧ 0 ≤ t ∧ t ≤ 4 then ((todo.getD 0 default).Group, ⟨6, 10 + id, t, 0, ser.getD (todo.getD 0 default).Group.toNat 0, 0, 0, false, [], opS (todo.getD 0 default).Op⟩, true) else (0, MsgV.zero, false)
theorem sayM_no {id : Int} {ser : List Int} {busy : Bool} {c : CallV} {b : Int} {legs : List LegV} {todo : List TodoV} {t : Int} (h : ¬(rtP id ser busy c b legs todo ∧ busy = true ∧ 0 ≤ t ∧ t ≤ 4)) : sayM id ser busy c b legs todo t = (0, MsgV.zero, false) := if_neg h
attribute [push_cast] markE_len
theorem eqE_self (l : List EV) : eqE l l = true := by simp [eqE]
theorem held_val (n : Nat) : (if heldE 1 (markE 1 n) < 0 then -1 else heldE 1 (markE 1 n)) = 1 + 2 * (n : Int) := by
  rw [held_mark]; rw [if_neg (by omega)]
theorem sayM_e {id : Int} {ser : List Int} {busy : Bool} {c : CallV} {b : Int} {legs : List LegV} {todo : List TodoV} {t : Int} : (sayM id ser busy c b legs todo t).2.1.e.length = 0 := by
  unfold sayM; split <;> rfl
instance g25 (a0 : Int) (a1 : List Int) (a2 : Bool) (a3 : Int) (a4 : ByteArray) (a5 a6 : Int) (a7 : ByteArray) (a8 : Int) (a9 : List LegV) (a10 : List TodoV) (k : Int) : Fc Tryz.prog 25 [⟨.agg, [.int .i64 a0, .own 1 (rowsI a1), .bool a2, .int .i64 a3, .str a4, .int .i64 a5, .int .i64 a6, .str a7, .int .i64 a8, .own 11 (rows a9), .own 6 (rows a10)]⟩, i64 k] [] (a1.length ≤ 1048576 ∧ a9.length ≤ 1048576 ∧ a10.length ≤ 1048576 ∧ 0 ≤ k ∧ k ≤ 1000000) (i64 (k + 1 * a1.length + 11 * a9.length + 6 * a10.length)) [⟨.agg, [.int .i64 a0, .own 1 (rowsI (markG id 1 k a1.length)), .bool a2, .int .i64 a3, .str a4, .int .i64 a5, .int .i64 a6, .str a7, .int .i64 a8, .own 11 (rows (markG LegV.mk1 11 (k + 1 * a1.length) a9.length)), .own 6 (rows (markG TodoV.mk1 6 (k + 1 * a1.length + 11 * a9.length) a10.length))]⟩, i64 k] [] := by
  refine F_of m25 rfl fun hyp => ?_
  repeat' (first | (with_reducible intro h; (try simp only [h]); (try simp only [HS] at h)) | ((with_reducible apply scEnd_of); exact rfl; exact rfl) | ((with_reducible apply ScW_of); rfl; rfl; trivial) | with_reducible first | apply Br_of | refine O1 ?_ | refine O2 ?_ | refine O3 ?_ | refine O4 ?_ | refine O5 ?_ | refine CI ?_ | refine CJ ?_ | refine CQ ?_ | simp (maxSteps := 1000000) (disch := omega) only [go_sem])
noncomputable def RouterV.held (k : Int) (a1 : List Int) (a9 : List LegV) (a10 : List TodoV) : Int := if heldG id 1 k a1 < 0 then -1 else if heldG LegV.mk1 11 (heldG id 1 k a1) a9 < 0 then -1 else if heldG TodoV.mk1 6 (heldG LegV.mk1 11 (heldG id 1 k a1) a9) a10 < 0 then -1 else heldG TodoV.mk1 6 (heldG LegV.mk1 11 (heldG id 1 k a1) a9) a10
instance g41 (a0 : Int) (a1 : List Int) (a2 : Bool) (a3 : Int) (a4 : ByteArray) (a5 a6 : Int) (a7 : ByteArray) (a8 : Int) (a9 : List LegV) (a10 : List TodoV) (k : Int) : Fs 41 [⟨.agg, [.int .i64 a0, .ro 1 (rowsI a1), .bool a2, .int .i64 a3, .str a4, .int .i64 a5, .int .i64 a6, .str a7, .int .i64 a8, .ro 11 (rows a9), .ro 6 (rows a10)]⟩, i64 k] (a1.length ≤ 1048576 ∧ a9.length ≤ 1048576 ∧ a10.length ≤ 1048576 ∧ 0 ≤ k ∧ k ≤ 1000000) (i64 (RouterV.held k a1 a9 a10)) := by
  refine F_of m41 rfl fun hyp => ?_
  have rg0 := heldG_rng (f := id) (w := 1) (k := k) (l := a1) (by omega)
  have rg1 := heldG_rng (f := LegV.mk1) (w := 11) (k := heldG id 1 k a1) (l := a9) (by omega)
  have rg2 := heldG_rng (f := TodoV.mk1) (w := 6) (k := heldG LegV.mk1 11 (heldG id 1 k a1) a9) (l := a10) (by omega)
  repeat' (first | (with_reducible intro h; (try simp only [h]); (try simp only [HS] at h)) | ((with_reducible apply scEnd_of); exact rfl; exact rfl) | ((with_reducible apply ScW_of); rfl; rfl; trivial) | with_reducible first | apply Br_of | refine O1 ?_ | refine O2 ?_ | refine O3 ?_ | refine O4 ?_ | refine O5 ?_ | refine CI ?_ | refine CJ ?_ | refine CQ ?_ | simp (maxSteps := 1000000) (disch := omega) only [go_sem])
  all_goals (try (exfalso; omega))
  all_goals (unfold RouterV.held)
  all_goals (first | rw [if_pos (by omega)] | rw [if_neg (by omega), if_pos (by omega)] | rw [if_neg (by omega), if_neg (by omega), if_pos (by omega)] | rw [if_neg (by omega), if_neg (by omega), if_neg (by omega)])
theorem RouterV.held_mark {k : Int} {n0 n1 n2 : Nat} (h : 0 ≤ k) : RouterV.held k (markG id 1 k n0) (markG LegV.mk1 11 (k + 1 * n0) n1) (markG TodoV.mk1 6 (k + 1 * n0 + 11 * n1) n2) = k + 1 * n0 + 11 * n1 + 6 * n2 := by
  unfold RouterV.held
  simp only [heldG_mark]
  repeat rw [if_neg (by omega)]
@[go_sem] theorem flat_rowsI (l : List Int) : flatRows (rowsI l) = true := by simp [flatRows, rowsI, D.scalar]
theorem flat_rows {α : Type} [Row α] (h : ∀ x : α, (Row.row x).all D.scalar = true) (l : List α) : flatRows (rows l) = true := by
  unfold flatRows rows
  rw [List.all_eq_true]
  intro r hr
  obtain ⟨x, _, rfl⟩ := List.mem_map.1 hr
  exact h x
@[go_sem] theorem flat_legs (l : List LegV) : flatRows (rows l) = true := flat_rows (fun x => by simp [LegV.row_eq, D.scalar]) l
@[go_sem] theorem flat_todo (l : List TodoV) : flatRows (rows l) = true := flat_rows (fun x => by simp [TodoV.row_eq, D.scalar]) l
instance g183 (l : List Int) : Fs 183 [⟨.one, [.ro 1 (rowsI l)]⟩] (l.length ≤ 1048576) (⟨.one, [.own 1 (rowsI l)]⟩) := by
  refine F_of m183 rfl fun hyp => ?_
  repeat' (first | (with_reducible intro h; (try simp only [h]); (try simp only [HS] at h)) | ((with_reducible apply scEnd_of); exact rfl; exact rfl) | ((with_reducible apply ScW_of); rfl; rfl; trivial) | with_reducible first | apply Br_of | refine O1 ?_ | refine O2 ?_ | refine O3 ?_ | refine O4 ?_ | refine O5 ?_ | refine CI ?_ | refine CJ ?_ | refine CQ ?_ | simp (maxSteps := 1000000) (disch := omega) only [go_sem])
  rename_i b hb
  have e : l = [] := by cases l with | nil => rfl | cons x t => rw [hb (by simp [rowsI, rows])] at h; simp at h
  subst e; rfl
instance g184 (l : List LegV) : Fs 184 [⟨.one, [.ro 11 (rows l)]⟩] (l.length ≤ 1048576) (⟨.one, [.own 11 (rows l)]⟩) := by
  refine F_of m184 rfl fun hyp => ?_
  repeat' (first | (with_reducible intro h; (try simp only [h]); (try simp only [HS] at h)) | ((with_reducible apply scEnd_of); exact rfl; exact rfl) | ((with_reducible apply ScW_of); rfl; rfl; trivial) | with_reducible first | apply Br_of | refine O1 ?_ | refine O2 ?_ | refine O3 ?_ | refine O4 ?_ | refine O5 ?_ | refine CI ?_ | refine CJ ?_ | refine CQ ?_ | simp (maxSteps := 1000000) (disch := omega) only [go_sem])
  rename_i b hb
  have e : l = [] := by cases l with | nil => rfl | cons x t => rw [hb (by simp [rowsI, rows])] at h; simp at h
  subst e; rfl
instance g185 (l : List TodoV) : Fs 185 [⟨.one, [.ro 6 (rows l)]⟩] (l.length ≤ 1048576) (⟨.one, [.own 6 (rows l)]⟩) := by
  refine F_of m185 rfl fun hyp => ?_
  repeat' (first | (with_reducible intro h; (try simp only [h]); (try simp only [HS] at h)) | ((with_reducible apply scEnd_of); exact rfl; exact rfl) | ((with_reducible apply ScW_of); rfl; rfl; trivial) | with_reducible first | apply Br_of | refine O1 ?_ | refine O2 ?_ | refine O3 ?_ | refine O4 ?_ | refine O5 ?_ | refine CI ?_ | refine CJ ?_ | refine CQ ?_ | simp (maxSteps := 1000000) (disch := omega) only [go_sem])
  rename_i b hb
  have e : l = [] := by cases l with | nil => rfl | cons x t => rw [hb (by simp [rowsI, rows])] at h; simp at h
  subst e; rfl
instance g186 (l : List Int) (v : Int) : Fs 186 [⟨.one, [.ro 1 (rowsI l)]⟩, i64 v] (l.length ≤ 1048576) (i64 (idxF (fun x => decide (x = v)) l)) := by
  refine F_of m186 rfl fun hyp => ?_
  repeat' (first | (with_reducible intro h; (try simp only [h]); (try simp only [HS] at h)) | ((with_reducible apply scEnd_of); exact rfl; exact rfl) | ((with_reducible apply ScW_of); rfl; rfl; trivial) | with_reducible first | apply Br_of | refine O1 ?_ | refine O2 ?_ | refine O3 ?_ | refine O4 ?_ | refine O5 ?_ | refine CI ?_ | refine CJ ?_ | refine CQ ?_ | simp (maxSteps := 1000000) (disch := omega) only [go_sem])
  refine LoopK_of (α := Nat) (fun p => ⟨[(8, i64 p), (7, i64 l.length), (1, i64 v), (0, ⟨.one, [.ro 1 (rowsI l)]⟩)], [], [(0, ⟨.one, [.ro 1 (rowsI l)]⟩), (1, i64 v)]⟩) (fun p => p ≤ l.length ∧ idxG (fun x => decide (x = v)) l p = idxF (fun x => decide (x = v)) l) (fun p => l.length - p) 0 ?h0 ⟨Nat.zero_le _, idxG_zero⟩ ?_
  case h0 => rfl
  rintro i ⟨h1, h2⟩
  repeat' (first | (with_reducible intro h; (try simp only [h]); (try simp only [HS] at h)) | ((with_reducible apply scEnd_of); exact rfl; exact rfl) | ((with_reducible apply ScW_of); rfl; rfl; trivial) | with_reducible first | apply Br_of | refine O1 ?_ | refine O2 ?_ | refine O3 ?_ | refine O4 ?_ | refine O5 ?_ | refine CI ?_ | refine CJ ?_ | refine CQ ?_ | simp (maxSteps := 1000000) (disch := omega) only [go_sem])
  · rw [← h2, idxG_stop 0 (by omega) (by simp only [decide_eq_true_eq]; exact h.symm)]
  · exact LoopQ_of (i + 1) rfl ⟨by omega, by rw [← idxG_go 0 (by omega) (by simp only [decide_eq_false_iff_not]; exact fun e => h e.symm)]; exact h2⟩ (by omega)
  · rw [← h2, idxG_end (by omega)]
instance g113 (l : List Int) (v : Int) : Fs 113 [⟨.one, [.ro 1 (rowsI l)]⟩, i64 v] (l.length ≤ 1048576) (bl (l.any (fun x => decide (x = v)))) := by
  refine F_of m113 rfl fun hyp => ?_
  repeat' (first | (with_reducible intro h; (try simp only [h]); (try simp only [HS] at h)) | ((with_reducible apply scEnd_of); exact rfl; exact rfl) | ((with_reducible apply ScW_of); rfl; rfl; trivial) | with_reducible first | apply Br_of | refine O1 ?_ | refine O2 ?_ | refine O3 ?_ | refine O4 ?_ | refine O5 ?_ | refine CI ?_ | refine CJ ?_ | refine CQ ?_ | simp (maxSteps := 1000000) (disch := omega) only [go_sem])
  all_goals (rw [idxF_any])
instance g111 (a0 : Int) (a1 : List Int) (a2 : Bool) (a3 : Int) (a4 : ByteArray) (a5 a6 : Int) (a7 : ByteArray) (a8 : Int) (a9 : List LegV) (a10 : List TodoV) : Fs 111 [⟨.agg, [.int .i64 a0, .ro 1 (rowsI a1), .bool a2, .int .i64 a3, .str a4, .int .i64 a5, .int .i64 a6, .str a7, .int .i64 a8, .ro 11 (rows a9), .ro 6 (rows a10)]⟩] (a1.length ≤ 1048576 ∧ a9.length ≤ 1048576 ∧ a10.length ≤ 1048576) (⟨.agg, [.int .i64 a0, .own 1 (rowsI a1), .bool a2, .int .i64 a3, .str a4, .int .i64 a5, .int .i64 a6, .str a7, .int .i64 a8, .own 11 (rows a9), .own 6 (rows a10)]⟩) := by
  refine F_of m111 rfl fun hyp => ?_
  repeat' (first | (with_reducible intro h; (try simp only [h]); (try simp only [HS] at h)) | ((with_reducible apply scEnd_of); exact rfl; exact rfl) | ((with_reducible apply ScW_of); rfl; rfl; trivial) | with_reducible first | apply Br_of | refine O1 ?_ | refine O2 ?_ | refine O3 ?_ | refine O4 ?_ | refine O5 ?_ | refine CI ?_ | refine CJ ?_ | refine CQ ?_ | simp (maxSteps := 1000000) (disch := omega) only [go_sem])
instance g108 (a0 : Int) (a1 : List Int) (a2 : Bool) (a3 : Int) (a4 : ByteArray) (a5 a6 : Int) (a7 : ByteArray) (a8 : Int) (a9 : List LegV) (a10 : List TodoV) : Fs 108 [⟨.agg, [.int .i64 a0, .ro 1 (rowsI a1), .bool a2, .int .i64 a3, .str a4, .int .i64 a5, .int .i64 a6, .str a7, .int .i64 a8, .ro 11 (rows a9), .ro 6 (rows a10)]⟩] (a1.length ≤ 1048576 ∧ a9.length ≤ 1048576 ∧ a10.length ≤ 1048576) (⟨.agg, [.int .i64 a0, .own 1 (rowsI a1), .bool a2, .int .i64 a3, .str a4, .int .i64 a5, .int .i64 a6, .str a7, .int .i64 a8, .own 11 (rows a9), .own 6 (rows a10)]⟩) := by
  refine F_of m108 rfl fun hyp => ?_
  repeat' (first | (with_reducible intro h; (try simp only [h]); (try simp only [HS] at h)) | ((with_reducible apply scEnd_of); exact rfl; exact rfl) | ((with_reducible apply ScW_of); rfl; rfl; trivial) | with_reducible first | apply Br_of | refine O1 ?_ | refine O2 ?_ | refine O3 ?_ | refine O4 ?_ | refine O5 ?_ | refine CI ?_ | refine CJ ?_ | refine CQ ?_ | simp (maxSteps := 1000000) (disch := omega) only [go_sem])
def lastT (l : List Pt) : Int := if (l.map (·.1)).getD (l.length - 1) 0 + 1 ≤ 1099511627776 then (l.map (·.1)).getD (l.length - 1) 0 + 1 else 1099511627776
def firstT (l : List Pt) : Int := if (l.map (·.1)).getD 0 0 = lastT l then (l.map (·.1)).getD 0 0 - 1 else (l.map (·.1)).getD 0 0
noncomputable def askM (k f t : Int) (d : ByteArray) : OpV := if k = 2 then ⟨1, ⟨#[]⟩, f, t, ⟨#[]⟩⟩ else if k = 3 then ⟨2, ⟨#[]⟩, f, 0, ⟨#[]⟩⟩ else if k = 4 then ⟨3, ⟨#[]⟩, f, 0, ⟨#[]⟩⟩ else ⟨1, ⟨#[]⟩, firstT (rblock d).1, lastT (rblock d).1, ⟨#[]⟩⟩
theorem m2m (n : Nat) : n * 2 % 2 = 0 := by omega
theorem m2d (n : Nat) : n * 2 / 2 = n := by omega
theorem call_k {k : Int} {key : ByteArray} {f t : Int} {d : ByteArray} (h : callB k key f t d = true) : (k = 1 ∧ (rblock d).2 = true) ∨ k = 2 ∨ k = 3 ∨ k = 4 := by
  unfold callB opB at h
  rw [decide_eq_true_eq] at h
  by_cases h1 : k = 1
  · subst h1; simp at h; exact .inl ⟨rfl, h.1⟩
  · by_cases h2 : k = 2
    · exact .inr (.inl h2)
    · by_cases h3 : k = 3
      · exact .inr (.inr (.inl h3))
      · by_cases h4 : k = 4
        · exact .inr (.inr (.inr h4))
        · simp [h1, h2, h3, h4] at h
theorem askM_1 {k f t : Int} {d : ByteArray} (h : k = 1) : askM k f t d = ⟨1, ⟨#[]⟩, firstT (rblock d).1, lastT (rblock d).1, ⟨#[]⟩⟩ := by unfold askM; rw [if_neg (by omega), if_neg (by omega), if_neg (by omega)]
theorem rblock_pts {d : ByteArray} (h : (rblock d).2 = true) : 0 < (rblock d).1.length ∧ ∀ i, i < (rblock d).1.length → 0 ≤ ((rblock d).1.map (·.1)).getD i 0 ∧ ((rblock d).1.map (·.1)).getD i 0 ≤ 1099511627776 := by
  rcases rblock_cases d with ⟨l, hl, e⟩ | ⟨_, e⟩
  · rw [e]
    obtain ⟨h1, h2, _⟩ := hl
    refine ⟨List.length_pos_iff.2 h2, fun i hi => ?_⟩
    have := h1.1 i hi
    exact ⟨this.1, this.2.1⟩
  · rw [e] at h; simp at h
instance g115 (a0 : Int) (a1 : ByteArray) (a2 a3 : Int) (a4 : ByteArray) : Fs 115 [⟨.agg, [.int .i64 a0, .str a1, .int .i64 a2, .int .i64 a3, .str a4]⟩] (callB a0 a1 a2 a3 a4 = true) (⟨.agg, [.int .i64 (askM a0 a2 a3 a4).k, .str (askM a0 a2 a3 a4).key, .int .i64 (askM a0 a2 a3 a4).f, .int .i64 (askM a0 a2 a3 a4).t, .str (askM a0 a2 a3 a4).d]⟩) := by
  refine F_of m115 rfl fun hyp => ?_
  have hk := call_k hyp
  have hp : a0 = 1 → _ := fun h => rblock_pts (d := a4) (by rcases hk with h1 | h1 | h1 | h1; exact h1.2; all_goals omega)
  have hl := rblock_len a4
  rcases hk with h1 | h1 | h1 | h1
  · have hp := hp h1.1
    have hp0 := hp.1
    have hp1 := hp.2 0 hp.1
    have hp2 := hp.2 ((rblock a4).1.length - 1) (by omega)
    repeat' (first | (with_reducible intro h; (try simp only [h]); (try simp only [HS] at h)) | ((with_reducible apply scEnd_of); exact rfl; exact rfl) | ((with_reducible apply ScW_of); rfl; rfl; trivial) | with_reducible first | apply Br_of | refine O1 ?_ | refine O2 ?_ | refine O3 ?_ | refine O4 ?_ | refine O5 ?_ | refine CI ?_ | refine CJ ?_ | refine CQ ?_ | simp (maxSteps := 1000000) (disch := omega) only [go_sem, m2m, m2d])
    all_goals (try (exfalso; omega))
    all_goals (rw [askM_1 (by omega)]; simp only [Prod.mk.injEq, SV.mk.injEq, List.cons.injEq, Cell.int.injEq, and_true, true_and]; unfold firstT lastT; constructor <;> (repeat' split) <;> first | omega | trace_state)
  · repeat' (first | (with_reducible intro h; (try simp only [h]); (try simp only [HS] at h)) | ((with_reducible apply scEnd_of); exact rfl; exact rfl) | ((with_reducible apply ScW_of); rfl; rfl; trivial) | with_reducible first | apply Br_of | refine O1 ?_ | refine O2 ?_ | refine O3 ?_ | refine O4 ?_ | refine O5 ?_ | refine CI ?_ | refine CJ ?_ | refine CQ ?_ | simp (maxSteps := 1000000) (disch := omega) only [go_sem])
    all_goals (try (exfalso; omega))
    all_goals (unfold askM; rw [if_pos h1])
  · repeat' (first | (with_reducible intro h; (try simp only [h]); (try simp only [HS] at h)) | ((with_reducible apply scEnd_of); exact rfl; exact rfl) | ((with_reducible apply ScW_of); rfl; rfl; trivial) | with_reducible first | apply Br_of | refine O1 ?_ | refine O2 ?_ | refine O3 ?_ | refine O4 ?_ | refine O5 ?_ | refine CI ?_ | refine CJ ?_ | refine CQ ?_ | simp (maxSteps := 1000000) (disch := omega) only [go_sem])
    all_goals (try (exfalso; omega))
    all_goals (unfold askM; rw [if_neg (by omega), if_pos h1])
  · repeat' (first | (with_reducible intro h; (try simp only [h]); (try simp only [HS] at h)) | ((with_reducible apply scEnd_of); exact rfl; exact rfl) | ((with_reducible apply ScW_of); rfl; rfl; trivial) | with_reducible first | apply Br_of | refine O1 ?_ | refine O2 ?_ | refine O3 ?_ | refine O4 ?_ | refine O5 ?_ | refine CI ?_ | refine CJ ?_ | refine CQ ?_ | simp (maxSteps := 1000000) (disch := omega) only [go_sem])
    all_goals (try (exfalso; omega))
    all_goals (unfold askM; rw [if_neg (by omega), if_neg (by omega), if_pos h1])
instance g110 (a0 : Int) (a1 : ByteArray) (a2 a3 : Int) (a4 : ByteArray) : Fs 110 [⟨.agg, [.int .i64 a0, .str a1, .int .i64 a2, .int .i64 a3, .str a4]⟩] (callB a0 a1 a2 a3 a4 = true) (⟨.agg, [.int .i64 (askM a0 a2 a3 a4).k, .str (askM a0 a2 a3 a4).key, .int .i64 (askM a0 a2 a3 a4).f, .int .i64 (askM a0 a2 a3 a4).t, .str (askM a0 a2 a3 a4).d]⟩) := by
  refine F_of m110 rfl fun hyp => ?_
  have hk := call_k hyp
  have hp : a0 = 1 → _ := fun h => rblock_pts (d := a4) (by rcases hk with h1 | h1 | h1 | h1; exact h1.2; all_goals omega)
  have hl := rblock_len a4
  rcases hk with h1 | h1 | h1 | h1
  · have hp := hp h1.1
    have hp0 := hp.1
    have hp1 := hp.2 0 hp.1
    have hp2 := hp.2 ((rblock a4).1.length - 1) (by omega)
    repeat' (first | (with_reducible intro h; (try simp only [h]); (try simp only [HS] at h)) | ((with_reducible apply scEnd_of); exact rfl; exact rfl) | ((with_reducible apply ScW_of); rfl; rfl; trivial) | with_reducible first | apply Br_of | refine O1 ?_ | refine O2 ?_ | refine O3 ?_ | refine O4 ?_ | refine O5 ?_ | refine CI ?_ | refine CJ ?_ | refine CQ ?_ | simp (maxSteps := 1000000) (disch := omega) only [go_sem, m2m, m2d])
    all_goals (try (exfalso; omega))
    all_goals (rw [askM_1 (by omega)]; simp only [Prod.mk.injEq, SV.mk.injEq, List.cons.injEq, Cell.int.injEq, and_true, true_and]; unfold firstT lastT; constructor <;> (repeat' split) <;> first | omega | trace_state)
  · repeat' (first | (with_reducible intro h; (try simp only [h]); (try simp only [HS] at h)) | ((with_reducible apply scEnd_of); exact rfl; exact rfl) | ((with_reducible apply ScW_of); rfl; rfl; trivial) | with_reducible first | apply Br_of | refine O1 ?_ | refine O2 ?_ | refine O3 ?_ | refine O4 ?_ | refine O5 ?_ | refine CI ?_ | refine CJ ?_ | refine CQ ?_ | simp (maxSteps := 1000000) (disch := omega) only [go_sem])
    all_goals (try (exfalso; omega))
    all_goals (unfold askM; rw [if_pos h1])
  · repeat' (first | (with_reducible intro h; (try simp only [h]); (try simp only [HS] at h)) | ((with_reducible apply scEnd_of); exact rfl; exact rfl) | ((with_reducible apply ScW_of); rfl; rfl; trivial) | with_reducible first | apply Br_of | refine O1 ?_ | refine O2 ?_ | refine O3 ?_ | refine O4 ?_ | refine O5 ?_ | refine CI ?_ | refine CJ ?_ | refine CQ ?_ | simp (maxSteps := 1000000) (disch := omega) only [go_sem])
    all_goals (try (exfalso; omega))
    all_goals (unfold askM; rw [if_neg (by omega), if_pos h1])
  · repeat' (first | (with_reducible intro h; (try simp only [h]); (try simp only [HS] at h)) | ((with_reducible apply scEnd_of); exact rfl; exact rfl) | ((with_reducible apply ScW_of); rfl; rfl; trivial) | with_reducible first | apply Br_of | refine O1 ?_ | refine O2 ?_ | refine O3 ?_ | refine O4 ?_ | refine O5 ?_ | refine CI ?_ | refine CJ ?_ | refine CQ ?_ | simp (maxSteps := 1000000) (disch := omega) only [go_sem])
    all_goals (try (exfalso; omega))
    all_goals (unfold askM; rw [if_neg (by omega), if_neg (by omega), if_pos h1])
noncomputable def askC (c : CallV) : OpV := askM c.Kind c.From c.To c.Data
def full (l : List Int) : Bool := l.any fun x => decide (x = 1000000)
open Classical in
noncomputable def callM (id : Int) (ser : List Int) (busy : Bool) (c : CallV) (b : Int) (legs : List LegV) (todo : List TodoV) (c2 : CallV) (t : Int) : RouterV × Bool :=
  if ¬rtP id ser busy c b legs todo then (⟨0, [], false, CallV.zero, 0, [], []⟩, false)
  else if busy = true ∨ callB c2.Kind c2.Key c2.From c2.To c2.Data = false ∨ full ser = true ∨ ¬(0 ≤ t ∧ t ≤ 1000000) then (⟨id, ser, busy, c, b, legs, todo⟩, false)
  else (⟨id, ser.set 0 (ser.getD 0 0 + 1), true, c2, t, legs, [⟨0, askC c2⟩]⟩, true)
theorem full_of {l : List Int} {i : Nat} (h : serB l = true) (hi : i < l.length) (h2 : 1000000 ≤ l.getD i 0) : full l = true := by
  have := serB_mem h hi
  unfold full
  rw [List.any_eq_true]
  exact ⟨_, getD_mem 0 hi, decide_eq_true (by omega)⟩
theorem full_step {l : List Int} {i : Nat} (hi : i < l.length) (h : full (l.take i) = false) (h2 : l.getD i 0 < 1000000) : full (l.take (i + 1)) = false := by
  rw [take_snocZ 0 hi]
  unfold full at h ⊢
  rw [List.any_append, h]
  simp only [List.any_cons, List.any_nil, Bool.or_false, Bool.false_or]
  exact decide_eq_false (by omega)
section
variable {id : Int} {ser : List Int} {busy : Bool} {c : CallV} {b : Int} {legs : List LegV} {todo : List TodoV} {c2 : CallV} {t : Int}
theorem callM_no (h : ¬rtP id ser busy c b legs todo) : callM id ser busy c b legs todo c2 t = (⟨0, [], false, CallV.zero, 0, [], []⟩, false) := if_pos h
theorem callM_same (h : rtP id ser busy c b legs todo) (h2 : busy = true ∨ callB c2.Kind c2.Key c2.From c2.To c2.Data = false ∨ full ser = true ∨ ¬(0 ≤ t ∧ t ≤ 1000000)) : callM id ser busy c b legs todo c2 t = (⟨id, ser, busy, c, b, legs, todo⟩, false) := by
  unfold callM; rw [if_neg (not_not_intro h), if_pos h2]
theorem callM_yes (h : rtP id ser busy c b legs todo) (h2 : busy = false) (h3 : callB c2.Kind c2.Key c2.From c2.To c2.Data = true) (h4 : full ser = false) (h5 : 0 ≤ t ∧ t ≤ 1000000) : callM id ser busy c b legs todo c2 t = (⟨id, ser.set 0 (ser.getD 0 0 + 1), true, c2, t, legs, [⟨0, askC c2⟩]⟩, true) := by
  unfold callM; rw [if_neg (not_not_intro h), if_neg]
  rintro (h | h | h | h)
  · rw [h2] at h; simp at h
  · rw [h3] at h; simp at h
  · rw [h4] at h; simp at h
  · exact h h5
theorem callM_len : (callM id ser busy c b legs todo c2 t).1.Serials.length ≤ ser.length ∧ (callM id ser busy c b legs todo c2 t).1.Legs.length ≤ legs.length ∧ (callM id ser busy c b legs todo c2 t).1.Todo.length ≤ todo.length + 1 := by
  unfold callM
  split
  · simp
  · split <;> simp
end
instance g40 (a0 : Int) (a1 : List Int) (a2 : Bool) (a3 : Int) (a4 : ByteArray) (a5 a6 : Int) (a7 : ByteArray) (a8 : Int) (a9 : List LegV) (a10 : List TodoV) (b0 : Int) (b1 : ByteArray) (b2 b3 : Int) (b4 : ByteArray) (t : Int) : Fs 40 [⟨.agg, [.int .i64 a0, .ro 1 (rowsI a1), .bool a2, .int .i64 a3, .str a4, .int .i64 a5, .int .i64 a6, .str a7, .int .i64 a8, .ro 11 (rows a9), .ro 6 (rows a10)]⟩, ⟨.agg, [.int .i64 b0, .str b1, .int .i64 b2, .int .i64 b3, .str b4]⟩, i64 t] (a1.length ≤ 1048576 ∧ a4.size ≤ 9223372036854775807 ∧ a7.size ≤ 9223372036854775807 ∧ a9.length ≤ 1048576 ∧ a10.length ≤ 1048576 ∧ (∀ e ∈ a9, e.fit) ∧ (∀ e ∈ a10, e.fit) ∧ b1.size ≤ 9223372036854775807 ∧ b4.size ≤ 9223372036854775807) (⟨.tup [(true, 11), (false, 1)], [.int .i64 (callM a0 a1 a2 ⟨a3, a4, a5, a6, a7⟩ a8 a9 a10 ⟨b0, b1, b2, b3, b4⟩ t).1.Id, .own 1 (rowsI (callM a0 a1 a2 ⟨a3, a4, a5, a6, a7⟩ a8 a9 a10 ⟨b0, b1, b2, b3, b4⟩ t).1.Serials), .bool (callM a0 a1 a2 ⟨a3, a4, a5, a6, a7⟩ a8 a9 a10 ⟨b0, b1, b2, b3, b4⟩ t).1.Busy, .int .i64 (callM a0 a1 a2 ⟨a3, a4, a5, a6, a7⟩ a8 a9 a10 ⟨b0, b1, b2, b3, b4⟩ t).1.Call.Kind, .str (callM a0 a1 a2 ⟨a3, a4, a5, a6, a7⟩ a8 a9 a10 ⟨b0, b1, b2, b3, b4⟩ t).1.Call.Key, .int .i64 (callM a0 a1 a2 ⟨a3, a4, a5, a6, a7⟩ a8 a9 a10 ⟨b0, b1, b2, b3, b4⟩ t).1.Call.From, .int .i64 (callM a0 a1 a2 ⟨a3, a4, a5, a6, a7⟩ a8 a9 a10 ⟨b0, b1, b2, b3, b4⟩ t).1.Call.To, .str (callM a0 a1 a2 ⟨a3, a4, a5, a6, a7⟩ a8 a9 a10 ⟨b0, b1, b2, b3, b4⟩ t).1.Call.Data, .int .i64 (callM a0 a1 a2 ⟨a3, a4, a5, a6, a7⟩ a8 a9 a10 ⟨b0, b1, b2, b3, b4⟩ t).1.Begun, .own 11 (rows (callM a0 a1 a2 ⟨a3, a4, a5, a6, a7⟩ a8 a9 a10 ⟨b0, b1, b2, b3, b4⟩ t).1.Legs), .own 6 (rows (callM a0 a1 a2 ⟨a3, a4, a5, a6, a7⟩ a8 a9 a10 ⟨b0, b1, b2, b3, b4⟩ t).1.Todo), .bool (callM a0 a1 a2 ⟨a3, a4, a5, a6, a7⟩ a8 a9 a10 ⟨b0, b1, b2, b3, b4⟩ t).2]⟩) := by
  refine F_of m40 rfl fun hyp => ?_
  obtain ⟨q0, q1, q2, q3, q4, q5, q6, q7, q8⟩ := id hyp
  by_cases hr : rtP a0 a1 a2 ⟨a3, a4, a5, a6, a7⟩ a8 a9 a10
  · have hi := ifB_t hr
    have hser := hr.2.1
    have hsb := hr.2.2.2.1
    have h0 := serB_mem hsb (i := 0) (by omega)
    repeat' (first | (with_reducible intro h; (try simp only [h]); (try simp only [HS] at h)) | ((with_reducible apply scEnd_of); exact rfl; exact rfl) | ((with_reducible apply ScW_of); rfl; rfl; trivial) | with_reducible first | apply Br_of | refine O1 ?_ | refine O2 ?_ | refine O3 ?_ | refine O4 ?_ | refine O5 ?_ | refine CI ?_ | refine CJ ?_ | refine CQ ?_ | simp (maxSteps := 1000000) (disch := omega) only [go_sem, hi])
    all_goals (try (exfalso; omega))
    · rw [callM_same hr (by unfold full; rcases h with ((h | h) | h) | h | h; exact .inl h; exact .inr (.inl h); exact .inr (.inr (.inl h)); exact .inr (.inr (.inr (by omega))); exact .inr (.inr (.inr (by omega))))]
    · obtain ⟨⟨⟨hb, hcb⟩, hf⟩, ht⟩ := id h
      repeat' (first | (with_reducible intro h; (try simp only [h]); (try simp only [HS] at h)) | ((with_reducible apply scEnd_of); exact rfl; exact rfl) | ((with_reducible apply ScW_of); rfl; rfl; trivial) | with_reducible first | apply Br_of | refine O1 ?_ | refine O2 ?_ | refine O3 ?_ | refine O4 ?_ | refine O5 ?_ | refine CI ?_ | refine CJ ?_ | refine CQ ?_ | simp (maxSteps := 1000000) (disch := omega) only [go_sem])
      all_goals (try (exfalso; omega))
      rw [callM_yes hr hb hcb hf ht]
      rfl
  · have hi := ifB_f hr
    repeat' (first | (with_reducible intro h; (try simp only [h]); (try simp only [HS] at h)) | ((with_reducible apply scEnd_of); exact rfl; exact rfl) | ((with_reducible apply ScW_of); rfl; rfl; trivial) | with_reducible first | apply Br_of | refine O1 ?_ | refine O2 ?_ | refine O3 ?_ | refine O4 ?_ | refine O5 ?_ | refine CI ?_ | refine CJ ?_ | refine CQ ?_ | simp (maxSteps := 1000000) (disch := omega) only [go_sem, hi])
    all_goals (try (exfalso; omega))
    all_goals (rw [callM_no hr]; rfl)
instance g38 (a0 : Int) (a1 : List Int) (a2 : Bool) (a3 : Int) (a4 : ByteArray) (a5 a6 : Int) (a7 : ByteArray) (a8 : Int) (a9 : List LegV) (a10 : List TodoV) (b0 : Int) (b1 : ByteArray) (b2 b3 : Int) (b4 : ByteArray) (t : Int) : Fs 38 [⟨.agg, [.int .i64 a0, .ro 1 (rowsI a1), .bool a2, .int .i64 a3, .str a4, .int .i64 a5, .int .i64 a6, .str a7, .int .i64 a8, .ro 11 (rows a9), .ro 6 (rows a10)]⟩, ⟨.agg, [.int .i64 b0, .str b1, .int .i64 b2, .int .i64 b3, .str b4]⟩, i64 t] (a1.length ≤ 1048576 ∧ a4.size ≤ 9223372036854775807 ∧ a7.size ≤ 9223372036854775807 ∧ a9.length ≤ 1048576 ∧ a10.length ≤ 1048576 ∧ (∀ e ∈ a9, e.fit) ∧ (∀ e ∈ a10, e.fit) ∧ b1.size ≤ 9223372036854775807 ∧ b4.size ≤ 9223372036854775807) (⟨.tup [(true, 11), (false, 1)], [.int .i64 (callM a0 a1 a2 ⟨a3, a4, a5, a6, a7⟩ a8 a9 a10 ⟨b0, b1, b2, b3, b4⟩ t).1.Id, .own 1 (rowsI (callM a0 a1 a2 ⟨a3, a4, a5, a6, a7⟩ a8 a9 a10 ⟨b0, b1, b2, b3, b4⟩ t).1.Serials), .bool (callM a0 a1 a2 ⟨a3, a4, a5, a6, a7⟩ a8 a9 a10 ⟨b0, b1, b2, b3, b4⟩ t).1.Busy, .int .i64 (callM a0 a1 a2 ⟨a3, a4, a5, a6, a7⟩ a8 a9 a10 ⟨b0, b1, b2, b3, b4⟩ t).1.Call.Kind, .str (callM a0 a1 a2 ⟨a3, a4, a5, a6, a7⟩ a8 a9 a10 ⟨b0, b1, b2, b3, b4⟩ t).1.Call.Key, .int .i64 (callM a0 a1 a2 ⟨a3, a4, a5, a6, a7⟩ a8 a9 a10 ⟨b0, b1, b2, b3, b4⟩ t).1.Call.From, .int .i64 (callM a0 a1 a2 ⟨a3, a4, a5, a6, a7⟩ a8 a9 a10 ⟨b0, b1, b2, b3, b4⟩ t).1.Call.To, .str (callM a0 a1 a2 ⟨a3, a4, a5, a6, a7⟩ a8 a9 a10 ⟨b0, b1, b2, b3, b4⟩ t).1.Call.Data, .int .i64 (callM a0 a1 a2 ⟨a3, a4, a5, a6, a7⟩ a8 a9 a10 ⟨b0, b1, b2, b3, b4⟩ t).1.Begun, .own 11 (rows (callM a0 a1 a2 ⟨a3, a4, a5, a6, a7⟩ a8 a9 a10 ⟨b0, b1, b2, b3, b4⟩ t).1.Legs), .own 6 (rows (callM a0 a1 a2 ⟨a3, a4, a5, a6, a7⟩ a8 a9 a10 ⟨b0, b1, b2, b3, b4⟩ t).1.Todo), .bool (callM a0 a1 a2 ⟨a3, a4, a5, a6, a7⟩ a8 a9 a10 ⟨b0, b1, b2, b3, b4⟩ t).2]⟩) := by
  refine F_of m38 rfl fun hyp => ?_
  obtain ⟨q0, q1, q2, q3, q4, q5, q6, q7, q8⟩ := id hyp
  by_cases hr : rtP a0 a1 a2 ⟨a3, a4, a5, a6, a7⟩ a8 a9 a10
  · have hi := ifB_t hr
    have hser := hr.2.1
    have hsb := hr.2.2.2.1
    have h0 := serB_mem hsb (i := 0) (by omega)
    repeat' (first | (with_reducible intro h; (try simp only [h]); (try simp only [HS] at h)) | ((with_reducible apply scEnd_of); exact rfl; exact rfl) | ((with_reducible apply ScW_of); rfl; rfl; trivial) | with_reducible first | apply Br_of | refine O1 ?_ | refine O2 ?_ | refine O3 ?_ | refine O4 ?_ | refine O5 ?_ | refine CI ?_ | refine CJ ?_ | refine CQ ?_ | simp (maxSteps := 1000000) (disch := omega) only [go_sem, hi])
    all_goals (try (exfalso; omega))
    · rw [callM_same hr (by rcases h with (h | h) | h | h; exact .inl h; exact .inr (.inl h); exact .inr (.inr (.inr (by omega))); exact .inr (.inr (.inr (by omega))))]
    · obtain ⟨⟨hb, hcb⟩, ht⟩ := id h
      refine LoopK_of (α := Nat) (fun p => ⟨[(8, i64 p), (6, ⟨.one, [.ptr 6 0]⟩), (4, ⟨.one, [.ptr 4 0]⟩), (3, ⟨.one, [.ptr 3 0]⟩), (2, i64 t)], [(6, [ij 0, oj 1, bj false, ij 0, sj, ij 0, ij 0, sj, ij 0, oj 11, oj 6]), (4, [.int .i64 b0, .str b1, .int .i64 b2, .int .i64 b3, .str b4]), (3, [.int .i64 a0, .own 1 (rowsI a1), .bool a2, .int .i64 a3, .str a4, .int .i64 a5, .int .i64 a6, .str a7, .int .i64 a8, .own 11 (rows a9), .own 6 (rows a10)])], [(0, ⟨.agg, [.int .i64 a0, .ro 1 (rowsI a1), .bool a2, .int .i64 a3, .str a4, .int .i64 a5, .int .i64 a6, .str a7, .int .i64 a8, .ro 11 (rows a9), .ro 6 (rows a10)]⟩), (1, ⟨.agg, [.int .i64 b0, .str b1, .int .i64 b2, .int .i64 b3, .str b4]⟩), (2, i64 t)]⟩) (fun p => p ≤ a1.length ∧ full (a1.take p) = false) (fun p => a1.length - p) 0 rfl ⟨Nat.zero_le _, rfl⟩ ?_
      rintro i ⟨h1, h2⟩
      by_cases hi : i < a1.length
      · repeat' (first | (with_reducible intro h; (try simp only [h]); (try simp only [HS] at h)) | ((with_reducible apply scEnd_of); exact rfl; exact rfl) | ((with_reducible apply ScW_of); rfl; rfl; trivial) | with_reducible first | apply Br_of | refine O1 ?_ | refine O2 ?_ | refine O3 ?_ | refine O4 ?_ | refine O5 ?_ | refine CI ?_ | refine CJ ?_ | refine CQ ?_ | simp (maxSteps := 1000000) (disch := omega) only [go_sem])
        all_goals (try (exfalso; omega))
        · rw [callM_same hr (.inr (.inr (.inl (full_of hsb hi (by omega)))))]
        · exact LoopQ_of (i + 1) rfl ⟨by omega, full_step hi h2 (by omega)⟩ (by omega)
      · have hf : full a1 = false := by rw [List.take_of_length_le (by omega)] at h2; exact h2
        repeat' (first | (with_reducible intro h; (try simp only [h]); (try simp only [HS] at h)) | ((with_reducible apply scEnd_of); exact rfl; exact rfl) | ((with_reducible apply ScW_of); rfl; rfl; trivial) | with_reducible first | apply Br_of | refine O1 ?_ | refine O2 ?_ | refine O3 ?_ | refine O4 ?_ | refine O5 ?_ | refine CI ?_ | refine CJ ?_ | refine CQ ?_ | simp (maxSteps := 1000000) (disch := omega) only [go_sem])
        all_goals (try (exfalso; omega))
        rw [callM_yes hr hb hcb hf ht]
        rfl
  · have hi := ifB_f hr
    repeat' (first | (with_reducible intro h; (try simp only [h]); (try simp only [HS] at h)) | ((with_reducible apply scEnd_of); exact rfl; exact rfl) | ((with_reducible apply ScW_of); rfl; rfl; trivial) | with_reducible first | apply Br_of | refine O1 ?_ | refine O2 ?_ | refine O3 ?_ | refine O4 ?_ | refine O5 ?_ | refine CI ?_ | refine CJ ?_ | refine CQ ?_ | simp (maxSteps := 1000000) (disch := omega) only [go_sem, hi])
    all_goals (try (exfalso; omega))
    all_goals (rw [callM_no hr]; rfl)
theorem callM_len2 {id : Int} {ser : List Int} {busy : Bool} {c : CallV} {b : Int} {legs : List LegV} {todo : List TodoV} {c2 : CallV} {t : Int} : (callM id ser busy c b legs todo c2 t).1.Serials.length ≤ ser.length ∧ (callM id ser busy c b legs todo c2 t).1.Legs.length ≤ legs.length ∧ (callM id ser busy c b legs todo c2 t).1.Todo.length ≤ max todo.length 1 := by
  unfold callM
  split
  · simp
  · split <;> simp <;> omega
@[go_sem ↓] theorem dstsD_nil : dstsD [] = [] := rfl
@[go_sem ↓] theorem dstsD_cons {d : Nat} {g : Option (Nat × Bool)} {o : XOp} {kl cl dr na : List Nat} {e : Option Nat} {xs : List XD} : dstsD (⟨⟨some d, g, o, kl⟩, cl, dr, na, e⟩ :: xs) = d :: dstsD xs := rfl
@[go_sem ↓] theorem dropSl_nil {st : St} : dropSl [] st = st := rfl
@[go_sem ↓] theorem dropSl_cons {d : Nat} {l : List Nat} {st : St} : dropSl (d :: l) st = ⟨keepS (fun t => !(d :: l).contains t) st.sl, st.rf, st.gh⟩ := rfl
attribute [push_cast] markG_len
instance g6 (a0 : Int) (a1 : List Int) (a2 : Bool) (a3 : Int) (a4 : ByteArray) (a5 a6 : Int) (a7 : ByteArray) (a8 : Int) (a9 : List LegV) (a10 : List TodoV) (b0 : Int) (b1 : ByteArray) (b2 b3 : Int) (b4 : ByteArray) (t : Int) : Fs 6 [⟨.agg, [.int .i64 a0, .ro 1 (rowsI a1), .bool a2, .int .i64 a3, .str a4, .int .i64 a5, .int .i64 a6, .str a7, .int .i64 a8, .ro 11 (rows a9), .ro 6 (rows a10)]⟩, ⟨.agg, [.int .i64 b0, .str b1, .int .i64 b2, .int .i64 b3, .str b4]⟩, i64 t] (a1.length ≤ 9223372036854775807 ∧ a4.size ≤ 9223372036854775807 ∧ a7.size ≤ 9223372036854775807 ∧ a9.length ≤ 9223372036854775807 ∧ (∀ e ∈ a9, e.fit) ∧ a10.length ≤ 9223372036854775807 ∧ (∀ e ∈ a10, e.fit) ∧ b1.size ≤ 9223372036854775807 ∧ b4.size ≤ 9223372036854775807) (bl true) := by
  refine F_of m6 rfl fun hyp => ?_
  obtain ⟨q0, q1, q2, q3, q4, q5, q6, q7, q8⟩ := id hyp
  have rt := szI_cases ((a1.length : Int) + (a4.size : Int) + (a7.size : Int) + mL LegV.mz a9 + mL TodoV.mz a10) 1048576
  have rc := szI_cases ((b1.size : Int) + (b4.size : Int)) (szI ((a1.length : Int) + (a4.size : Int) + (a7.size : Int) + mL LegV.mz a9 + mL TodoV.mz a10) 1048576)
  have n1 := mL_len LegV.mz_nn a9
  have n2 := mL_len TodoV.mz_nn a10
  have hl := callM_len2 (id := a0) (ser := a1) (busy := a2) (c := ⟨a3, a4, a5, a6, a7⟩) (b := a8) (legs := a9) (todo := a10) (c2 := ⟨b0, b1, b2, b3, b4⟩) (t := t)
  have j1 := g40 a0 a1 a2 a3 a4 a5 a6 a7 a8 a9 a10 b0 b1 b2 b3 b4 t
  have j2 := g38 a0 a1 a2 a3 a4 a5 a6 a7 a8 a9 a10 b0 b1 b2 b3 b4 t
  obtain ⟨⟨⟨r0, r1, r2, ⟨r3, r4, r5, r6, r7⟩, r8, r9, r10⟩, ok⟩, hcm⟩ : ∃ cm, callM a0 a1 a2 ⟨a3, a4, a5, a6, a7⟩ a8 a9 a10 ⟨b0, b1, b2, b3, b4⟩ t = cm := ⟨_, rfl⟩
  simp only [hcm] at hl j1 j2
  clear hcm
  obtain ⟨l1, l2, l3⟩ := id hl
  by_cases hz : (a1.length : Int) + (a4.size : Int) + (a7.size : Int) + mL LegV.mz a9 + mL TodoV.mz a10 ≤ 1048576
  · by_cases hy : (b1.size : Int) + (b4.size : Int) ≤ 1048576 - ((a1.length : Int) + (a4.size : Int) + (a7.size : Int) + mL LegV.mz a9 + mL TodoV.mz a10)
    · repeat' (first | (with_reducible intro h; (try simp only [h]); (try simp only [HS] at h)) | ((with_reducible apply scEnd_of); exact rfl; exact rfl) | ((with_reducible apply ScW_of); rfl; rfl; trivial) | with_reducible first | apply Br_of | refine O1 ?_ | refine O2 ?_ | refine O3 ?_ | refine O4 ?_ | refine O5 ?_ | refine CI ?_ | refine CJ ?_ | refine CQ ?_ | simp (maxSteps := 1000000) (disch := omega) only [go_sem, RouterV.held_mark, markG_len, eq_self, bne_self_eq_false])
      all_goals (try (exfalso; omega))
    · repeat' (first | (with_reducible intro h; (try simp only [h]); (try simp only [HS] at h)) | ((with_reducible apply scEnd_of); exact rfl; exact rfl) | ((with_reducible apply ScW_of); rfl; rfl; trivial) | with_reducible first | apply Br_of | refine O1 ?_ | refine O2 ?_ | refine O3 ?_ | refine O4 ?_ | refine O5 ?_ | refine CI ?_ | refine CJ ?_ | refine CQ ?_ | simp (maxSteps := 1000000) (disch := omega) only [go_sem])
      all_goals (try (exfalso; omega))
  · repeat' (first | (with_reducible intro h; (try simp only [h]); (try simp only [HS] at h)) | ((with_reducible apply scEnd_of); exact rfl; exact rfl) | ((with_reducible apply ScW_of); rfl; rfl; trivial) | with_reducible first | apply Br_of | refine O1 ?_ | refine O2 ?_ | refine O3 ?_ | refine O4 ?_ | refine O5 ?_ | refine CI ?_ | refine CJ ?_ | refine CQ ?_ | simp (maxSteps := 1000000) (disch := omega) only [go_sem])
    all_goals (try (exfalso; omega))
end Go.Eng
